import PyProof.Rows.All
import Wide.All
import OpenK.AllK
import Wide.FinOn
import KE.KStateDown
import Lean
import HandS.Base
import HandS.Call
import HandS.List
import HandS.Comp
import HandS.Ends
import HandS.Dict
import HandS.Iter
import HandS.Text
import HandS.More
import HandS.Exc
import HandS.ExcOwn
import HandS.TryOnly
import HandS.CallSlots
import HandS.IsInst
import HandS.Words
import HandS.WordsList
import HandS.WordsDict
import HandS.WordsExc
import HandS.Defaults
import HandS.Flow
import HandS.HeadHook1
import HandS.HeadHook2
import HandS.Conv
import HandS.Wide
import HandS.Lambda
import HandS.Nested
import HandS.ExcIs
import HandS.Set
import HandS.SetFor
import HandS.SortOrd
import PyProof.Rows.SortShellAny
import HandS.Strs
import HandS.TupAny
import HandS.TupMul
import HandS.Style
import HandS.Deep
import HandS.Replace
import HandS.ExcBuiltin
import HandS.Codes
import PyProof.Draws
import KE.GoesMore
import HandS.TupLe
import HandS.DictComp
import HandS.SortInts
import HandS.HeadHook4
import HandS.HeadWalk
import HandS.Head0
import HandS.Head1
import HandS.Head2
import HandS.HeadEnd
import PySem.Challenge.RW_signworks_k40_whole_finder
set_option Elab.async false
set_option linter.all false
set_option maxRecDepth 100000
set_option maxHeartbeats 4000000
set_option autoImplicit false
/-! The functional layer: data, logical heap, relations. -/
namespace Rf
open PySem PySem.Spec PyProof.Rows L2

/-- data: what a Python value is, tuples being plain data, other objects being numbers of the logical heap -/
inductive D where
  | non | bl (b : Bool) | int (i : Int) | str (l : List Nat) | tup (xs : List D) | rol (xs : List D) | ref (n : Nat)
  /-- a tuple of the module's own (a default); a def made within a def, with what it captured -/
  | ktp (xs : List D) | fn (id : Nat) (caps : List D)
abbrev Ls := List (Option D)
/-- what stands at a number of the logical heap -/
inductive LO where
  | lst (xs : List D) | dic (t : Bool) (kvs : List (D × D)) | ins (c : Nat) (fs : List (Nat × D)) | exc (c : Nat) (fs : List (Nat × D))
  /-- a dict while a loop walks it -/
  | dlk (t : Bool) (kvs : List (D × D))
abbrev LH := List LO
structure Exn where
  cls : Nat
  fs : List (Nat × D)
inductive R (α : Type) where
  | ok (a : α) (h : LH) | ex (x : Exn) (h : LH) | bad
inductive SR where
  | nx (ls : Ls) (h : LH) | rt (d : D) (h : LH) | bk (ls : Ls) (h : LH) | ct (ls : Ls) (h : LH) | ex (x : Exn) (ls : Ls) (h : LH) | bad
abbrev EM := Ls → LH → R D
abbrev AM := Ls → LH → R (List D)
abbrev TM := Ls → LH → R Bool
abbrev SM := Ls → LH → SR
abbrev FM := List D → LH → R D

/-- the names of classes and fields -/
def nmL : List String := ["SignError", "BadNumber", "BadSigns", "BadWord", "BadForm", "BadMachine", "BadTurner", "BadSample", "BadCode", "BadText", "Full", "NoWord", "NoCut", "Machine", "Loose", "Turner", "Teacher", "Table", "Merger", "Finder", "Cutter", "Reader",
  "place", "signs", "rows", "first", "stops", "many", "goals", "starts", "outs", "lasts", "machine", "words", "guesses", "teacher", "heads", "tails", "said", "marks", "boss", "counts", "first_at", "came", "found", "kinds", "rest", "cut", "text", "spot"]
def nm (i : Nat) : Str := match nmL[i]? with
  | some x => Str.ofString x
  | none => ⟨#[i]⟩
def clsA (K : PySem.W.Frag) (c : Nat) : Addr := He.ga K (nm c)

/-- a list that is only read: the script -/
def SqF (K : PySem.W.Frag) (H : Hp) (a : Addr) (xs : List V) : Prop :=
  (∃ o, H a = some (.frz o (.lst xs))) ∨
    ∃ (o : Obj) (its : Array Value) (n : Nat), K.lookup a = some o ∧ o.cls = .type "list" ∧ o.dict = none ∧ o.data = .seq its n ∧ its.size ≤ sizeLine ∧ Vals xs its.toList
theorem SqF.sq {K : PySem.W.Frag} {H : Hp} {a : Addr} {xs : List V} (h : SqF K H a xs) : SqL K H a xs := by
  rcases h with ⟨o, h⟩ | h
  · exact .inl (.inr ⟨o, h⟩)
  · exact .inr h

/-- tuples that stand in the module -/
def kc : List D → Bool
  | [.str l] => decide (l = [110, 111, 110, 101]) || decide (l = [101, 109, 112, 116, 121])
  | [.str a, .str b] => decide (b = [110, 111, 116]) || (decide (b = [124]) || (decide (b = [46]) || decide (b = [38])))
  | [.str a, .str b, .str c] => decide (b = [116, 104, 101, 110])
  | [.str a, .str b, .str c, .str d] => decide (d = [117, 110, 108, 105, 107, 101])
  | [.tup _, .tup _, .tup _] => true
  | _ => false
def KTp (K : PySem.W.Frag) (a : Addr) (xs : List V) : Prop := ∃ (o : Obj) (its : Array Value) (n : Nat), K.lookup a = some o ∧ o.cls = .type "tuple" ∧ o.data = .seq its n ∧ its.size ≤ sizeLine ∧ Vals xs its.toList
/-- what a tuple is: tracked, or of the module (and then one of a few) -/
def TpA (K : PySem.W.Frag) (H : Hp) (a : Addr) (ds : List D) (xs : List V) : Prop := H a = some (.tup xs) ∨ (kc ds = true ∧ KTp K a xs)
theorem TpA.sq {K : PySem.W.Frag} {H : Hp} {a : Addr} {ds : List D} {xs : List V} (h : TpA K H a ds xs) : SqT K H a xs := by
  rcases h with h | ⟨_, h⟩
  · exact .inl (.inl h)
  · exact .inr h
theorem KTp.sq {K : PySem.W.Frag} {H : Hp} {a : Addr} {xs : List V} (h : KTp K a xs) : SqT K H a xs := .inr h
mutual
inductive RelD (K : PySem.W.Frag) (mp : List Addr) (H : Hp) : D → V → Prop
  | non : RelD K mp H .non .non
  | bl (b : Bool) : RelD K mp H (.bl b) (.bl b)
  | int (i : Int) : RelD K mp H (.int i) (.int i)
  | str (l : List Nat) : RelD K mp H (.str l) (.str ⟨l.toArray⟩)
  | tup {ds : List D} {a : Addr} {vs : List V} : TpA K H a ds vs → RelDs K mp H ds vs → RelD K mp H (.tup ds) (.ref a)
  | ktp {ds : List D} {a : Addr} {vs : List V} : KTp K a vs → RelDs K mp H ds vs → RelD K mp H (.ktp ds) (.ref a)
  | rol {ds : List D} {a : Addr} {vs : List V} : SqF K H a vs → RelDs K mp H ds vs → RelD K mp H (.rol ds) (.ref a)
  | ref {n : Nat} {a : Addr} : mp[n]? = some a → RelD K mp H (.ref n) (.ref a)
inductive RelDs (K : PySem.W.Frag) (mp : List Addr) (H : Hp) : List D → List V → Prop
  | nil : RelDs K mp H [] []
  | cons {d : D} {v : V} {ds : List D} {vs : List V} : RelD K mp H d v → RelDs K mp H ds vs → RelDs K mp H (d :: ds) (v :: vs)
end

/-- a caught exception's object -/
def ExcO (a : Addr) (cls : Value) (d : Option Addr) : HO := .ext fun h => ∃ o vs, h.get? a = some o ∧ Zc cls d o ∧ o.data = .fields vs
def KeyR : D → Key → Prop
  | .int i, .inl j => i = j
  | .str l, .inr x => x = ⟨l.toArray⟩
  | _, _ => False
def KeyT : D → List Key → Prop
  | .tup ds, ks => Paired KeyR ds ks
  | _, _ => False
/-- an exception: its class, its own dict -/
def RelX (K : PySem.W.Frag) (mp : List Addr) (H : Hp) (x : Exn) (c : Value) (d : Option Addr) : Prop :=
  c = .ref (clsA K x.cls) ∧ ((x.fs = [] ∧ d = none) ∨ ∃ dd fs, x.fs ≠ [] ∧ d = some dd ∧ H dd = some (.xd fs) ∧ dd ∉ mp ∧ Paired (fun (p : Nat × D) (q : Str × V) => q.1 = nm p.1 ∧ RelD K mp H p.2 q.2) x.fs fs)
def RelO (K : PySem.W.Frag) (mp : List Addr) (H : Hp) : LO → Addr → Prop
  | .lst ds, a => ∃ vs, H a = some (.lst vs) ∧ RelDs K mp H ds vs
  | .dic false kvs, a => ∃ ks, H a = some (.dK ks) ∧ Paired (fun (p : D × D) (q : Key × V) => KeyR p.1 q.1 ∧ RelD K mp H p.2 q.2) kvs ks
  | .dic true kvs, a => ∃ ks, H a = some (.dT ks) ∧ Paired (fun (p : D × D) (q : List Key × V) => KeyT p.1 q.1 ∧ RelD K mp H p.2 q.2) kvs ks
  | .ins c fs, a => ∃ dx gs, H a = some (.ins (clsA K c) dx gs) ∧ Paired (fun (p : Nat × D) (q : Str × V) => q.1 = nm p.1 ∧ RelD K mp H p.2 q.2) fs gs
  | .dlk false kvs, a => ∃ o ks, H a = some (.frz o (.dK ks)) ∧ Paired (fun (p : D × D) (q : Key × V) => KeyR p.1 q.1 ∧ RelD K mp H p.2 q.2) kvs ks
  | .dlk true kvs, a => ∃ o ks, H a = some (.frz o (.dT ks)) ∧ Paired (fun (p : D × D) (q : List Key × V) => KeyT p.1 q.1 ∧ RelD K mp H p.2 q.2) kvs ks
  | .exc c fs, a => ∃ d, H a = some (ExcO a (.ref (clsA K c)) d) ∧ RelX K mp H ⟨c, fs⟩ (.ref (clsA K c)) d
/-! ### tables of code objects, defs within defs -/
def fnBd : FuncBody → List Stmt
  | .stmts b => b
  | _ => []
/-- the defs that hold defs -/
def ndL : List String := ["tidied", "least", "paired", "only", "settled", "stopping", "led_back", "settled_with_jumps"]
def isDef : Stmt → Bool
  | .FunctionDef .. => true
  | _ => false
def fdOf (K : PySem.W.Frag) (x : String) : Option FuncData := match K.lookup (He.ga K (Str.ofString x)) with
  | some ⟨_, _, .func fd, _⟩ => some fd
  | _ => none
/-- the def number id: two of a kind -/
def ndSt (K : PySem.W.Frag) (id : Nat) : Option Stmt := match ndL[id / 2]? with
  | some x => (match fdOf K x with
    | some fd => ((fnBd fd.body).filter isDef)[id % 2]?
    | none => none)
  | none => none
def stAt (line col : Nat) : Stmt → Bool
  | .FunctionDef _ _ _ _ _ _ _ _ _ pos => pos.line == line && pos.col == col
  | _ => false
def stNm : Stmt → Str
  | .FunctionDef x _ _ _ _ _ _ _ _ _ => x
  | _ => Str.empty
def tabA (K : PySem.W.Frag) (fd : FuncData) : Option Addr := match fd.code with
  | .ref c => (match K.lookup c with
    | some ⟨_, _, .fields vs, _⟩ => (match vs.getD 11 .none with
      | .ref P => some P
      | _ => none)
    | _ => none)
  | _ => none
def tabsOf (K : PySem.W.Frag) : List NdefX.NTab := ndL.filterMap fun x => match fdOf K x with
  | some fd => (tabA K fd).map fun P => (P, fun line col => match (fnBd fd.body).find? (stAt line col) with
    | some st => (fd.qualname ++ ".<locals>." : Str) ++ stNm st
    | none => Str.empty)
  | none => none
structure TabOk (K : PySem.W.Frag) (mp : List Addr) (H : Hp) : Prop where
  all : ∀ p ∈ tabsOf K, ∃ ps : Array Value, H p.1 = some (.tbl ps) ∧ TriplesOk ps.toList ∧ ∀ (pos : Pos) (cv : Value), codeAmong pos ps.toList = some cv → ∃ c, cv = .ref c ∧ H c = some (LamX.CodeO c (p.2 pos.line pos.col)) ∧ c ∉ mp
structure Rep (K : PySem.W.Frag) (mp : List Addr) (lh : LH) (H : Hp) : Prop where
  len : mp.length = lh.length
  nd : mp.Nodup
  obj : ∀ (n : Nat) o a, lh[n]? = some o → mp[n]? = some a → RelO K mp H o a
  tab : TabOk K mp H
/-- what came behind: new objects, mapped ones changed, all else as it was -/
structure Ext (K : PySem.W.Frag) (mp : List Addr) (H : Hp) (mp' : List Addr) (H' : Hp) : Prop where
  pre : ∃ more, mp' = mp ++ more
  frame : ∀ a o, H a = some o → a ∉ mp → (∀ ps, o ≠ .tbl ps) → H' a = some o
  new : ∀ a, a ∈ mp' → a ∉ mp → H a = none
  tup : ∀ a vs, H a = some (.tup vs) → H' a = some (.tup vs)
  frz : ∀ a o u, H a = some (.frz o u) → H' a = some (.frz o u)
  tbl : ∀ a ps, H a = some (.tbl ps) → a ∉ mp → ∃ ps', H' a = some (.tbl ps')
/-- a captured cell -/
def CellO (c : Addr) (o : Obj) : HO := .ext fun h => h.get? c = some o
def freesOf (st : Stmt) : List Str := ((C8.fnScope st).names.filter fun y => decide (y.2 = .free)).map (·.1)
structure CellsH (cl : List (Str × Addr)) (fr : List Str) (vs : List V) (mp : List Addr) (H : Hp) : Prop where
  len : vs.length = fr.length
  all : ∀ y c, cl.lookup y = some c → y ∈ fr
  inj : ∀ x y c, cl.lookup x = some c → cl.lookup y = some c → x = y
  has : ∀ (i : Nat) (y : Str), fr[i]? = some y → ∃ c o u v, cl.lookup y = some c ∧ H c = some (CellO c o) ∧ c ∉ mp ∧ o.data = .cell (some u) ∧ vs[i]? = some v ∧ L2.RelV v u
/-- a def made within a def, and what it captured -/
def CloA (K : PySem.W.Frag) (mp : List Addr) (H : Hp) (id : Nat) (a : Addr) (vs : List V) : Prop := ∃ (st : Stmt) (name qual : Str) (cl : List (Str × Addr)) (c : Addr), ndSt K id = some st ∧ H a = some (NdefX.FnO a (NdefX.NF.of st name qual cl c)) ∧ a ∉ mp ∧ H c = some (LamX.CodeO c qual) ∧ c ∉ mp ∧ CellsH cl (freesOf st) vs mp H
def RelF (K : PySem.W.Frag) (mp : List Addr) (H : Hp) (d : D) (v : V) : Prop := match d with
  | .fn id caps => ∃ a vs, v = .ref a ∧ CloA K mp H id a vs ∧ RelDs K mp H caps vs
  | d => RelD K mp H d v
def isFn : D → Bool
  | .fn _ _ => true
  | _ => false
theorem RelD.f {K : PySem.W.Frag} {mp : List Addr} {H : Hp} {d : D} {v : V} (h : RelD K mp H d v) : RelF K mp H d v := by
  cases h with
  | non => exact .non
  | bl b => exact .bl b
  | int i => exact .int i
  | str l => exact .str l
  | tup a b => exact .tup a b
  | ktp a b => exact .ktp a b
  | rol a b => exact .rol a b
  | ref a => exact .ref a
theorem RelF.d {K : PySem.W.Frag} {mp : List Addr} {H : Hp} {d : D} {v : V} (h : RelF K mp H d v) (hf : isFn d = false) : RelD K mp H d v := by
  cases d with
  | fn id caps => cases hf
  | _ => exact h
def RelS (K : PySem.W.Frag) (mp : List Addr) (H : Hp) (ls : Ls) (σ : L2.St) : Prop := ls.length = σ.length ∧ ∀ (i : Nat) d, ls[i]? = some (some d) → ∃ v, σ[i]? = some (some v) ∧ RelF K mp H d v

section
variable {K : PySem.W.Frag} {mp mp' mp1 mp2 : List Addr} {H H' H1 H2 : Hp} {lh lh' : LH}
theorem Ext.refl : Ext K mp H mp H := ⟨⟨[], by simp⟩, fun _ _ h _ _ => h, fun a h1 h2 => absurd h1 h2, fun _ _ h => h, fun _ _ _ h => h, fun _ ps h _ => ⟨ps, h⟩⟩
theorem Ext.out0 (e : Ext K mp H mp' H') {a : Addr} {o : HO} (h : H a = some o) (hn : a ∉ mp) : a ∉ mp' := fun hm => by
  have := e.new a hm hn
  rw [h] at this; cases this
theorem Ext.trans (e1 : Ext K mp H mp1 H1) (e2 : Ext K mp1 H1 mp2 H2) : Ext K mp H mp2 H2 := by
  obtain ⟨m1, hm1⟩ := e1.pre
  obtain ⟨m2, hm2⟩ := e2.pre
  refine ⟨⟨m1 ++ m2, by rw [hm2, hm1]; simp⟩, fun a o h hn ht => e2.frame a o (e1.frame a o h hn ht) (e1.out0 h hn) ht, fun a hm hn => ?_, fun a vs h => e2.tup a vs (e1.tup a vs h), fun a o u h => e2.frz a o u (e1.frz a o u h), fun a ps h hn => ?_⟩
  · by_cases h1 : a ∈ mp1
    · exact e1.new a h1 hn
    · have h2 := e2.new a hm h1
      cases q : H a with
      | none => rfl
      | some o =>
        by_cases ht : ∃ ps, o = .tbl ps
        · obtain ⟨ps, rfl⟩ := ht
          obtain ⟨ps', h3⟩ := e1.tbl a ps q hn
          rw [h3] at h2; cases h2
        · rw [e1.frame a o q hn fun ps z => ht ⟨ps, z⟩] at h2; cases h2
  · obtain ⟨ps', h1⟩ := e1.tbl a ps h hn
    exact e2.tbl a ps' h1 (e1.out0 h hn)
theorem Ext.rol (e : Ext K mp H mp' H') : ∀ a vs, SqF K H a vs → SqF K H' a vs := fun a vs h => by
  rcases h with ⟨o, h⟩ | h
  · exact .inl ⟨o, e.frz _ _ _ h⟩
  · exact .inr h
theorem TpA.ext {a : Addr} {ds : List D} {vs : List V} (h : TpA K H a ds vs) (e : ∀ a vs, H a = some (.tup vs) → H' a = some (.tup vs)) : TpA K H' a ds vs := h.imp (e _ _) id
theorem sqt_of {a : Addr} {vs : List V} (h : SqT K H a vs) (et : ∀ a vs, H a = some (.tup vs) → H' a = some (.tup vs)) (ef : ∀ a o u, H a = some (.frz o u) → H' a = some (.frz o u)) : SqT K H' a vs := by
  rcases h with (h | ⟨o, h⟩) | h
  · exact .inl (.inl (et _ _ h))
  · exact .inl (.inr ⟨o, ef _ _ _ h⟩)
  · exact .inr h
theorem Ext.sqt (e : Ext K mp H mp' H') : ∀ a vs, SqT K H a vs → SqT K H' a vs := fun a vs h => sqt_of h e.tup e.frz
theorem Ext.get (e : Ext K mp H mp' H') {n : Nat} {a : Addr} (h : mp[n]? = some a) : mp'[n]? = some a := by
  obtain ⟨m, rfl⟩ := e.pre
  have hl : n < mp.length := (List.getElem?_eq_some_iff.mp h).1
  rw [List.getElem?_append_left hl]; exact h
mutual
theorem RelD.ext (e : Ext K mp H mp' H') : ∀ {d : D} {v : V}, RelD K mp H d v → RelD K mp' H' d v
  | _, _, .non => .non
  | _, _, .bl b => .bl b
  | _, _, .int i => .int i
  | _, _, .str l => .str l
  | _, _, .tup h r => .tup (h.ext e.tup) (RelDs.ext e r)
  | _, _, .ktp h r => .ktp h (RelDs.ext e r)
  | _, _, .rol h r => .rol (e.rol _ _ h) (RelDs.ext e r)
  | _, _, .ref h => .ref (e.get h)
theorem RelDs.ext (e : Ext K mp H mp' H') : ∀ {d : List D} {v : List V}, RelDs K mp H d v → RelDs K mp' H' d v
  | _, _, .nil => .nil
  | _, _, .cons h r => .cons (RelD.ext e h) (RelDs.ext e r)
end
theorem nt_fn {a : Addr} {F : NdefX.NF} : ∀ ps, NdefX.FnO a F ≠ .tbl ps := fun ps z => by unfold NdefX.FnO at z; cases z
theorem nt_cd {a : Addr} {q : Str} : ∀ ps, LamX.CodeO a q ≠ .tbl ps := fun ps z => by unfold LamX.CodeO at z; cases z
theorem nt_cl {a : Addr} {o : Obj} : ∀ ps, CellO a o ≠ .tbl ps := fun ps z => by unfold CellO at z; cases z
theorem CloA.ext {id : Nat} {a : Addr} {vs : List V} (e : Ext K mp H mp' H') (h : CloA K mp H id a vs) : CloA K mp' H' id a vs := by
  obtain ⟨st, name, qual, cl, c, h1, h2, h3, h4, h5, C⟩ := h
  refine ⟨st, name, qual, cl, c, h1, e.frame _ _ h2 h3 nt_fn, e.out0 h2 h3, e.frame _ _ h4 h5 nt_cd, e.out0 h4 h5, C.len, C.all, C.inj, fun i y hi => ?_⟩
  obtain ⟨c, o, u, v, k1, k2, k3, k4, k5, k6⟩ := C.has i y hi
  exact ⟨c, o, u, v, k1, e.frame _ _ k2 k3 nt_cl, e.out0 k2 k3, k4, k5, k6⟩
theorem RelF.ext (e : Ext K mp H mp' H') {d : D} {v : V} (h : RelF K mp H d v) : RelF K mp' H' d v := by
  cases d with
  | fn id caps =>
    obtain ⟨a, vs, h1, h2, h3⟩ := h
    exact ⟨a, vs, h1, h2.ext e, RelDs.ext e h3⟩
  | _ => exact (RelD.ext e h).f
theorem RelS.ext (e : Ext K mp H mp' H') {ls : Ls} {σ : L2.St} (h : RelS K mp H ls σ) : RelS K mp' H' ls σ := ⟨h.1, fun i d q => let ⟨v, a, b⟩ := h.2 i d q; ⟨v, a, b.ext e⟩⟩
theorem RelDs.length : ∀ {ds : List D} {vs : List V}, RelDs K mp H ds vs → ds.length = vs.length
  | _, _, .nil => rfl
  | _, _, .cons _ r => by simp [RelDs.length r]
theorem RelDs.get : ∀ {ds : List D} {vs : List V}, RelDs K mp H ds vs → ∀ {i : Nat} {d : D}, ds[i]? = some d → ∃ v, vs[i]? = some v ∧ RelD K mp H d v
  | _, _, .nil, i, d, h => by simp at h
  | _, _, .cons r _, 0, d, h => by simp at h; subst h; exact ⟨_, rfl, r⟩
  | _, _, .cons _ r, i + 1, d, h => by
    obtain ⟨v, a, b⟩ := RelDs.get r (i := i) (d := d) (by simpa using h)
    exact ⟨v, by simpa using a, b⟩
theorem RelDs.getv : ∀ {ds : List D} {vs : List V}, RelDs K mp H ds vs → ∀ {i : Nat} {v : V}, vs[i]? = some v → ∃ d, ds[i]? = some d ∧ RelD K mp H d v
  | _, _, .nil, i, d, h => by simp at h
  | _, _, .cons r _, 0, d, h => by simp at h; subst h; exact ⟨_, rfl, r⟩
  | _, _, .cons _ r, i + 1, d, h => by
    obtain ⟨v, a, b⟩ := RelDs.getv r (i := i) (v := d) (by simpa using h)
    exact ⟨v, by simpa using a, b⟩
theorem RelDs.append : ∀ {ds es : List D} {vs us : List V}, RelDs K mp H ds vs → RelDs K mp H es us → RelDs K mp H (ds ++ es) (vs ++ us)
  | _, _, _, _, .nil, s => s
  | _, _, _, _, .cons r t, s => .cons r (RelDs.append t s)
theorem RelDs.take : ∀ {ds : List D} {vs : List V} (n : Nat), RelDs K mp H ds vs → RelDs K mp H (ds.take n) (vs.take n)
  | _, _, 0, _ => by simpa using RelDs.nil
  | _, _, _ + 1, .nil => by simpa using RelDs.nil
  | _, _, n + 1, .cons r t => by simpa using RelDs.cons r (RelDs.take n t)
theorem RelDs.drop : ∀ {ds : List D} {vs : List V} (n : Nat), RelDs K mp H ds vs → RelDs K mp H (ds.drop n) (vs.drop n)
  | _, _, 0, r => by simpa using r
  | _, _, _ + 1, .nil => by simpa using RelDs.nil
  | _, _, n + 1, .cons _ t => by simpa using RelDs.drop n t
theorem RelDs.set {d : D} {v : V} (r : RelD K mp H d v) : ∀ {ds : List D} {vs : List V} (n : Nat), RelDs K mp H ds vs → RelDs K mp H (ds.set n d) (vs.set n v)
  | _, _, _, .nil => by simpa using RelDs.nil
  | _, _, 0, .cons _ t => by simpa using RelDs.cons r t
  | _, _, n + 1, .cons q t => by simpa using RelDs.cons q (RelDs.set r n t)
theorem Rep.get (r : Rep K mp lh H) {n : Nat} {o : LO} (h : lh[n]? = some o) : ∃ a, mp[n]? = some a ∧ RelO K mp H o a := by
  have hl : n < mp.length := by rw [r.len]; exact (List.getElem?_eq_some_iff.mp h).1
  exact ⟨mp[n], List.getElem?_eq_getElem hl, r.obj n o _ h (List.getElem?_eq_getElem hl)⟩
/-- what a value rests on: mapped objects, tuples -/
structure Sub (K : PySem.W.Frag) (mp : List Addr) (H : Hp) (mp' : List Addr) (H' : Hp) : Prop where
  get : ∀ {n : Nat} {a : Addr}, mp[n]? = some a → mp'[n]? = some a
  tup : ∀ a vs, H a = some (.tup vs) → H' a = some (.tup vs)
  frz : ∀ a o u, H a = some (.frz o u) → H' a = some (.frz o u)
theorem Sub.rol (e : Sub K mp H mp' H') : ∀ a vs, SqF K H a vs → SqF K H' a vs := fun a vs h => by
  rcases h with ⟨o, h⟩ | h
  · exact .inl ⟨o, e.frz _ _ _ h⟩
  · exact .inr h
theorem Sub.sqt (e : Sub K mp H mp' H') : ∀ a vs, SqT K H a vs → SqT K H' a vs := fun a vs h => by
  rcases h with (h | ⟨o, h⟩) | h
  · exact .inl (.inl (e.tup _ _ h))
  · exact .inl (.inr ⟨o, e.frz _ _ _ h⟩)
  · exact .inr h
theorem Ext.sub (e : Ext K mp H mp' H') : Sub K mp H mp' H' := ⟨fun h => e.get h, e.tup, e.frz⟩
theorem Sub.refl : Sub K mp H mp H := ⟨fun h => h, fun _ _ h => h, fun _ _ _ h => h⟩
theorem Sub.trans (e1 : Sub K mp H mp1 H1) (e2 : Sub K mp1 H1 mp2 H2) : Sub K mp H mp2 H2 := ⟨fun h => e2.get (e1.get h), fun a vs h => e2.tup a vs (e1.tup a vs h), fun a o u h => e2.frz a o u (e1.frz a o u h)⟩
/-- .. of data alone -/
structure SubW (mp : List Addr) (H : Hp) (mp' : List Addr) (H' : Hp) : Prop where
  get : ∀ {n : Nat} {a : Addr}, mp[n]? = some a → mp'[n]? = some a
  tup : ∀ a vs, H a = some (.tup vs) → H' a = some (.tup vs)
  frl : ∀ a o xs, H a = some (.frz o (.lst xs)) → H' a = some (.frz o (.lst xs))
theorem Sub.w (e : Sub K mp H mp' H') : SubW mp H mp' H' := ⟨fun h => e.get h, e.tup, fun a o xs h => e.frz a o _ h⟩
mutual
theorem RelD.subw (e : SubW mp H mp' H') : ∀ {d : D} {v : V}, RelD K mp H d v → RelD K mp' H' d v
  | _, _, .non => .non
  | _, _, .bl b => .bl b
  | _, _, .int i => .int i
  | _, _, .str l => .str l
  | _, _, .tup h r => .tup (h.ext e.tup) (RelDs.subw e r)
  | _, _, .ktp h r => .ktp h (RelDs.subw e r)
  | _, _, .rol h r => .rol (h.imp (fun ⟨o, z⟩ => ⟨o, e.frl _ _ _ z⟩) id) (RelDs.subw e r)
  | _, _, .ref h => .ref (e.get h)
theorem RelDs.subw (e : SubW mp H mp' H') : ∀ {d : List D} {v : List V}, RelDs K mp H d v → RelDs K mp' H' d v
  | _, _, .nil => .nil
  | _, _, .cons h r => .cons (RelD.subw e h) (RelDs.subw e r)
end
theorem RelD.sub (e : Sub K mp H mp' H') {d : D} {v : V} (h : RelD K mp H d v) : RelD K mp' H' d v := RelD.subw e.w h
theorem RelDs.sub (e : Sub K mp H mp' H') {d : List D} {v : List V} (h : RelDs K mp H d v) : RelDs K mp' H' d v := RelDs.subw e.w h
end
end Rf
set_option Elab.async false
set_option linter.all false
set_option maxRecDepth 100000
set_option maxHeartbeats 4000000
set_option autoImplicit false
/-! The functional layer: refinement, names, constants, operators, tests. -/
namespace Rf
open PySem PySem.Spec L2

section
variable {K : PySem.W.Frag} {mp mp' mp1 mp2 : List Addr} {H H' H1 H2 : Hp} {lh lh' : LH}
theorem Paired.imp {α β : Type} {F G : α → β → Prop} (h : ∀ a b, F a b → G a b) : ∀ {l : List α} {m : List β}, Paired F l m → Paired G l m
  | _, _, .nil => .nil
  | _, _, .cons a r => .cons (h _ _ a) (Paired.imp h r)
theorem RelX.ext {x : Exn} {c : Value} {d : Option Addr} (e : Ext K mp H mp' H') (h : RelX K mp H x c d) : RelX K mp' H' x c d := by
  obtain ⟨h1, h2⟩ := h
  refine ⟨h1, ?_⟩
  rcases h2 with h2 | ⟨dd, fs, ne, a, b, n, q⟩
  · exact .inl h2
  · refine .inr ⟨dd, fs, ne, a, e.frame _ _ b n (fun _ z => by cases z), fun hm => ?_, Paired.imp (fun p q z => ⟨z.1, z.2.ext e⟩) q⟩
    have := e.new dd hm n
    rw [b] at this; cases this
/-- an object whose own cell is as it was -/
theorem RelO.ext {o : LO} {a : Addr} (e : Ext K mp H mp' H') (hs : H' a = H a) (h : RelO K mp H o a) : RelO K mp' H' o a := by
  cases o with
  | lst ds => obtain ⟨vs, q, r⟩ := h; exact ⟨vs, hs.trans q, r.ext e⟩
  | dic t kvs => cases t with
    | false => obtain ⟨ks, q, r⟩ := h; exact ⟨ks, hs.trans q, Paired.imp (fun p q z => ⟨z.1, z.2.ext e⟩) r⟩
    | true => obtain ⟨ks, q, r⟩ := h; exact ⟨ks, hs.trans q, Paired.imp (fun p q z => ⟨z.1, z.2.ext e⟩) r⟩
  | ins c fs => obtain ⟨dx, gs, q, r⟩ := h; exact ⟨dx, gs, hs.trans q, Paired.imp (fun p q z => ⟨z.1, z.2.ext e⟩) r⟩
  | exc c fs => obtain ⟨d, q, r⟩ := h; exact ⟨d, hs.trans q, r.ext e⟩
  | dlk t kvs => cases t with
    | false => obtain ⟨o, ks, q, r⟩ := h; exact ⟨o, ks, hs.trans q, Paired.imp (fun p q z => ⟨z.1, z.2.ext e⟩) r⟩
    | true => obtain ⟨o, ks, q, r⟩ := h; exact ⟨o, ks, hs.trans q, Paired.imp (fun p q z => ⟨z.1, z.2.ext e⟩) r⟩
def isDlk : LO → Bool
  | .dlk _ _ => true
  | _ => false
theorem RelO.nt {o : LO} {a : Addr} {u : HO} (h : RelO K mp H o a) (hu : H a = some u) : (∀ vs, u ≠ .tup vs) ∧ ∀ ps, u ≠ .tbl ps := by
  cases o with
  | lst ds => obtain ⟨vs, q, r⟩ := h; rw [q] at hu; cases hu; exact ⟨(by intro _ z; cases z), (by intro _ z; cases z)⟩
  | dic t kvs => cases t with
    | false => obtain ⟨ks, q, r⟩ := h; rw [q] at hu; cases hu; exact ⟨(by intro _ z; cases z), (by intro _ z; cases z)⟩
    | true => obtain ⟨ks, q, r⟩ := h; rw [q] at hu; cases hu; exact ⟨(by intro _ z; cases z), (by intro _ z; cases z)⟩
  | ins c fs => obtain ⟨dx, gs, q, r⟩ := h; rw [q] at hu; cases hu; exact ⟨(by intro _ z; cases z), (by intro _ z; cases z)⟩
  | exc c fs => obtain ⟨d, q, r⟩ := h; rw [q] at hu; cases hu; exact ⟨(by intro _ z; cases z), (by intro _ z; cases z)⟩
  | dlk t kvs => cases t with
    | false => obtain ⟨o, ks, q, r⟩ := h; rw [q] at hu; cases hu; exact ⟨(by intro _ z; cases z), (by intro _ z; cases z)⟩
    | true => obtain ⟨o, ks, q, r⟩ := h; rw [q] at hu; cases hu; exact ⟨(by intro _ z; cases z), (by intro _ z; cases z)⟩
theorem RelO.nf {o : LO} {a : Addr} {u : HO} (h : RelO K mp H o a) (hk : isDlk o = false) (hu : H a = some u) : ∀ o' x, u ≠ .frz o' x := by
  intro o' x
  cases o with
  | lst ds => obtain ⟨vs, q, r⟩ := h; rw [q] at hu; cases hu; intro z; cases z
  | dic t kvs => cases t with
    | false => obtain ⟨ks, q, r⟩ := h; rw [q] at hu; cases hu; intro z; cases z
    | true => obtain ⟨ks, q, r⟩ := h; rw [q] at hu; cases hu; intro z; cases z
  | ins c fs => obtain ⟨dx, gs, q, r⟩ := h; rw [q] at hu; cases hu; intro z; cases z
  | exc c fs => obtain ⟨d, q, r⟩ := h; rw [q] at hu; cases hu; intro z; cases z
  | dlk t kvs => cases hk
theorem RelO.some {o : LO} {a : Addr} (h : RelO K mp H o a) : ∃ u, H a = some u := by
  cases o with
  | lst ds => obtain ⟨vs, q, r⟩ := h; exact ⟨_, q⟩
  | dic t kvs => cases t with
    | false => obtain ⟨ks, q, r⟩ := h; exact ⟨_, q⟩
    | true => obtain ⟨ks, q, r⟩ := h; exact ⟨_, q⟩
  | ins c fs => obtain ⟨dx, gs, q, r⟩ := h; exact ⟨_, q⟩
  | exc c fs => obtain ⟨d, q, r⟩ := h; exact ⟨_, q⟩
  | dlk t kvs => cases t with
    | false => obtain ⟨o, ks, q, r⟩ := h; exact ⟨_, q⟩
    | true => obtain ⟨o, ks, q, r⟩ := h; exact ⟨_, q⟩
theorem heap_at (c : Addr) (o : Obj) (ho : o.data ≠ .freed) : ∃ h : Heap, h.get? c = Option.some o := by
  have key : ∀ n : Nat, ∃ h : Heap, h.objs.size = n := fun n => by
    induction n with
    | zero => exact ⟨{}, rfl⟩
    | succ n ih =>
      obtain ⟨h, e⟩ := ih
      exact ⟨⟨h.objs.push default, h.life⟩, by simp [e]⟩
  obtain ⟨h, rfl⟩ := key c
  refine ⟨⟨h.objs.push o, h.life⟩, ?_⟩
  unfold Heap.get?
  simp only [Array.getElem?_push_size]
  obtain ⟨c, d, dt, sl⟩ := o
  cases dt with
  | freed => exact absurd rfl ho
  | _ => rfl
theorem excO_ne {a : Addr} {k : Addr} {d : Option Addr} {q : Str} : ExcO a (.ref k) d ≠ LamX.CodeO a q := fun z => by
  unfold ExcO LamX.CodeO at z
  injection z with z
  obtain ⟨h, hh⟩ := heap_at a { cls := .none, data := .fields #[.none, .str q 0] } (by intro z; cases z)
  have z := congrFun z h
  have : ∃ (o : Obj) (vs : Array Value), h.get? a = Option.some o ∧ Zc (.ref k) d o ∧ o.data = .fields vs := by
    rw [z]
    exact ⟨_, _, 0, hh, rfl, rfl⟩
  obtain ⟨o, vs, h1, h2, _⟩ := this
  rw [hh] at h1
  cases h1
  cases h2.1
theorem RelO.nc {o : LO} {a : Addr} (h : RelO K mp H o a) : ∀ q, H a ≠ Option.some (LamX.CodeO a q) := fun q z => by
  cases o with
  | lst ds => obtain ⟨vs, q, r⟩ := h; rw [q] at z; cases z
  | dic t kvs => cases t with
    | false => obtain ⟨ks, q, r⟩ := h; rw [q] at z; cases z
    | true => obtain ⟨ks, q, r⟩ := h; rw [q] at z; cases z
  | ins c fs => obtain ⟨dx, gs, q, r⟩ := h; rw [q] at z; cases z
  | exc c fs => obtain ⟨d, q, r⟩ := h; rw [q] at z; exact excO_ne (Option.some.inj z)
  | dlk t kvs => cases t with
    | false => obtain ⟨o, ks, q, r⟩ := h; rw [q] at z; cases z
    | true => obtain ⟨o, ks, q, r⟩ := h; rw [q] at z; cases z
theorem Rep.at (r : Rep K mp lh H) {a : Addr} (h : a ∈ mp) : ∃ (n : Nat) (o : LO), mp[n]? = some a ∧ lh[n]? = some o ∧ RelO K mp H o a := by
  obtain ⟨n, hn, e⟩ := List.getElem_of_mem h
  have hl : n < lh.length := by rw [← r.len]; exact hn
  have e1 : mp[n]? = some a := by rw [List.getElem?_eq_getElem hn, e]
  exact ⟨n, lh[n], e1, List.getElem?_eq_getElem hl, r.obj n _ a (List.getElem?_eq_getElem hl) e1⟩
theorem Rep.free_ne (r : Rep K mp lh H) {p : Addr} (hp : H p = none) : p ∉ mp := fun hm => by
  obtain ⟨n, o, _, _, q⟩ := r.at hm
  obtain ⟨u, hu⟩ := q.some
  rw [hp] at hu; cases hu
theorem TabOk.free (t : TabOk K mp H) {p : Addr} {o : HO} (hp : H p = none) : TabOk K mp (upd H p o) := ⟨fun q hq => by
  obtain ⟨ps, h1, h2, h3⟩ := t.all q hq
  refine ⟨ps, by rw [upd_ne (ne_of_none h1 hp)]; exact h1, h2, fun pos cv e => ?_⟩
  obtain ⟨c, e1, e2, e3⟩ := h3 pos cv e
  exact ⟨c, e1, by rw [upd_ne (ne_of_none e2 hp)]; exact e2, e3⟩⟩
theorem TabOk.alloc (t : TabOk K mp H) {p : Addr} {o : HO} (hp : H p = none) : TabOk K (mp ++ [p]) (upd H p o) := ⟨fun q hq => by
  obtain ⟨ps, h1, h2, h3⟩ := t.all q hq
  refine ⟨ps, by rw [upd_ne (ne_of_none h1 hp)]; exact h1, h2, fun pos cv e => ?_⟩
  obtain ⟨c, e1, e2, e3⟩ := h3 pos cv e
  exact ⟨c, e1, by rw [upd_ne (ne_of_none e2 hp)]; exact e2, fun z => by
    rcases List.mem_append.mp z with z | z
    · exact e3 z
    · exact ne_of_none e2 hp (List.mem_singleton.mp z)⟩⟩
theorem TabOk.write (t : TabOk K mp H) {a : Addr} {u o : HO} (ha : a ∈ mp) (hu : H a = some u) (hn : ∀ ps, u ≠ .tbl ps) : TabOk K mp (upd H a o) := ⟨fun q hq => by
  obtain ⟨ps, h1, h2, h3⟩ := t.all q hq
  refine ⟨ps, by rw [upd_ne (fun z => by rw [z, hu] at h1; exact hn ps (Option.some.inj h1))]; exact h1, h2, fun pos cv e => ?_⟩
  obtain ⟨c, e1, e2, e3⟩ := h3 pos cv e
  exact ⟨c, e1, by rw [upd_ne (fun z => e3 (by rw [z]; exact ha))]; exact e2, e3⟩⟩
/-- fewer are mapped -/
theorem TabOk.less (t : TabOk K mp H) (h : ∀ a ∈ mp', a ∈ mp) : TabOk K mp' H := ⟨fun q hq => by
  obtain ⟨ps, h1, h2, h3⟩ := t.all q hq
  refine ⟨ps, h1, h2, fun pos cv e => ?_⟩
  obtain ⟨c, e1, e2, e3⟩ := h3 pos cv e
  exact ⟨c, e1, e2, fun z => e3 (h c z)⟩⟩
/-- a callee that knew fewer objects -/
theorem TabOk.back (r : Rep K mp lh H) {mp0 : List Addr} (e : Ext K mp0 H mp' H') (t : TabOk K mp' H') : TabOk K mp H' := ⟨fun p hp => by
  obtain ⟨ps, h1, h2, h3⟩ := t.all p hp
  refine ⟨ps, h1, h2, fun pos cv ec => ?_⟩
  obtain ⟨c, e1, e2, e3⟩ := h3 pos cv ec
  refine ⟨c, e1, e2, fun z => ?_⟩
  obtain ⟨n, o, _, _, q⟩ := r.at z
  obtain ⟨u, hu⟩ := q.some
  by_cases h0 : c ∈ mp0
  · obtain ⟨m, hm⟩ := e.pre
    exact e3 (by rw [hm]; exact List.mem_append.mpr (.inl h0))
  · have := e.frame c u hu h0 (q.nt hu).2
    rw [e2] at this
    rw [← Option.some.inj this] at hu
    exact q.nc _ hu⟩
theorem TabOk.both (t1 : TabOk K mp H) (t2 : TabOk K mp' H) : TabOk K (mp ++ mp') H := ⟨fun p hp => by
  obtain ⟨ps, h1, h2, h3⟩ := t1.all p hp
  obtain ⟨ps2, k1, k2, k3⟩ := t2.all p hp
  rw [h1] at k1
  cases k1
  refine ⟨ps, h1, h2, fun pos cv ec => ?_⟩
  obtain ⟨c, e1, e2, e3⟩ := h3 pos cv ec
  obtain ⟨c', f1, f2, f3⟩ := k3 pos cv ec
  rw [e1] at f1
  cases f1
  exact ⟨c, e1, e2, fun z => (List.mem_append.mp z).elim e3 f3⟩⟩
/-- a new thing that is no logical object (a tuple) -/
theorem Ext.free {p : Addr} {o : HO} (hp : H p = none) : Ext K mp H mp (upd H p o) :=
  ⟨⟨[], by simp⟩, fun a u h _ _ => by rw [upd_ne (ne_of_none h hp)]; exact h, fun a h1 h2 => absurd h1 h2, fun a vs h => by rw [upd_ne (ne_of_none h hp)]; exact h, fun a o u h => by rw [upd_ne (ne_of_none h hp)]; exact h,
    fun a ps h _ => ⟨ps, by rw [upd_ne (ne_of_none h hp)]; exact h⟩⟩
theorem Rep.same (r : Rep K mp lh H) (e : Ext K mp H mp H') (hs : ∀ a, a ∈ mp → H' a = H a) (t : TabOk K mp H') : Rep K mp lh H' :=
  ⟨r.len, r.nd, fun n o a h1 h2 => (r.obj n o a h1 h2).ext e (hs a (List.mem_of_getElem? h2)), t⟩
theorem Rep.free (r : Rep K mp lh H) {p : Addr} {o : HO} (hp : H p = none) : Rep K mp lh (upd H p o) :=
  r.same (Ext.free hp) (fun a ha => upd_ne fun z => r.free_ne hp (z ▸ ha)) (r.tab.free hp)
/-- a new logical object -/
theorem Ext.alloc (r : Rep K mp lh H) {p : Addr} {o : HO} (hp : H p = none) : Ext K mp H (mp ++ [p]) (upd H p o) :=
  ⟨⟨[p], rfl⟩, fun a u h _ _ => by rw [upd_ne (ne_of_none h hp)]; exact h, fun a h1 h2 => by
    rcases List.mem_append.mp h1 with h | h
    · exact absurd h h2
    · rw [List.mem_singleton.mp h]; exact hp, fun a vs h => by rw [upd_ne (ne_of_none h hp)]; exact h, fun a o u h => by rw [upd_ne (ne_of_none h hp)]; exact h,
    fun a ps h _ => ⟨ps, by rw [upd_ne (ne_of_none h hp)]; exact h⟩⟩
theorem Rep.alloc (r : Rep K mp lh H) {p : Addr} {o : HO} {l : LO} (hp : H p = none) (h : RelO K (mp ++ [p]) (upd H p o) l p) : Rep K (mp ++ [p]) (lh ++ [l]) (upd H p o) := by
  have hn := r.free_ne hp
  refine ⟨by simp [r.len], ?_, fun n u a h1 h2 => ?_, r.tab.alloc hp⟩
  · refine List.nodup_append.mpr ⟨r.nd, (by simp), fun a ha b hb => ?_⟩
    rw [List.mem_singleton.mp hb]
    intro z; exact hn (z ▸ ha)
  · by_cases hl : n < mp.length
    · rw [List.getElem?_append_left hl] at h2
      rw [List.getElem?_append_left (by rw [← r.len]; exact hl)] at h1
      exact (r.obj n u a h1 h2).ext (Ext.alloc r hp) (upd_ne fun z => hn (z ▸ List.mem_of_getElem? h2))
    · have h2l := (List.getElem?_eq_some_iff.mp h2).1
      have en : n = mp.length := by simp at h2l; omega
      subst en
      rw [List.getElem?_append_right (Nat.le_refl _)] at h2
      rw [List.getElem?_append_right (by rw [r.len]; exact Nat.le_refl _), r.len] at h1
      simp at h1 h2
      subst h1 h2; exact h
theorem nodup_get {l : List Addr} (nd : l.Nodup) : ∀ {i j : Nat} {a : Addr}, l[i]? = some a → l[j]? = some a → i = j := by
  induction l with
  | nil => intro i j a h _; simp at h
  | cons x r ih =>
    intro i j a h1 h2
    obtain ⟨hx, hr⟩ := List.nodup_cons.mp nd
    cases i with
    | zero =>
      cases j with
      | zero => rfl
      | succ j =>
        simp at h1 h2; subst h1
        exact absurd (List.mem_of_getElem? h2) hx
    | succ i =>
      cases j with
      | zero =>
        simp at h1 h2; subst h2
        exact absurd (List.mem_of_getElem? h1) hx
      | succ j =>
        simp at h1 h2
        rw [ih hr h1 h2]
/-- a logical object changed -/
theorem Ext.write (r : Rep K mp lh H) {n : Nat} {a : Addr} {o : HO} {l0 : LO} (ha : mp[n]? = some a) (hl : lh[n]? = some l0) (hk : isDlk l0 = false) : Ext K mp H mp (upd H a o) := by
  have hm := List.mem_of_getElem? ha
  have q := r.obj n l0 a hl ha
  refine ⟨⟨[], by simp⟩, fun b u h hb _ => (upd_ne (show b ≠ a from fun z => hb (by rw [z]; exact hm))).trans h, fun a h1 h2 => absurd h1 h2, fun b vs h => ?_, fun b ob u h => ?_, fun b ps h hb => ⟨ps, (upd_ne (show b ≠ a from fun z => hb (by rw [z]; exact hm))).trans h⟩⟩
  · exact (upd_ne (fun z => by subst z; exact (q.nt h).1 vs rfl)).trans h
  · exact (upd_ne (fun z => by subst z; exact q.nf hk h ob u rfl)).trans h
theorem Rep.write (r : Rep K mp lh H) {n : Nat} {a : Addr} {o : HO} {l l0 : LO} (ha : mp[n]? = some a) (hl : lh[n]? = some l0) (hk : isDlk l0 = false) (h : RelO K mp (upd H a o) l a) : Rep K mp (lh.set n l) (upd H a o) := by
  obtain ⟨u0, hu0⟩ := (r.obj n l0 a hl ha).some
  refine ⟨by simp [r.len], r.nd, fun k u b h1 h2 => ?_, r.tab.write (List.mem_of_getElem? ha) hu0 ((r.obj n l0 a hl ha).nt hu0).2⟩
  by_cases e : k = n
  · subst e
    rw [ha] at h2; cases h2
    have hl : k < lh.length := by rw [← r.len]; exact (List.getElem?_eq_some_iff.mp ha).1
    rw [List.getElem?_set_self hl] at h1; cases h1; exact h
  · rw [List.getElem?_set_ne (Ne.symm e)] at h1
    refine (r.obj k u b h1 h2).ext (Ext.write r ha hl hk) (upd_ne fun z => e ?_)
    subst z
    exact nodup_get r.nd h2 ha
end

/-! ### what is wanted behind -/
def PostG {α β : Type} (K : PySem.W.Frag) (Rl : List Addr → Hp → α → β → Prop) (mp : List Addr) (H : Hp) (r : R α) (Q : β → Hp → Prop) (E : XK) : Prop :=
  match r with
  | .ok d lh' => ∀ mp' H' v, Ext K mp H mp' H' → Rep K mp' lh' H' → Rl mp' H' d v → Q v H'
  | .ex x lh' => ∀ mp' H' c dd, Ext K mp H mp' H' → Rep K mp' lh' H' → RelX K mp' H' x c dd → E c dd H'
  | .bad => False
abbrev Post (K : PySem.W.Frag) := PostG K (RelD K)
abbrev PostA (K : PySem.W.Frag) := PostG K (RelDs K)
abbrev RelB : List Addr → Hp → Bool → Bool → Prop := fun _ _ a b => a = b
abbrev PostB (K : PySem.W.Frag) := PostG K RelB
def R.bind {α β : Type} (r : R α) (f : α → LH → R β) : R β := match r with
  | .ok a h => f a h
  | .ex x h => .ex x h
  | .bad => .bad
section
variable {K : PySem.W.Frag} {mp mp' : List Addr} {H H' : Hp}
theorem PostG.ext {α β : Type} {Rl : List Addr → Hp → α → β → Prop} {r : R α} {Q : β → Hp → Prop} {E : XK} (h : PostG K Rl mp H r Q E) (e : Ext K mp H mp' H') : PostG K Rl mp' H' r Q E := by
  cases r with
  | ok d lh => exact fun m2 H2 v e2 => h m2 H2 v (e.trans e2)
  | ex x lh => exact fun m2 H2 c dd e2 => h m2 H2 c dd (e.trans e2)
  | bad => exact h
theorem PostG.bind {α β γ δ : Type} {Rl : List Addr → Hp → α → β → Prop} {Rm : List Addr → Hp → γ → δ → Prop} {r : R α} {f : α → LH → R γ} {Q : δ → Hp → Prop} {E : XK} {Q1 : β → Hp → Prop} (h : PostG K Rm mp H (r.bind f) Q E)
    (k : ∀ mp1 H1 lh1 d v, Ext K mp H mp1 H1 → Rep K mp1 lh1 H1 → Rl mp1 H1 d v → PostG K Rm mp1 H1 (f d lh1) Q E → Q1 v H1) : PostG K Rl mp H r Q1 E := by
  cases r with
  | ok d lh => exact fun m1 H1 v e1 r1 rl => k m1 H1 lh d v e1 r1 rl (PostG.ext h e1)
  | ex x lh => exact h
  | bad => exact h
theorem PostG.imp {α β : Type} {Rl : List Addr → Hp → α → β → Prop} {r : R α} {Q Q' : β → Hp → Prop} {E : XK} (h : PostG K Rl mp H r Q E) (k : ∀ v H, Q v H → Q' v H) : PostG K Rl mp H r Q' E := by
  cases r with
  | ok d lh => exact fun m1 H1 v e1 r1 rl => k _ _ (h m1 H1 v e1 r1 rl)
  | ex x lh => exact h
  | bad => exact h
theorem PostG.now {α β : Type} {Rl : List Addr → Hp → α → β → Prop} {d : α} {lh : LH} {v : β} {Q : β → Hp → Prop} {E : XK} (h : PostG K Rl mp H (.ok d lh) Q E) (r : Rep K mp lh H) (rl : Rl mp H d v) : Q v H := h mp H v .refl r rl
end

/-! ### refinement -/
def RefE (K : PySem.W.Frag) (W : WX) (t : TE) (m : EM) : Prop := ∀ mp lh ls σ H Q, Rep K mp lh H → RelS K mp H ls σ → Post K mp H (m ls lh) Q (WE W σ) → t σ H Q
def RefA (K : PySem.W.Frag) (W : WX) (t : TA) (m : AM) : Prop := ∀ mp lh ls σ H Q, Rep K mp lh H → RelS K mp H ls σ → PostA K mp H (m ls lh) Q (WE W σ) → t σ H Q
def RefT (K : PySem.W.Frag) (W : WX) (t : TT) (m : TM) : Prop := ∀ mp lh ls σ H Q, Rep K mp lh H → RelS K mp H ls σ → PostB K mp H (m ls lh) Q (WE W σ) → t σ H Q
def RE (X : Cx) (W : WX) (e : Expr) (m : EM) : Prop := ∃ t, PE X e t ∧ RefE X.K W t m
def RA (X : Cx) (W : WX) (es : List Expr) (m : AM) : Prop := ∃ t, PA X es t ∧ RefA X.K W t m ∧ ∀ ls h ds h', m ls h = .ok ds h' → ds.length = es.length
def RT (X : Cx) (W : WX) (e : Expr) (m : TM) : Prop := ∃ t, PT X e t ∧ RefT X.K W t m
def RW (X : Cx) (W : WX) (e : Expr) (m : TM) : Prop := ∃ t, PW X e t ∧ RefT X.K W t m
theorem RW.rt {X : Cx} {W : WX} {e : Expr} {m : TM} (h : RW X W e m) : RT X W e m := let ⟨t, a, b⟩ := h; ⟨t, a.pt, b⟩

/-! ### names, constants -/
def mV (i : Nat) : EM := fun ls h => match ls[i]? with
  | some (some (.fn _ _)) => .bad
  | some (some d) => .ok d h
  | _ => .bad
theorem mV_ok {i : Nat} {ls : Ls} {d : D} {h : LH} (e : ls[i]? = some (some d)) (hf : isFn d = false) : mV i ls h = .ok d h := by
  unfold mV
  rw [e]
  cases d with
  | fn _ _ => cases hf
  | _ => rfl
def mC (d : D) : EM := fun _ h => .ok d h
section
variable {X : Cx} {W : WX}
theorem re_var {i : Nat} {x : Str} {pos : Pos} (h : PE X (.Name x pos) (tVar i)) : RE X W (.Name x pos) (mV i) := by
  refine ⟨_, h, fun mp lh ls σ H Q r rs q => ?_⟩
  unfold mV at q
  cases e : ls[i]? with
  | none => rw [e] at q; exact q.elim
  | some o =>
    cases o with
    | none => rw [e] at q; exact q.elim
    | some d =>
      obtain ⟨v, a, b⟩ := rs.2 i d e
      cases hf : isFn d with
      | true =>
        cases d with
        | fn _ _ => rw [e] at q; exact q.elim
        | _ => cases hf
      | false =>
        have q : Post X.K mp H (mV i ls lh) Q (WE W σ) := q
        rw [mV_ok e hf] at q
        exact ⟨v, a, q.now r (b.d hf)⟩
theorem re_int {i j pos} : RE X W (.Constant (.int i) j pos) (mC (.int i)) := ⟨_, pe_int, fun _ _ _ _ _ _ r _ q => q.now r (.int _)⟩
theorem re_bl {b j pos} : RE X W (.Constant (.bool b) j pos) (mC (.bl b)) := ⟨_, pe_bl, fun _ _ _ _ _ _ r _ q => q.now r (.bl _)⟩
theorem re_non {j pos} : RE X W (.Constant .none j pos) (mC .non) := ⟨_, pe_non, fun _ _ _ _ _ _ r _ q => q.now r .non⟩
theorem re_str (l : List Nat) {x : Str} {j pos} (h : x = ⟨l.toArray⟩) : RE X W (.Constant (.str x) j pos) (mC (.str l)) := ⟨_, pe_str, fun _ _ _ _ _ _ r _ q => by rw [h]; exact q.now r (.str _)⟩
/-- a module's name that holds an int, a text -/
theorem re_glob {x : Str} {v : V} {d : D} {pos : Pos} (h : PE X (.Name x pos) (tC v)) (r : ∀ mp H, RelD X.K mp H d v) : RE X W (.Name x pos) (mC d) := ⟨_, h, fun _ _ _ _ _ _ r' _ q => q.now r' (r _ _)⟩
end

/-! ### operators -/
def RefOp (K : PySem.W.Frag) (r : R2) (f : D → D → LH → R D) : Prop := ∀ mp lh H x y vx vy Q E, Rep K mp lh H → RelD K mp H x vx → RelD K mp H y vy → Post K mp H (f x y lh) Q E → r vx vy H Q
/-- an operator by data: the layer's rule and its function -/
def ROp (X : Cx) (g : Value → Value → Sem Value) (f : D → D → LH → R D) : Prop := ∃ r, OpR X g r ∧ RefOp X.K r f
def mBin (f : D → D → LH → R D) (ma mb : EM) : EM := fun ls h => (ma ls h).bind fun x h1 => (mb ls h1).bind fun y h2 => f x y h2
def mTest (m : EM) : TM := fun ls h => (m ls h).bind fun x h1 => match x with
  | .bl b => .ok b h1
  | _ => .bad
section
variable {X : Cx} {W : WX} {a b c : Expr} {ma mb mc : EM} {pos : Pos} {f g : D → D → LH → R D}
theorem ref_bin {K : PySem.W.Frag} {r : R2} {ta tb : TE} (hr : RefOp K r f) (ha : RefE K W ta ma) (hb : RefE K W tb mb) : RefE K W (tOp r ta tb) (mBin f ma mb) := fun mp lh ls σ H Q rp rs q =>
  ha mp lh ls σ H _ rp rs (q.bind fun mp1 H1 lh1 x vx e1 r1 rl1 q1 => hb mp1 lh1 ls σ H1 _ r1 (rs.ext e1) (q1.bind fun mp2 H2 lh2 y vy e2 r2 rl2 q2 => hr mp2 lh2 H2 x y vx vy Q _ r2 (rl1.ext e2) rl2 q2))
theorem re_bin {op : Operator} (ho : ROp X (binaryOp op) f) (ha : RE X W a ma) (hb : RE X W b mb) : RE X W (.BinOp a op b pos) (mBin f ma mb) := by
  obtain ⟨r, h1, h2⟩ := ho
  obtain ⟨ta, a1, a2⟩ := ha
  obtain ⟨tb, b1, b2⟩ := hb
  exact ⟨_, pe_op h1 a1 b1, ref_bin h2 a2 b2⟩
theorem re_cmp {op : CmpOp} (ho : ROp X (compareOp op) f) (ha : RE X W a ma) (hb : RE X W b mb) (hm : behindInMarks op b = false := by rfl) : RE X W (.Compare a [op] [b] pos) (mBin f ma mb) := by
  obtain ⟨r, h1, h2⟩ := ho
  obtain ⟨ta, a1, a2⟩ := ha
  obtain ⟨tb, b1, b2⟩ := hb
  exact ⟨_, pe_cmpR h1 a1 b1 hm, ref_bin h2 a2 b2⟩
theorem ref_test {K : PySem.W.Frag} {t : TE} (ha : RefE K W t ma) : RefT K W (tTest t) (mTest ma) := fun mp lh ls σ H Q rp rs q =>
  ha mp lh ls σ H _ rp rs (q.bind fun mp1 H1 lh1 x vx e1 r1 rl1 q1 => by
    cases rl1 with
    | bl b => exact ⟨b, rfl, q1.now r1 rfl⟩
    | _ => exact q1.elim)
theorem rt_cmp {op : CmpOp} (ho : ROp X (compareOp op) f) (ha : RE X W a ma) (hb : RE X W b mb) (hm : behindInMarks op b = false := by rfl) : RT X W (.Compare a [op] [b] pos) (mTest (mBin f ma mb)) := by
  obtain ⟨r, h1, h2⟩ := ho
  obtain ⟨ta, a1, a2⟩ := ha
  obtain ⟨tb, b1, b2⟩ := hb
  exact ⟨_, pt_cmpR h1 a1 b1 hm, ref_test (ref_bin h2 a2 b2)⟩
/-- a chain of two comparisons -/
def mChain (f g : D → D → LH → R D) (ma mb mc : EM) : EM := fun ls h => (ma ls h).bind fun x h1 => (mb ls h1).bind fun y h2 => (f x y h2).bind fun z h3 => match z with
  | .bl true => (mc ls h3).bind fun u h4 => g y u h4
  | .bl false => .ok (.bl false) h3
  | _ => .bad
theorem ref_chain {K : PySem.W.Frag} {r r' : R2} {ta tb tc : TE} (hr : RefOp K r f) (hr' : RefOp K r' g) (ha : RefE K W ta ma) (hb : RefE K W tb mb) (hc : RefE K W tc mc) : RefE K W (tChain r r' ta tb tc) (mChain f g ma mb mc) := fun mp lh ls σ H Q rp rs q =>
  ha mp lh ls σ H _ rp rs (q.bind fun mp1 H1 lh1 x vx e1 r1 rl1 q1 => hb mp1 lh1 ls σ H1 _ r1 (rs.ext e1) (q1.bind fun mp2 H2 lh2 y vy e2 r2 rl2 q2 =>
    hr mp2 lh2 H2 x y vx vy _ _ r2 (rl1.ext e2) rl2 (q2.bind fun mp3 H3 lh3 z vz e3 r3 rl3 q3 => by
      cases rl3 with
      | bl b =>
        refine ⟨b, rfl, ?_⟩
        cases b with
        | true => exact iteT (hc mp3 lh3 ls σ H3 _ r3 (((rs.ext e1).ext e2).ext e3) (q3.bind fun mp4 H4 lh4 u vu e4 r4 rl4 q4 => hr' mp4 lh4 H4 y u vy vu Q _ r4 ((rl2.ext e3).ext e4) rl4 q4))
        | false => exact iteF (q3.now r3 (.bl _))
      | _ => exact q3.elim)))
theorem re_chain {op op' : CmpOp} (ho : ROp X (compareOp op) f) (ho' : ROp X (compareOp op') g) (ha : RE X W a ma) (hb : RE X W b mb) (hc : RE X W c mc) (hm : lastMarks [op, op'] [b, c] = false := by rfl) : RE X W (.Compare a [op, op'] [b, c] pos) (mChain f g ma mb mc) := by
  obtain ⟨r, h1, h2⟩ := ho
  obtain ⟨r', h1', h2'⟩ := ho'
  obtain ⟨ta, a1, a2⟩ := ha
  obtain ⟨tb, b1, b2⟩ := hb
  obtain ⟨tc, c1, c2⟩ := hc
  exact ⟨_, pe_chain h1 h1' a1 b1 c1 (hm := hm), ref_chain h2 h2' a2 b2 c2⟩
theorem rt_chain {op op' : CmpOp} (ho : ROp X (compareOp op) f) (ho' : ROp X (compareOp op') g) (ha : RE X W a ma) (hb : RE X W b mb) (hc : RE X W c mc) (hm : lastMarks [op, op'] [b, c] = false := by rfl) : RT X W (.Compare a [op, op'] [b, c] pos) (mTest (mChain f g ma mb mc)) := by
  obtain ⟨r, h1, h2⟩ := ho
  obtain ⟨r', h1', h2'⟩ := ho'
  obtain ⟨ta, a1, a2⟩ := ha
  obtain ⟨tb, b1, b2⟩ := hb
  obtain ⟨tc, c1, c2⟩ := hc
  exact ⟨_, pt_chain h1 h1' a1 b1 c1 (hm := hm), ref_test (ref_chain h2 h2' a2 b2 c2)⟩
/-- a test whose value is a bool -/
theorem rt_val (ha : RE X W a ma) (he : ∀ whole, isTrue a X.env whole = (do let v ← whole; standAt a.pos; holding [v] (truthy v)) := by intro _; rfl) : RT X W a (mTest ma) := by
  obtain ⟨ta, a1, a2⟩ := ha
  exact ⟨_, pt_val a1 he, ref_test a2⟩
end

/-! ### and, or, not, if -/
def mAnd (a b : TM) : TM := fun ls h => (a ls h).bind fun c h1 => if c = true then b ls h1 else .ok false h1
def mOr (a b : TM) : TM := fun ls h => (a ls h).bind fun c h1 => if c = true then .ok true h1 else b ls h1
def mNot (a : TM) : TM := fun ls h => (a ls h).bind fun c h1 => .ok (!c) h1
def mAndV (a b : EM) : EM := fun ls h => (a ls h).bind fun x h1 => match x with
  | .bl true => b ls h1
  | .bl false => .ok (.bl false) h1
  | _ => .bad
def mOrV (a b : EM) : EM := fun ls h => (a ls h).bind fun x h1 => match x with
  | .bl true => .ok (.bl true) h1
  | .bl false => b ls h1
  | _ => .bad
def mNotV (a : EM) : EM := fun ls h => (a ls h).bind fun x h1 => match x with
  | .bl b => .ok (.bl (!b)) h1
  | _ => .bad
def mIf (c : TM) (a b : EM) : EM := fun ls h => (c ls h).bind fun k h1 => if k = true then a ls h1 else b ls h1
section
variable {X : Cx} {W : WX} {a b c : Expr} {ma mb : EM} {ta tb : TM} {pos : Pos} {rest : List Expr}
theorem rw_and1 (ha : RT X W a ta) : RW X W (.BoolOp .And [a] pos) ta := let ⟨t, a1, a2⟩ := ha; ⟨t, pw_and1 a1, a2⟩
theorem rw_or1 (ha : RT X W a ta) : RW X W (.BoolOp .Or [a] pos) ta := let ⟨t, a1, a2⟩ := ha; ⟨t, pw_or1 a1, a2⟩
theorem rw_and (ha : RT X W a ta) (hb : RW X W (.BoolOp .And (b :: rest) pos) tb) : RW X W (.BoolOp .And (a :: b :: rest) pos) (mAnd ta tb) := by
  obtain ⟨t, a1, a2⟩ := ha
  obtain ⟨u, b1, b2⟩ := hb
  refine ⟨_, pw_and a1 b1, fun mp lh ls σ H Q rp rs q => a2 mp lh ls σ H _ rp rs (q.bind fun mp1 H1 lh1 x vx e1 r1 rl1 q1 => ?_)⟩
  cases rl1
  cases x with
  | true => exact iteT (b2 mp1 lh1 ls σ H1 _ r1 (rs.ext e1) q1)
  | false => exact iteF (q1.now r1 rfl)
theorem rw_or (ha : RT X W a ta) (hb : RW X W (.BoolOp .Or (b :: rest) pos) tb) : RW X W (.BoolOp .Or (a :: b :: rest) pos) (mOr ta tb) := by
  obtain ⟨t, a1, a2⟩ := ha
  obtain ⟨u, b1, b2⟩ := hb
  refine ⟨_, pw_or a1 b1, fun mp lh ls σ H Q rp rs q => a2 mp lh ls σ H _ rp rs (q.bind fun mp1 H1 lh1 x vx e1 r1 rl1 q1 => ?_)⟩
  cases rl1
  cases x with
  | true => exact iteT (q1.now r1 rfl)
  | false => exact iteF (b2 mp1 lh1 ls σ H1 _ r1 (rs.ext e1) q1)
theorem rt_not (ha : RT X W a ta) : RT X W (.UnaryOp .Not a pos) (mNot ta) := by
  obtain ⟨t, a1, a2⟩ := ha
  refine ⟨_, pt_not a1, fun mp lh ls σ H Q rp rs q => a2 mp lh ls σ H _ rp rs (q.bind fun mp1 H1 lh1 x vx e1 r1 rl1 q1 => ?_)⟩
  cases rl1
  exact q1.now r1 rfl
theorem re_one {op} (ha : RE X W a ma) : RE X W (.BoolOp op [a] pos) ma := let ⟨t, a1, a2⟩ := ha; ⟨t, pe_one a1, a2⟩
theorem re_and (ha : RE X W a ma) (hb : RE X W (.BoolOp .And (b :: rest) pos) mb) : RE X W (.BoolOp .And (a :: b :: rest) pos) (mAndV ma mb) := by
  obtain ⟨t, a1, a2⟩ := ha
  obtain ⟨u, b1, b2⟩ := hb
  refine ⟨_, pe_and a1 b1, fun mp lh ls σ H Q rp rs q => a2 mp lh ls σ H _ rp rs (q.bind fun mp1 H1 lh1 x vx e1 r1 rl1 q1 => ?_)⟩
  cases rl1 with
  | bl k =>
    refine ⟨k, rfl, ?_⟩
    cases k with
    | true => exact iteT (b2 mp1 lh1 ls σ H1 _ r1 (rs.ext e1) q1)
    | false => exact iteF (q1.now r1 (.bl _))
  | _ => exact q1.elim
theorem re_or (ha : RE X W a ma) (hb : RE X W (.BoolOp .Or (b :: rest) pos) mb) : RE X W (.BoolOp .Or (a :: b :: rest) pos) (mOrV ma mb) := by
  obtain ⟨t, a1, a2⟩ := ha
  obtain ⟨u, b1, b2⟩ := hb
  refine ⟨_, pe_or a1 b1, fun mp lh ls σ H Q rp rs q => a2 mp lh ls σ H _ rp rs (q.bind fun mp1 H1 lh1 x vx e1 r1 rl1 q1 => ?_)⟩
  cases rl1 with
  | bl k =>
    refine ⟨k, rfl, ?_⟩
    cases k with
    | true => exact iteT (q1.now r1 (.bl _))
    | false => exact iteF (b2 mp1 lh1 ls σ H1 _ r1 (rs.ext e1) q1)
  | _ => exact q1.elim
theorem re_not (ha : RE X W a ma) : RE X W (.UnaryOp .Not a pos) (mNotV ma) := by
  obtain ⟨t, a1, a2⟩ := ha
  refine ⟨_, pe_not a1, fun mp lh ls σ H Q rp rs q => a2 mp lh ls σ H _ rp rs (q.bind fun mp1 H1 lh1 x vx e1 r1 rl1 q1 => ?_)⟩
  cases rl1 with
  | bl k => exact ⟨k, rfl, q1.now r1 (.bl _)⟩
  | _ => exact q1.elim
theorem re_if (hc : RT X W c ta) (ha : RE X W a ma) (hb : RE X W b mb) : RE X W (.IfExp c a b pos) (mIf ta ma mb) := by
  obtain ⟨t, c1, c2⟩ := hc
  obtain ⟨u, a1, a2⟩ := ha
  obtain ⟨v, b1, b2⟩ := hb
  refine ⟨_, pe_ifExp c1 a1 b1, fun mp lh ls σ H Q rp rs q => c2 mp lh ls σ H _ rp rs (q.bind fun mp1 H1 lh1 x vx e1 r1 rl1 q1 => ?_)⟩
  cases rl1
  cases x with
  | true => exact iteT (a2 mp1 lh1 ls σ H1 _ r1 (rs.ext e1) q1)
  | false => exact iteF (b2 mp1 lh1 ls σ H1 _ r1 (rs.ext e1) q1)
end

/-! ### argument lists, displays -/
def mNil : AM := fun _ h => .ok [] h
def mCons (a : EM) (r : AM) : AM := fun ls h => (a ls h).bind fun x h1 => (r ls h1).bind fun xs h2 => .ok (x :: xs) h2
def szOk (n : Nat) : Bool := Nat.ble n 16777216
def mTup (r : AM) : EM := fun ls h => (r ls h).bind fun xs h1 => if szOk xs.length = true then .ok (.tup xs) h1 else .bad
def mLst (r : AM) : EM := fun ls h => (r ls h).bind fun xs h1 => if szOk xs.length = true then .ok (.ref h1.length) (h1 ++ [.lst xs]) else .bad
theorem szOk_le {n : Nat} (h : szOk n = true) : n ≤ sizeLine := by
  have : n ≤ 16777216 := Nat.le_of_ble_eq_true h
  exact this
theorem mCons_len {me : EM} {ma : AM} {n : Nat} (h : ∀ ls h ds h', ma ls h = .ok ds h' → ds.length = n) : ∀ ls h ds h', mCons me ma ls h = .ok ds h' → ds.length = n + 1 := fun ls hh ds h' e => by
  unfold mCons at e
  cases h1 : me ls hh with
  | ok x g1 =>
    rw [h1] at e
    change (ma ls g1).bind _ = _ at e
    cases h2 : ma ls g1 with
    | ok xs g2 => rw [h2] at e; cases e; simp [h ls g1 xs _ h2]
    | ex x g => rw [h2] at e; cases e
    | bad => rw [h2] at e; cases e
  | ex x g => rw [h1] at e; cases e
  | bad => rw [h1] at e; cases e
section
variable {X : Cx} {W : WX} {e : Expr} {es : List Expr} {me : EM} {ma : AM} {pos : Pos}
theorem ra_nil : RA X W [] mNil := ⟨_, pa_nil, fun _ _ _ _ _ _ r _ q => q.now r .nil, fun ls h ds h' e => by cases e; rfl⟩
theorem ra_cons (he : RE X W e me) (hr : RA X W es ma) (hs : starEach (e :: es) X.env = (false, eval e X.env) :: starEach es X.env := by rfl) : RA X W (e :: es) (mCons me ma) := by
  obtain ⟨t, a1, a2⟩ := he
  obtain ⟨u, b1, b2, b3⟩ := hr
  refine ⟨_, pa_cons a1 b1 hs, fun mp lh ls σ H Q rp rs q => a2 mp lh ls σ H _ rp rs (q.bind fun mp1 H1 lh1 x vx e1 r1 rl1 q1 => b2 mp1 lh1 ls σ H1 _ r1 (rs.ext e1) (q1.bind fun mp2 H2 lh2 xs vs e2 r2 rl2 q2 => q2.now r2 (.cons (rl1.ext e2) rl2))), mCons_len b3⟩
theorem re_tup {x1} (h : RA X W es ma) : RE X W (.Tuple es x1 pos) (mTup ma) := by
  obtain ⟨t, a1, a2, _⟩ := h
  refine ⟨_, pe_tup a1, fun mp lh ls σ H Q rp rs q => a2 mp lh ls σ H _ rp rs (q.bind fun mp1 H1 lh1 xs vs e1 r1 rl1 q1 => ?_)⟩
  cases hz : szOk xs.length with
  | false => rw [hz] at q1; exact q1.elim
  | true =>
    rw [hz] at q1
    refine ⟨by rw [← rl1.length]; exact szOk_le hz, fun p hp => q1 mp1 _ _ (.free hp) (r1.free hp) (.tup (.inl upd_same) (rl1.ext (.free hp)))⟩
theorem re_lst (h : RA X W es ma) : RE X W (.List es pos) (mLst ma) := by
  obtain ⟨t, a1, a2, _⟩ := h
  refine ⟨_, pe_lst a1, fun mp lh ls σ H Q rp rs q => a2 mp lh ls σ H _ rp rs (q.bind fun mp1 H1 lh1 xs vs e1 r1 rl1 q1 => ?_)⟩
  cases hz : szOk xs.length with
  | false => rw [hz] at q1; exact q1.elim
  | true =>
    rw [hz] at q1
    refine ⟨by rw [← rl1.length]; exact szOk_le hz, fun p hp => q1 (mp1 ++ [p]) _ _ (.alloc r1 hp) (r1.alloc hp ⟨vs, upd_same, rl1.ext (.alloc r1 hp)⟩) (.ref ?_)⟩
    rw [← r1.len]; simp
end
end Rf
set_option Elab.async false
set_option linter.all false
set_option maxRecDepth 100000
set_option maxHeartbeats 4000000
set_option autoImplicit false
/-! The functional layer: statements, loops. -/
namespace Rf
open PySem PySem.Spec L2

def PostS (K : PySem.W.Frag) (mp : List Addr) (H : Hp) (r : SR) (De : Ends) (W : WX) : Prop :=
  match r with
  | .nx ls lh => ∀ mp' H' σ, Ext K mp H mp' H' → Rep K mp' lh H' → RelS K mp' H' ls σ → De.nx σ H'
  | .rt d lh => ∀ mp' H' v, Ext K mp H mp' H' → Rep K mp' lh H' → RelD K mp' H' d v → De.rt v H'
  | .bk ls lh => ∀ mp' H' σ, Ext K mp H mp' H' → Rep K mp' lh H' → RelS K mp' H' ls σ → De.bk σ H'
  | .ct ls lh => ∀ mp' H' σ, Ext K mp H mp' H' → Rep K mp' lh H' → RelS K mp' H' ls σ → De.ct σ H'
  | .ex x ls lh => ∀ mp' H' σ c dd, Ext K mp H mp' H' → Rep K mp' lh H' → RelS K mp' H' ls σ → RelX K mp' H' x c dd → W c dd σ H'
  | .bad => False
def RefS (K : PySem.W.Frag) (W : WX) (t : TS) (m : SM) : Prop := ∀ mp lh ls σ H De, Rep K mp lh H → RelS K mp H ls σ → PostS K mp H (m ls lh) De W → t De σ H
def RS (X : Cx) (W : WX) (st : Stmt) (m : SM) : Prop := ∃ t, PS X st t ∧ RefS X.K W t m
def RSs (X : Cx) (W : WX) (sts : List Stmt) (m : SM) : Prop := ∃ t, PSs X sts t ∧ RefS X.K W t m
def liftE {α : Type} (r : R α) (ls : Ls) (f : α → LH → SR) : SR := match r with
  | .ok a h => f a h
  | .ex x h => .ex x ls h
  | .bad => .bad
section
variable {K : PySem.W.Frag} {W : WX} {mp mp' : List Addr} {H H' : Hp} {De : Ends} {ls : Ls} {σ : L2.St}
theorem PostS.ext {r : SR} (h : PostS K mp H r De W) (e : Ext K mp H mp' H') : PostS K mp' H' r De W := by
  cases r with
  | nx ls lh => exact fun m2 H2 v e2 => h m2 H2 v (e.trans e2)
  | rt ls lh => exact fun m2 H2 v e2 => h m2 H2 v (e.trans e2)
  | bk ls lh => exact fun m2 H2 v e2 => h m2 H2 v (e.trans e2)
  | ct ls lh => exact fun m2 H2 v e2 => h m2 H2 v (e.trans e2)
  | ex x ls lh => exact fun m2 H2 v c dd e2 => h m2 H2 v c dd (e.trans e2)
  | bad => exact h
theorem PostS.lift {α β : Type} {Rl : List Addr → Hp → α → β → Prop} {r : R α} {f : α → LH → SR} {Q1 : β → Hp → Prop} (h : PostS K mp H (liftE r ls f) De W) (rs : RelS K mp H ls σ)
    (k : ∀ mp1 H1 lh1 d v, Ext K mp H mp1 H1 → Rep K mp1 lh1 H1 → Rl mp1 H1 d v → PostS K mp1 H1 (f d lh1) De W → Q1 v H1) : PostG K Rl mp H r Q1 (WE W σ) := by
  cases r with
  | ok d lh => exact fun m1 H1 v e1 r1 rl => k m1 H1 lh d v e1 r1 rl (PostS.ext h e1)
  | ex x lh => exact fun m1 H1 c dd e1 r1 rx => h m1 H1 σ c dd e1 r1 (rs.ext e1) rx
  | bad => exact h
theorem RelS.set {i : Nat} {d : D} {v : V} (rs : RelS K mp H ls σ) (r : RelD K mp H d v) : RelS K mp H (ls.set i (some d)) (σ.set i (some v)) := by
  refine ⟨by simp [rs.1], fun j e h => ?_⟩
  by_cases ij : i = j
  · subst ij
    have hl : i < ls.length := by
      have := (List.getElem?_eq_some_iff.mp h).1
      simpa using this
    rw [List.getElem?_set_self hl] at h
    cases h
    exact ⟨v, List.getElem?_set_self (by rw [← rs.1]; exact hl), r.f⟩
  · rw [List.getElem?_set_ne ij] at h ⊢
    exact rs.2 j e h
theorem RelS.unset {i : Nat} (rs : RelS K mp H ls σ) : RelS K mp H (ls.set i none) (σ.set i none) := by
  refine ⟨by simp [rs.1], fun j e h => ?_⟩
  by_cases ij : i = j
  · subst ij
    have hl : i < ls.length := by
      have := (List.getElem?_eq_some_iff.mp h).1
      simpa using this
    rw [List.getElem?_set_self hl] at h
    cases h
  · rw [List.getElem?_set_ne ij] at h ⊢
    exact rs.2 j e h
end

def mNext : SM := fun ls h => .nx ls h
def mBreak : SM := fun ls h => .bk ls h
def mCont : SM := fun ls h => .ct ls h
def mSeq (a b : SM) : SM := fun ls h => match a ls h with
  | .nx ls' h' => b ls' h'
  | r => r
def mIfS (c : TM) (a b : SM) : SM := fun ls h => liftE (c ls h) ls fun k h1 => if k = true then a ls h1 else b ls h1
def mRet (e : EM) : SM := fun ls h => liftE (e ls h) ls fun d h1 => .rt d h1
def mRetN : SM := fun _ h => .rt .non h
def mDrop (e : EM) : SM := fun ls h => liftE (e ls h) ls fun _ h1 => .nx ls h1
def mSet (i : Nat) (e : EM) : SM := fun ls h => liftE (e ls h) ls fun d h1 => .nx (ls.set i (some d)) h1
section
variable {X : Cx} {W : WX} {st : Stmt} {rest sa sb : List Stmt} {a b : SM} {e c : Expr} {me : EM} {mc : TM} {pos : Pos}
theorem rss_nil : RSs X W [] mNext := ⟨_, pss_nil, fun mp lh ls σ H De r rs q => q mp H σ .refl r rs⟩
theorem rs_pass : RS X W (.Pass pos) mNext := ⟨_, ps_pass, fun mp lh ls σ H De r rs q => q mp H σ .refl r rs⟩
theorem rs_break : RS X W (.Break pos) mBreak := ⟨_, ps_break, fun mp lh ls σ H De r rs q => q mp H σ .refl r rs⟩
theorem rs_continue : RS X W (.Continue pos) mCont := ⟨_, ps_continue, fun mp lh ls σ H De r rs q => q mp H σ .refl r rs⟩
theorem rss_one (h : RS X W st a) : RSs X W [st] a := let ⟨t, a1, a2⟩ := h; ⟨t, pss_one a1, a2⟩
theorem rss_cons (h1 : RS X W st a) (h2 : RSs X W rest b) : RSs X W (st :: rest) (mSeq a b) := by
  obtain ⟨t, a1, a2⟩ := h1
  obtain ⟨u, b1, b2⟩ := h2
  refine ⟨_, pss_cons a1 b1, fun mp lh ls σ H De r rs q => a2 mp lh ls σ H _ r rs ?_⟩
  unfold mSeq at q
  cases hr : a ls lh with
  | nx ls' lh' => rw [hr] at q; exact fun m1 H1 σ1 e1 r1 rs1 => b2 m1 lh' ls' σ1 H1 De r1 rs1 (PostS.ext q e1)
  | rt d lh' => rw [hr] at q; exact q
  | bk ls' lh' => rw [hr] at q; exact q
  | ct ls' lh' => rw [hr] at q; exact q
  | ex x ls' lh' => rw [hr] at q; exact q
  | bad => rw [hr] at q; exact q
theorem rs_if (hc : RT X W c mc) (ha : RSs X W sa a) (hb : RSs X W sb b) : RS X W (.If c sa sb pos) (mIfS mc a b) := by
  obtain ⟨t, c1, c2⟩ := hc
  obtain ⟨u, a1, a2⟩ := ha
  obtain ⟨v, b1, b2⟩ := hb
  refine ⟨_, ps_if c1 a1 b1, fun mp lh ls σ H De r rs q => c2 mp lh ls σ H _ r rs (q.lift rs fun mp1 H1 lh1 x vx e1 r1 rl1 q1 => ?_)⟩
  cases rl1
  cases x with
  | true => exact iteT (a2 mp1 lh1 ls σ H1 De r1 (rs.ext e1) q1)
  | false => exact iteF (b2 mp1 lh1 ls σ H1 De r1 (rs.ext e1) q1)
theorem rs_ret (he : RE X W e me) : RS X W (.Return (some e) pos) (mRet me) := by
  obtain ⟨t, a1, a2⟩ := he
  exact ⟨_, ps_ret a1, fun mp lh ls σ H De r rs q => a2 mp lh ls σ H _ r rs (q.lift rs fun mp1 H1 lh1 x vx e1 r1 rl1 q1 => q1 mp1 H1 vx .refl r1 rl1)⟩
theorem rs_retN : RS X W (.Return none pos) mRetN := ⟨_, ps_retN, fun mp lh ls σ H De r rs q => q mp H .non .refl r .non⟩
theorem rs_expr (he : RE X W e me) (hs : swapsWith e none pos.line X.env = pure false := by rfl) : RS X W (.Expr e pos) (mDrop me) := by
  obtain ⟨t, a1, a2⟩ := he
  exact ⟨_, ps_expr a1 hs, fun mp lh ls σ H De r rs q => a2 mp lh ls σ H _ r rs (q.lift rs fun mp1 H1 lh1 x vx e1 r1 rl1 q1 => q1 mp1 H1 σ .refl r1 (rs.ext e1))⟩
theorem rs_set {i : Nat} {x : Str} {pos' : Pos} (hN : X.N.Nodup) (hi : X.N[i]? = some x) (hx : Loc X.env.scope x) (he : RE X W e me) (hs : swapsWith e (some (.Name x pos')) pos.line X.env = pure false := by rfl)
    (hf : X.fn x = true ∨ X.env.scope.names.lookup x = some .local := by first | exact .inl rfl | exact .inr rfl | assumption) : RS X W (.Assign [.Name x pos'] e pos) (mSet i me) := by
  obtain ⟨t, a1, a2⟩ := he
  exact ⟨_, ps_set hN hi hx a1 hs hf, fun mp lh ls σ H De r rs q => a2 mp lh ls σ H _ r rs (q.lift rs fun mp1 H1 lh1 x vx e1 r1 rl1 q1 => q1 mp1 H1 _ .refl r1 ((rs.ext e1).set rl1))⟩
end

/-! ### targets -/
abbrev GM := D → Ls → Option Ls
def RefG (K : PySem.W.Frag) (g : TG) (m : GM) : Prop := ∀ mp lh ls ls' σ H d v Q, Rep K mp lh H → RelS K mp H ls σ → RelD K mp H d v → m d ls = some ls' → (∀ σ', RelS K mp H ls' σ' → Q σ' H) → g v σ H Q
def RefGs (K : PySem.W.Frag) (g : TGs) (m : List D → Ls → Option Ls) : Prop := ∀ mp lh ls ls' σ H d v Q, Rep K mp lh H → RelS K mp H ls σ → RelDs K mp H d v → m d ls = some ls' → (∀ σ', RelS K mp H ls' σ' → Q σ' H) → g v σ H Q
def RG (X : Cx) (e : Expr) (m : GM) : Prop := ∃ g, PG X e g ∧ RefG X.K g m
def RGs (X : Cx) (es : List Expr) (m : List D → Ls → Option Ls) : Prop := ∃ g, PGs X es g ∧ RefGs X.K g m
def gmName (i : Nat) : GM := fun d ls => some (ls.set i (some d))
def gmNil : List D → Ls → Option Ls := fun ds ls => match ds with
  | [] => some ls
  | _ => none
def gmCons (g : GM) (r : List D → Ls → Option Ls) : List D → Ls → Option Ls := fun ds ls => match ds with
  | d :: ds => (g d ls).bind fun ls' => r ds ls'
  | _ => none
def gmTup (n : Nat) (r : List D → Ls → Option Ls) : GM := fun d ls => match d with
  | .tup ds => if ds.length = n then r ds ls else none
  | _ => none
section
variable {X : Cx} {e : Expr} {es : List Expr} {m : GM} {r : List D → Ls → Option Ls} {pos : Pos}
theorem rg_name {i : Nat} {x : Str} (hN : X.N.Nodup) (hi : X.N[i]? = some x) (hx : Loc X.env.scope x) (hf : X.fn x = true ∨ X.env.scope.names.lookup x = some .local := by first | exact .inl rfl | exact .inr rfl | assumption) : RG X (.Name x pos) (gmName i) :=
  ⟨_, pg_name hN hi hx hf, fun mp lh ls ls' σ H d v Q rp rs rd h q => by cases h; exact q _ (rs.set rd)⟩
theorem rgs_nil : RGs X [] gmNil := ⟨_, pgs_nil, fun mp lh ls ls' σ H d v Q rp rs rd h q => by
  cases rd with
  | nil => cases h; exact ⟨rfl, q _ rs⟩
  | cons a b => cases h⟩
theorem rgs_cons (h1 : RG X e m) (h2 : RGs X es r) (hs : (assignEach (e :: es) X.env).map (·.2) = assign e X.env :: (assignEach es X.env).map (·.2) := by rfl) : RGs X (e :: es) (gmCons m r) := by
  obtain ⟨g, a1, a2⟩ := h1
  obtain ⟨u, b1, b2⟩ := h2
  refine ⟨_, pgs_cons a1 b1 hs, fun mp lh ls ls' σ H d v Q rp rs rd h q => ?_⟩
  cases rd with
  | nil => cases h
  | @cons d v ds vs a b =>
    have h' : (m d ls).bind (fun ls' => r ds ls') = some ls' := h
    cases hm : m d ls with
    | none => rw [hm] at h'; cases h'
    | some l1 =>
      rw [hm] at h'
      exact ⟨v, vs, rfl, a2 mp lh ls l1 σ H d v _ rp rs a hm fun σ1 rs1 => b2 mp lh l1 ls' σ1 H ds vs Q rp rs1 b h' q⟩
theorem rg_tup {k : Nat} {n : Nat} (hc : X.calm = true) (h : RGs X es r) (hn : (assignEach es X.env).length = n := by rfl) (hst : (assignEach es X.env).findIdx? (·.1) = none := by rfl) : RG X (.Tuple es k pos) (gmTup n r) := by
  obtain ⟨g, a1, a2⟩ := h
  refine ⟨_, pg_tup hc a1 hn hst, fun mp lh ls ls' σ H d v Q rp rs rd h q => ?_⟩
  cases rd with
  | @tup ds a vs hq hr =>
    have h' : (if ds.length = n then r ds ls else none) = some ls' := h
    split at h'
    · rename_i hl
      exact ⟨a, vs, rfl, hq.sq, by rw [← hr.length]; exact hl, a2 mp lh ls ls' σ H ds vs Q rp rs hr h' q⟩
    · cases h'
  | _ => cases h
end
/-- target = value, any target -/
def mAsg (e : EM) (g : GM) : SM := fun ls h => liftE (e ls h) ls fun d h1 => match g d ls with
  | some ls' => .nx ls' h1
  | none => .bad
section
variable {X : Cx} {W : WX} {tg e : Expr} {me : EM} {m : GM} {pos : Pos}
theorem rs_asg (he : RE X W e me) (hg : RG X tg m) (hs : swapsWithSole [tg] e pos.line X.env = pure false := by rfl) (hw : swappedStores [tg] e X.env = pure none := by rfl)
    (h1 : (assignEach [tg] X.env).map (·.2) = [assign tg X.env] := by rfl) : RS X W (.Assign [tg] e pos) (mAsg me m) := by
  obtain ⟨t, a1, a2⟩ := he
  obtain ⟨g, b1, b2⟩ := hg
  refine ⟨_, ps_asg a1 b1 hs hw h1, fun mp lh ls σ H De r rs q => a2 mp lh ls σ H _ r rs (q.lift rs fun mp1 H1 lh1 d v e1 r1 rl1 q1 => ?_)⟩
  cases hm : m d ls with
  | none => rw [hm] at q1; exact q1.elim
  | some ls' =>
    rw [hm] at q1
    exact b2 mp1 lh1 ls ls' σ H1 d v _ r1 (rs.ext e1) rl1 hm fun σ' rs' => q1 mp1 H1 σ' .refl r1 rs'
end

/-! ### while -/
def mWhile : Nat → TM → SM → SM
  | 0, _, _ => fun _ _ => .bad
  | n + 1, c, b => fun ls h => liftE (c ls h) ls fun k h1 => if k = true then (match b ls h1 with
    | .nx ls' h' => mWhile n c b ls' h'
    | .ct ls' h' => mWhile n c b ls' h'
    | .bk ls' h' => .nx ls' h'
    | r => r) else .nx ls h1
section
variable {X : Cx} {W : WX} {c : Expr} {body : List Stmt} {mc : TM} {mb : SM} {pos : Pos}
theorem rs_while (n : Nat) (hp : PassesOwn (model X.prog X.w) X.A X.env X.xe) (hc : RT X W c mc) (hb : RSs X W body mb) : RS X W (.While c body [] pos) (mWhile n mc mb) := by
  obtain ⟨t, c1, c2⟩ := hc
  obtain ⟨u, b1, b2⟩ := hb
  refine ⟨_, ps_while hp c1 b1, fun mp lh ls σ H De r rs q => ?_⟩
  refine ⟨fun n σ H => ∃ mp lh ls, Rep X.K mp lh H ∧ RelS X.K mp H ls σ ∧ PostS X.K mp H (mWhile n mc mb ls lh) De W, ⟨n, mp, lh, ls, r, rs, q⟩, ?_⟩
  rintro k σ H ⟨mp, lh, ls, r, rs, q⟩
  cases k with
  | zero => exact q.elim
  | succ k =>
    unfold mWhile at q
    refine c2 mp lh ls σ H _ r rs (q.lift rs fun mp1 H1 lh1 x vx e1 r1 rl1 q1 => ?_)
    cases rl1
    cases x with
    | false => exact iteF (q1 mp1 H1 σ .refl r1 (rs.ext e1))
    | true =>
      refine iteT ⟨fun σ' H' => ∃ mp lh ls, Rep X.K mp lh H' ∧ RelS X.K mp H' ls σ' ∧ PostS X.K mp H' (mWhile k mc mb ls lh) De W, fun σ' H' z => ⟨k, Nat.lt_succ_self _, z⟩, b2 mp1 lh1 ls σ H1 _ r1 (rs.ext e1) ?_⟩
      rw [if_pos rfl] at q1
      cases hr : mb ls lh1 with
      | nx ls' lh' => rw [hr] at q1; exact fun m2 H2 σ2 e2 r2 rs2 => ⟨m2, lh', ls', r2, rs2, PostS.ext q1 e2⟩
      | ct ls' lh' => rw [hr] at q1; exact fun m2 H2 σ2 e2 r2 rs2 => ⟨m2, lh', ls', r2, rs2, PostS.ext q1 e2⟩
      | bk ls' lh' => rw [hr] at q1; exact q1
      | rt d lh' => rw [hr] at q1; exact q1
      | ex x ls' lh' => rw [hr] at q1; exact q1
      | bad => rw [hr] at q1; exact q1
end

/-! ### what is walked -/
inductive Stp where
  | done | item (d : D) | bad
abbrev LI := Nat → LH → Stp
abbrev IM := Ls → LH → R LI
def RelI (K : PySem.W.Frag) (mp0 : List Addr) (H0 : Hp) (L : LI) (J : It) : Prop := ∀ i mp lh H, Sub K mp0 H0 mp H → Rep K mp lh H → match L i lh with
  | .done => J.stop i H
  | .item d => J.go i H ∧ ∀ x H', J.yld i H x H' → Ext K mp H mp H' ∧ Rep K mp lh H' ∧ RelD K mp H' d x
  | .bad => True
def RefI (K : PySem.W.Frag) (W : WX) (t : TI) (m : IM) : Prop := ∀ mp lh ls σ H Q, Rep K mp lh H → RelS K mp H ls σ → PostG K (RelI K) mp H (m ls lh) Q (WE W σ) → t σ H Q
def RI (X : Cx) (W : WX) (tg iter : Expr) (m : IM) : Prop := ∃ t, PI X tg iter t ∧ RefI X.K W t m
def mForGo (g : GM) (b : SM) (L : LI) : Nat → Nat → SM
  | 0, _ => fun _ _ => .bad
  | n + 1, i => fun ls h => match L i h with
    | .done => .nx ls h
    | .bad => .bad
    | .item d => match g d ls with
      | none => .bad
      | some ls1 => match b ls1 h with
        | .nx ls' h' => mForGo g b L n (i + 1) ls' h'
        | .ct ls' h' => mForGo g b L n (i + 1) ls' h'
        | .bk ls' h' => .nx ls' h'
        | r => r
def mFor (n : Nat) (wi : IM) (g : GM) (b : SM) : SM := fun ls h => liftE (wi ls h) ls fun L h1 => mForGo g b L n 0 ls h1
section
variable {X : Cx} {W : WX} {tg iter : Expr} {body : List Stmt} {wi : IM} {g : GM} {mb : SM} {pos : Pos}
theorem RelI.ext {K : PySem.W.Frag} {mp mp' : List Addr} {H H' : Hp} {L : LI} {J : It} (h : RelI K mp H L J) (e : Ext K mp H mp' H') : RelI K mp' H' L J := fun i m lh H2 e2 r => h i m lh H2 (e.sub.trans e2) r
theorem rs_for (n : Nat) (hp : PassesOwn (model X.prog X.w) X.A X.env X.xe) (hc : X.calm = true) (hi : RI X W tg iter wi) (hg : RG X tg g) (hb : RSs X W body mb)
    (hs : ∀ x, foldedSetIterable iter X.env x = pure x := by intro _; rfl) : RS X W (.For tg iter body [] pos) (mFor n wi g mb) := by
  obtain ⟨ti, i1, i2⟩ := hi
  obtain ⟨tg', g1, g2⟩ := hg
  obtain ⟨u, b1, b2⟩ := hb
  refine ⟨_, ps_for hp hc i1 g1 b1 hs, fun mp lh ls σ H De r rs q => i2 mp lh ls σ H _ r rs (q.lift rs fun mp1 H1 lh1 L J e1 r1 rl1 q1 => ?_)⟩
  refine ⟨fun i k σ H => ∃ mp lh ls, Rep X.K mp lh H ∧ RelS X.K mp H ls σ ∧ RelI X.K mp H L J ∧ PostS X.K mp H (mForGo g mb L k i ls lh) De W, ⟨n, mp1, lh1, ls, r1, rs.ext e1, rl1, q1⟩, ?_⟩
  rintro i k σ H ⟨mp, lh, ls, r, rs, ri, q⟩
  cases k with
  | zero => exact q.elim
  | succ k =>
    unfold mForGo at q
    have rii := ri i mp lh H .refl r
    cases hL : L i lh with
    | done => rw [hL] at rii q; exact .inl ⟨rii, q mp H σ .refl r rs⟩
    | bad => rw [hL] at q; exact q.elim
    | item d =>
      rw [hL] at rii q
      refine .inr ⟨rii.1, fun σ' H' => ∃ mp lh ls, Rep X.K mp lh H' ∧ RelS X.K mp H' ls σ' ∧ RelI X.K mp H' L J ∧ PostS X.K mp H' (mForGo g mb L k (i + 1) ls lh) De W, fun σ' H' z => ⟨k, Nat.lt_succ_self _, z⟩, fun x H' y => ?_⟩
      obtain ⟨e2, r2, rd⟩ := rii.2 x H' y
      cases hg : g d ls with
      | none => simp only [hg] at q; exact q.elim
      | some ls1 =>
        simp only [hg] at q
        refine g2 mp lh ls ls1 σ H' d x _ r2 (rs.ext e2) rd hg fun σ1 rs1 => b2 mp lh ls1 σ1 H' _ r2 rs1 ?_
        have q := PostS.ext q e2
        cases hr : mb ls1 lh with
        | nx ls' lh' => rw [hr] at q; exact fun m3 H3 σ3 e3 r3 rs3 => ⟨m3, lh', ls', r3, rs3, (ri.ext e2).ext e3, PostS.ext q e3⟩
        | ct ls' lh' => rw [hr] at q; exact fun m3 H3 σ3 e3 r3 rs3 => ⟨m3, lh', ls', r3, rs3, (ri.ext e2).ext e3, PostS.ext q e3⟩
        | bk ls' lh' => rw [hr] at q; exact q
        | rt d lh' => rw [hr] at q; exact q
        | ex x ls' lh' => rw [hr] at q; exact q
        | bad => rw [hr] at q; exact q
end
/-- a list as it stands, a tuple, a range, a text -/
def liSeq (xs : List D) : LI := fun i _ => match xs[i]? with
  | some d => .item d
  | none => .done
def liList (n : Nat) : LI := fun i h => match h[n]? with
  | some (.lst xs) => liSeq xs i h
  | _ => .bad
def liRange (lo : Int) (n : Nat) : LI := fun i _ => if i < n then .item (.int (lo + i)) else .done
def liStr (l : List Nat) : LI := fun i _ => match l[i]? with
  | some c => .item (.str [c])
  | none => .done
/-- walked: a list, a tuple -/
def imSeq (e : EM) : IM := fun ls h => (e ls h).bind fun d h1 => match d with
  | .ref n => (match h1[n]? with
    | some (.lst _) => .ok (liList n) h1
    | _ => .bad)
  | _ => .bad
def imTup (e : EM) : IM := fun ls h => (e ls h).bind fun d h1 => match d with
  | .tup xs => .ok (liSeq xs) h1
  | .ktp xs => .ok (liSeq xs) h1
  | _ => .bad
def imStr (e : EM) : IM := fun ls h => (e ls h).bind fun d h1 => match d with
  | .str l => .ok (liStr l) h1
  | _ => .bad
def rgOk (i : Int) : Bool := decide (-(2 ^ 62) ≤ i) && decide (i < 2 ^ 62)
def imRange1 (a : AM) : IM := fun ls h => (a ls h).bind fun ds h1 => match ds with
  | [.int j] => if rgOk j = true then .ok (liRange 0 j.toNat) h1 else .bad
  | _ => .bad
def imRange2 (a : AM) : IM := fun ls h => (a ls h).bind fun ds h1 => match ds with
  | [.int i, .int j] => if (rgOk i && rgOk j) = true then .ok (liRange i (j - i).toNat) h1 else .bad
  | _ => .bad
theorem rgOk_of {i : Int} (h : rgOk i = true) : -(2 ^ 62) ≤ i ∧ i < 2 ^ 62 := by
  unfold rgOk at h
  rw [Bool.and_eq_true] at h
  exact ⟨of_decide_eq_true h.1, of_decide_eq_true h.2⟩
section
variable {X : Cx} {W : WX} {tg l : Expr} {me : EM} {ma : AM} {pos : Pos}
theorem relI_list {K : PySem.W.Frag} {mp : List Addr} {H : Hp} {n : Nat} {a : Addr} (ha : mp[n]? = some a) : RelI K mp H (liList n) (Itl K a) := fun i m lh H1 e r => by
  have ha1 := e.get ha
  unfold liList
  have key : ∀ xs vs, SqL K H1 a vs → RelDs K m H1 xs vs → match liSeq xs i lh with
      | .done => (Itl K a).stop i H1
      | .item d => (Itl K a).go i H1 ∧ ∀ x H', (Itl K a).yld i H1 x H' → Ext K m H1 m H' ∧ Rep K m lh H' ∧ RelD K m H' d x
      | .bad => True := fun xs vs hv rd => by
    unfold liSeq
    cases hx : xs[i]? with
    | none =>
      refine ⟨vs, hv, ?_⟩
      have := List.getElem?_eq_none_iff.mp hx
      rw [← rd.length]; exact this
    | some d =>
      obtain ⟨v, hvi, rv⟩ := rd.get hx
      refine ⟨⟨vs, v, hv, hvi⟩, fun x H' y => ?_⟩
      obtain ⟨rfl, y2⟩ := y
      have := y2 vs hv
      rw [hvi] at this; cases this
      exact ⟨.refl, r, rv⟩
  cases hn : lh[n]? with
  | none => trivial
  | some o =>
    have ro := r.obj n o a hn ha1
    cases o with
    | lst xs =>
      obtain ⟨vs, hv, rd⟩ := ro
      exact key xs vs (SqL.of hv) rd
    | _ => trivial
theorem ri_list (he : RE X W l me) : RI X W tg l (imSeq me) := by
  obtain ⟨t, a1, a2⟩ := he
  refine ⟨_, pi_list a1, fun mp lh ls σ H Q r rs q => a2 mp lh ls σ H _ r rs (q.bind fun mp1 H1 lh1 d v e1 r1 rl1 q1 => ?_)⟩
  cases rl1 with
  | @ref n a ha =>
    cases hn : lh1[n]? with
    | none => simp only [hn] at q1; exact q1.elim
    | some o =>
      have ro := r1.obj n o a hn ha
      cases o with
      | lst xs =>
        obtain ⟨vs, hv, rd⟩ := ro
        simp only [hn] at q1
        exact ⟨a, rfl, ⟨vs, SqL.of hv⟩, q1.now r1 (relI_list ha)⟩
      | _ => simp only [hn] at q1; exact q1.elim
  | _ => exact q1.elim
theorem ri_tup (he : RE X W l me) : RI X W tg l (imTup me) := by
  obtain ⟨t, a1, a2⟩ := he
  refine ⟨_, pi_tup a1, fun mp lh ls σ H Q r rs q => a2 mp lh ls σ H _ r rs (q.bind fun mp1 H1 lh1 d v e1 r1 rl1 q1 => ?_)⟩
  have fin : ∀ (ds : List D) (a : Addr) (vs : List V), SqT X.K H1 a vs → RelDs X.K mp1 H1 ds vs → PostG X.K (RelI X.K) mp1 H1 (.ok (liSeq ds) lh1) Q (WE W σ) → ∃ (a' : Addr), V.ref a = V.ref a' ∧ (∃ xs, SqT X.K H1 a' xs) ∧ Q (Itt X.K a') H1 := fun ds a vs hv rd q1 => by
    refine ⟨a, rfl, ⟨vs, hv⟩, q1.now r1 fun i m lh H2 e2 r2 => ?_⟩
    unfold liSeq
    cases hx : ds[i]? with
    | none =>
      refine ⟨vs, e2.sqt _ _ hv, ?_⟩
      have := List.getElem?_eq_none_iff.mp hx
      rw [← rd.length]; exact this
    | some d =>
      obtain ⟨v, hvi, rv⟩ := rd.get hx
      refine ⟨⟨vs, v, e2.sqt _ _ hv, hvi⟩, fun x H' y => ?_⟩
      obtain ⟨rfl, y2⟩ := y
      have := y2 vs (e2.sqt _ _ hv)
      rw [hvi] at this; cases this
      exact ⟨.refl, r2, rv.sub e2⟩
  cases rl1 with
  | @tup ds a vs hv rd => exact fin ds a vs hv.sq rd q1
  | @ktp ds a vs hv rd => exact fin ds a vs hv.sq rd q1
  | _ => exact q1.elim
theorem ri_str (he : RE X W l me) : RI X W tg l (imStr me) := by
  obtain ⟨t, a1, a2⟩ := he
  refine ⟨_, pi_str a1, fun mp lh ls σ H Q r rs q => a2 mp lh ls σ H _ r rs (q.bind fun mp1 H1 lh1 d v e1 r1 rl1 q1 => ?_)⟩
  cases rl1 with
  | str l =>
    refine ⟨_, rfl, q1.now r1 fun i m lh H2 e2 r2 => ?_⟩
    unfold liStr
    cases hx : l[i]? with
    | none =>
      have := List.getElem?_eq_none_iff.mp hx
      show l.toArray.size ≤ i
      simpa using this
    | some c =>
      have hl := (List.getElem?_eq_some_iff.mp hx).1
      refine ⟨by show i < l.toArray.size; simpa using hl, fun x H' y => ?_⟩
      obtain ⟨rfl, c', hc', rfl⟩ := y
      have : c' = c := by
        have h2 : l[i]? = some c' := by simpa using hc'
        rw [hx] at h2; cases h2; rfl
      subst this
      exact ⟨.refl, r2, .str [c']⟩
  | _ => exact q1.elim
theorem relI_range {K : PySem.W.Frag} {mp : List Addr} {H : Hp} {lo : Int} {n : Nat} : RelI K mp H (liRange lo n) (Itr lo n) := fun i m lh H1 e r => by
  unfold liRange
  by_cases h : i < n
  · rw [if_pos h]
    refine ⟨h, fun x H' y => ?_⟩
    obtain ⟨rfl, rfl⟩ := y
    exact ⟨.refl, r, .int _⟩
  · rw [if_neg h]
    exact Nat.le_of_not_lt h
theorem ri_range1 {a : Expr} {p : Pos} (hg : Gl X "range") (hm : X.mg "range" = none) (ha : RA X W [a] ma) (hs : starEach [a] X.env = [(false, eval a X.env)] := by rfl) : RI X W tg (.Call (.Name "range" p) [a] [] pos) (imRange1 ma) := by
  obtain ⟨t, a1, a2, _⟩ := ha
  refine ⟨_, pi_range1 hg hm a1 hs, fun mp lh ls σ H Q r rs q => a2 mp lh ls σ H _ r rs (q.bind fun mp1 H1 lh1 ds vs e1 r1 rl1 q1 => ?_)⟩
  cases rl1 with
  | nil => exact q1.elim
  | cons h1 h2 =>
    cases h2 with
    | cons _ _ => cases h1 <;> exact q1.elim
    | nil =>
      cases h1 with
      | int j =>
        cases hj : rgOk j with
        | false => simp only [hj] at q1; exact q1.elim
        | true =>
          simp only [hj] at q1
          exact ⟨j, rfl, (rgOk_of hj).1, (rgOk_of hj).2, q1.now r1 relI_range⟩
      | _ => exact q1.elim
theorem ri_range2 {a b : Expr} {p : Pos} (hg : Gl X "range") (hm : X.mg "range" = none) (ha : RA X W [a, b] ma) (hs : starEach [a, b] X.env = [(false, eval a X.env), (false, eval b X.env)] := by rfl) (hs2 : starEach [b] X.env = [(false, eval b X.env)] := by rfl) :
    RI X W tg (.Call (.Name "range" p) [a, b] [] pos) (imRange2 ma) := by
  obtain ⟨t, a1, a2, _⟩ := ha
  refine ⟨_, pi_range2 hg hm a1 hs hs2, fun mp lh ls σ H Q r rs q => a2 mp lh ls σ H _ r rs (q.bind fun mp1 H1 lh1 ds vs e1 r1 rl1 q1 => ?_)⟩
  cases rl1 with
  | nil => exact q1.elim
  | cons h1 h2 =>
    cases h2 with
    | nil => cases h1 <;> exact q1.elim
    | cons h2 h3 =>
      cases h1 with
      | int i =>
        cases h2 with
        | int j =>
          cases h3 with
          | cons _ _ => exact q1.elim
          | nil =>
            cases hj : (rgOk i && rgOk j) with
            | false => simp only [hj] at q1; exact q1.elim
            | true =>
              simp only [hj] at q1
              rw [Bool.and_eq_true] at hj
              exact ⟨i, j, rfl, ⟨(rgOk_of hj.1).1, (rgOk_of hj.1).2, (rgOk_of hj.2).1, (rgOk_of hj.2).2⟩, q1.now r1 relI_range⟩
        | _ => exact q1.elim
      | _ => cases h2 <;> exact q1.elim
end
end Rf
set_option Elab.async false
set_option linter.all false
set_option maxRecDepth 100000
set_option maxHeartbeats 4000000
set_option autoImplicit false
/-! The functional layer: defs, calls, methods, instances, raise, try. -/
namespace Rf
open PySem PySem.Spec L2

/-! ### a def as a function -/
def spOf (K : PySem.W.Frag) (n : Nat) (m : FM) : Sp := fun vs H Q E => ∃ mp lh ds, Rep K mp lh H ∧ RelDs K mp H ds vs ∧ ds.length = n ∧ Post K mp H (m ds lh) Q E
def FnRef (P : Program) (w : World) (K : PySem.W.Frag) (mg : Str → Option Value) (base : Heap) (k : Nat) (f : Addr) (fd : FuncData) (ps : List Str) (m : FM) : Prop := FnOk P w K mg base (L2.CX P w) k f fd ps (spOf K ps.length m)
def fin : SR → R D
  | .nx _ h => .ok .non h
  | .rt d h => .ok d h
  | .ex x _ h => .ex x h
  | _ => .bad
/-- a body run as a function of n names -/
def fm (n : Nat) (b : SM) : FM := fun ds h => fin (b (ds.map some ++ List.replicate (n - ds.length) none) h)
section
variable {P : Program} {w : World} {K : PySem.W.Frag} {mg : Str → Option Value} {base : Heap} {x qual : Str} {params : Arguments} {body : List Stmt} {scope : Scope} {dvs : List V} {kws : List (Str × V)} {f : Addr} {fd : FuncData} {N ps : List Str} {k : Nat} {b : SM} {m : FM}
theorem relS_start {mp : List Addr} {H : Hp} {ds : List D} {vs : List V} (r : RelDs K mp H ds vs) : RelS K mp H (ds.map some ++ List.replicate (N.length - ds.length) none) (L2.start N vs) := by
  unfold L2.start
  refine ⟨by simp [r.length], fun i d h => ?_⟩
  by_cases hi : i < ds.length
  · rw [List.getElem?_append_left (by simpa using hi), List.getElem?_map] at h
    cases e : ds[i]? with
    | none => rw [e] at h; cases h
    | some d' =>
      rw [e] at h; cases h
      obtain ⟨v, hv, rv⟩ := r.get e
      refine ⟨v, ?_, rv.f⟩
      rw [List.getElem?_append_left (by rw [List.length_map, ← r.length]; exact hi), List.getElem?_map, hv]; rfl
  · rw [List.getElem?_append_right (by simpa using hi), List.getElem?_replicate] at h
    split at h <;> cases h
/-- THE RULE: a def by its body -/
theorem fnref (F : FunD K x qual params body scope dvs kws f fd) (S : FnScope N ps scope)
    (hb : ∀ (cdv : Value) (A : Around) (outer : List Env) (s : Shared) (H : Hp) (E : XK), Room k (A.deeper (PyProof.Rows.envOfC qual scope s.heap.objs.size f cdv)) →
      RSs (cxOf (L2.CX P w) P w K mg base N qual scope f cdv A outer s H E) (fun c d _ H' => E c d H') body b) : FnRef P w K mg base (k + 1) f fd ps (fm N.length b) := by
  refine F.ok S (fun vs H Q E h => ?_) fun cdv A outer s H vs Q E hr h => ?_
  · obtain ⟨mp, lh, ds, rp, rd, hl, _⟩ := h
    rw [← rd.length]; exact hl
  · obtain ⟨mp, lh, ds, rp, rd, hl, q⟩ := h
    obtain ⟨t, h1, h2⟩ := hb cdv A outer s H E hr
    refine ⟨t, h1, h2 mp lh _ _ H _ rp (relS_start rd) ?_⟩
    unfold fm at q
    cases hr : b (ds.map some ++ List.replicate (N.length - ds.length) none) lh with
    | nx ls' lh' => rw [hr] at q; exact fun m1 H1 σ1 e1 r1 rs1 => q m1 H1 _ e1 r1 .non
    | rt d lh' => rw [hr] at q; exact q
    | ex x ls' lh' => rw [hr] at q; exact fun m1 H1 σ1 c dd e1 r1 rs1 rx => q m1 H1 c dd e1 r1 rx
    | bk ls' lh' => rw [hr] at q; exact q.elim
    | ct ls' lh' => rw [hr] at q; exact q.elim
    | bad => rw [hr] at q; exact q.elim
theorem FnRef.mono {j : Nat} (F : FnRef P w K mg base j f fd ps m) (h : j ≤ k) : FnRef P w K mg base k f fd ps m := FnOk.mono F h
/-- m told otherwise: m' where it is not bad -/
theorem FnRef.eq {m' : FM} (F : FnRef P w K mg base k f fd ps m) (h : ∀ ds lh, m' ds lh = .bad ∨ m' ds lh = m ds lh) : FnRef P w K mg base k f fd ps m' := FnOk.imp F fun vs H Q E ⟨mp, lh, ds, rp, rd, hl, q⟩ => by
  rcases h ds lh with e | e
  · rw [e] at q; exact q.elim
  · rw [e] at q; exact ⟨mp, lh, ds, rp, rd, hl, q⟩
end

/-! ### binding -/
structure BindD (K : PySem.W.Frag) (fd : FuncData) (ps : List Str) (n : Nat) (ks : List Str) (gd : List D → List D → List D) : Prop where
  ex : ∃ (g : List Value → List Value → List Value) (gV : List V → List V → List V),
    (∀ (s : Shared) (us ws : List Value), K.In s.heap → us.length = n → ws.length = ks.length → BindsTo s fd ⟨us, ks.zip ws⟩ (ps.zip (g us ws))) ∧
    (∀ vs us zs ws, Vals vs us → Vals zs ws → Vals (gV vs zs) (g us ws)) ∧
    (∀ mp H ds vs es zs, ds.length = n → es.length = ks.length → RelDs K mp H ds vs → RelDs K mp H es zs → RelDs K mp H (gd ds es) (gV vs zs) ∧ (gd ds es).length = ps.length)
theorem bindD_all {K : PySem.W.Frag} {fd : FuncData} {ps : List Str} (b : Binds K fd ps []) : BindD K fd ps ps.length [] fun ds _ => ds :=
  ⟨fun us _ => us, fun vs _ => vs, fun s us ws hk hl _ => by
    have := b s us hk (by rw [List.append_nil]; exact hl)
    rw [List.append_nil] at this
    exact this, fun vs us zs ws r _ => r, fun mp H ds vs es zs hl _ r _ => ⟨r, hl⟩⟩

/-! ### calls -/
def RK (X : Cx) (W : WX) (kws : List Keyword) (m : AM) : Prop := ∃ t, PK X kws t ∧ RefA X.K W t m ∧ ∀ ls h ds h', m ls h = .ok ds h' → ds.length = kws.length
def mCall (m : FM) (ma : AM) : EM := fun ls h => (ma ls h).bind fun ds h1 => m ds h1
def mCallK (gd : List D → List D → List D) (m : FM) (ma mk : AM) : EM := fun ls h => (ma ls h).bind fun ds h1 => (mk ls h1).bind fun es h2 => m (gd ds es) h2
section
variable {X : Cx} {W : WX} {k n : Nat} {f C : Addr} {fd : FuncData} {ps ks : List Str} {sp : Sp} {x m : Str} {p pos apos : Pos} {e o : Expr} {es : List Expr} {kws : List Keyword} {nm' : Option Str} {kpos : Pos} {me : EM} {ma mk : AM} {gd : List D → List D → List D} {mf : FM}
theorem rk_nil : RK X W [] mNil := ⟨_, pk_nil, fun _ _ _ _ _ _ r _ q => q.now r .nil, fun ls h ds h' e => by cases e; rfl⟩
theorem rk_cons (he : RE X W e me) (hr : RK X W kws ma) : RK X W (⟨nm', e, kpos⟩ :: kws) (mCons me ma) := by
  obtain ⟨t, a1, a2⟩ := he
  obtain ⟨u, b1, b2, b3⟩ := hr
  exact ⟨_, pk_cons a1 b1, fun mp lh ls σ H Q rp rs q => a2 mp lh ls σ H _ rp rs (q.bind fun mp1 H1 lh1 x vx e1 r1 rl1 q1 => b2 mp1 lh1 ls σ H1 _ r1 (rs.ext e1) (q1.bind fun mp2 H2 lh2 xs vs e2 r2 rl2 q2 => q2.now r2 (.cons (rl1.ext e2) rl2))), mCons_len b3⟩
/-- the callee runs -/
theorem run_fnW {pins : List (Addr × Obj)} {σ : L2.St} {H : Hp} {s : Shared} {Q : VK} {us all : List Value} {kw : List (Str × Value)} {vs : List V} (F : FnOk X.prog X.w X.K X.mg X.base (L2.CX X.prog X.w) k f fd ps sp) (hr : Room k X.A) (tk : Takes X W)
    (I : Inv X pins σ H s) (hb : BindsTo s fd ⟨us, kw⟩ (ps.zip all)) (r : Vals vs all) (h : sp vs H Q (WE W σ)) : wpAny (model X.prog X.w) X.A (call (.ref f) us kw) (EP X pins σ Q) X.xe s := by
  refine wpAny_call (codeAny_mono (F.run X.A X.stack s H ⟨us, kw⟩ all vs Q (WE W σ) hr I.env0 hb r h) fun r s' hq => ?_)
  cases r with
  | error e => exact passAt tk σ pins H s e s' I hq
  | ok fl =>
    cases fl with
    | ret u => exact I.after hq
    | next => exact False.elim hq
    | brk => exact False.elim hq
    | cont => exact False.elim hq
theorem pe_callW {t tk : TA} {g : List Value → List Value → List Value} {gV : List V → List V → List V} (F : FnOk X.prog X.w X.K X.mg X.base (L2.CX X.prog X.w) k f fd ps sp) (hr : Room k X.A) (hg : Gl X x) (hm : X.mg x = some (.ref f)) (hk : PySem.W.keepIn X.K (.ref f) = true) (tkx : Takes X W)
    (hto : ∀ (s : Shared) (us ws : List Value), X.K.In s.heap → us.length = n → ws.length = ks.length → BindsTo s fd ⟨us, ks.zip ws⟩ (ps.zip (g us ws))) (hrel : ∀ vs us zs ws, Vals vs us → Vals zs ws → Vals (gV vs zs) (g us ws))
    (ha : PA X (e :: es) t) (hkw : PK X kws tk) (hall : (backToKw pos (keywordEach kws X.env)).all (·.1.isSome) = true) (hks : (backToKw pos (keywordEach kws X.env)).filterMap (·.1) = ks)
    (hdb : (x == ("__debug__" : Str)) = false) (he : starEach (e :: es) X.env = (false, eval e X.env) :: starEach es X.env)
    (hpl : ((backTo pos (starEach (e :: es) X.env)).any (·.1) || (backToKw pos (keywordEach kws X.env)).any (·.1.isNone)) = false) :
    PE X (.Call (.Name x p) (e :: es) kws pos) (fun σ H Q => t σ H fun vs H1 => tk σ H1 fun zs H2 => vs.length = n ∧ zs.length = ks.length ∧ sp (gV vs zs) H2 Q (WE W σ)) := by
  refine ⟨fun pins s σ H Q I h => ?_⟩
  refine wpAny_Call_Name_kw (ld_glob I hg hm ?_ hdb)
  refine PySem.W.callWith_KW (h₀ := X.base) I.ok.mod.kin hk hall (thn (ha.run pos pins s σ H _ I h) fun us s1 ⟨vs, H1, I1, r, q⟩ => ?_) hpl he
  refine thn (hkw.run pos pins s1 σ H1 _ I1 q) fun ws s2 ⟨zs, H2, I2, rz, l1, l2, q2⟩ => ⟨I2.kIn, ?_⟩
  rw [hks]
  exact run_fnW F hr tkx I2 (hto s2 us ws I2.kIn (by rw [← r.length]; exact l1) (by rw [← rz.length]; exact l2)) (hrel _ _ _ _ r rz) q2
/-- f(e, .., k = v, ..) -/
theorem re_callK (F : FnRef X.prog X.w X.K X.mg X.base k f fd ps mf) (hr : Room k X.A) (hg : Gl X x) (hm : X.mg x = some (.ref f)) (hk : PySem.W.keepIn X.K (.ref f) = true) (tkx : Takes X W) (hb : BindD X.K fd ps n ks gd)
    (ha : RA X W (e :: es) ma) (hkw : RK X W kws mk) (hn : (e :: es).length = n := by rfl) (hkn : kws.length = ks.length := by rfl) (hall : (backToKw pos (keywordEach kws X.env)).all (·.1.isSome) = true := by rfl) (hks : (backToKw pos (keywordEach kws X.env)).filterMap (·.1) = ks := by rfl)
    (hdb : (x == ("__debug__" : Str)) = false := by decide) (he : starEach (e :: es) X.env = (false, eval e X.env) :: starEach es X.env := by rfl)
    (hpl : ((backTo pos (starEach (e :: es) X.env)).any (·.1) || (backToKw pos (keywordEach kws X.env)).any (·.1.isNone)) = false := by rfl) :
    RE X W (.Call (.Name x p) (e :: es) kws pos) (mCallK gd mf ma mk) := by
  obtain ⟨g, gV, b1, b2, b3⟩ := hb.ex
  obtain ⟨t, a1, a2, a3⟩ := ha
  obtain ⟨u, k1, k2, k3⟩ := hkw
  refine ⟨_, pe_callW F hr hg hm hk tkx b1 b2 a1 k1 hall hks hdb he hpl, fun mp lh ls σ H Q rp rs q => ?_⟩
  unfold mCallK at q
  cases hma : ma ls lh with
  | bad => rw [hma] at q; exact q.elim
  | ex x lh1 => rw [hma] at q; exact a2 mp lh ls σ H _ rp rs (by rw [hma]; exact q)
  | ok ds lh1 =>
    have l1 := a3 _ _ _ _ hma
    rw [hma] at q
    refine a2 mp lh ls σ H _ rp rs (by
      rw [hma]
      intro mp1 H1 vs e1 r1 rl1
      refine k2 mp1 lh1 ls σ H1 _ r1 (rs.ext e1) ?_
      change PostG X.K (RelD X.K) mp H ((mk ls lh1).bind fun es h2 => mf (gd ds es) h2) Q (WE W σ) at q
      have q := PostG.ext q e1
      cases hmk : mk ls lh1 with
      | bad => rw [hmk] at q; exact q.elim
      | ex x lh2 => rw [hmk] at q; exact q
      | ok es' lh2 =>
        have l2 := k3 _ _ _ _ hmk
        rw [hmk] at q
        intro mp2 H2 zs e2 r2 rl2
        have l1' : ds.length = n := l1.trans hn
        have l2' : es'.length = ks.length := l2.trans hkn
        obtain ⟨z1, z2⟩ := b3 mp2 H2 ds vs es' zs l1' l2' (rl1.ext e2) rl2
        exact ⟨by rw [← rl1.length]; exact l1', by rw [← rl2.length]; exact l2', mp2, lh2, gd ds es', r2, z1, z2, PostG.ext q e2⟩)
/-- f(e, ..) -/
theorem re_call (F : FnRef X.prog X.w X.K X.mg X.base k f fd ps mf) (hr : Room k X.A) (hg : Gl X x) (hm : X.mg x = some (.ref f)) (hk : PySem.W.keepIn X.K (.ref f) = true) (tkx : Takes X W) (hb : Binds X.K fd ps [])
    (ha : RA X W (e :: es) ma) (hn : (e :: es).length = ps.length := by rfl)
    (hdb : (x == ("__debug__" : Str)) = false := by decide) (he : starEach (e :: es) X.env = (false, eval e X.env) :: starEach es X.env := by rfl)
    (hpl : ((backTo pos (starEach (e :: es) X.env)).any (·.1) || (backToKw pos (keywordEach [] X.env)).any (·.1.isNone)) = false := by rfl) :
    RE X W (.Call (.Name x p) (e :: es) [] pos) (mCall mf ma) := by
  obtain ⟨t, a1, a2⟩ := re_callK (p := p) (pos := pos) F hr hg hm hk tkx (bindD_all hb) ha rk_nil hn rfl rfl rfl hdb he hpl
  refine ⟨t, a1, fun mp lh ls σ H Q rp rs q => a2 mp lh ls σ H Q rp rs ?_⟩
  unfold mCallK
  unfold mCall at q
  cases hma : ma ls lh with
  | bad => rw [hma] at q; exact q
  | ex x lh1 => rw [hma] at q; exact q
  | ok ds lh1 => rw [hma] at q; exact q
end

/-! ### methods, instances -/
def insOf (c n : Nat) (h : LH) : Bool := match h[n]? with
  | some (.ins c' _) => c' == c
  | _ => false
def mMeth (c : Nat) (m : FM) (mo : EM) (ma : AM) : EM := fun ls h => (mo ls h).bind fun d h1 => match d with
  | .ref n => if insOf c n h1 = true then (ma ls h1).bind fun ds h2 => m (.ref n :: ds) h2 else .bad
  | _ => .bad
def mMake (c : Nat) (gd : List D → List D → List D) (m : FM) (ma mk : AM) : EM := fun ls h => (ma ls h).bind fun ds h1 => (mk ls h1).bind fun es h2 => (m (gd (.ref h2.length :: ds) es) (h2 ++ [.ins c []])).bind fun r h3 => match r with
  | .non => .ok (.ref h2.length) h3
  | _ => .bad
theorem insOf_of {c n : Nat} {h : LH} (e : insOf c n h = true) : ∃ fs, h[n]? = some (.ins c fs) := by
  unfold insOf at e
  split at e
  · rename_i c' fs hn
    have : c' = c := by simpa using e
    subst this; exact ⟨fs, hn⟩
  · cases e
/-- no field is named so -/
def noFld (m : Str) (h : LH) : Prop := True
section
variable {X : Cx} {W : WX} {k n c : Nat} {f : Addr} {fd : FuncData} {ps ks : List Str} {sp : Sp} {x m : Str} {p pos apos : Pos} {e o : Expr} {es : List Expr} {kws : List Keyword} {mo : EM} {ma mk : AM} {gd : List D → List D → List D} {mf : FM}
theorem pe_methW {pl : Sem Bool} {ta : TE} {t : TA} {C : Addr} (he : PE X o ta) (hc : Cls X.K C) (hm : Meth X.K C m f) (F : FnOk X.prog X.w X.K X.mg X.base (L2.CX X.prog X.w) k f fd ps sp) (hr : Room k X.A) (hb : Binds X.K fd ps []) (tkx : Takes X W) (ha : PA X (e :: es) t)
    (hst : starEach (e :: es) X.env = (false, eval e X.env) :: starEach es X.env) (hpl : (backTo pos (starEach es X.env)).any (·.1) = false)
    (ht : eval (.Call (.Attribute o m apos) (e :: es) [] pos) X.env = (do
      let ov ← eval o X.env
      standAt apos.atName
      let (f, first) ← holding [ov] (getMethod ov m pl)
      callWith pos f first (backTo pos (starEach (e :: es) X.env)) (backToKw pos (keywordEach [] X.env)))) :
    PE X (.Call (.Attribute o m apos) (e :: es) [] pos) (fun σ H Q => ta σ H fun x H1 => ∃ a dx fs, x = .ref a ∧ H1 a = some (.ins C dx fs) ∧ fs.lookup m = none ∧ t σ H1 fun vs H2 => sp (x :: vs) H2 Q (WE W σ)) := by
  refine ⟨fun pins s σ H Q I h => ?_⟩
  refine PySem.W.methodCall_KW (pl := pl) (thn (he.run pins s σ H _ I h) fun u s1 ⟨x, H1, I1, rx, a, dx, fs, ex, ea, l, q⟩ => ?_) ht
  subst ex
  obtain rfl : u = Value.ref a := rx
  refine getmeth_ok I1 ea hc hm l ?_
  refine PySem.W.callWith_K (first := [.ref a]) (h₀ := X.base) I.ok.mod.kin hm.kp (thn (ha.run pos pins s1 σ H1 _ I1 q) fun us s2 ⟨vs, H2, I2, r, q2⟩ => ⟨I2.kIn, ?_⟩) hst hpl
  exact run_fnS (E := WE W) (us := .ref a :: us) (vs := .ref a :: vs) F hr hb (passAt tkx σ) I2 (.cons rfl r) q2
theorem pe_methW0 {pl : Sem Bool} {ta : TE} {C : Addr} (he : PE X o ta) (hc : Cls X.K C) (hm : Meth X.K C m f) (F : FnOk X.prog X.w X.K X.mg X.base (L2.CX X.prog X.w) k f fd ps sp) (hr : Room k X.A) (hb : Binds X.K fd ps []) (tkx : Takes X W)
    (ht : eval (.Call (.Attribute o m apos) [] [] pos) X.env = (do
      let ov ← eval o X.env
      standAt apos.atName
      let (f, first) ← holding [ov] (getMethod ov m pl)
      callWith pos f first (backTo pos (starEach [] X.env)) (backToKw pos (keywordEach [] X.env)))) :
    PE X (.Call (.Attribute o m apos) [] [] pos) (fun σ H Q => ta σ H fun x H1 => ∃ a dx fs, x = .ref a ∧ H1 a = some (.ins C dx fs) ∧ fs.lookup m = none ∧ sp [x] H1 Q (WE W σ)) := by
  refine ⟨fun pins s σ H Q I h => ?_⟩
  refine PySem.W.methodCall_KW (pl := pl) (thn (he.run pins s σ H _ I h) fun u s1 ⟨x, H1, I1, rx, a, dx, fs, ex, ea, l, q⟩ => ?_) ht
  subst ex
  obtain rfl : u = Value.ref a := rx
  refine getmeth_ok I1 ea hc hm l ?_
  exact PySem.W.callWith_K0 (first := [.ref a]) I1.kIn hm.kp (run_fnS (E := WE W) (us := [.ref a]) (vs := [.ref a]) F hr hb (passAt tkx σ) I1 (.cons rfl .nil) q)
/-- fields have the names of the table alone -/
theorem lookup_fs {K : PySem.W.Frag} {mp : List Addr} {H : Hp} {m : Str} (hm : ∀ i, nm i ≠ m) : ∀ {fs : List (Nat × D)} {gs : List (Str × V)}, Paired (fun (p : Nat × D) (q : Str × V) => q.1 = nm p.1 ∧ RelD K mp H p.2 q.2) fs gs → gs.lookup m = none
  | _, _, .nil => rfl
  | _, _, .cons (a := a) (b := b) h r => by
    obtain ⟨b1, b2⟩ := b
    rw [List.lookup_cons]
    have : (m == b1) = false := by
      rw [beq_eq_false_iff_ne]
      intro z; exact hm a.1 (by rw [← h.1]; exact z.symm)
    rw [this]; exact lookup_fs hm r
theorem re_meth {pl : Sem Bool} (ho : RE X W o mo) (hc : Cls X.K (clsA X.K c)) (hm : Meth X.K (clsA X.K c) m f) (hnm : ∀ i, nm i ≠ m) (F : FnRef X.prog X.w X.K X.mg X.base k f fd ps mf) (hr : Room k X.A) (hb : Binds X.K fd ps []) (tkx : Takes X W) (ha : RA X W (e :: es) ma)
    (hn : (e :: es).length + 1 = ps.length := by rfl) (hst : starEach (e :: es) X.env = (false, eval e X.env) :: starEach es X.env := by rfl) (hpl : (backTo pos (starEach es X.env)).any (·.1) = false := by rfl)
    (ht : eval (.Call (.Attribute o m apos) (e :: es) [] pos) X.env = (do
      let ov ← eval o X.env
      standAt apos.atName
      let (f, first) ← holding [ov] (getMethod ov m pl)
      callWith pos f first (backTo pos (starEach (e :: es) X.env)) (backToKw pos (keywordEach [] X.env))) := by rfl) :
    RE X W (.Call (.Attribute o m apos) (e :: es) [] pos) (mMeth c mf mo ma) := by
  obtain ⟨to, o1, o2⟩ := ho
  obtain ⟨t, a1, a2, a3⟩ := ha
  refine ⟨_, pe_methW o1 hc hm F hr hb tkx a1 hst hpl ht, fun mp lh ls σ H Q rp rs q => o2 mp lh ls σ H _ rp rs (q.bind fun mp1 H1 lh1 d v e1 r1 rl1 q1 => ?_)⟩
  cases rl1 with
  | @ref n a hna =>
    cases hi : insOf c n lh1 with
    | false => simp only [hi] at q1; exact q1.elim
    | true =>
      simp only [hi, if_true] at q1
      obtain ⟨fs, hfs⟩ := insOf_of hi
      obtain ⟨dx, gs, ha', pg⟩ := r1.obj n _ a hfs hna
      refine ⟨a, dx, gs, rfl, ha', lookup_fs hnm pg, a2 mp1 lh1 ls σ H1 _ r1 (rs.ext e1) ?_⟩
      cases hma : ma ls lh1 with
      | bad => rw [hma] at q1; exact q1.elim
      | ex x lh2 => rw [hma] at q1; exact q1
      | ok ds lh2 =>
        rw [hma] at q1
        intro mp2 H2 vs e2 r2 rl2
        exact ⟨mp2, lh2, .ref n :: ds, r2, .cons (.ref (e2.get hna)) rl2, by rw [List.length_cons, a3 _ _ _ _ hma]; exact hn, PostG.ext q1 e2⟩
  | _ => exact q1.elim
theorem re_meth0 {pl : Sem Bool} (ho : RE X W o mo) (hc : Cls X.K (clsA X.K c)) (hm : Meth X.K (clsA X.K c) m f) (hnm : ∀ i, nm i ≠ m) (F : FnRef X.prog X.w X.K X.mg X.base k f fd ps mf) (hr : Room k X.A) (hb : Binds X.K fd ps []) (tkx : Takes X W)
    (hn : 1 = ps.length := by rfl)
    (ht : eval (.Call (.Attribute o m apos) [] [] pos) X.env = (do
      let ov ← eval o X.env
      standAt apos.atName
      let (f, first) ← holding [ov] (getMethod ov m pl)
      callWith pos f first (backTo pos (starEach [] X.env)) (backToKw pos (keywordEach [] X.env))) := by rfl) :
    RE X W (.Call (.Attribute o m apos) [] [] pos) (mMeth c mf mo mNil) := by
  obtain ⟨to, o1, o2⟩ := ho
  refine ⟨_, pe_methW0 o1 hc hm F hr hb tkx ht, fun mp lh ls σ H Q rp rs q => o2 mp lh ls σ H _ rp rs (q.bind fun mp1 H1 lh1 d v e1 r1 rl1 q1 => ?_)⟩
  cases rl1 with
  | @ref n a hna =>
    cases hi : insOf c n lh1 with
    | false => simp only [hi] at q1; exact q1.elim
    | true =>
      simp only [hi, if_true] at q1
      obtain ⟨fs, hfs⟩ := insOf_of hi
      obtain ⟨dx, gs, ha', pg⟩ := r1.obj n _ a hfs hna
      exact ⟨a, dx, gs, rfl, ha', lookup_fs hnm pg, mp1, lh1, [.ref n], r1, .cons (.ref hna) .nil, hn, q1⟩
  | _ => exact q1.elim
end
end Rf
set_option Elab.async false
set_option linter.all false
set_option maxRecDepth 100000
set_option maxHeartbeats 4000000
set_option autoImplicit false
/-! The functional layer: names are unlike; instances made, their fields; raise; try. -/
namespace Rf
open PySem PySem.Spec L2

theorem nmS_size : ∀ (i : Nat) x, nmL[i]? = some x → (Str.ofString x).cps.size ≠ 1 := by
  have h : (List.range 60).all (fun i => match nmL[i]? with | some x => decide ((Str.ofString x).cps.size ≠ 1) | none => true) = true := by decide +kernel
  intro i x e
  have hi : i < 60 := by
    have := (List.getElem?_eq_some_iff.mp e).1
    have hl : nmL.length ≤ 60 := by decide
    omega
  have := List.all_eq_true.mp h i (List.mem_range.mpr hi)
  rw [e] at this
  exact of_decide_eq_true this
theorem nm_inj {i j : Nat} (h : nm i = nm j) : i = j := by
  have tab : (List.range 60).all (fun i => (List.range 60).all fun j => match nmL[i]?, nmL[j]? with | some x, some y => decide (i = j) || decide (Str.ofString x ≠ Str.ofString y) | _, _ => true) = true := by decide +kernel
  unfold nm at h
  have lt : ∀ {i : Nat} {x : String}, nmL[i]? = some x → i < 60 := fun {i x} e => by
    have := (List.getElem?_eq_some_iff.mp e).1
    have hl : nmL.length ≤ 60 := by decide
    omega
  cases ei : nmL[i]? with
  | none =>
    cases ej : nmL[j]? with
    | none => rw [ei, ej] at h; simpa using h
    | some y => rw [ei, ej] at h; exact absurd (congrArg (fun s => s.cps.size) h).symm (nmS_size j y ej)
  | some x =>
    cases ej : nmL[j]? with
    | none => rw [ei, ej] at h; exact absurd (congrArg (fun s => s.cps.size) h) (nmS_size i x ei)
    | some y =>
      rw [ei, ej] at h
      have t1 := List.all_eq_true.mp (List.all_eq_true.mp tab i (List.mem_range.mpr (lt ei))) j (List.mem_range.mpr (lt ej))
      simp only [ei, ej, Bool.or_eq_true] at t1
      rcases t1 with t | t
      · exact of_decide_eq_true t
      · exact absurd h (of_decide_eq_true t)
/-- a method's name is no field's -/
theorem nm_ne {m : Str} (h : (nmL.all fun x => decide (Str.ofString x ≠ m)) = true) (hs : m.cps.size ≠ 1) : ∀ i, nm i ≠ m := fun i e => by
  unfold nm at e
  cases ei : nmL[i]? with
  | none => rw [ei] at e; exact hs (by rw [← e]; rfl)
  | some x => rw [ei] at e; exact of_decide_eq_true (List.all_eq_true.mp h x (List.mem_of_getElem? ei)) e

/-! ### instances made -/
section
variable {X : Cx} {W : WX} {k n c : Nat} {f : Addr} {fd : FuncData} {ps ks : List Str} {sp : Sp} {x m : Str} {p pos apos : Pos} {e o : Expr} {es : List Expr} {kws : List Keyword} {mo : EM} {ma mk : AM} {gd : List D → List D → List D} {mf : FM}
theorem run_makeW {g : List Value → List Value → List Value} {gV : List V → List V → List V} {C : Addr} {pins : List (Addr × Obj)} {σ : L2.St} {H : Hp} {s : Shared} {Q : VK} {us ws : List Value} {vs zs : List V} (M : Mk X.K C f) (F : FnOk X.prog X.w X.K X.mg X.base (L2.CX X.prog X.w) k f fd ps sp) (hr : Room (k + 1) X.A)
    (hto : ∀ (s : Shared) (us ws : List Value), X.K.In s.heap → us.length = n + 1 → ws.length = ks.length → BindsTo s fd ⟨us, ks.zip ws⟩ (ps.zip (g us ws))) (hrel : ∀ vs us zs ws, Vals vs us → Vals zs ws → Vals (gV vs zs) (g us ws)) (tkx : Takes X W)
    (I : Inv X pins σ H s) (r : Vals vs us) (rz : Vals zs ws) (l1 : vs.length = n) (l2 : zs.length = ks.length)
    (h : ∀ x dx, H x = none → H dx = none → dx ≠ x → sp (gV (.ref x :: vs) zs) (upd (upd H dx (.own x)) x (.ins C dx [])) (fun v H2 => v = .non ∧ Q (.ref x) H2) (WE W σ)) :
    wpAny (model X.prog X.w) X.A (call (.ref C) us (ks.zip ws)) (EP X pins σ Q) X.xe s := by
  have hq := h (s.heap.objs.size + 1) s.heap.objs.size (I.hok.fresh (Nat.le_succ _)) (I.hok.fresh (Nat.le_refl _)) (Nat.ne_of_lt (Nat.lt_succ_self _))
  have I2 := Inv.made (C := C) I
  have r1 : Vals (V.ref (s.heap.objs.size + 1) :: vs) (Value.ref (s.heap.objs.size + 1) :: us) := .cons rfl r
  have r2 := hrel _ _ _ _ r1 rz
  have n1 : (Value.ref (s.heap.objs.size + 1) :: us).length = n + 1 := by
    rw [List.length_cons, ← r.length, l1]
  refine wpAny_call (make_map (f := f) I.kIn M.makes M.init (beq_iff_eq.mp M.fn) (codeAny_mono (F.run _ X.stack _ _ ⟨Value.ref (s.heap.objs.size + 1) :: us, ks.zip ws⟩ (g (Value.ref (s.heap.objs.size + 1) :: us) ws) _ _ (WE W σ) (hr.make C us (ks.zip ws))
    (I2.env0.make C us (ks.zip ws)) (hto _ (Value.ref (s.heap.objs.size + 1) :: us) ws I2.kIn n1 (rz.length.symm.trans l2)) r2 hq) fun r s' hq' => ?_))
  cases r with
  | error e => exact passAt tkx σ pins _ _ e s' I2 hq'
  | ok fl =>
    cases fl with
    | ret u =>
      obtain ⟨v, H', I3, rv, ev, q3⟩ := I2.after hq'
      subst ev
      exact ⟨rv, ⟨V.ref (s.heap.objs.size + 1), H', I3, rfl, q3⟩⟩
    | next => exact False.elim hq'
    | brk => exact False.elim hq'
    | cont => exact False.elim hq'
theorem pe_makeW {g : List Value → List Value → List Value} {gV : List V → List V → List V} {C : Addr} {t tk : TA} (M : Mk X.K C f) (F : FnOk X.prog X.w X.K X.mg X.base (L2.CX X.prog X.w) k f fd ps sp) (hr : Room (k + 1) X.A) (hg : Gl X x) (hm : X.mg x = some (.ref C))
    (hto : ∀ (s : Shared) (us ws : List Value), X.K.In s.heap → us.length = n + 1 → ws.length = ks.length → BindsTo s fd ⟨us, ks.zip ws⟩ (ps.zip (g us ws))) (hrel : ∀ vs us zs ws, Vals vs us → Vals zs ws → Vals (gV vs zs) (g us ws)) (tkx : Takes X W)
    (ha : PA X (e :: es) t) (hkw : PK X kws tk)
    (hall : (backToKw pos (keywordEach kws X.env)).all (·.1.isSome) = true) (hks : (backToKw pos (keywordEach kws X.env)).filterMap (·.1) = ks) (hdb : (x == ("__debug__" : Str)) = false)
    (he : starEach (e :: es) X.env = (false, eval e X.env) :: starEach es X.env) (hpl : ((backTo pos (starEach (e :: es) X.env)).any (·.1) || (backToKw pos (keywordEach kws X.env)).any (·.1.isNone)) = false) :
    PE X (.Call (.Name x p) (e :: es) kws pos) (fun σ H Q => t σ H fun vs H1 => tk σ H1 fun zs H2 => vs.length = n ∧ zs.length = ks.length ∧ ∀ x dx, H2 x = none → H2 dx = none → dx ≠ x →
      sp (gV (.ref x :: vs) zs) (upd (upd H2 dx (.own x)) x (.ins C dx [])) (fun v H3 => v = .non ∧ Q (.ref x) H3) (WE W σ)) := by
  refine ⟨fun pins s σ H Q I h => ?_⟩
  refine wpAny_Call_Name_kw (ld_glob I hg hm ?_ hdb)
  refine PySem.W.callWith_KW (h₀ := X.base) I.ok.mod.kin M.kp hall (thn (ha.run pos pins s σ H _ I h) fun us s1 ⟨vs, H1, I1, r, q⟩ => ?_) hpl he
  refine thn (hkw.run pos pins s1 σ H1 _ I1 q) fun ws s2 ⟨zs, H2, I2, rz, l1, l2, q2⟩ => ⟨I2.kIn, ?_⟩
  rw [hks]
  exact run_makeW M F hr hto hrel tkx I2 r rz l1 l2 q2
/-- C(e, .., k = v, ..) -/
theorem re_make (M : Mk X.K (clsA X.K c) f) (F : FnRef X.prog X.w X.K X.mg X.base k f fd ps mf) (hr : Room (k + 1) X.A) (hg : Gl X x) (hm : X.mg x = some (.ref (clsA X.K c))) (hb : BindD X.K fd ps (n + 1) ks gd) (tkx : Takes X W)
    (ha : RA X W (e :: es) ma) (hkw : RK X W kws mk) (hn : (e :: es).length = n := by rfl) (hkn : kws.length = ks.length := by rfl)
    (hall : (backToKw pos (keywordEach kws X.env)).all (·.1.isSome) = true := by rfl) (hks : (backToKw pos (keywordEach kws X.env)).filterMap (·.1) = ks := by rfl) (hdb : (x == ("__debug__" : Str)) = false := by decide)
    (he : starEach (e :: es) X.env = (false, eval e X.env) :: starEach es X.env := by rfl) (hpl : ((backTo pos (starEach (e :: es) X.env)).any (·.1) || (backToKw pos (keywordEach kws X.env)).any (·.1.isNone)) = false := by rfl) :
    RE X W (.Call (.Name x p) (e :: es) kws pos) (mMake c gd mf ma mk) := by
  obtain ⟨g, gV, b1, b2, b3⟩ := hb.ex
  obtain ⟨t, a1, a2, a3⟩ := ha
  obtain ⟨u, k1, k2, k3⟩ := hkw
  refine ⟨_, pe_makeW M F hr hg hm b1 b2 tkx a1 k1 hall hks hdb he hpl, fun mp lh ls σ H Q rp rs q => a2 mp lh ls σ H _ rp rs ?_⟩
  unfold mMake at q
  cases hma : ma ls lh with
  | bad => rw [hma] at q; exact q.elim
  | ex x lh1 => rw [hma] at q; exact q
  | ok ds lh1 =>
    have l1 : ds.length = n := (a3 _ _ _ _ hma).trans hn
    rw [hma] at q
    intro mp1 H1 vs e1 r1 rl1
    refine k2 mp1 lh1 ls σ H1 _ r1 (rs.ext e1) ?_
    change PostG X.K (RelD X.K) mp H ((mk ls lh1).bind _) Q (WE W σ) at q
    have q := PostG.ext q e1
    cases hmk : mk ls lh1 with
    | bad => rw [hmk] at q; exact q.elim
    | ex x lh2 => rw [hmk] at q; exact q
    | ok es' lh2 =>
      have l2 : es'.length = ks.length := (k3 _ _ _ _ hmk).trans hkn
      rw [hmk] at q
      intro mp2 H2 zs e2 r2 rl2
      have q := PostG.ext q e2
      refine ⟨by rw [← rl1.length]; exact l1, by rw [← rl2.length]; exact l2, fun x dx hx hdx hne => ?_⟩
      have f1 : Ext X.K mp2 H2 mp2 (upd H2 dx (.own x)) := .free hdx
      have r3 := r2.free (o := .own x) hdx
      have hx1 : upd H2 dx (.own x) x = none := by rw [upd_ne (Ne.symm hne)]; exact hx
      have r4 : Rep X.K (mp2 ++ [x]) (lh2 ++ [.ins c []]) (upd (upd H2 dx (.own x)) x (.ins (clsA X.K c) dx [])) := r3.alloc hx1 ⟨dx, [], upd_same, .nil⟩
      have f2 : Ext X.K mp2 (upd H2 dx (.own x)) (mp2 ++ [x]) (upd (upd H2 dx (.own x)) x (.ins (clsA X.K c) dx [])) := .alloc r3 hx1
      have f12 := f1.trans f2
      have hxn : (mp2 ++ [x])[lh2.length]? = some x := by rw [← r2.len]; simp
      obtain ⟨z1, z2⟩ := b3 (mp2 ++ [x]) _ (.ref lh2.length :: ds) (.ref x :: vs) es' zs (by simp [l1]) l2 (.cons (.ref hxn) (((rl1.ext e2).ext f12))) (rl2.ext f12)
      refine ⟨mp2 ++ [x], _, _, r4, z1, z2, ?_⟩
      have q : PostG X.K (RelD X.K) _ _ ((mf (gd (.ref lh2.length :: ds) es') (lh2 ++ [.ins c []])).bind fun r h3 => match r with
        | .non => .ok (.ref lh2.length) h3
        | _ => .bad) Q (WE W σ) := PostG.ext q f12
      refine q.bind fun mp5 H5 lh5 d v e5 r5 rl5 q5 => ?_
      cases rl5 with
      | non => exact ⟨rfl, q5.now r5 (.ref (e5.get hxn))⟩
      | _ => exact q5.elim
end

/-! ### fields -/
def fldOf (cs : List Nat) (i n : Nat) (h : LH) : Option D := match h[n]? with
  | some (.ins c fs) => if cs.contains c = true then fs.lookup i else none
  | _ => none
def mFld (cs : List Nat) (i : Nat) (mo : EM) : EM := fun ls h => (mo ls h).bind fun d h1 => match d with
  | .ref n => (match fldOf cs i n h1 with
    | some v => .ok v h1
    | none => .bad)
  | _ => .bad
def putN (i : Nat) (d : D) : List (Nat × D) → List (Nat × D)
  | [] => [(i, d)]
  | (j, x) :: r => if j = i then (j, d) :: r else (j, x) :: putN i d r
def setFld (cs : List Nat) (i n : Nat) (d : D) (h : LH) : Option LH := match h[n]? with
  | some (.ins c fs) => if (cs.contains c && Nat.blt fs.length 900) = true then some (h.set n (.ins c (putN i d fs))) else none
  | _ => none
def mSetFld (cs : List Nat) (i : Nat) (mo me : EM) : SM := fun ls h => liftE (me ls h) ls fun d h1 => liftE (mo ls h1) ls fun o h2 => match o with
  | .ref n => (match setFld cs i n d h2 with
    | some h3 => .nx ls h3
    | none => .bad)
  | _ => .bad
section
variable {K : PySem.W.Frag} {mp : List Addr} {H : Hp}
theorem lookup_fld {i : Nat} {d : D} : ∀ {fs : List (Nat × D)} {gs : List (Str × V)}, Paired (fun (p : Nat × D) (q : Str × V) => q.1 = nm p.1 ∧ RelD K mp H p.2 q.2) fs gs → fs.lookup i = some d → ∃ v, gs.lookup (nm i) = some v ∧ RelD K mp H d v
  | _, _, .nil, h => by simp at h
  | _, _, .cons (a := a) (b := b) h r, e => by
    obtain ⟨j, x⟩ := a
    obtain ⟨b1, b2⟩ := b
    rw [List.lookup_cons] at e ⊢
    by_cases ij : i = j
    · subst ij
      have : (nm i == b1) = true := by rw [beq_iff_eq]; exact h.1.symm
      rw [this]
      simp at e; subst e
      exact ⟨b2, rfl, h.2⟩
    · have e1 : (i == j) = false := by simpa using ij
      rw [e1] at e
      have : (nm i == b1) = false := by
        rw [beq_eq_false_iff_ne]
        intro z; exact ij (nm_inj (z.trans h.1))
      rw [this]
      exact lookup_fld r e
theorem put_fld {i : Nat} {d : D} {v : V} (rd : RelD K mp H d v) : ∀ {fs : List (Nat × D)} {gs : List (Str × V)}, Paired (fun (p : Nat × D) (q : Str × V) => q.1 = nm p.1 ∧ RelD K mp H p.2 q.2) fs gs → Paired (fun (p : Nat × D) (q : Str × V) => q.1 = nm p.1 ∧ RelD K mp H p.2 q.2) (putN i d fs) (putF (nm i) v gs)
  | _, _, .nil => .cons ⟨rfl, rd⟩ .nil
  | _, _, .cons (a := a) (b := b) h r => by
    obtain ⟨j, x⟩ := a
    obtain ⟨b1, b2⟩ := b
    unfold putN putF
    by_cases ij : j = i
    · subst ij
      have hb : b1 = nm j := h.1
      rw [if_pos rfl, if_pos hb]
      exact .cons ⟨hb, rd⟩ r
    · have hb : ¬ (b1 = nm i) := fun z => ij (nm_inj (h.1.symm.trans z))
      rw [if_neg ij, if_neg hb]
      exact .cons h (put_fld rd r)
end
theorem paired_len {α β : Type} {F : α → β → Prop} : ∀ {l : List α} {m : List β}, Paired F l m → l.length = m.length
  | _, _, .nil => rfl
  | _, _, .cons _ r => by simp [paired_len r]
section
variable {X : Cx} {W : WX} {o value : Expr} {f : Str} {mo me : EM} {pos pos' tpos : Pos} {cs : List Nat} {i : Nat}
theorem re_fld (ho : RE X W o mo) (hf : nm i = f) (hc : ∀ c ∈ cs, Cls X.K (clsA X.K c) ∧ NoAttr X.K (clsA X.K c) f) (hb : attributeBase o f X.env (eval o X.env) = eval o X.env := by rfl) : RE X W (.Attribute o f pos) (mFld cs i mo) := by
  obtain ⟨t, a1, a2⟩ := ho
  refine ⟨_, pe_fld a1 hb, fun mp lh ls σ H Q rp rs q => a2 mp lh ls σ H _ rp rs (q.bind fun mp1 H1 lh1 d v e1 r1 rl1 q1 => ?_)⟩
  cases rl1 with
  | @ref n a hna =>
    cases hv : fldOf cs i n lh1 with
    | none => simp only [hv] at q1; exact q1.elim
    | some d =>
      simp only [hv] at q1
      unfold fldOf at hv
      split at hv
      · rename_i c fs hn
        split at hv
        · rename_i hcs
          obtain ⟨dx, gs, ha, pg⟩ := r1.obj n _ a hn hna
          obtain ⟨v, hv2, rv⟩ := lookup_fld pg hv
          obtain ⟨h1, h2⟩ := hc c (by simpa using hcs)
          exact ⟨a, _, dx, gs, v, rfl, ha, h1, h2, by rw [← hf]; exact hv2, q1.now r1 rv⟩
        · cases hv
      · cases hv
  | _ => exact q1.elim
theorem ref_setFld {K : PySem.W.Frag} {mp : List Addr} {lh lh' : LH} {H : Hp} {n : Nat} {a : Addr} {d : D} {v : V} (r : Rep K mp lh H) (hna : mp[n]? = some a) (rd : RelD K mp H d v) (h : setFld cs i n d lh = some lh') :
    ∃ c dx gs, c ∈ cs ∧ H a = some (.ins (clsA K c) dx gs) ∧ gs.length < 1000 ∧ Ext K mp H mp (upd H a (.ins (clsA K c) dx (putF (nm i) v gs))) ∧ Rep K mp lh' (upd H a (.ins (clsA K c) dx (putF (nm i) v gs))) := by
  unfold setFld at h
  split at h
  · rename_i c fs hn
    split at h
    · rename_i hcs
      cases h
      rw [Bool.and_eq_true] at hcs
      obtain ⟨dx, gs, ha, pg⟩ := r.obj n _ a hn hna
      have hl : fs.length ≤ 899 := by simpa [Nat.blt] using hcs.2
      have ew : Ext K mp H mp (upd H a (.ins (clsA K c) dx (putF (nm i) v gs))) := .write r hna hn rfl
      refine ⟨c, dx, gs, by simpa using hcs.1, ha, by rw [← paired_len pg]; omega, ew, r.write hna hn rfl ⟨dx, _, upd_same, ?_⟩⟩
      exact Paired.imp (fun p q z => ⟨z.1, z.2.ext ew⟩) (put_fld rd pg)
    · cases h
  · cases h
theorem rs_setFld (ho : RE X W o mo) (hv : RE X W value me) (hf : nm i = f) (hc : ∀ c ∈ cs, Cls X.K (clsA X.K c) ∧ NoAttr X.K (clsA X.K c) f) (hs : swapsWith value (some (.Attribute o f pos')) pos.line X.env = pure false := by rfl) :
    RS X W (.Assign [.Attribute o f pos'] value pos) (mSetFld cs i mo me) := by
  obtain ⟨t, a1, a2⟩ := ho
  obtain ⟨u, b1, b2⟩ := hv
  refine ⟨_, ps_fld a1 b1 hs, fun mp lh ls σ H De rp rs q => b2 mp lh ls σ H _ rp rs (q.lift rs fun mp1 H1 lh1 d v e1 r1 rl1 q1 => a2 mp1 lh1 ls σ H1 _ r1 (rs.ext e1) (q1.lift (rs.ext e1) fun mp2 H2 lh2 o vo e2 r2 rl2 q2 => ?_))⟩
  cases rl2 with
  | @ref n a hna =>
    cases hv : setFld cs i n d lh2 with
    | none => simp only [hv] at q2; exact q2.elim
    | some lh3 =>
      simp only [hv] at q2
      obtain ⟨c, dx, gs, hcs, ha, hl, ew, rw'⟩ := ref_setFld r2 hna (rl1.ext e2) hv
      obtain ⟨h1, h2⟩ := hc c hcs
      exact ⟨a, _, dx, gs, rfl, ha, h1, h2, hl, by rw [← hf]; exact q2 mp2 _ σ ew rw' (((rs.ext e1).ext e2).ext ew)⟩
  | _ => exact q2.elim
end

/-! ### raise -/
def mRaise (c : Nat) : SM := fun ls h => .ex ⟨c, []⟩ ls h
section
variable {X : Cx} {W : WX} {c : Nat} {x m : Str} {j : Nat} {p p2 pos pos2 : Pos}
theorem rs_raise (hc : X.calm = true) (tkx : Takes X W) (q : PySem.W.excIn X.K (clsA X.K c) He.veBase "ValueError.__new__" = true) (gC : X.mg x = some (.ref (clsA X.K c))) (kC : PySem.W.keepIn X.K (.ref (clsA X.K c)) = true)
    (h1 : PySem.W.subIn X.K (.ref (clsA X.K c)) (.type "BaseException") = some true) (h2 : PySem.W.typeIn X.K (.ref (clsA X.K c)) = some (.type "type")) (hg : Gl X x) (hdb : (x == ("__debug__" : Str)) = false := by decide) :
    RS X W (.Raise (some (.Call (.Name x p) [.Constant (.str m) j p2] [] pos2)) none pos) (mRaise c) := by
  refine ⟨_, ps_raise hc tkx (pmk_own PySem.F.excBase_ValueError q gC kC (raises_own h1 h2) hg hdb), fun mp lh ls σ H De rp rs z => ?_⟩
  exact z mp H σ _ none .refl rp rs ⟨rfl, .inl ⟨rfl, rfl⟩⟩
end
end Rf
set_option Elab.async false
set_option linter.all false
set_option maxRecDepth 100000
set_option maxHeartbeats 4000000
set_option autoImplicit false
/-! The functional layer: try .. except X as n (the exception is kept as a logical object); isinstance. -/
namespace Rf
open PySem PySem.Spec L2

section
variable {X : Cx} {pins : List (Addr × Obj)} {σ : L2.St} {H : Hp} {s sI : Shared}
/-- an object that came behind the entry is taken up -/
theorem inv_adopt {a : Addr} {o : HO} {ob : Obj} (I : Inv X pins σ H s) (ho : ObjOk X.prog X.w (upd H a o) s.heap a o) (na : H a = none) (nL : a ≠ X.env.locals) (nF : a ∉ X.fs)
    (nC : ∀ x c, X.env.cells.lookup x = some c → c ≠ a) (n0 : X.s_0.heap.get? a = none) (np : ∀ p ∈ X.pn ++ pins, p.1 ≠ a) : Inv X pins σ (upd H a o) s := by
  have une : ∀ b, b ≠ a → upd H a o b = H b := fun b h => upd_ne h
  refine ⟨I.ok, I.os, I.bare, ?_, I.loc, I.cell, ?_, ?_, ?_, ?_, I.len⟩
  · have u := I.base
    refine ⟨u.keep, u.slot, fun b ob h1 h2 h3 => ?_, u.there, fun b xs h => ?_, fun b ob xs h => ?_, fun b ps h => ?_⟩
    · rw [une b (fun z => by rw [z, n0] at h1; cases h1)]; exact u.free b ob h1 h2 h3
    · have e := u.tups b xs h
      rw [une b (fun z => by rw [z, na] at e; cases e)]; exact e
    · have e := u.frzs b ob xs h
      rw [une b (fun z => by rw [z, na] at e; cases e)]; exact e
    · obtain ⟨more, e⟩ := u.tbls b ps h
      exact ⟨more, by rw [une b (fun z => by rw [z, na] at e; cases e)]; exact e⟩
  · rw [une _ (Ne.symm nL)]; exact I.free
  · intro x c h; rw [une _ (nC x c h)]; exact I.freeC x c h
  · intro p hp
    obtain ⟨p1, p2, p3, p4, p5⟩ := I.pin p hp
    exact ⟨p1, by rw [une _ (np p hp)]; exact p2, p3, p4, p5⟩
  · intro b u hb
    by_cases e : b = a
    · subst e; rw [upd_same] at hb; cases hb; exact ho
    · rw [une b e] at hb
      refine (I.hok b u hb).stay (fun c v _ h => h) (fun c h => ?_) fun c xs h => ?_
      · rw [une c (fun z => by rw [z, na] at h; cases h)]; exact h
      · rw [une c (fun z => by rw [z, na] at h; cases h)]; exact h
end
/-- the context of an except suite whose exception is tracked -/
abbrev suiteK (X : Cx) (a : Addr) : Cx := { X with A := X.A.mark (some (.ref a)), calm := false, xe := fun _ _ => False }
theorem inv_suiteK {X : Cx} {pins : List (Addr × Obj)} {σ : L2.St} {H : Hp} {s : Shared} (I : Inv X pins σ H s) (a : Addr) : Inv (suiteK X a) pins σ H s :=
  ⟨⟨I.ok.mod, I.ok.kind, I.ok.glob, I.ok.blt, I.ok.above, I.ok.inj, I.ok.has, I.ok.cab, (fun z => absurd (show false = true from z) Bool.false_ne_true), I.ok.frames, I.ok.stk, I.ok.exf, I.ok.bs, I.ok.bsz, I.ok.noex, I.ok.exfs, I.ok.funs, I.ok.frf⟩, I.os, I.bare, I.base, I.loc, I.cell, I.free, I.freeC, I.pin, I.hok, I.len⟩
theorem inv_unsuiteK {X : Cx} {pins : List (Addr × Obj)} {σ : L2.St} {H : Hp} {s : Shared} {a : Addr} (I : Inv (suiteK X a) pins σ H s) (ok : X.Ok) : Inv X pins σ H s :=
  ⟨ok, I.os, I.bare, I.base, I.loc, I.cell, I.free, I.freeC, I.pin, I.hok, I.len⟩
def wKeep (K : PySem.W.Frag) (c : Value) (i : Nat) (ts : TS) (Wout : WX) (De : Ends) : WX := fun cls d σ H =>
  ∃ b, PySem.W.exmOne K cls c = some b ∧ (b = true → ∀ a, H a = none → ts { nx := fun σ' H' => De.nx (σ'.set i none) H', rt := De.rt, bk := fun σ' H' => De.bk (σ'.set i none) H', ct := fun σ' H' => De.ct (σ'.set i none) H' } (σ.set i (some (.ref a))) (upd H a (ExcO a cls d))) ∧
    (b = false → Wout cls d σ H)
section
variable {X : Cx} {x n : Str} {c : Value} {i : Nat} {body suite : List Stmt} {b₀ : Stmt} {np pos pos' : Pos} {tb : WX → TS} {ts : TS} {Wout : WX}
theorem ps_try_keep (hs : X.stack = X.env :: X.outer) (hf : X.env.frame = some X.env.locals) (hN : X.N.Nodup) (hi : X.N[i]? = some n) (hln : X.env.kindOf n = some .local) (hc : Names X x c) (tk : Takes X Wout) (hex : X.ex = [])
    (hb : ∀ (W : WX) (pn : List (Addr × Obj)) (xe : Value → Shared → Prop), Takes (X.tr pn xe) W → PassesOwn (model X.prog X.w) X.A X.env xe → PSs (X.tr pn xe) body (tb W))
    (hsu : ∀ (a : Addr), PSs (suiteK X a) (b₀ :: suite) ts) :
    PS X (.Try body [.ExceptHandler (some (.Name x np)) (some n) (b₀ :: suite) pos'] [] [] pos) (fun D σ H => tb (wKeep X.K c i ts Wout D) D σ H) := by
  refine ⟨fun pins s σ H D I h => ?_⟩
  have ok := I.ok
  have hfr : X.A.frames = some (X.env :: X.outer) := by rw [ok.frames, hs]
  have hloc : Loc X.env.scope n := .inl hln
  refine PySem.wpAny_Try_except ?_
  refine wpAny_mono ((hb (wKeep X.K c i ts Wout D) (X.pn ++ pins) (fun e s₁ => wpAny (model X.prog X.w) X.A (noteFrame e X.env) (fun _ s₂ => wpAny (model X.prog X.w) X.A (setFlight e none) (fun _ s₃ =>
    wpAny (model X.prog X.w) X.A (handleBy e X.env [.ExceptHandler (some (.Name x np)) (some n) (b₀ :: suite) pos']) (SP X pins D) X.xe s₃) X.xe s₂) X.xe s₁) (fun u s' xx => ?_) PassesOwn.looking).run [] s σ H D (I.toTry _) h) (fun f s1 hsp => ?_) (fun e s1 he => he)
  · -- the catch
    obtain ⟨a, B, sI, pins', σ', H', cls, d, rfl, J', nb, up, sky, na, os, ag, b, hb1, hyes, hno⟩ := xx
    have J : Inv X pins σ' H' sI := J'.ofTry ok
    have sky' : Sky B (X.env :: X.outer) a (Zc cls d) X.env.locals s'.heap := by rw [← hs]; exact sky
    have Ba : B.get? a = none := by
      rcases sky' with ⟨_, h2, _⟩ | ⟨_, h2, _⟩ | ⟨_, h2, _⟩ <;> exact h2
    show wpAny (model X.prog X.w) X.A (noteFrame (.ref a) X.env) _ _ _
    refine Sky.land Zc.steady hfr hf sky' fun h3 fl3 up3 => ?_
    have J3 : Inv X pins σ' H' { s' with heap := h3 } := J.landed nb fl3.1 (up.trans up3) os ag
    obtain ⟨oe3, vs3, he3, hz3, hd3⟩ := fl3.there
    have notFr : ∀ {h : Heap} {o : Obj} {vs : Array Value}, h.FunFrames B (X.env :: X.outer) → h.get? a = some o → o.data = .fields vs → a ∉ frs (X.env :: X.outer) := fun {h o vs} ff e dd hm => by
      obtain ⟨_, o', e', hnf⟩ := ff.mem hm
      rw [e] at e'; cases e'
      exact hnf _ dd
    have nfr := notFr fl3.2.2.1 he3 hd3
    have nL : a ≠ X.env.locals := fun z => nfr (List.mem_filterMap.mpr ⟨X.env, List.mem_cons_self, by rw [hf, z]⟩)
    have nF : a ∉ X.fs := fun hm => by
      obtain ⟨e, he, q⟩ := List.mem_filterMap.mp hm
      exact nfr (List.mem_filterMap.mpr ⟨e, List.mem_cons_of_mem _ he, q⟩)
    -- it is younger than all that stood
    have nI : sI.heap.get? a = none := by
      cases e : sI.heap.get? a with
      | none => rfl
      | some o =>
        have := nb a o e (by rw [hs]; exact nfr)
        rw [Ba] at this; cases this
    have n0 : X.s_0.heap.get? a = none := by
      cases e : X.s_0.heap.get? a with
      | none => rfl
      | some o =>
        obtain ⟨o', e'⟩ := J.base.there a o e (by rw [hex]; simp)
        rw [nI] at e'; cases e'
    have S3 := inv_suiteK J3 a
    refine wpAny_handleBy_cons (codeAny_handlers_test ?_) (by intro q; cases q)
    have LT : PySem.W.Looks (model X.prog X.w) h3 (typeOf (.ref a)) cls := fun A Q E s k q => wpAny_typeOf_ref (k _ _ he3) (by rw [hz3.1]; exact q)
    have LM := PySem.W.exm_one (M := model X.prog X.w) (J3.kIn) LT hb1
    have test : ∀ {Q : Value → Shared → Prop} {E : Value → Shared → Prop}, Q c { s' with heap := h3 } → wpAny (model X.prog X.w) (X.A.mark (some (.ref a))) (eval (.Name x np) X.env) Q E { s' with heap := h3 } := fun {Q E} q => by
      obtain ⟨hg, hdbg, hm | ⟨hm, hv, hnn⟩⟩ := hc
      · exact ld_glob (X := suiteK X a) S3 hg hm q hdbg
      · exact ld_blt (X := suiteK X a) S3 hg hm hv q hnn hdbg
    refine test (LM.here ?_)
    cases b with
    | true =>
      refine codeAny_handlers_suite_as ?_
      refine HandSPX.lands_againZ fl3 fun h4 fl4 up4 => ?_
      have J4 : Inv X pins σ' H' { s' with heap := h4 } := J.landed nb fl4.1 ((up.trans up3).trans up4) os ag
      obtain ⟨oe4, vs4, he4, hz4, hd4⟩ := fl4.there
      have J5 : Inv X pins σ' (upd H' a (ExcO a cls d)) { s' with heap := h4 } := inv_adopt (ob := oe4) J4 ⟨⟨oe4, vs4, he4, hz4, hd4⟩, ⟨oe4, he4⟩, fun g1 g2 ⟨o, vs, q1, q2, q3⟩ k => ⟨o, vs, k _ q1, q2, q3⟩⟩ na nL nF
        (fun x c h z => by obtain ⟨v, q⟩ := J.cell x c h; rw [z] at q; obtain ⟨o, q, _⟩ := q; rw [nI] at q; cases q) n0 (fun p hp z => by have := (J.pin p hp).1; rw [z, nI] at this; cases this)
      have S4 := inv_suiteK J5 a
      refine store_ok (X := suiteK X a) (v := .ref a) S4 hN hi hloc rfl (fun s5 S5 => ?_) (.inr hln)
      refine wpAny_mono ((hsu a).run pins s5 _ _ _ S5 (hyes rfl a na)) (fun f s6 hsp => ?_) (fun _ _ z => False.elim z)
      have end_ : ∀ {σ6 : L2.St} {H6 : Hp} {Q : Shared → Prop}, Inv (suiteK X a) pins σ6 H6 s6 → (∀ s7, Inv X pins (σ6.set i none) H6 s7 → Q s7) →
          wpAny (model X.prog X.w) X.A (do bindName X.env n .none; unbindBehindTheSuite X.env n pos') (fun _ s7 => Q s7) X.xe s6 := fun {σ6 H6 Q} S6 hq => gone_ok (inv_unsuiteK S6 ok) hN hi hln hq
      cases f with
      | next =>
        obtain ⟨σ6, H6, S6, q6⟩ := hsp
        exact end_ S6 fun s7 J7 => ⟨_, _, J7, q6⟩
      | brk =>
        obtain ⟨σ6, H6, S6, q6⟩ := hsp
        exact end_ S6 fun s7 J7 => ⟨_, _, J7, q6⟩
      | cont =>
        obtain ⟨σ6, H6, S6, q6⟩ := hsp
        exact end_ S6 fun s7 J7 => ⟨_, _, J7, q6⟩
      | ret u =>
        obtain ⟨v6, σ6, H6, S6, r6, q6⟩ := hsp
        exact end_ S6 fun s7 J7 => ⟨_, _, _, J7, r6, q6⟩
    | false =>
      show wpAny _ X.A (handleBy (.ref a) X.env []) _ _ _
      refine wpAny_handleBy_nil ?_
      obtain ⟨k1, k2, k3, oe, vs, T, oT, ts', he, hz, hd, h1, hr⟩ := id fl3
      unfold PySem.passOn
      refine wpAny_bind (wpAny_field he hd h1 ?_)
      rw [if_neg (show ¬ ((Value.ref T == Value.none) = true) from by simp)]
      have fin : wpAny (model X.prog X.w) X.A (setFlight (.ref a) X.env.frame) (fun _ s4 => wpAny (model X.prog X.w) X.A (throw (.ref a) : Sem Flow) (SP X pins D) X.xe s4) X.xe { s' with heap := h3 } := by
        rw [hf]
        refine HandSPX.setFlight_upZ fl3 fun h4 hh4 up4 => wpAny_throw (tk _ _ ?_)
        exact ⟨a, B, sI, pins, σ', H', cls, d, rfl, J, nb, (up.trans up3).trans up4, .inr (.inr (by rw [hs]; exact hh4)), na, os, ag, hno rfl⟩
      first
        | exact wpAny_bind (wpAny_pure (wpAny_bind fin))
        | exact wpAny_bind fin
  · cases f with
    | next =>
      obtain ⟨σ', H', J', q⟩ := hsp
      exact wpAny_execs_nil ⟨σ', H', J'.ofTry ok, q⟩
    | brk =>
      obtain ⟨σ', H', J', q⟩ := hsp
      exact ⟨σ', H', J'.ofTry ok, q⟩
    | cont =>
      obtain ⟨σ', H', J', q⟩ := hsp
      exact ⟨σ', H', J'.ofTry ok, q⟩
    | ret u =>
      obtain ⟨v, σ', H', J', r, q⟩ := hsp
      exact ⟨v, σ', H', J'.ofTry ok, r, q⟩
end

/-! ### try, refined -/
/-- the reading that a function is -/
def tsOf (K : PySem.W.Frag) (W : WX) (m : SM) : TS := fun De σ H => ∃ mp lh ls, Rep K mp lh H ∧ RelS K mp H ls σ ∧ PostS K mp H (m ls lh) De W
theorem RSs.can {X : Cx} {W : WX} {sts : List Stmt} {m : SM} (h : RSs X W sts m) : PSs X sts (tsOf X.K W m) := by
  obtain ⟨t, a, b⟩ := h
  exact ⟨fun pins s σ H De I ⟨mp, lh, ls, r, rs, q⟩ => a.run pins s σ H De I (b mp lh ls σ H De r rs q)⟩
/-- except class c as slot i: the exception is the logical object behind all that stands -/
def mTry (sub : Nat → Option Bool) (i : Nat) (b s : SM) : SM := fun ls h => match b ls h with
  | .ex x ls' h' => (match sub x.cls with
    | some true => (match s (ls'.set i (some (.ref h'.length))) (h' ++ [.exc x.cls x.fs]) with
      | .nx ls2 h2 => .nx (ls2.set i none) h2
      | .bk ls2 h2 => .bk (ls2.set i none) h2
      | .ct ls2 h2 => .ct (ls2.set i none) h2
      | .rt d h2 => .rt d h2
      | _ => .bad)
    | some false => .ex x ls' h'
    | none => .bad)
  | r => r
section
variable {X : Cx} {x n : Str} {c i : Nat} {body suite : List Stmt} {b₀ : Stmt} {np pos pos' : Pos} {W : WX} {mb ms : SM} {sub : Nat → Option Bool}
theorem rs_try (hs : X.stack = X.env :: X.outer) (hf : X.env.frame = some X.env.locals) (hN : X.N.Nodup) (hi : X.N[i]? = some n) (hln : X.env.kindOf n = some .local) (hc : Names X x (.ref (clsA X.K c))) (tk : Takes X W) (hex : X.ex = [])
    (hsub : ∀ c' b, sub c' = some b → PySem.W.exmOne X.K (.ref (clsA X.K c')) (.ref (clsA X.K c)) = some b)
    (hb : ∀ (W' : WX) (pn : List (Addr × Obj)) (xe : Value → Shared → Prop), Takes (X.tr pn xe) W' → PassesOwn (model X.prog X.w) X.A X.env xe → RSs (X.tr pn xe) W' body mb)
    (hsu : ∀ (a : Addr), RSs (suiteK X a) (fun _ _ _ _ => False) (b₀ :: suite) ms) :
    RS X W (.Try body [.ExceptHandler (some (.Name x np)) (some n) (b₀ :: suite) pos'] [] [] pos) (mTry sub i mb ms) := by
  refine ⟨_, ps_try_keep (tb := fun W' => tsOf X.K W' mb) (ts := tsOf X.K (fun _ _ _ _ => False) ms) hs hf hN hi hln hc tk hex (fun W' pn xe t p => (hb W' pn xe t p).can) (fun a => (hsu a).can), fun mp lh ls σ H De rp rs q => ⟨mp, lh, ls, rp, rs, ?_⟩⟩
  unfold mTry at q
  cases hm : mb ls lh with
  | nx ls' lh' => rw [hm] at q; exact q
  | rt d lh' => rw [hm] at q; exact q
  | bk ls' lh' => rw [hm] at q; exact q
  | ct ls' lh' => rw [hm] at q; exact q
  | bad => rw [hm] at q; exact q
  | ex x ls' lh' =>
    rw [hm] at q
    intro mp1 H1 σ1 cls dd e1 r1 rs1 rx
    have ec : cls = .ref (clsA X.K x.cls) := rx.1
    cases hb : sub x.cls with
    | none => simp only [hb] at q; exact q.elim
    | some b =>
      refine ⟨b, by rw [ec]; exact hsub _ _ hb, fun hb1 a ha => ?_, fun hb1 => ?_⟩
      · subst hb1
        simp only [hb] at q
        have q := q
        have ra : Rep X.K (mp1 ++ [a]) (lh' ++ [.exc x.cls x.fs]) (upd H1 a (ExcO a cls dd)) := r1.alloc ha ⟨dd, by rw [upd_same, ec], by
          have := rx.ext (Ext.alloc (o := ExcO a cls dd) r1 ha)
          rw [ec] at this ⊢; exact this⟩
        have ea : Ext X.K mp1 H1 (mp1 ++ [a]) (upd H1 a (ExcO a cls dd)) := Ext.alloc r1 ha
        refine ⟨mp1 ++ [a], _, ls'.set i (some (.ref lh'.length)), ra, (rs1.ext ea).set (.ref (by rw [← r1.len]; simp)), ?_⟩
        cases hs2 : ms (ls'.set i (some (.ref lh'.length))) (lh' ++ [.exc x.cls x.fs]) with
        | nx ls2 lh2 => rw [hs2] at q; exact fun m2 H2 σ2 e2 r2 rs2 => q m2 H2 _ ((e1.trans ea).trans e2) r2 rs2.unset
        | bk ls2 lh2 => rw [hs2] at q; exact fun m2 H2 σ2 e2 r2 rs2 => q m2 H2 _ ((e1.trans ea).trans e2) r2 rs2.unset
        | ct ls2 lh2 => rw [hs2] at q; exact fun m2 H2 σ2 e2 r2 rs2 => q m2 H2 _ ((e1.trans ea).trans e2) r2 rs2.unset
        | rt d lh2 => rw [hs2] at q; exact fun m2 H2 v e2 r2 rd => q m2 H2 v ((e1.trans ea).trans e2) r2 rd
        | ex y ls2 lh2 => rw [hs2] at q; exact q.elim
        | bad => rw [hs2] at q; exact q.elim
      · subst hb1
        simp only [hb] at q
        exact q mp1 H1 σ1 cls dd e1 r1 rs1 rx
end
end Rf
set_option Elab.async false
set_option linter.all false
set_option maxRecDepth 100000
set_option maxHeartbeats 4000000
set_option autoImplicit false
/-! Sets of ints and texts: made of what is walked, told by sorted. -/
namespace Rf
open PySem PySem.Spec L2 PyProof.Rows PySem.Calls

def kyV : Value → Key
  | .int k _ => .inl k
  | .str x _ => .inr x
  | _ => .inl 0
def kyE (e : Int × Value) : Key := kyV e.2
def GoodK (w : World) (e : Int × Value) : Prop := keyIs (kyE e) e.2 = true ∧ e.1 = keyH w (kyE e)
theorem kyV_of {k : Key} {v : Value} (h : keyIs k v = true) : kyV v = k := by
  rcases keyIs_shape h with ⟨i, t, rfl, rfl⟩ | ⟨x, t, rfl, rfl⟩ <;> rfl
theorem key_sc {k : Key} {v : Value} (h : keyIs k v = true) : v.scannable = true := by
  rcases keyIs_shape h with ⟨i, t, rfl, rfl⟩ | ⟨x, t, rfl, rfl⟩ <;> rfl
/-- the set at a: its keys are those of ks, each once -/
def SetM (w : World) (h : Heap) (a : Addr) (ks : List Key) : Prop :=
  ∃ o es ep t, h.get? a = some o ∧ o.ExactSet ∧ o.data = .set es ep t ∧ (∀ e ∈ es.toList, GoodK w e) ∧ (es.toList.map kyE).Nodup ∧ (∀ k, k ∈ es.toList.map kyE ↔ k ∈ ks) ∧
    es.size < scanBound ∧ t.fits es.size = true ∧ es.size ≤ ks.length ∧ L2.Ris t.place.toList ∧ (w.params.followText "set-order" = true ∨ t.led = true)
section
variable {P : Program} {w : World} {h h' : Heap} {a : Addr} {ks : List Key}
theorem SetM.at (R : SetM w h a ks) (k : ∀ o, h.get? a = some o → h'.get? a = some o) : SetM w h' a ks := by
  obtain ⟨o, es, ep, t, ho, r⟩ := R
  exact ⟨o, es, ep, t, k o ho, r⟩
theorem goodK_elems {l : List (Int × Value)} (g : ∀ e ∈ l, GoodK w e) : ElemsOf (mixKind P w) l := fun e he =>
  ⟨⟨kyE e, (g e he).1, (g e he).2⟩, key_sc (g e he).1⟩
theorem goodK_mem {l : List (Int × Value)} (g : ∀ e ∈ l, GoodK w e) (k : Key) : k ∈ l.map kyE ↔ ∃ e ∈ l, (mixKind P w).is k e.2 = true := by
  rw [List.mem_map]
  constructor
  · rintro ⟨e, he, rfl⟩
    exact ⟨e, he, (g e he).1⟩
  · rintro ⟨e, he, q⟩
    exact ⟨e, he, kyV_of q⟩
end
section
variable {P : Program} {w : World} {A : Around} {E : Value → Shared → Prop} {s : Shared} {a : Addr} {ks : List Key}
theorem setM_tail {g : Bool → Sem Unit} (hg : ∀ (b : Bool) (s₁ : Shared) (Q' : Unit → Shared → Prop), Q' () s₁ → wpAny (model P w) A (g b) Q' E s₁)
    {o : Obj} {es : Array (Int × Value)} {ep : Nat} {t : SetTable} (ho : s.heap.get? a = some o) (hex : o.ExactSet) (hd : o.data = .set es ep t)
    {es1 : Array (Int × Value)} {t2 : SetTable} {ks1 : List Key} (g1 : ∀ e ∈ es1.toList, GoodK w e) (nd1 : (es1.toList.map kyE).Nodup) (m1 : ∀ k, k ∈ es1.toList.map kyE ↔ k ∈ ks1)
    (hb1 : es1.size < scanBound) (hl1 : es1.size ≤ ks1.length) (hf2 : t2.fits es1.size = true) (hr : L2.Ris t2.place.toList) (hl : w.params.followText "set-order" = true ∨ t2.led = true) {wasDummy : Bool} {R : Option Bool → Shared → Prop}
    (hR : ∀ h', Heap.SameBut a s.heap h' → SetM w h' a ks1 → R (some true) { s with heap := h' }) :
    wpAny (model P w) A (do
        storeSet a es1 t2
        if (!wasDummy && t2.tooFull) = true then do
            g (relayAll t2 es1 (SetTable.grown es1.size)).2.2
            storeSet a (relayAll t2 es1 (SetTable.grown es1.size)).1 (relayAll t2 es1 (SetTable.grown es1.size)).2.1
            pure (some true)
          else pure (some true)) R E s := by
  refine wpAny_bind (wpAny_storeSet_of ho hd ?_ (fits_of_scanBound hb1))
  have o1 := L2.store_at (es' := es1) (t' := t2) ho hd
  have b1 := Heap.SameBut.update s.heap a (Obj.putSet es1 t2)
  split
  · have pm := relayAll_perm t2 es1 (SetTable.grown es1.size)
    have f3 := relayAll_fits t2 es1 (SetTable.grown es1.size)
    have r3 := L2.relayAll_ris t2 es1 (SetTable.grown es1.size)
    have l3 := L2.relayAll_led t2 es1 (SetTable.grown es1.size)
    generalize relayAll t2 es1 (SetTable.grown es1.size) = Z at pm f3 r3 l3 ⊢
    obtain ⟨es2, t3, gv⟩ := Z
    dsimp only at pm f3 r3 l3 ⊢
    have sz : es2.size = es1.size := by rw [← Array.length_toList, pm.length_eq, Array.length_toList]
    have b2 : es2.size < scanBound := by rw [sz]; exact hb1
    refine wpAny_bind (hg _ _ _ (wpAny_bind (wpAny_storeSet_of o1 rfl ?_ (fits_of_scanBound b2))))
    have o2 := L2.store_at (es' := es2) (t' := t3) o1 rfl
    refine wpAny_pure (hR _ (b1.trans (Heap.SameBut.update _ a _)) ⟨_, es2, _, t3, o2, hex, rfl, fun e he => g1 e (pm.mem_iff.mp he), (pm.map kyE).nodup_iff.mpr nd1, fun k => (pm.map kyE).mem_iff.trans (m1 k), b2, f3, by omega, r3, ?_⟩)
    exact hl.imp id fun z => by rw [l3]; exact z
  · exact wpAny_pure (hR _ b1 ⟨_, es1, _, t2, o1, hex, rfl, g1, nd1, m1, hb1, hf2, hl1, hr, hl⟩)
theorem setM_add {k : Key} {v : Value} {Q : Bool → Shared → Prop} (R : SetM w s.heap a ks) (hk : keyIs k v = true) (room : ks.length + 1 < scanBound)
    (hQ : ∀ b h', Heap.SameBut a s.heap h' → SetM w h' a (ks ++ [k]) → Q b { s with heap := h' }) :
    wpAny (model P w) A (setAddHashed a v ((mixKind P w).hash k)) Q E s := by
  obtain ⟨o, es, ep, t, ho, hex, hd, g, nd, hm, hb, hf, hn, hr, hl⟩ := R
  have hkey : (mixKind P w).is k v = true := hk
  have hsc : v.scannable = true := key_sc hk
  have hel : ElemsOf (mixKind P w) es.toList := goodK_elems g
  unfold setAddHashed setAddHashedIn
  refine wpAny_holding (wpAny_bind (wpAny_setState_of ho hd hf ?_))
  dsimp only
  rw [byScan_of hsc hb hel]
  simp only [↓reduceIte]
  unfold setAddByScan
  refine wpAny_bind (wpAny_bind (wpAny_rule (wpAny_bind (wpAny_setScan_of hkey ho hd hf hel ?_))))
  cases hfi : List.findIdx? (fun e => (mixKind P w).is k e.2) es.toList with
  | some j =>
    dsimp only
    obtain ⟨hj, pj, _⟩ := List.findIdx?_eq_some_iff_getElem.mp hfi
    have hin : k ∈ es.toList.map kyE := (goodK_mem (P := P) g k).2 ⟨es.toList[j], List.getElem_mem hj, pj⟩
    refine wpAny_pure (wpAny_pure (hQ _ s.heap (Heap.SameBut.refl a s.heap) ⟨o, es, ep, t, ho, hex, hd, g, nd, fun i => ?_, hb, hf, by simp; omega, hr, hl⟩))
    rw [List.mem_append, List.mem_singleton]
    exact ⟨fun z => .inl ((hm i).1 z), fun z => z.elim (hm i).2 fun e => by rw [e]; exact hin⟩
  | none =>
    dsimp only
    have hnk : k ∉ es.toList.map kyE := fun z => by
      obtain ⟨e, he, q⟩ := (goodK_mem (P := P) (w := w) g k).1 z
      have c := List.findIdx?_eq_none_iff.mp hfi e he
      rw [q] at c
      cases c
    have hgw : ∀ (b : Bool) {s₁ : Shared} {Q' : Unit → Shared → Prop}, Q' () s₁ → wpAny (model P w) A (match b with | true => rule "set.scan.the-table-gave-way" | false => pure ()) Q' E s₁ :=
      fun b s₁ Q' q => by cases b <;> first | exact wpAny_pure q | exact wpAny_rule q
    have pm := layNew_perm t es ((mixKind P w).hash k) v
    have f1 := layNew_fits t es ((mixKind P w).hash k) v
    have r1 := L2.layNew_ris t es ((mixKind P w).hash k) v hr
    have l1 := L2.layNew_led t es ((mixKind P w).hash k) v
    generalize layNew t es ((mixKind P w).hash k) v = Z at pm f1 r1 l1 ⊢
    obtain ⟨es1, t1, wd, gv⟩ := Z
    dsimp only at pm f1 r1 l1 ⊢
    rw [Array.toList_push] at pm
    have pc : es1.toList.Perm (((mixKind P w).hash k, v) :: es.toList) := pm.trans (List.perm_append_singleton _ _)
    have ek : kyE ((mixKind P w).hash k, v) = k := kyV_of hk
    have pk : (es1.toList.map kyE).Perm (k :: es.toList.map kyE) := by
      have := pc.map kyE
      rw [List.map_cons, ek] at this; exact this
    have g1 : ∀ e ∈ es1.toList, GoodK w e := fun e he => by
      rcases List.mem_cons.mp (pc.mem_iff.mp he) with z | z
      · rw [z]; exact ⟨by rw [ek]; exact hk, by rw [ek]; rfl⟩
      · exact g e z
    have nd1 : (es1.toList.map kyE).Nodup := pk.nodup_iff.mpr (List.nodup_cons.mpr ⟨hnk, nd⟩)
    have m1 : ∀ i, i ∈ es1.toList.map kyE ↔ i ∈ ks ++ [k] := fun i => by
      rw [pk.mem_iff, List.mem_cons, List.mem_append, List.mem_singleton, hm i]
      exact Or.comm
    have sz : es1.size = es.size + 1 := by rw [← Array.length_toList, pc.length_eq, List.length_cons, Array.length_toList]
    have b1 : es1.size < scanBound := by rw [sz]; omega
    have z1 : es1.size ≤ (ks ++ [k]).length := by simp; omega
    have led : w.params.followText "set-order" = true ∨ t1.led = true := hl.imp id fun z => by rw [l1]; exact z
    refine wpAny_bind (hgw _ ?_)
    split
    · refine wpAny_bind ?_
      rw [hashByValue_scannable 8 hsc]
      refine wpAny_pure ?_
      refine setM_tail (ks1 := ks ++ [k]) ?_ ho hex hd g1 nd1 m1 b1 z1 ?_ ?_ ?_ ?_
      · intro b s₁ Q' q; cases b <;> first | exact wpAny_pure q | exact wpAny_rule q
      · first | (split <;> first | exact f1 | exact SetTable.fits_plain_off f1) | exact f1
      · first | (split <;> exact r1) | exact r1
      · first | (split <;> exact led) | exact led
      · intro h' sb r; dsimp only; exact wpAny_pure (hQ _ h' sb r)
    · refine wpAny_bind (wpAny_pure ?_)
      simp only [↓reduceIte]
      refine setM_tail (ks1 := ks ++ [k]) ?_ ho hex hd g1 nd1 m1 b1 z1 f1 r1 led ?_
      · intro b s₁ Q' q; cases b <;> first | exact wpAny_pure q | exact wpAny_rule q
      · intro h' sb r; dsimp only; exact wpAny_pure (hQ _ h' sb r)
theorem setM_new {w : World} {h : Heap} {a : Addr} (ho : h.get? a = some { cls := .type "set", dict := none, data := .set #[] 0 (.fresh 0 0 (!w.params.followText "set-order")) }) : SetM w h a [] :=
  ⟨_, #[], 0, _, ho, ⟨rfl, rfl, rfl⟩, rfl, (fun e he => by simp at he), (by simp), (fun k => by simp), (by decide), (by rfl), (by simp), List.Pairwise.nil, by
    show _ ∨ (!w.params.followText "set-order") = true
    cases w.params.followText "set-order"
    · exact .inr rfl
    · exact .inl rfl⟩
/-- the loop of set.update over what is walked -/
theorem setM_loop {I : Addr} {fp wr : List Addr} {G : Array GenState → Array GenState → Prop} {n : Nat} {Pv : Nat → Value → Prop} {St : Nat → Shared → Prop} {R : Result → Shared → Prop}
    (W : WalksS P w A.in1 I fp wr G n Pv St) (S : Addr) (hSf : S ∉ fp) (ks : List Key) (hn : n = ks.length) (hb : ks.length + 1 < scanBound) (hval : ∀ i v, Pv i v → ∃ k, ks[i]? = some k ∧ keyIs k v = true) :
    ∀ (k i : Nat) (s : Shared), n - i = k → i ≤ n → St i s → SetM w s.heap S (ks.take i) →
      (∀ s', Moved (S :: wr) G s s' → SetM w s'.heap S ks → R (.ok (.ret .none)) s') →
      codeAny (model P w) A (.builtin "set.update.loop" ⟨[.ref S, .ref I], []⟩) R s := by
  have hSw : S ∉ wr := fun h => hSf (W.sub _ h)
  have hsub : ∀ b ∈ wr, b ∈ S :: wr := fun b hb => List.mem_cons_of_mem _ hb
  intro k
  induction k with
  | zero =>
    intro i s hk' hi hst hS hR
    have hin : i = n := by omega
    subst hin
    refine codeAny_builtin F.entry_set_update_loop ?_
    rw [Around.under_plainId F.plain_set_update_loop _]
    show wpAny _ A.in1 (pyNext (.ref I) >>= _) _ _ s
    refine wpAny_bind (W.done s _ _ hst fun s' hm => ?_)
    show wpAny _ A.in1 (ret Value.none) _ _ s'
    have e : ks.take i = ks := List.take_of_length_le (by omega)
    rw [e] at hS
    exact wpAny_pure (hR s' (hm.mono hsub) (hS.at fun o e => hm.heap S o hSw e))
  | succ k ih =>
    intro i s hk' hi hst hS hR
    have hlt : i < n := by omega
    refine codeAny_builtin F.entry_set_update_loop ?_
    rw [Around.under_plainId F.plain_set_update_loop _]
    show wpAny _ A.in1 (pyNext (.ref I) >>= _) _ _ s
    refine wpAny_bind (W.item i s _ _ hlt hst fun v s' hP hst' hm => ?_)
    obtain ⟨z, hz, kz⟩ := hval i v hP
    have hS' : SetM w s'.heap S (ks.take i) := hS.at fun o e => hm.heap S o hSw e
    show wpAny _ A.in1 (holding [v] (setAdd S v) >>= _) _ _ s'
    refine wpAny_bind (wpAny_holding ?_)
    unfold setAdd
    refine wpAny_holding ?_
    refine wpAny_bind ((mixKind P w).pyHash (k := z) kz ?_)
    refine setM_add (s := { s' with toks := s'.toks + 1 }) hS' kz (by simp; omega) fun b h' hsb hS2 => ?_
    have hS3 : SetM w h' S (ks.take (i + 1)) := by rw [List.take_add_one, hz]; exact hS2
    refine wpAny_pure ⟨plainId_quiet F.plain_set_update_loop _, ih (i + 1) _ (by omega) hlt (W.frame _ s' _ _ hst' (Nat.le_succ _) fun b hb o e => ?_) hS3 fun s'' hm'' hS'' => ?_⟩
    · rw [hsb.2 b (fun h : b = S => hSf (by rw [← h]; exact hb))]; exact e
    · refine hR s'' (Moved.trans W.gtrans ((hm.mono hsub).then_heap (Nat.le_succ _) fun b o hb e => ?_) hm'') hS''
      rw [hsb.2 b (fun h : b = S => hb (by rw [h]; exact List.mem_cons_self))]; exact e
end

abbrev emptySet (w : World) : Obj := { cls := .type "set", dict := none, data := .set #[] 0 (.fresh 0 0 (!w.params.followText "set-order")) }
section
variable {P : Program} {w : World} {A : Around} {E : Value → Shared → Prop} {s : Shared}
/-- set(text) -/
theorem call_set_str {x : Str} {t : Tok} {Q : Value → Shared → Prop} (hh : A.handled = none) (hb : x.cps.size + 1 < scanBound)
    (h : ∀ (h' : Heap) (tk : Nat), SetM w h' s.heap.objs.size (x.cps.toList.map fun c => .inr ⟨#[c]⟩) → (∀ b o, s.heap.get? b = some o → h'.get? b = some o) → Q (.ref s.heap.objs.size) { s with heap := h', toks := tk }) :
    wpAny (model P w) A (call (.type "set") [.str x t]) Q E s := by
  obtain ⟨c, tl, hmro⟩ := F.called_set.mro
  have hmade := F.called_set.made
  have hsub := F.called_set.sub
  refine wpAny_call (codeAny_of_tree ?_)
  show wpAny _ _ (callAny (.type "set") _) _ _ _
  refine wpAny_pure ⟨Code.quiet_builtin _ (by decide +kernel), codeAny_builtin F.entry_type_call ?_⟩
  rw [Around.under_plain (weight_type_call_type "set" [.str x t] []) rfl]
  have h1 := F.called_set.notType
  have h2 := F.called_set.canCreate
  have hct := F.typeCall_set_1 (.str x t)
  repeat (any_goals (first | assumption | wp_step))
  refine codeAny_mono (L2.code_set_led1 (.str x t) (E := E) (Q₁ := fun obj s₁ => obj = .ref s.heap.objs.size ∧ s₁ = { s with heap := s.heap.push (emptySet w) }) ⟨rfl, rfl⟩) fun r s₁ hr => ?_
  cases r with
  | error e => exact hr
  | ok fl =>
    cases fl with
    | ret obj =>
      obtain ⟨rfl, rfl⟩ := hr
      have hS : (s.heap.push (emptySet w)).get? s.heap.objs.size = some (emptySet w) := Heap.get?_push_size _ rfl
      have hT : Shared.TypeIs { s with heap := s.heap.push (emptySet w) } (.ref s.heap.objs.size) "set" := ⟨_, hS, rfl⟩
      have hli := F.called_set.init.lookup
      have hbi := F.called_set.init.bind (.ref s.heap.objs.size)
      repeat (any_goals (first | assumption | wp_step))
      refine codeAny_mono (codeAny_call_builtin (R := wants (fun r s₂ => r = .none ∧ ∃ h' tk, s₂ = { s with heap := h', toks := tk } ∧ SetM w h' s.heap.objs.size (x.cps.toList.map fun c => .inr ⟨#[c]⟩) ∧
          (∀ b o, s.heap.get? b = some o → h'.get? b = some o)) E) F.called_set.init.plain F.entry_set_init (check_set_init_1 hT ?_)) fun r₂ s₂ hr₂ => ?_
      · have hsls := F.sub_str_set
        have hslf := F.sub_str_frozenset
        have hne : (Value.type "str" == Value.type "dict") = false := by decide
        have hz1 : (s.heap.push (emptySet w)).objs.size = s.heap.objs.size + 1 := Heap.size_push ..
        unfold Builtin.«set.__init__» noKeywords Builtin.Frozenset.updateFrom
        generalize hPI : pyIter = PI
        wp_walk
        subst hPI
        refine wpAny_pyIter_str fun o St W0 st0 => ?_
        refine wpAny_bind (wpAny_runValue ?_)
        have hh3 : A.in1.in1.in1.handled = none := by simp [hh]
        have hSf : s.heap.objs.size ∉ [(s.heap.push (emptySet w)).objs.size] := by
          rw [hz1]; simp
        refine setM_loop ((W0 _ hh3).toS) s.heap.objs.size hSf (x.cps.toList.map fun c => .inr ⟨#[c]⟩) (by simp) (by simpa using hb) (fun i v hv => ?_) (x.cps.size - 0) 0 _ (by omega) (Nat.zero_le _) st0 ?hS0 ?hR
        · obtain ⟨c, u, hc, rfl⟩ := hv
          refine ⟨.inr ⟨#[c]⟩, ?_, keyIs_str _ _⟩
          rw [List.getElem?_map, Array.getElem?_toList, hc]; rfl
        case hS0 =>
          exact setM_new (Heap.get?_push_of_some _ hS)
        case hR =>
          intro s' hm hS'
          obtain ⟨h', g2, d', tk', os'⟩ := s'
          have eg : g2 = s.gens := hm.gens
          have ed : d' = s.drawn := hm.drawn
          have eo : os' = s.os := hm.os
          subst eg; subst ed; subst eo
          show wpAny _ _ _ _ _ _
          refine wpAny_pure ?_
          show wpAny _ _ (ret Value.none) _ _ _
          refine wpAny_pure ⟨rfl, h', tk', rfl, hS', fun b o e => ?_⟩
          have hb0 : b < s.heap.objs.size := Heap.lt_size e
          exact hm.heap b o (by rw [hz1]; simp only [List.mem_cons, List.mem_singleton, List.not_mem_nil, or_false, not_or]; exact ⟨Nat.ne_of_lt hb0, Nat.ne_of_lt (Nat.lt_succ_of_lt hb0)⟩) (Heap.get?_push_of_some _ (Heap.get?_push_of_some _ e))
      · cases r₂ with
        | error e => exact hr₂
        | ok fl₂ =>
          cases fl₂ with
          | ret r =>
            obtain ⟨rfl, h', tk, rfl, hS', hk'⟩ := hr₂
            repeat (any_goals (first | assumption | wp_step))
            exact h _ _ hS' hk'
          | _ => exact hr₂.elim
    | _ => exact hr.elim
end
end Rf
set_option Elab.async false
set_option linter.all false
set_option maxRecDepth 100000
set_option maxHeartbeats 4000000
set_option autoImplicit false
/-! sorted of a set of texts; the layer's rules for set(text), sorted(set). -/
namespace Rf
open PySem PySem.Spec L2 PyProof.Rows PySem.Calls
theorem strs_of_keys : ∀ (l : List Value), (∀ v ∈ l, ∃ x, keyIs (.inr x) v = true) → ∃ ss : List Str, StrsAre l ss ∧ l.map kyV = ss.map Sum.inr
  | [], _ => ⟨[], .nil, rfl⟩
  | v :: l, h => by
    obtain ⟨ss, h1, h2⟩ := strs_of_keys l fun u hu => h u (List.mem_cons_of_mem _ hu)
    obtain ⟨x, hx⟩ := h v List.mem_cons_self
    rcases keyIs_shape hx with ⟨i, t, e, rfl⟩ | ⟨y, t, e, rfl⟩
    · cases e
    · cases e; exact ⟨x :: ss, .cons x t h1, by simp [h2, kyV]⟩
section
variable {P : Program} {w : World} {A : Around} {E : Value → Shared → Prop} {s : Shared} {a : Addr}
theorem sorted_setS {ss : List Str} {Q : Value → Shared → Prop} (R : SetM w s.heap a (ss.map Sum.inr)) (hh : A.handled = none)
    (hQ : ∀ s' p (out : Array Value) (c : Nat) (ys : List Str), (∀ b o, s.heap.get? b = some o → s'.heap.get? b = some o) → s'.gens = s.gens → s'.os = s.os → s.heap.objs.size ≤ p →
      s'.heap.get? p = some (seqObj "list" out c) → StrsAre out.toList ys → sortedS ys = true → ys.Nodup → (∀ k, k ∈ ys ↔ k ∈ ss) → ys.length ≤ sizeLine → Q (.ref p) s') :
    wpAny (model P w) A (call (.builtin "sorted") [.ref a]) Q E s := by
  obtain ⟨o, es, ep, t, ho, hex, hd, g, nd, hm, hb, hf, hn, hr, hl⟩ := R
  refine Calls.call_function_entry kind_sorted plain_sorted entry_sorted (args_sorted1 _) ?_
  unfold Builtin.«sorted»
  refine wpAny_bind (m := checkCount "sorted" 1 1 _) (wpAny_pure ?_)
  refine wpAny_bind (L2.collect_set (A := A.in1) hh ⟨o, ho, hex.1, hd⟩ hf hb hr hl fun s1 vs k1 hz g1 o1 pm => ?_)
  have hvk : (vs.map kyV).Perm (es.toList.map kyE) := by
    have q := pm.map kyV
    rw [List.map_map] at q
    exact q
  obtain ⟨ts, hS, ets⟩ := strs_of_keys vs fun v hv => by
    obtain ⟨e, he, q⟩ := List.mem_map.mp (pm.mem_iff.mp hv)
    have hk : kyE e ∈ es.toList.map kyE := List.mem_map.mpr ⟨e, he, rfl⟩
    obtain ⟨x, _, hx⟩ := List.mem_map.mp ((hm _).1 hk)
    exact ⟨x, by rw [hx, ← q]; exact (g e he).1⟩
  have hvl : vs.length ≤ sizeLine := by
    rw [pm.length_eq, List.length_map, Array.length_toList]
    have : scanBound ≤ sizeLine := by decide
    omega
  refine wpAny_bind (wpAny_newList ?_ hvl)
  have hoL : (s1.heap.push (seqObj "list" vs.toArray 0)).get? s1.heap.objs.size = some (seqObj "list" vs.toArray 0) := Heap.get?_push_size _ rfl
  refine wpAny_bind (wpAny_holding (wpAny_call_entry slot_list_sort ⟨_, hoL, rfl⟩ entry_list_sort (list_sort_treeKAny strKind_oneLt hoL hS.keysOf (fun v₁ v₂ rest e => keyKind_strs (by rw [← e]; exact hS)) hvl fun st' hp hs => ⟨_, rfl, ?_⟩) (args_list_sort _)))
  obtain ⟨ys, a1, a2, a3⟩ := sorted_out_str hS hp hs
  obtain ⟨c, hc⟩ := sortedHeap_at (vs := vs) (out := (arrOf st').map (·.2)) hoL
  have pn : (ys.map (Sum.inr : Str → Key)).Perm (es.toList.map kyE) := (a2.map _).trans (ets ▸ hvk)
  refine wpAny_pure ⟨_, rfl, hQ _ s1.heap.objs.size _ c ys (fun b u e => ?_) g1 o1 hz hc a1 a3 ?_ (fun k => ?_) ?_⟩
  · have q := k1 b u e
    have hlt := Heap.lt_size q
    show (sortedHeap (s1.heap.push (seqObj "list" vs.toArray 0)) s1.heap.objs.size vs _).get? b = some u
    rw [sortedHeap_old (Nat.ne_of_lt hlt) (by rw [Heap.size_push]; exact Nat.lt_succ_of_lt hlt)]
    exact Heap.get?_push_of_some _ q
  · have := pn.nodup_iff.mpr nd
    exact (List.Pairwise.of_map (S := (· ≠ ·)) (Sum.inr : Str → Key) (fun x y h z => h (by rw [z])) this)
  · have h1 : (Sum.inr k : Key) ∈ ys.map Sum.inr ↔ (Sum.inr k : Key) ∈ ss.map Sum.inr := pn.mem_iff.trans (hm _)
    simpa using h1
  · rw [a2.length_eq, ← StrsAre.length hS]; exact hvl
end
end Rf
set_option Elab.async false
set_option linter.all false
set_option maxRecDepth 100000
set_option maxHeartbeats 4000000
set_option autoImplicit false
namespace Rf
open PySem PySem.Spec L2 PyProof.Rows PySem.Calls
section
variable {P : Program} {w : World} {A : Around} {E : Value → Shared → Prop} {s : Shared}
/-- set of a tuple of keys -/
theorem call_set_tuple {l : Addr} {items : Array Value} (ks : List Key) {Q : Value → Shared → Prop} (hh : A.handled = none) (hl : s.heap.IsTuple l items) (hn : items.size = ks.length) (hkv : ∀ (i : Nat) (v : Value), items[i]? = some v → ∃ k, ks[i]? = some k ∧ keyIs k v = true) (hb : ks.length + 1 < scanBound)
    (h : ∀ (h' : Heap) (tk : Nat), SetM w h' s.heap.objs.size ks → (∀ b o, s.heap.get? b = some o → h'.get? b = some o) → Q (.ref s.heap.objs.size) { s with heap := h', toks := tk }) :
    wpAny (model P w) A (call (.type "set") [.ref l]) Q E s := by
  obtain ⟨c, tl, hmro⟩ := F.called_set.mro
  have hmade := F.called_set.made
  have hsub := F.called_set.sub
  refine wpAny_call (codeAny_of_tree ?_)
  show wpAny _ _ (callAny (.type "set") _) _ _ _
  refine wpAny_pure ⟨Code.quiet_builtin _ (by decide +kernel), codeAny_builtin F.entry_type_call ?_⟩
  rw [Around.under_plain (weight_type_call_type "set" [.ref l] []) rfl]
  have h1 := F.called_set.notType
  have h2 := F.called_set.canCreate
  have hct := F.typeCall_set_1 (.ref l)
  repeat (any_goals (first | assumption | wp_step))
  refine codeAny_mono (L2.code_set_led1 (.ref l) (E := E) (Q₁ := fun obj s₁ => obj = .ref s.heap.objs.size ∧ s₁ = { s with heap := s.heap.push (emptySet w) }) ⟨rfl, rfl⟩) fun r s₁ hr => ?_
  cases r with
  | error e => exact hr
  | ok fl =>
    cases fl with
    | ret obj =>
      obtain ⟨rfl, rfl⟩ := hr
      have hS : (s.heap.push (emptySet w)).get? s.heap.objs.size = some (emptySet w) := Heap.get?_push_size _ rfl
      have hT : Shared.TypeIs { s with heap := s.heap.push (emptySet w) } (.ref s.heap.objs.size) "set" := ⟨_, hS, rfl⟩
      have hli := F.called_set.init.lookup
      have hbi := F.called_set.init.bind (.ref s.heap.objs.size)
      repeat (any_goals (first | assumption | wp_step))
      refine codeAny_mono (codeAny_call_builtin (R := wants (fun r s₂ => r = .none ∧ ∃ h' tk, s₂ = { s with heap := h', toks := tk } ∧ SetM w h' s.heap.objs.size ks ∧
          (∀ b o, s.heap.get? b = some o → h'.get? b = some o)) E) F.called_set.init.plain F.entry_set_init (check_set_init_1 hT ?_)) fun r₂ s₂ hr₂ => ?_
      · obtain ⟨ol, hol, hcl, nl, hdl⟩ := hl
        obtain ⟨ocls, odict, odata, oslots⟩ := ol
        simp only at hcl hdl
        subst hcl; subst hdl
        have hol' : (s.heap.push (emptySet w)).get? l = some { cls := .type "tuple", dict := odict, data := .seq items nl, slots := oslots } := Heap.get?_push_of_some _ hol
        have hsls := F.sub_tuple_set
        have hslf := F.sub_tuple_frozenset
        have hne : (Value.type "tuple" == Value.type "dict") = false := by decide
        have hl1 : (s.heap.push (emptySet w)).IsTuple l items := ⟨_, hol', rfl, nl, rfl⟩
        have hz1 : (s.heap.push (emptySet w)).objs.size = s.heap.objs.size + 1 := Heap.size_push ..
        unfold Builtin.«set.__init__» noKeywords Builtin.Frozenset.updateFrom
        generalize hPI : pyIter = PI
        wp_walk
        subst hPI
        refine wpAny_pyIter_tuple hl1 ?_
        refine wpAny_bind (wpAny_runValue ?_)
        have hlS : l < s.heap.objs.size := Heap.lt_size hol
        have hh3 : A.in1.in1.in1.handled = none := by simp [hh]
        have hneI : l ≠ (s.heap.push (emptySet w)).objs.size := by rw [hz1]; exact Nat.ne_of_lt (Nat.lt_succ_of_lt hlS)
        have hSf : s.heap.objs.size ∉ [(s.heap.push (emptySet w)).objs.size, l] := by
          rw [hz1]; simp only [List.mem_cons, List.not_mem_nil, or_false, not_or]
          exact ⟨Nat.ne_of_lt (Nat.lt_succ_self _), Nat.ne_of_gt hlS⟩
        refine setM_loop ((Walks.tuple hh3 _ l hneI items).toS) s.heap.objs.size hSf ks hn hb hkv (items.size - 0) 0 _ (by omega) (Nat.zero_le _) ⟨⟨_, Heap.get?_push_size _ rfl, rfl, rfl⟩, (hl1.push _)⟩ ?hS0 ?hR
        case hS0 =>
          exact setM_new (Heap.get?_push_of_some _ hS)
        case hR =>
          intro s' hm hS'
          obtain ⟨h', g2, d', tk', os'⟩ := s'
          have eg : g2 = s.gens := hm.gens
          have ed : d' = s.drawn := hm.drawn
          have eo : os' = s.os := hm.os
          subst eg; subst ed; subst eo
          show wpAny _ _ _ _ _ _
          refine wpAny_pure ?_
          show wpAny _ _ (ret Value.none) _ _ _
          refine wpAny_pure ⟨rfl, h', tk', rfl, hS', fun b o e => ?_⟩
          have hb0 : b < s.heap.objs.size := Heap.lt_size e
          exact hm.heap b o (by rw [hz1]; simp only [List.mem_cons, List.mem_singleton, List.not_mem_nil, or_false, not_or]; exact ⟨Nat.ne_of_lt hb0, Nat.ne_of_lt (Nat.lt_succ_of_lt hb0)⟩) (Heap.get?_push_of_some _ (Heap.get?_push_of_some _ e))
      · cases r₂ with
        | error e => exact hr₂
        | ok fl₂ =>
          cases fl₂ with
          | ret r =>
            obtain ⟨rfl, h', tk, rfl, hS', hk'⟩ := hr₂
            repeat (any_goals (first | assumption | wp_step))
            exact h _ _ hS' hk'
          | _ => exact hr₂.elim
    | _ => exact hr.elim

/-- set of a list of keys -/
theorem call_set_list {l : Addr} {items : Array Value} (ks : List Key) {Q : Value → Shared → Prop} (hh : A.handled = none) (hl : s.heap.IsList l items) (hn : items.size = ks.length) (hkv : ∀ (i : Nat) (v : Value), items[i]? = some v → ∃ k, ks[i]? = some k ∧ keyIs k v = true) (hb : ks.length + 1 < scanBound)
    (h : ∀ (h' : Heap) (tk : Nat), SetM w h' s.heap.objs.size ks → (∀ b o, s.heap.get? b = some o → h'.get? b = some o) → Q (.ref s.heap.objs.size) { s with heap := h', toks := tk }) :
    wpAny (model P w) A (call (.type "set") [.ref l]) Q E s := by
  obtain ⟨c, tl, hmro⟩ := F.called_set.mro
  have hmade := F.called_set.made
  have hsub := F.called_set.sub
  refine wpAny_call (codeAny_of_tree ?_)
  show wpAny _ _ (callAny (.type "set") _) _ _ _
  refine wpAny_pure ⟨Code.quiet_builtin _ (by decide +kernel), codeAny_builtin F.entry_type_call ?_⟩
  rw [Around.under_plain (weight_type_call_type "set" [.ref l] []) rfl]
  have h1 := F.called_set.notType
  have h2 := F.called_set.canCreate
  have hct := F.typeCall_set_1 (.ref l)
  repeat (any_goals (first | assumption | wp_step))
  refine codeAny_mono (L2.code_set_led1 (.ref l) (E := E) (Q₁ := fun obj s₁ => obj = .ref s.heap.objs.size ∧ s₁ = { s with heap := s.heap.push (emptySet w) }) ⟨rfl, rfl⟩) fun r s₁ hr => ?_
  cases r with
  | error e => exact hr
  | ok fl =>
    cases fl with
    | ret obj =>
      obtain ⟨rfl, rfl⟩ := hr
      have hS : (s.heap.push (emptySet w)).get? s.heap.objs.size = some (emptySet w) := Heap.get?_push_size _ rfl
      have hT : Shared.TypeIs { s with heap := s.heap.push (emptySet w) } (.ref s.heap.objs.size) "set" := ⟨_, hS, rfl⟩
      have hli := F.called_set.init.lookup
      have hbi := F.called_set.init.bind (.ref s.heap.objs.size)
      repeat (any_goals (first | assumption | wp_step))
      refine codeAny_mono (codeAny_call_builtin (R := wants (fun r s₂ => r = .none ∧ ∃ h' tk, s₂ = { s with heap := h', toks := tk } ∧ SetM w h' s.heap.objs.size ks ∧
          (∀ b o, s.heap.get? b = some o → h'.get? b = some o)) E) F.called_set.init.plain F.entry_set_init (check_set_init_1 hT ?_)) fun r₂ s₂ hr₂ => ?_
      · obtain ⟨ol, hol, hcl, nl, hdl⟩ := hl
        obtain ⟨ocls, odict, odata, oslots⟩ := ol
        simp only at hcl hdl
        subst hcl; subst hdl
        have hol' : (s.heap.push (emptySet w)).get? l = some { cls := .type "list", dict := odict, data := .seq items nl, slots := oslots } := Heap.get?_push_of_some _ hol
        have hsls := F.sub_list_set
        have hslf := F.sub_list_frozenset
        have hne : (Value.type "list" == Value.type "dict") = false := by decide
        have hl1 : (s.heap.push (emptySet w)).IsList l items := ⟨_, hol', rfl, nl, rfl⟩
        have hz1 : (s.heap.push (emptySet w)).objs.size = s.heap.objs.size + 1 := Heap.size_push ..
        unfold Builtin.«set.__init__» noKeywords Builtin.Frozenset.updateFrom
        generalize hPI : pyIter = PI
        wp_walk
        subst hPI
        refine wpAny_pyIter_list hl1 ?_
        refine wpAny_bind (wpAny_runValue ?_)
        have hlS : l < s.heap.objs.size := Heap.lt_size hol
        have hh3 : A.in1.in1.in1.handled = none := by simp [hh]
        have hneI : l ≠ (s.heap.push (emptySet w)).objs.size := by rw [hz1]; exact Nat.ne_of_lt (Nat.lt_succ_of_lt hlS)
        have hSf : s.heap.objs.size ∉ [(s.heap.push (emptySet w)).objs.size, l] := by
          rw [hz1]; simp only [List.mem_cons, List.not_mem_nil, or_false, not_or]
          exact ⟨Nat.ne_of_lt (Nat.lt_succ_self _), Nat.ne_of_gt hlS⟩
        refine setM_loop ((Walks.list hh3 _ l hneI items).toS) s.heap.objs.size hSf ks hn hb hkv (items.size - 0) 0 _ (by omega) (Nat.zero_le _) ⟨⟨_, Heap.get?_push_size _ rfl, rfl, rfl⟩, (hl1.push _)⟩ ?hS0 ?hR
        case hS0 =>
          exact setM_new (Heap.get?_push_of_some _ hS)
        case hR =>
          intro s' hm hS'
          obtain ⟨h', g2, d', tk', os'⟩ := s'
          have eg : g2 = s.gens := hm.gens
          have ed : d' = s.drawn := hm.drawn
          have eo : os' = s.os := hm.os
          subst eg; subst ed; subst eo
          show wpAny _ _ _ _ _ _
          refine wpAny_pure ?_
          show wpAny _ _ (ret Value.none) _ _ _
          refine wpAny_pure ⟨rfl, h', tk', rfl, hS', fun b o e => ?_⟩
          have hb0 : b < s.heap.objs.size := Heap.lt_size e
          exact hm.heap b o (by rw [hz1]; simp only [List.mem_cons, List.mem_singleton, List.not_mem_nil, or_false, not_or]; exact ⟨Nat.ne_of_lt hb0, Nat.ne_of_lt (Nat.lt_succ_of_lt hb0)⟩) (Heap.get?_push_of_some _ (Heap.get?_push_of_some _ e))
      · cases r₂ with
        | error e => exact hr₂
        | ok fl₂ =>
          cases fl₂ with
          | ret r =>
            obtain ⟨rfl, h', tk, rfl, hS', hk'⟩ := hr₂
            repeat (any_goals (first | assumption | wp_step))
            exact h _ _ hS' hk'
          | _ => exact hr₂.elim
    | _ => exact hr.elim
end
end Rf
set_option Elab.async false
set_option linter.all false
set_option maxRecDepth 100000
set_option maxHeartbeats 4000000
set_option autoImplicit false
/-! sorted of a set of ints. -/
namespace Rf
open PySem PySem.Spec L2 PyProof.Rows PySem.Calls
theorem ints_of_keys : ∀ (l : List Value), (∀ v ∈ l, ∃ x, keyIs (.inl x) v = true) → ∃ ss : List Int, IntsAre l ss ∧ l.map kyV = ss.map Sum.inl
  | [], _ => ⟨[], .nil, rfl⟩
  | v :: l, h => by
    obtain ⟨ss, h1, h2⟩ := ints_of_keys l fun u hu => h u (List.mem_cons_of_mem _ hu)
    obtain ⟨x, hx⟩ := h v List.mem_cons_self
    rcases keyIs_shape hx with ⟨i, t, e, rfl⟩ | ⟨y, t, e, rfl⟩
    · cases e; exact ⟨x :: ss, .cons x t h1, by simp [h2, kyV]⟩
    · cases e
section
variable {P : Program} {w : World} {A : Around} {E : Value → Shared → Prop} {s : Shared} {a : Addr}
theorem sorted_setI {ss : List Int} {Q : Value → Shared → Prop} (R : SetM w s.heap a (ss.map Sum.inl)) (hh : A.handled = none)
    (hQ : ∀ s' p (out : Array Value) (c : Nat) (ys : List Int), (∀ b o, s.heap.get? b = some o → s'.heap.get? b = some o) → s'.gens = s.gens → s'.os = s.os → s.heap.objs.size ≤ p →
      s'.heap.get? p = some (seqObj "list" out c) → IntsAre out.toList ys → ys.Pairwise (· ≤ ·) → ys.Nodup → (∀ k, k ∈ ys ↔ k ∈ ss) → ys.length ≤ sizeLine → Q (.ref p) s') :
    wpAny (model P w) A (call (.builtin "sorted") [.ref a]) Q E s := by
  obtain ⟨o, es, ep, t, ho, hex, hd, g, nd, hm, hb, hf, hn, hr, hl⟩ := R
  refine Calls.call_function_entry kind_sorted plain_sorted entry_sorted (args_sorted1 _) ?_
  unfold Builtin.«sorted»
  refine wpAny_bind (m := checkCount "sorted" 1 1 _) (wpAny_pure ?_)
  refine wpAny_bind (L2.collect_set (A := A.in1) hh ⟨o, ho, hex.1, hd⟩ hf hb hr hl fun s1 vs k1 hz g1 o1 pm => ?_)
  have hvk : (vs.map kyV).Perm (es.toList.map kyE) := by
    have q := pm.map kyV
    rw [List.map_map] at q
    exact q
  obtain ⟨ts, hS, ets⟩ := ints_of_keys vs fun v hv => by
    obtain ⟨e, he, q⟩ := List.mem_map.mp (pm.mem_iff.mp hv)
    have hk : kyE e ∈ es.toList.map kyE := List.mem_map.mpr ⟨e, he, rfl⟩
    obtain ⟨x, _, hx⟩ := List.mem_map.mp ((hm _).1 hk)
    exact ⟨x, by rw [hx, ← q]; exact (g e he).1⟩
  have hvl : vs.length ≤ sizeLine := by
    rw [pm.length_eq, List.length_map, Array.length_toList]
    have : scanBound ≤ sizeLine := by decide
    omega
  refine wpAny_bind (wpAny_newList ?_ hvl)
  have hoL : (s1.heap.push (seqObj "list" vs.toArray 0)).get? s1.heap.objs.size = some (seqObj "list" vs.toArray 0) := Heap.get?_push_size _ rfl
  refine wpAny_bind (wpAny_holding (wpAny_call_entry slot_list_sort ⟨_, hoL, rfl⟩ entry_list_sort (list_sort_treeKAny intKind_oneLt hoL hS.keysOfInt (fun v₁ v₂ rest e => keyKind_ints (by rw [← e]; exact hS)) hvl fun st' hp hs => ⟨_, rfl, ?_⟩) (args_list_sort _)))
  obtain ⟨ys, a1, a2, a3⟩ := sorted_out hS hp (sortedTo_of_int hs)
  obtain ⟨c, hc⟩ := sortedHeap_at (vs := vs) (out := (arrOf st').map (·.2)) hoL
  have pn : (ys.map (Sum.inl : Int → Key)).Perm (es.toList.map kyE) := (a2.map _).trans (ets ▸ hvk)
  refine wpAny_pure ⟨_, rfl, hQ _ s1.heap.objs.size _ c ys (fun b u e => ?_) g1 o1 hz hc a1 a3 ?_ (fun k => ?_) ?_⟩
  · have q := k1 b u e
    have hlt := Heap.lt_size q
    show (sortedHeap (s1.heap.push (seqObj "list" vs.toArray 0)) s1.heap.objs.size vs _).get? b = some u
    rw [sortedHeap_old (Nat.ne_of_lt hlt) (by rw [Heap.size_push]; exact Nat.lt_succ_of_lt hlt)]
    exact Heap.get?_push_of_some _ q
  · have := pn.nodup_iff.mpr nd
    exact (List.Pairwise.of_map (S := (· ≠ ·)) (Sum.inl : Int → Key) (fun x y h z => h (by rw [z])) this)
  · have h1 : (Sum.inl k : Key) ∈ ys.map Sum.inl ↔ (Sum.inl k : Key) ∈ ss.map Sum.inl := pn.mem_iff.trans (hm _)
    simpa using h1
  · rw [a2.length_eq, ← IntsAre.length hS]; exact hvl
end
end Rf
set_option Elab.async false
set_option linter.all false
set_option maxRecDepth 100000
set_option maxHeartbeats 4000000
set_option autoImplicit false
/-! sorted(set(text)): the one rising list. -/
namespace Rf
open PySem PySem.Spec L2

/-! ### texts in order, each once -/
abbrev ltT := PySem.Spec.ltCps
def insT (x : List Nat) : List (List Nat) → List (List Nat)
  | [] => [x]
  | y :: r => if ltT x y = true then x :: y :: r else if ltT y x = true then y :: insT x r else y :: r
def sdT : List (List Nat) → List (List Nat)
  | [] => []
  | x :: r => insT x (sdT r)
theorem ltT_iff {a b : List Nat} : ltT a b = true ↔ a < b := by
  unfold ltT; rw [PyProof.Rows.ltCps_eq]; exact decide_eq_true_iff
theorem ltT_irr (a : List Nat) : ltT a a = false := by
  cases h : ltT a a with
  | false => rfl
  | true => exact absurd (ltT_iff.mp h) (List.lt_irrefl a)
theorem ltT_tr {a b c : List Nat} (h1 : ltT a b = true) (h2 : ltT b c = true) : ltT a c = true := ltT_iff.mpr (List.lt_trans (ltT_iff.mp h1) (ltT_iff.mp h2))
theorem ltT_tot {a b : List Nat} (h1 : ¬ ltT a b = true) (h2 : ¬ ltT b a = true) : a = b := by
  have h1 : ¬ a < b := fun z => h1 (ltT_iff.mpr z)
  have h2 : ¬ b < a := fun z => h2 (ltT_iff.mpr z)
  exact List.le_antisymm (List.not_lt.mp h2) (List.not_lt.mp h1)
abbrev RisT (l : List (List Nat)) : Prop := l.Pairwise fun a b => ltT a b = true
theorem insT_mem {x z : List Nat} : ∀ {l : List (List Nat)}, z ∈ insT x l ↔ z = x ∨ z ∈ l
  | [] => by simp [insT]
  | y :: r => by
    unfold insT
    split
    · simp
    · rename_i h1
      split
      · rw [List.mem_cons, insT_mem, List.mem_cons]
        constructor
        · rintro (h | h | h)
          · exact .inr (.inl h)
          · exact .inl h
          · exact .inr (.inr h)
        · rintro (h | h | h)
          · exact .inr (.inl h)
          · exact .inl h
          · exact .inr (.inr h)
      · rename_i h2
        have := ltT_tot h1 h2
        subst this
        simp
theorem insT_ris {x : List Nat} : ∀ {l : List (List Nat)}, RisT l → RisT (insT x l)
  | [], _ => by simp [insT, RisT]
  | y :: r, h => by
    obtain ⟨h1, h2⟩ := List.pairwise_cons.mp h
    unfold insT
    split
    · rename_i hx
      refine List.pairwise_cons.mpr ⟨fun z hz => ?_, h⟩
      rcases List.mem_cons.mp hz with e | e
      · rw [e]; exact hx
      · exact ltT_tr hx (h1 z e)
    · split
      · rename_i hy
        refine List.pairwise_cons.mpr ⟨fun z hz => ?_, insT_ris h2⟩
        rcases insT_mem.mp hz with e | e
        · rw [e]; exact hy
        · exact h1 z e
      · exact h
theorem sdT_mem {z : List Nat} : ∀ {l : List (List Nat)}, z ∈ sdT l ↔ z ∈ l
  | [] => by simp [sdT]
  | x :: r => by unfold sdT; rw [insT_mem, sdT_mem, List.mem_cons]
theorem sdT_ris : ∀ (l : List (List Nat)), RisT (sdT l)
  | [] => by simp [sdT, RisT]
  | x :: r => insT_ris (sdT_ris r)
theorem risT_eq : ∀ {l m : List (List Nat)}, RisT l → RisT m → (∀ z, z ∈ l ↔ z ∈ m) → l = m
  | [], [], _, _, _ => rfl
  | [], y :: r, _, _, h => absurd ((h y).2 List.mem_cons_self) (by simp)
  | x :: l, [], _, _, h => absurd ((h x).1 List.mem_cons_self) (by simp)
  | x :: l, y :: m, h1, h2, h => by
    obtain ⟨a1, a2⟩ := List.pairwise_cons.mp h1
    obtain ⟨b1, b2⟩ := List.pairwise_cons.mp h2
    have exy : x = y := by
      rcases List.mem_cons.mp ((h x).1 List.mem_cons_self) with e | e
      · exact e
      · rcases List.mem_cons.mp ((h y).2 List.mem_cons_self) with e' | e'
        · exact e'.symm
        · have := ltT_tr (b1 x e) (a1 y e')
          rw [ltT_irr] at this; cases this
    subst exy
    rw [risT_eq a2 b2 fun z => ?_]
    have hz := h z
    rw [List.mem_cons, List.mem_cons] at hz
    constructor
    · intro hm
      rcases hz.1 (.inr hm) with e | e
      · subst e; have := a1 z hm; rw [ltT_irr] at this; cases this
      · exact e
    · intro hm
      rcases hz.2 (.inr hm) with e | e
      · subst e; have := b1 z hm; rw [ltT_irr] at this; cases this
      · exact e
theorem risingS_ris : ∀ (ys : List Str) (p : Str), PyProof.Rows.risingS p ys = true → (p :: ys).Nodup → RisT ((p :: ys).map (·.cps.toList))
  | [], p, _, _ => by simp [RisT]
  | y :: r, p, h, nd => by
    unfold PyProof.Rows.risingS at h
    rw [Bool.and_eq_true] at h
    obtain ⟨n1, n2⟩ := List.nodup_cons.mp nd
    have ih := risingS_ris r y h.2 n2
    have hpy : ltT p.cps.toList y.cps.toList = true := by
      by_cases q : ltT p.cps.toList y.cps.toList = true
      · exact q
      · have h1 : ¬ ltT y.cps.toList p.cps.toList = true := by simpa using h.1
        have := ltT_tot q h1
        exact absurd (show p ∈ y :: r from by
          have e : p = y := by
            obtain ⟨⟨l⟩⟩ := p
            obtain ⟨⟨l'⟩⟩ := y
            have : l = l' := this
            rw [this]
          rw [e]; exact List.mem_cons_self) n1
    rw [List.map_cons]
    refine List.pairwise_cons.mpr ⟨fun z hz => ?_, ih⟩
    obtain ⟨i1, i2⟩ := List.pairwise_cons.mp (show RisT (y.cps.toList :: r.map (·.cps.toList)) from ih)
    rw [List.map_cons] at hz
    rcases List.mem_cons.mp hz with e | e
    · rw [e]; exact hpy
    · exact ltT_tr hpy (i1 z e)
theorem str_eta (x : Str) : (⟨x.cps.toList.toArray⟩ : Str) = x := by
  obtain ⟨⟨l⟩⟩ := x; rfl
theorem sorted_is {ys ss : List Str} (h : PyProof.Rows.sortedS ys = true) (nd : ys.Nodup) (hm : ∀ k, k ∈ ys ↔ k ∈ ss) : ys.map (·.cps.toList) = sdT (ss.map (·.cps.toList)) := by
  have r : RisT (ys.map (·.cps.toList)) := by
    cases ys with
    | nil => simp [RisT]
    | cons y r => exact risingS_ris r y h nd
  refine risT_eq r (sdT_ris _) fun z => ?_
  rw [sdT_mem, List.mem_map, List.mem_map]
  constructor
  · rintro ⟨k, hk, rfl⟩; exact ⟨k, (hm k).1 hk, rfl⟩
  · rintro ⟨k, hk, rfl⟩; exact ⟨k, (hm k).2 hk, rfl⟩

/-! ### the layer's rules -/
def SetMO (w : World) (a : Addr) (ks : List Key) : HO := .ext fun h => SetM w h a ks
def rSetStr (w : World) : List V → Hp → VK → Prop := fun xs H Q => ∃ x : Str, xs = [.str x] ∧ x.cps.size < 4000 ∧ ∀ p, H p = none → Q (.ref p) (upd H p (SetMO w p (x.cps.toList.map fun c => .inr ⟨#[c]⟩)))
def rSortedSet (w : World) : List V → Hp → VK → Prop := fun xs H Q => ∃ (a : Addr) (ss : List Str), xs = [.ref a] ∧ H a = some (SetMO w a (ss.map Sum.inr)) ∧
  ∀ p, H p = none → Q (.ref p) (upd H p (.lst ((sdT (ss.map (·.cps.toList))).map fun l => V.str ⟨l.toArray⟩)))
section
variable {X : Cx}
theorem cr_set_str (hc : X.calm = true) : CallR X (.type "set") (rSetStr X.w) := by
  intro pins s σ H xs us Q I r h
  obtain ⟨x, rfl, hz, q⟩ := h
  cases r with
  | cons r1 r2 =>
    cases r2
    obtain ⟨t, rfl⟩ := r1
    refine call_set_str (I.ok.hd hc) (by have : scanBound = 4096 := rfl; omega) fun h' tk hS hk => ?_
    have hf : H s.heap.objs.size = none := I.hok.fresh (Nat.le_refl _)
    refine ⟨.ref s.heap.objs.size, _, I.laid (t' := tk) hk (Nat.le_refl _) ?_, rfl, q _ hf⟩
    obtain ⟨o, es, ep, t', ho, rest⟩ := id hS
    exact ⟨hS, ⟨o, ho⟩, fun h1 h2 a b => a.at b⟩
theorem vals_strs : ∀ {ys : List Str} {us : List Value}, PyProof.Rows.StrsAre us ys → Vals (ys.map V.str) us
  | _, _, .nil => .nil
  | _, _, .cons y t r => .cons ⟨t, rfl⟩ (vals_strs r)
theorem cr_sorted_set (hc : X.calm = true) : CallR X (.builtin "sorted") (rSortedSet X.w) := by
  intro pins s σ H xs us Q I r h
  obtain ⟨a, ss, rfl, ha, q⟩ := h
  cases r with
  | cons r1 r2 =>
    cases r2
    cases r1
    refine sorted_setS (I.hok a _ ha).1 (I.ok.hd hc) fun s' p out c ys hk hg ho hp hl hS h1 h2 h3 h4 => ?_
    obtain ⟨hh, gg, dd, tt, oo⟩ := s'
    obtain rfl : gg = s.gens := hg
    obtain rfl : oo = s.os := ho
    have hf : H p = none := I.hok.fresh hp
    have e : (sdT (ss.map (·.cps.toList))).map (fun l => V.str ⟨l.toArray⟩) = ys.map V.str := by
      rw [← sorted_is h1 h2 h3, List.map_map]
      exact List.map_congr_left fun x _ => by show V.str ⟨x.cps.toList.toArray⟩ = V.str x; rw [str_eta]
    have I2 : Inv X pins σ (upd H p (.lst (ys.map V.str))) { s with heap := hh, toks := tt } := I.laid (t' := tt) hk hp ⟨by rw [List.length_map]; exact h4, out.toList, c, vals_strs hS, by rw [hl]⟩
    refine ⟨.ref p, _, ?_, rfl, q p hf⟩
    rw [e]
    exact ⟨I2.ok, I2.os, I2.bare, I2.base, I2.loc, I2.cell, I2.free, I2.freeC, I2.pin, I2.hok, I2.len⟩
end
/-- sorted(set(e)), e a text -/
def mSortSetStr (m : EM) : EM := fun ls h => (m ls h).bind fun d h1 => match d with
  | .str l => if Nat.blt l.length 4000 = true then .ok (.ref h1.length) (h1 ++ [.lst ((sdT (l.map fun c => [c])).map .str)]) else .bad
  | _ => .bad
theorem relDs_strs {K : PySem.W.Frag} {mp : List Addr} {H : Hp} : ∀ (l : List (List Nat)), RelDs K mp H (l.map .str) (l.map fun x => V.str ⟨x.toArray⟩)
  | [] => .nil
  | x :: r => .cons (.str x) (relDs_strs r)
theorem re_sortSetStr {X : Cx} {W : WX} {e : Expr} {me : EM} {p1 p2 pos1 pos2 : Pos} (hc : X.calm = true) (he : RE X W e me) (hg1 : Gl X "sorted") (hm1 : X.mg "sorted" = none) (hg2 : Gl X "set") (hm2 : X.mg "set" = none)
    (hs1 : starEach [.Call (.Name "set" p2) [e] [] pos2] X.env = [(false, eval (.Call (.Name "set" p2) [e] [] pos2) X.env)] := by rfl) (hs2 : starEach [e] X.env = [(false, eval e X.env)] := by rfl) :
    RE X W (.Call (.Name "sorted" p1) [.Call (.Name "set" p2) [e] [] pos2] [] pos1) (mSortSetStr me) := by
  obtain ⟨t, a1, a2⟩ := he
  have hset := pe_callTy (p := p2) (pos := pos2) (cr_set_str hc) hg2 hm2 (by decide +kernel) (pa_cons a1 pa_nil hs2) (he := hs2)
  refine ⟨_, pe_callB (p := p1) (pos := pos1) (cr_sorted_set hc) hg1 hm1 (by decide +kernel) (pa_cons hset pa_nil hs1) (he := hs1), fun mp lh ls σ H Q r rs q => ?_⟩
  refine a2 mp lh ls σ H _ r rs (q.bind fun mp1 H1 lh1 d v e1 r1 rl1 q1 => ?_)
  cases rl1 with
  | str l =>
    cases hz : Nat.blt l.length 4000 with
    | false => simp only [hz] at q1; exact q1.elim
    | true =>
      simp only [hz] at q1
      refine ⟨_, rfl, by simpa [Nat.blt, Nat.lt_iff_add_one_le] using Nat.le_of_ble_eq_true hz, fun p hp => ?_⟩
      have E1 : Ext X.K mp1 H1 mp1 (upd H1 p (SetMO X.w p (l.toArray.toList.map fun c => .inr ⟨#[c]⟩))) := .free hp
      refine ⟨p, l.map fun c => ⟨#[c]⟩, rfl, by rw [upd_same, List.map_map]; rfl, fun p2 hp2 => ?_⟩
      have R1 := r1.free (o := SetMO X.w p (l.toArray.toList.map fun c => .inr ⟨#[c]⟩)) hp
      refine q1 (mp1 ++ [p2]) _ _ (E1.trans (.alloc R1 hp2)) (R1.alloc hp2 ⟨_, upd_same, ?_⟩) (.ref (by rw [← r1.len]; simp))
      have : (l.map fun c => ([c] : List Nat)) = (l.map fun c => (⟨#[c]⟩ : Str)).map (·.cps.toList) := by rw [List.map_map]; rfl
      rw [this]
      exact relDs_strs _
  | _ => exact q1.elim
end Rf
set_option Elab.async false
set_option linter.all false
set_option maxRecDepth 100000
set_option maxHeartbeats 400000
set_option autoImplicit false
/-! sorted(set(e)), e a list or a tuple of ints, of texts. -/
namespace Rf
open PySem PySem.Spec L2
def insI (x : Int) : List Int → List Int
  | [] => [x]
  | y :: r => if x < y then x :: y :: r else if x = y then y :: r else y :: insI x r
def sdI : List Int → List Int
  | [] => []
  | x :: r => insI x (sdI r)
abbrev RisI (l : List Int) : Prop := l.Pairwise (· < ·)
theorem insI_mem {x z : Int} : ∀ {l : List Int}, z ∈ insI x l ↔ z = x ∨ z ∈ l
  | [] => by simp [insI]
  | y :: r => by
    unfold insI
    split
    · simp
    · split
      · rename_i e; subst e; simp
      · simp [insI_mem (l := r)]
        constructor
        · rintro (h | h | h) <;> simp [h]
        · rintro (h | h | h) <;> simp [h]
theorem insI_ris {x : Int} : ∀ {l : List Int}, RisI l → RisI (insI x l)
  | [], _ => by simp [insI, RisI]
  | y :: r, h => by
    obtain ⟨h1, h2⟩ := List.pairwise_cons.mp h
    unfold insI
    split
    · rename_i hlt
      refine List.pairwise_cons.mpr ⟨fun z hz => ?_, h⟩
      rcases List.mem_cons.mp hz with e | e
      · rw [e]; exact hlt
      · exact Int.lt_trans hlt (h1 z e)
    · split
      · exact h
      · rename_i n1 n2
        refine List.pairwise_cons.mpr ⟨fun z hz => ?_, insI_ris h2⟩
        rcases insI_mem.mp hz with e | e
        · rw [e]; omega
        · exact h1 z e
theorem sdI_mem {z : Int} : ∀ {l : List Int}, z ∈ sdI l ↔ z ∈ l
  | [] => by simp [sdI]
  | x :: r => by rw [sdI, insI_mem, sdI_mem, List.mem_cons]
theorem sdI_ris : ∀ l : List Int, RisI (sdI l)
  | [] => by simp [sdI, RisI]
  | x :: r => insI_ris (sdI_ris r)
theorem risI_eq : ∀ {l m : List Int}, RisI l → RisI m → (∀ z, z ∈ l ↔ z ∈ m) → l = m
  | [], [], _, _, _ => rfl
  | [], y :: m, _, _, h => by have := (h y).mpr List.mem_cons_self; cases this
  | x :: l, [], _, _, h => by have := (h x).mp List.mem_cons_self; cases this
  | x :: l, y :: m, h1, h2, h => by
    obtain ⟨a1, a2⟩ := List.pairwise_cons.mp h1
    obtain ⟨b1, b2⟩ := List.pairwise_cons.mp h2
    have exy : x = y := by
      rcases List.mem_cons.mp ((h x).mp List.mem_cons_self) with e | e
      · exact e
      · rcases List.mem_cons.mp ((h y).mpr List.mem_cons_self) with e' | e'
        · exact e'.symm
        · have := b1 x e; have := a1 y e'; omega
    subst exy
    have : l = m := risI_eq a2 b2 fun z => by
      constructor
      · intro hz
        rcases List.mem_cons.mp ((h z).mp (List.mem_cons_of_mem _ hz)) with e | e
        · have := a1 z hz; omega
        · exact e
      · intro hz
        rcases List.mem_cons.mp ((h z).mpr (List.mem_cons_of_mem _ hz)) with e | e
        · have := b1 z hz; omega
        · exact e
    rw [this]
theorem sortedI_is {ys ss : List Int} (h : ys.Pairwise (· ≤ ·)) (nd : ys.Nodup) (hm : ∀ k, k ∈ ys ↔ k ∈ ss) : ys = sdI ss := by
  refine risI_eq ?_ (sdI_ris ss) fun z => by rw [sdI_mem]; exact hm z
  exact (h.and nd).imp fun ⟨a, b⟩ => by omega
/-! ### the rules -/
theorem keys_at : ∀ {ks : List Key} {us : List Value}, Vals (ks.map kV) us → ∀ (i : Nat) (v : Value), us[i]? = some v → ∃ k, ks[i]? = some k ∧ keyIs k v = true
  | [], _, .nil, i, v, h => by simp at h
  | k :: ks, _, .cons r rs, 0, v, h => by
    simp at h; subst h
    refine ⟨k, rfl, ?_⟩
    cases k with
    | inl n => obtain ⟨t, rfl⟩ := r; exact keyIs_int _ _
    | inr x => obtain ⟨t, rfl⟩ := r; exact keyIs_str _ _
  | k :: ks, _, .cons r rs, i + 1, v, h => by
    obtain ⟨k', h1, h2⟩ := keys_at rs i v (by simpa using h)
    exact ⟨k', by simpa using h1, h2⟩
def rSetK (K : PySem.W.Frag) (w : World) : List V → Hp → VK → Prop := fun xs H Q => ∃ (a : Addr) (ks : List Key), xs = [.ref a] ∧ (SqL K H a (ks.map kV) ∨ SqT K H a (ks.map kV)) ∧ ks.length < 4000 ∧ ∀ p, H p = none → Q (.ref p) (upd H p (SetMO w p ks))
def rSortedI' (w : World) : List V → Hp → VK → Prop := fun xs H Q => ∃ (a : Addr) (ss : List Int), xs = [.ref a] ∧ H a = some (SetMO w a (ss.map Sum.inl)) ∧ ∀ p, H p = none → Q (.ref p) (upd H p (.lst ((sdI ss).map V.int)))
section
variable {X : Cx}
theorem cr_setK (hc : X.calm = true) : CallR X (.type "set") (rSetK X.K X.w) := by
  intro pins s σ H xs us Q I r h
  obtain ⟨a, ks, rfl, hs, hz, q⟩ := h
  cases r with
  | cons r1 r2 =>
    cases r2
    cases r1
    have fin : ∀ (h' : Heap) (tk : Nat), SetM X.w h' s.heap.objs.size ks → (∀ b o, s.heap.get? b = some o → h'.get? b = some o) → EP X pins σ Q (.ref s.heap.objs.size) { s with heap := h', toks := tk } := fun h' tk hS hk => by
      have hf : H s.heap.objs.size = none := I.hok.fresh (Nat.le_refl _)
      refine ⟨.ref s.heap.objs.size, _, I.laid (t' := tk) hk (Nat.le_refl _) ?_, rfl, q _ hf⟩
      obtain ⟨o, es, ep, t', ho, rest⟩ := id hS
      exact ⟨hS, ⟨o, ho⟩, fun h1 h2 a b => a.at b⟩
    have hb : ks.length + 1 < scanBound := by have : scanBound = 4096 := rfl; omega
    rcases hs with hs | hs
    · obtain ⟨its, rv, ⟨o, n, ho, hcl, hdn, hd⟩, _⟩ := I.list hs
      have hl : its.toArray.size = ks.length := by have := rv.length; simp at this ⊢; omega
      exact call_set_list ks (I.ok.hd hc) ⟨o, ho, hcl, n, hd⟩ hl (fun i v hv => keys_at rv i v (by simpa using hv)) hb fin
    · obtain ⟨its, rv, ht, _⟩ := I.tuple hs
      have hl : its.toArray.size = ks.length := by have := rv.length; simp at this ⊢; omega
      exact call_set_tuple ks (I.ok.hd hc) ht hl (fun i v hv => keys_at rv i v (by simpa using hv)) hb fin
theorem vals_intsI : ∀ {ys : List Int} {us : List Value}, PyProof.Rows.IntsAre us ys → Vals (ys.map V.int) us
  | _, _, .nil => .nil
  | _, _, .cons y t r => .cons ⟨t, rfl⟩ (vals_intsI r)
theorem cr_sorted_setI (hc : X.calm = true) : CallR X (.builtin "sorted") (rSortedI' X.w) := by
  intro pins s σ H xs us Q I r h
  obtain ⟨a, ss, rfl, ha, q⟩ := h
  cases r with
  | cons r1 r2 =>
    cases r2
    cases r1
    refine sorted_setI (I.hok a _ ha).1 (I.ok.hd hc) fun s' p out c ys hk hg ho hp hl hS h1 h2 h3 h4 => ?_
    obtain ⟨hh, gg, dd, tt, oo⟩ := s'
    obtain rfl : gg = s.gens := hg
    obtain rfl : oo = s.os := ho
    have hf : H p = none := I.hok.fresh hp
    have e : ys = sdI ss := sortedI_is h1 h2 h3
    have I2 : Inv X pins σ (upd H p (.lst (ys.map V.int))) { s with heap := hh, toks := tt } := I.laid (t' := tt) hk hp ⟨by rw [List.length_map]; exact h4, out.toList, c, vals_intsI hS, by rw [hl]⟩
    refine ⟨.ref p, _, ?_, rfl, q p hf⟩
    rw [← e]
    exact ⟨I2.ok, I2.os, I2.bare, I2.base, I2.loc, I2.cell, I2.free, I2.freeC, I2.pin, I2.hok, I2.len⟩
end
end Rf
set_option Elab.async false
set_option linter.all false
set_option maxRecDepth 100000
set_option maxHeartbeats 4000000
set_option autoImplicit false
/-! Operators, comparisons. -/
namespace Rf
open PySem PySem.Spec L2

/-! ### small tools -/
theorem str_app (a b : List Nat) : ((⟨a.toArray⟩ : Str) ++ ⟨b.toArray⟩) = ⟨(a ++ b).toArray⟩ := by
  show Str.append _ _ = _
  unfold Str.append; simp
theorem str_len (a : List Nat) : (⟨a.toArray⟩ : Str).length = a.length := by simp [Str.length]
theorem str_inj {a b : List Nat} : ((⟨a.toArray⟩ : Str) = ⟨b.toArray⟩) ↔ a = b := by
  constructor
  · intro h; injection h with h; simpa using h
  · intro h; rw [h]
def asLst (d : D) (h : LH) : Option (List D) := match d with
  | .ref n => (match h[n]? with
    | some (.lst xs) => some xs
    | _ => none)
  | _ => none
/-- a list, also one that is only read -/
def asRd (d : D) (h : LH) : Option (List D) := match d with
  | .ref n => (match h[n]? with
    | some (.lst xs) => some xs
    | _ => none)
  | _ => none
section
variable {K : PySem.W.Frag} {mp : List Addr} {H : Hp} {lh : LH} {d : D} {v : V} {xs : List D}
theorem asLst_of (r : Rep K mp lh H) (rd : RelD K mp H d v) (h : asLst d lh = some xs) : ∃ n a vs, d = .ref n ∧ v = .ref a ∧ mp[n]? = some a ∧ lh[n]? = some (.lst xs) ∧ H a = some (.lst vs) ∧ RelDs K mp H xs vs := by
  cases rd with
  | @ref n a ha =>
    unfold asLst at h
    cases hn : lh[n]? with
    | none => simp only [hn] at h; cases h
    | some o =>
      cases o with
      | lst ys =>
        simp only [hn] at h; cases h
        obtain ⟨vs, h1, h2⟩ := r.obj n _ a hn ha
        exact ⟨n, a, vs, rfl, rfl, ha, hn, h1, h2⟩
      | _ => simp only [hn] at h; cases h
  | _ => cases h
theorem asRd_of (r : Rep K mp lh H) (rd : RelD K mp H d v) (h : asRd d lh = some xs) : ∃ n a vs, d = .ref n ∧ v = .ref a ∧ mp[n]? = some a ∧ SqL K H a vs ∧ RelDs K mp H xs vs := by
  cases rd with
  | @ref n a ha =>
    unfold asRd at h
    cases hn : lh[n]? with
    | none => simp only [hn] at h; cases h
    | some o =>
      cases o with
      | lst ys =>
        simp only [hn] at h; cases h
        obtain ⟨vs, h1, h2⟩ := r.obj n _ a hn ha
        exact ⟨n, a, vs, rfl, rfl, ha, SqL.of h1, h2⟩
      | _ => simp only [hn] at h; cases h
  | _ => cases h
end
theorem ROp.or {X : Cx} {g : Value → Value → Sem Value} {f1 f2 : D → D → LH → R D} (a : ROp X g f1) (b : ROp X g f2) : ROp X g (fun x y h => match f1 x y h with
    | .bad => f2 x y h
    | r => r) := by
  obtain ⟨r1, a1, a2⟩ := a
  obtain ⟨r2, b1, b2⟩ := b
  refine ⟨_, OpR.or a1 b1, fun mp lh H x y vx vy Q E rp rx ry q => ?_⟩
  dsimp only at q
  cases e : f1 x y lh with
  | bad => rw [e] at q; exact .inr (b2 mp lh H x y vx vy Q E rp rx ry q)
  | ok d h => rw [e] at q; exact .inl (a2 mp lh H x y vx vy Q E rp rx ry (by rw [e]; exact q))
  | ex x' h => rw [e] at q; exact .inl (a2 mp lh H x y vx vy Q E rp rx ry (by rw [e]; exact q))

/-! ### ints -/
def oI (c : Int → Int → Bool) (g : Int → Int → D) : D → D → LH → R D := fun x y h => match x, y with
  | .int i, .int j => if c i j = true then .ok (g i j) h else .bad
  | _, _ => .bad
theorem rop_int {X : Cx} {f : Value → Value → Sem Value} {C : Int → Int → Prop} {gv : Int → Int → V} {c : Int → Int → Bool} {g : Int → Int → D} (h : OpR X f (rI C gv)) (hc : ∀ i j, c i j = true → C i j) (hg : ∀ i j mp H, RelD X.K mp H (g i j) (gv i j)) : ROp X f (oI c g) := by
  refine ⟨_, h, fun mp lh H x y vx vy Q E rp rx ry q => ?_⟩
  cases rx with
  | int i =>
    cases ry with
    | int j =>
      cases e : c i j with
      | false => simp only [oI, e] at q; exact q.elim
      | true => simp only [oI, e] at q; exact ⟨i, j, rfl, rfl, hc _ _ e, q.now rp (hg _ _ _ _)⟩
    | _ => exact q.elim
  | _ => cases ry <;> exact q.elim
def oI0 (g : Int → Int → D) : D → D → LH → R D := fun x y h => match x, y with
  | .int i, .int j => .ok (g i j) h
  | _, _ => .bad
theorem rop_int0 {X : Cx} {f : Value → Value → Sem Value} {gv : Int → Int → V} {g : Int → Int → D} (h : OpR X f (rI0 gv)) (hg : ∀ i j mp H, RelD X.K mp H (g i j) (gv i j)) : ROp X f (oI0 g) := by
  refine ⟨_, h, fun mp lh H x y vx vy Q E rp rx ry q => ?_⟩
  cases rx with
  | int i =>
    cases ry with
    | int j => exact ⟨i, j, rfl, rfl, q.now rp (hg _ _ _ _)⟩
    | _ => exact q.elim
  | _ => cases ry <;> exact q.elim
def bnd64 (i : Int) : Bool := decide (-(2 ^ 64) < i) && decide (i < 2 ^ 64)
section
variable {X : Cx}
theorem o_sub : ROp X (binaryOp .Sub) (oI0 fun i j => .int (i - j)) := rop_int0 op_sub fun _ _ _ _ => .int _
theorem o_mulI : ROp X (binaryOp .Mult) (oI (fun i j => bnd64 i || bnd64 j) fun i j => .int (i * j)) := rop_int op_mul (fun i j h => by
  unfold bnd64 at h
  rw [Bool.or_eq_true, Bool.and_eq_true, Bool.and_eq_true] at h
  rcases h with ⟨a, b⟩ | ⟨a, b⟩
  · exact .inl ⟨of_decide_eq_true a, of_decide_eq_true b⟩
  · exact .inr ⟨of_decide_eq_true a, of_decide_eq_true b⟩) fun _ _ _ _ => .int _
theorem o_div : ROp X (binaryOp .FloorDiv) (oI (fun _ j => decide (0 < j) && decide (j < 1073741824)) fun i j => .int (i / j)) := rop_int op_fdiv (fun i j h => by
  rw [Bool.and_eq_true] at h
  exact ⟨of_decide_eq_true h.1, of_decide_eq_true h.2⟩) fun _ _ _ _ => .int _
theorem o_mod : ROp X (binaryOp .Mod) (oI (fun _ j => decide (0 < j)) fun i j => .int (i % j)) := rop_int op_mod (fun i j h => of_decide_eq_true h) fun _ _ _ _ => .int _
theorem o_pow : ROp X (binaryOp .Pow) (oI (fun i j => decide (0 ≤ j) && (decide (j ≤ 1000000) && Nat.blt i.natAbs 18446744073709551616)) fun i j => .int (i ^ j.toNat)) := rop_int op_pow (fun i j h => by
  rw [Bool.and_eq_true, Bool.and_eq_true] at h
  refine ⟨of_decide_eq_true h.1, of_decide_eq_true h.2.1, ?_⟩
  have := h.2.2
  exact Nat.lt_of_lt_of_le (Nat.lt_of_succ_le (Nat.le_of_ble_eq_true this)) (by decide)) fun _ _ _ _ => .int _
theorem o_ltI : ROp X (compareOp .Lt) (oI0 fun i j => .bl (decide (i < j))) := rop_int0 op_lt fun _ _ _ _ => .bl _
theorem o_leI : ROp X (compareOp .LtE) (oI0 fun i j => .bl (decide (i ≤ j))) := rop_int0 op_le fun _ _ _ _ => .bl _
theorem o_gtI : ROp X (compareOp .Gt) (oI0 fun i j => .bl (decide (j < i))) := rop_int0 op_gt fun _ _ _ _ => .bl _
theorem o_geI : ROp X (compareOp .GtE) (oI0 fun i j => .bl (decide (j ≤ i))) := rop_int0 op_ge fun _ _ _ _ => .bl _
end

/-! ### + -/
def dAdd : D → D → LH → R D := fun x y h => match x, y with
  | .int i, .int j => .ok (.int (i + j)) h
  | .str a, .str b => if szOk (a.length + b.length) = true then .ok (.str (a ++ b)) h else .bad
  | .tup a, .tup b => if szOk (a.length + b.length) = true then .ok (.tup (a ++ b)) h else .bad
  | .ref n, .ref k => (match asLst (.ref n) h, asLst (.ref k) h with
    | some xs, some ys => if szOk (xs.length + ys.length) = true then .ok (.ref h.length) (h ++ [.lst (xs ++ ys)]) else .bad
    | _, _ => .bad)
  | _, _ => .bad
theorem o_add {X : Cx} : ROp X (binaryOp .Add) dAdd := by
  refine ⟨_, OpR.or op_add (OpR.or op_add_str (OpR.or op_catA op_cat)), fun mp lh H x y vx vy Q E rp rx ry q => ?_⟩
  cases rx with
  | int i =>
    cases ry with
    | int j => exact .inl ⟨i, j, rfl, rfl, q.now rp (.int _)⟩
    | _ => exact q.elim
  | str a =>
    cases ry with
    | str b =>
      cases hz : szOk (a.length + b.length) with
      | false => simp only [dAdd, hz] at q; exact q.elim
      | true =>
        simp only [dAdd, hz] at q
        refine .inr (.inl ⟨_, _, rfl, rfl, by rw [str_len, str_len]; exact szOk_le hz, ?_⟩)
        rw [str_app]; exact q.now rp (.str _)
    | _ => exact q.elim
  | @tup a aa avs ha ra =>
    cases ry with
    | @tup b ba bvs hb rb =>
      cases hz : szOk (a.length + b.length) with
      | false => simp only [dAdd, hz] at q; exact q.elim
      | true =>
        simp only [dAdd, hz] at q
        refine .inr (.inr (.inl ⟨aa, ba, avs, bvs, rfl, rfl, ha.sq, hb.sq, by rw [← ra.length, ← rb.length]; exact szOk_le hz, fun e => ?_, fun _ e => ?_, fun _ _ p hp => ?_⟩))
        · subst e; cases ra; exact q.now rp (.tup hb rb)
        · subst e; cases rb; exact q.now rp (.tup (by simpa using ha) (by simpa using ra))
        · exact q mp _ _ (.free hp) (rp.free hp) (.tup (.inl upd_same) ((ra.append rb).ext (.free hp)))
    | _ => exact q.elim
  | @ref n a hn =>
    cases ry with
    | @ref k b hk =>
      simp only [dAdd] at q
      cases e1 : asLst (.ref n) lh with
      | none => simp only [e1] at q; exact q.elim
      | some xs =>
        cases e2 : asLst (.ref k) lh with
        | none => simp only [e1, e2] at q; exact q.elim
        | some ys =>
          simp only [e1, e2] at q
          cases hz : szOk (xs.length + ys.length) with
          | false => simp only [hz] at q; exact q.elim
          | true =>
            simp only [hz] at q
            obtain ⟨_, a', vs, e, e', h1, _, h2, h3⟩ := asLst_of rp (.ref hn) e1
            cases e; cases e'
            obtain ⟨_, b', us, e, e', g1, _, g2, g3⟩ := asLst_of rp (.ref hk) e2
            cases e; cases e'
            refine .inr (.inr (.inr ⟨a, b, vs, us, rfl, rfl, h2, g2, by rw [← h3.length, ← g3.length]; exact szOk_le hz, fun p hp => ?_⟩))
            exact q (mp ++ [p]) _ _ (.alloc rp hp) (rp.alloc hp ⟨_, upd_same, (h3.append g3).ext (.alloc rp hp)⟩) (.ref (by rw [← rp.len]; simp))
    | _ => exact q.elim
  | _ => cases ry <;> exact q.elim

/-! ### a tuple once -/
theorem tuple_mul1 (l : Addr) (items : Array Value) (n : Nat) (dd : Option Addr) (sl : Array (Option Value)) (u : Tok) :
    Meets (Builtin.«tuple.__mul__» ⟨[.ref l, .int 1 u], []⟩) (fun _ R s => s.heap.get? l = some { cls := .type "tuple", dict := dd, data := .seq items n, slots := sl } ∧ R (.ok (.ret (Value.ref l))) s) :=
  .of_wp fun prog w A R s h => by
    obtain ⟨hp, g, d, tk, os⟩ := s
    obtain ⟨hl, h⟩ := h
    have f1 := AutoSeq1.idx_int
    have c1 : (items.isEmpty || (1 : Int) == 1) = true := by simp
    wp_walk using wpAny_loadPart' hl
    repeat (first
      | (refine wpAny_ite_false (decide_eq_false (by decide)) ?_; wp_walk using wpAny_loadPart' hl)
      | (refine wpAny_ite_true (decide_eq_true c1) ?_; wp_walk using wpAny_loadPart' hl)
      | (refine wpAny_ite_true (by first | rfl | decide | simp) ?_; wp_walk using wpAny_loadPart' hl))
    exact ⟨_, rfl, h⟩
theorem op_repT1 {X : Cx} : OpR X (binaryOp .Mult) (fun x y H Q => ∃ l xs, x = .ref l ∧ y = .int 1 ∧ SqT X.K H l xs ∧ Q (.ref l) H) := by
  intro pins s σ H x y v u Q I rx ry h
  obtain ⟨l, xs, rfl, rfl, hT, q⟩ := h
  cases rx
  obtain ⟨t, rfl⟩ := ry
  obtain ⟨its, r, ⟨⟨cls, dd, data, sl⟩, ho, hc, n, hd⟩, hs⟩ := I.tuple hT
  simp only at hc hd
  subst hc hd
  refine wpAny_binaryOp_repeat_ref (T := "tuple") (U := "int") (by decide) ⟨_, ho, rfl⟩ (fun s' => typeIs_int s' 1 t) noFill_tuple_mul PySem.F.fills_int_mul PySem.F.slot_int_rmul repeat_tuple PySem.F.slot_int_index.lookup
    (call_meets PySem.F.slot_int_rmul (typeIs_int s 1 t) PySem.F.entry_int_rmul (PySem.F.args_int_rmul_2 _ _) (int_rmul_tuple 1 t l its.toArray n dd sl)
      ⟨ho, rfl, ⟨_, ho, rfl⟩, call_meets PySem.F.slot_tuple_mul ⟨_, ho, rfl⟩ PySem.F.entry_tuple_mul (PySem.F.args_tuple_mul_2 _ _) (tuple_mul1 l its.toArray n dd sl t) ⟨ho, ?_⟩⟩)
  exact ⟨.ref l, H, I, rfl, q⟩

/-! ### * -/
def dMul : D → D → LH → R D := fun x y h => match x, y with
  | .int i, .int j => if (bnd64 i || bnd64 j) = true then .ok (.int (i * j)) h else .bad
  | .str a, .int k => if (decide (0 ≤ k) && (decide (k ≤ 1000) && Nat.ble a.length 1000)) = true then .ok (.str (List.replicate k.toNat a).flatten) h else .bad
  | .tup a, .int k => if decide (k = 1) = true then .ok (.tup a) h else if (decide (2 ≤ k) && (decide (k ≤ 1000) && (Nat.ble a.length 1000 && !a.isEmpty))) = true then .ok (.tup (List.replicate k.toNat a).flatten) h else .bad
  | .ref n, .int k => (match asLst (.ref n) h with
    | some xs => if (decide (0 ≤ k) && (decide (k ≤ 10000) && Nat.ble xs.length 1000)) = true then .ok (.ref h.length) (h ++ [.lst (List.replicate k.toNat xs).flatten]) else .bad
    | _ => .bad)
  | _, _ => .bad
theorem mul_list (a : List Nat) (k : Int) (h : 0 ≤ k) : (Txt.mul ⟨a.toArray⟩ k : Str) = ⟨(List.replicate k.toNat a).flatten.toArray⟩ := by
  unfold Txt.mul
  have fold : ∀ (n : Nat) (acc : Array Nat), ((List.replicate n a.toArray).foldl (· ++ ·) acc) = (acc.toList ++ (List.replicate n a).flatten).toArray := by
    intro n
    induction n with
    | zero => intro acc; simp
    | succ n ih => intro acc; rw [List.replicate_succ, List.foldl_cons, ih]; simp [List.replicate_succ]
  by_cases h1 : k < 1
  · rw [if_pos h1]
    have : k.toNat = 0 := by omega
    rw [this]; rfl
  · rw [if_neg h1]
    split
    · rename_i h2
      rw [Bool.or_eq_true] at h2
      rcases h2 with h2 | h2
      · have : k = 1 := by simpa using h2
        subst this; simp
      · have : a = [] := by simpa [Str.length] using h2
        subst this; simp
    · rw [fold]; simp
theorem op_mul_str {X : Cx} : OpR X (binaryOp .Mult) (fun x y H Q => ∃ (a : List Nat) (k : Int), x = .str ⟨a.toArray⟩ ∧ y = .int k ∧ 0 ≤ k ∧ k ≤ 1000 ∧ a.length ≤ 1000 ∧ Q (.str ⟨(List.replicate k.toNat a).flatten.toArray⟩) H) := by
  intro pins s σ H x y v u Q I rx ry h
  obtain ⟨a, k, rfl, rfl, h0, h1, h2, q⟩ := h
  obtain ⟨t, rfl⟩ := rx
  obtain ⟨t', rfl⟩ := ry
  refine PySem.SB.mul ⟨by
    have e1 : decide (k < -(2 ^ 63 : Int)) = false := decide_eq_false (by omega)
    have e2 : decide (k ≥ 2 ^ 63) = false := decide_eq_false (by omega)
    rw [e1, e2]; rfl, fun hk _ => ?_, fun hk _ => ?_⟩ fun t2 tk => ⟨.str _, H, I.tok tk, ⟨t2, by rw [mul_list a k h0]⟩, q⟩
  · rw [str_len]
    have : (1000 : Int) ≤ (2 ^ 63 - 1) / k := by
      have h3 : (1000 : Int) * k ≤ 2 ^ 63 - 1 := by omega
      exact (Int.le_ediv_iff_mul_le (by omega)).mpr h3
    omega
  · rw [str_len]
    have h4 : k.toNat ≤ 1000 := by omega
    have h5 : a.length * k.toNat ≤ 1000 * 1000 := Nat.mul_le_mul h2 h4
    unfold Builtin.Str.tooLong
    have : ¬ (a.length * k.toNat > sizeLine) := by
      have : sizeLine = 16777216 := rfl
      omega
    simpa using this
theorem relDs_rep {K : PySem.W.Frag} {mp : List Addr} {H : Hp} {xs : List D} {vs : List V} (r : RelDs K mp H xs vs) : ∀ n : Nat, RelDs K mp H (List.replicate n xs).flatten (List.replicate n vs).flatten
  | 0 => .nil
  | n + 1 => by rw [List.replicate_succ, List.replicate_succ, List.flatten_cons, List.flatten_cons]; exact r.append (relDs_rep r n)
theorem o_mul {X : Cx} : ROp X (binaryOp .Mult) dMul := by
  refine ⟨_, OpR.or op_mul (OpR.or op_mul_str (OpR.or op_repT (OpR.or op_rep op_repT1))), fun mp lh H x y vx vy Q E rp rx ry q => ?_⟩
  cases ry with
  | int k =>
    cases rx with
    | int i =>
      cases hz : (bnd64 i || bnd64 k) with
      | false => simp only [dMul, hz] at q; exact q.elim
      | true =>
        simp only [dMul, hz] at q
        refine .inl ⟨i, k, rfl, rfl, ?_, q.now rp (.int _)⟩
        unfold bnd64 at hz
        rw [Bool.or_eq_true, Bool.and_eq_true, Bool.and_eq_true] at hz
        rcases hz with ⟨a, b⟩ | ⟨a, b⟩
        · exact .inl ⟨of_decide_eq_true a, of_decide_eq_true b⟩
        · exact .inr ⟨of_decide_eq_true a, of_decide_eq_true b⟩
    | str a =>
      cases hz : (decide (0 ≤ k) && (decide (k ≤ 1000) && Nat.ble a.length 1000)) with
      | false => simp only [dMul, hz] at q; exact q.elim
      | true =>
        simp only [dMul, hz] at q
        rw [Bool.and_eq_true, Bool.and_eq_true] at hz
        exact .inr (.inl ⟨a, k, rfl, rfl, of_decide_eq_true hz.1, of_decide_eq_true hz.2.1, Nat.le_of_ble_eq_true hz.2.2, q.now rp (.str _)⟩)
    | @tup a aa avs ha ra =>
      by_cases h1 : k = 1
      · subst h1
        exact .inr (.inr (.inr (.inr ⟨aa, avs, rfl, rfl, ha.sq, PostG.now (show PostG X.K (RelD X.K) mp H (.ok (.tup a) lh) Q E from q) rp (.tup ha ra)⟩)))
      have h1' : decide (k = 1) = false := decide_eq_false h1
      cases hz : (decide (2 ≤ k) && (decide (k ≤ 1000) && (Nat.ble a.length 1000 && !a.isEmpty))) with
      | false => simp only [dMul, h1', hz] at q; exact q.elim
      | true =>
        simp only [dMul, h1', hz] at q
        rw [Bool.and_eq_true, Bool.and_eq_true, Bool.and_eq_true] at hz
        refine .inr (.inr (.inl ⟨aa, k, avs, rfl, rfl, ha.sq, ?_, of_decide_eq_true hz.1, of_decide_eq_true hz.2.1, by rw [← ra.length]; exact Nat.le_of_ble_eq_true hz.2.2.1, fun p hp => ?_⟩))
        · intro e; subst e; cases ra; have := hz.2.2.2; simp at this
        · exact q mp _ _ (.free hp) (rp.free hp) (.tup (.inl upd_same) ((relDs_rep ra _).ext (.free hp)))
    | @ref n a hn =>
      simp only [dMul] at q
      cases e1 : asLst (.ref n) lh with
      | none => simp only [e1] at q; exact q.elim
      | some xs =>
        simp only [e1] at q
        cases hz : (decide (0 ≤ k) && (decide (k ≤ 10000) && Nat.ble xs.length 1000)) with
        | false => simp only [hz] at q; exact q.elim
        | true =>
          simp only [hz] at q
          obtain ⟨_, a', vs, e, e', h1, _, h2, h3⟩ := asLst_of rp (.ref hn) e1
          cases e; cases e'
          rw [Bool.and_eq_true, Bool.and_eq_true] at hz
          have z1 : 0 ≤ k := of_decide_eq_true hz.1
          have z2 : k ≤ 10000 := of_decide_eq_true hz.2.1
          have z3 : xs.length ≤ 1000 := Nat.le_of_ble_eq_true hz.2.2
          refine .inr (.inr (.inr (.inl ⟨a, k, vs, rfl, rfl, h2, by omega, by omega, ?_, fun p hp => ?_⟩)))
          · rw [← h3.length]
            have h4 : k.toNat ≤ 10000 := by omega
            have h5 : xs.length * k.toNat ≤ 1000 * 10000 := Nat.mul_le_mul z3 h4
            have : sizeLine = 16777216 := rfl
            omega
          · exact q (mp ++ [p]) _ _ (.alloc rp hp) (rp.alloc hp ⟨_, upd_same, (relDs_rep h3 _).ext (.alloc rp hp)⟩) (.ref (by rw [← rp.len]; simp))
    | _ => exact q.elim
  | _ => cases rx <;> exact q.elim

/-! ### == -/
/-- data as a whole -/
def pdA (f : D → Option PyData) : List D → Option (List PyData)
  | [] => some []
  | d :: r => match f d, pdA f r with
    | some p, some ps => some (p :: ps)
    | _, _ => none
def pd (h : LH) : Nat → D → Option PyData
  | 0, _ => none
  | n + 1, d => match d with
    | .non => some .none
    | .bl b => some (.bool b)
    | .int i => some (.int i)
    | .str l => some (.str ⟨l.toArray⟩)
    | .tup xs => (pdA (pd h n) xs).map .tuple
    | .ktp xs => (pdA (pd h n) xs).map .tuple
    | .fn _ _ => none
    | .rol xs => (pdA (pd h n) xs).map .list
    | .ref k => (asRd (.ref k) h).bind fun xs => (pdA (pd h n) xs).map .list
theorem pdA_ok {K : PySem.W.Frag} {mp : List Addr} {H : Hp} {f : D → Option PyData} (hf : ∀ d v p, RelD K mp H d v → f d = some p → Dp K H v p) : ∀ {xs : List D} {vs : List V} {ps : List PyData}, RelDs K mp H xs vs → pdA f xs = some ps → DpAll K H vs ps
  | _, _, _, .nil, h => by cases h; exact .nil
  | _, _, ps, .cons (d := d) (ds := ds) a b, h => by
    unfold pdA at h
    cases e1 : f d with
    | none => simp only [e1] at h; cases h
    | some p =>
      cases e2 : pdA f ds with
      | none => simp only [e1, e2] at h; cases h
      | some qs =>
        simp only [e1, e2] at h; cases h
        exact .cons (hf _ _ _ a e1) (pdA_ok hf b e2)
theorem pd_ok {K : PySem.W.Frag} {mp : List Addr} {H : Hp} {lh : LH} (r : Rep K mp lh H) : ∀ (n : Nat) (d : D) (v : V) (p : PyData), RelD K mp H d v → pd lh n d = some p → Dp K H v p
  | 0, _, _, _, _, h => by cases h
  | n + 1, d, v, p, rd, h => by
    unfold pd at h
    cases rd with
    | non => cases h; exact .non
    | bl b => cases h; exact .bl b
    | int i => cases h; exact .int i
    | str l => cases h; exact .str _
    | @tup xs a vs hs rs =>
      cases e : pdA (pd lh n) xs with
      | none => simp only [e] at h; cases h
      | some ps => simp only [e] at h; cases h; exact .tup hs.sq (pdA_ok (pd_ok r n) rs e)
    | @ktp xs a vs hs rs =>
      cases e : pdA (pd lh n) xs with
      | none => simp only [e] at h; cases h
      | some ps => simp only [e] at h; cases h; exact .tup hs.sq (pdA_ok (pd_ok r n) rs e)
    | @rol xs a vs hs rs =>
      cases e : pdA (pd lh n) xs with
      | none => simp only [e] at h; cases h
      | some ps => simp only [e] at h; cases h; exact .lst hs.sq (pdA_ok (pd_ok r n) rs e)
    | @ref k a hk =>
      dsimp only at h
      cases e1 : asRd (.ref k) lh with
      | none => rw [e1] at h; cases h
      | some xs =>
        rw [e1] at h
        obtain ⟨_, a', vs, e, e', _, h2, h3⟩ := asRd_of r (.ref hk) e1
        cases e; cases e'
        cases e : pdA (pd lh n) xs with
        | none => simp [e] at h
        | some ps => simp [e] at h; subst h; exact .lst h2 (pdA_ok (pd_ok r n) h3 e)
def eqS : D → D → Option Bool
  | .non, .non => some true
  | .int i, .int j => some (decide (i = j))
  | .bl a, .bl b => some (decide (a = b))
  | .str a, .str b => some (decide (a = b))
  | .non, .int _ => some false
  | .int _, .non => some false
  | .non, .bl _ => some false
  | .bl _, .non => some false
  | .non, .str _ => some false
  | .str _, .non => some false
  | .int _, .str _ => some false
  | .str _, .int _ => some false
  | .bl _, .str _ => some false
  | .str _, .bl _ => some false
  | _, _ => none
def eqD (x y : D) (h : LH) : Option Bool := match eqS x y with
  | some b => some b
  | none => match pd h 66 x, pd h 66 y with
    | some p, some q => if (SeqAt.shaped p && SeqAt.shaped q) = true then some (PyData.eqv p q) else none
    | _, _ => none
def dEq : D → D → LH → R D := fun x y h => match eqD x y h with
  | some b => .ok (.bl b) h
  | none => .bad
def dNe : D → D → LH → R D := fun x y h => match eqD x y h with
  | some b => .ok (.bl (!b)) h
  | none => .bad
theorem eqS_ok {K : PySem.W.Frag} {mp : List Addr} {H : Hp} {x y : D} {vx vy : V} {b : Bool} (rx : RelD K mp H x vx) (ry : RelD K mp H y vy) (h : eqS x y = some b) : scal vx vy = true ∧ decide (vx = vy) = b := by
  cases rx <;> cases ry <;> first
    | (cases h; refine ⟨rfl, ?_⟩; simp)
    | cases h
  all_goals (refine ⟨rfl, ?_⟩; simp)
theorem eqD_ok {K : PySem.W.Frag} {mp : List Addr} {lh : LH} {H : Hp} {x y : D} {vx vy : V} {b : Bool} (r : Rep K mp lh H) (rx : RelD K mp H x vx) (ry : RelD K mp H y vy) (h : eqD x y lh = some b) :
    (scal vx vy = true ∧ decide (vx = vy) = b) ∨ ∃ p q, Dp K H vx p ∧ Dp K H vy q ∧ SeqAt.shaped p = true ∧ SeqAt.shaped q = true ∧ PyData.eqv p q = b := by
  unfold eqD at h
  cases e : eqS x y with
  | some b' => simp only [e] at h; cases h; exact .inl (eqS_ok rx ry e)
  | none =>
    simp only [e] at h
    cases e1 : pd lh 66 x with
    | none => simp only [e1] at h; cases h
    | some p =>
      cases e2 : pd lh 66 y with
      | none => simp only [e1, e2] at h; cases h
      | some q =>
        simp only [e1, e2] at h
        cases hs : (SeqAt.shaped p && SeqAt.shaped q) with
        | false => simp only [hs] at h; cases h
        | true =>
          simp only [hs] at h; cases h
          rw [Bool.and_eq_true] at hs
          exact .inr ⟨p, q, pd_ok r _ _ _ _ rx e1, pd_ok r _ _ _ _ ry e2, hs.1, hs.2, rfl⟩
theorem o_eq {X : Cx} (hu : X.A.units + 64 < cLine) : ROp X (compareOp .Eq) dEq := by
  refine ⟨_, OpR.or op_eq (op_eqD hu), fun mp lh H x y vx vy Q E rp rx ry q => ?_⟩
  unfold dEq at q
  cases e : eqD x y lh with
  | none => simp only [e] at q; exact q.elim
  | some b =>
    simp only [e] at q
    rcases eqD_ok rp rx ry e with ⟨h1, h2⟩ | ⟨p, p', h1, h2, h3, h4, h5⟩
    · exact .inl ⟨h1, by rw [h2]; exact q.now rp (.bl _)⟩
    · exact .inr ⟨p, p', h1, h2, h3, h4, by rw [h5]; exact q.now rp (.bl _)⟩
theorem o_ne {X : Cx} (hu : X.A.units + 64 < cLine) : ROp X (compareOp .NotEq) dNe := by
  refine ⟨_, OpR.or op_ne (op_neD hu), fun mp lh H x y vx vy Q E rp rx ry q => ?_⟩
  unfold dNe at q
  cases e : eqD x y lh with
  | none => simp only [e] at q; exact q.elim
  | some b =>
    simp only [e] at q
    rcases eqD_ok rp rx ry e with ⟨h1, h2⟩ | ⟨p, p', h1, h2, h3, h4, h5⟩
    · exact .inl ⟨h1, by rw [h2]; exact q.now rp (.bl _)⟩
    · exact .inr ⟨p, p', h1, h2, h3, h4, by rw [h5]; exact q.now rp (.bl _)⟩

/-! ### is -/
def dIsN : D → D → LH → R D := fun x y h => match x, y with
  | .non, .non => .ok (.bl true) h
  | _, .non => .ok (.bl false) h
  | .bl a, .bl b => .ok (.bl (decide (a = b))) h
  | _, _ => .bad
def dNotN : D → D → LH → R D := fun x y h => match x, y with
  | .non, .non => .ok (.bl false) h
  | _, .non => .ok (.bl true) h
  | .bl a, .bl b => .ok (.bl (!decide (a = b))) h
  | _, _ => .bad
theorem relD_non {K : PySem.W.Frag} {mp : List Addr} {H : Hp} {x : D} {v : V} (r : RelD K mp H x v) : (v = .non) ↔ x = .non := by
  cases r <;> simp
theorem o_is {X : Cx} : ROp X (compareOp .Is) dIsN := by
  refine ⟨_, OpR.or op_isN op_isBl, fun mp lh H x y vx vy Q E rp rx ry q => ?_⟩
  cases ry with
  | non =>
    refine .inl ⟨rfl, ?_⟩
    cases rx <;> exact q.now rp (.bl _)
  | bl b =>
    cases rx with
    | bl a => exact .inr ⟨a, b, rfl, rfl, q.now rp (.bl _)⟩
    | _ => exact q.elim
  | _ => cases rx <;> exact q.elim
theorem o_isNot {X : Cx} : ROp X (compareOp .IsNot) dNotN := by
  refine ⟨_, OpR.or op_notN op_notBl, fun mp lh H x y vx vy Q E rp rx ry q => ?_⟩
  cases ry with
  | non =>
    refine .inl ⟨rfl, ?_⟩
    cases rx <;> exact q.now rp (.bl _)
  | bl b =>
    cases rx with
    | bl a => exact .inr ⟨a, b, rfl, rfl, q.now rp (.bl _)⟩
    | _ => exact q.elim
  | _ => cases rx <;> exact q.elim

/-! ### <, <= .. of ints and texts -/
def dLt : D → D → LH → R D := fun x y h => match x, y with
  | .int i, .int j => .ok (.bl (decide (i < j))) h
  | .str a, .str b => .ok (.bl (ltT a b)) h
  | _, _ => .bad
theorem o_lt {X : Cx} : ROp X (compareOp .Lt) dLt := by
  refine ⟨_, OpR.or op_lt op_lt_str, fun mp lh H x y vx vy Q E rp rx ry q => ?_⟩
  cases rx with
  | int i =>
    cases ry with
    | int j => exact .inl ⟨i, j, rfl, rfl, q.now rp (.bl _)⟩
    | _ => exact q.elim
  | str a =>
    cases ry with
    | str b =>
      refine .inr ⟨_, _, rfl, rfl, ?_⟩
      have e : decide ((⟨a.toArray⟩ : Str).cps.toList < (⟨b.toArray⟩ : Str).cps.toList) = ltT a b := by
        unfold ltT; rw [PyProof.Rows.ltCps_eq]
      rw [e]; exact q.now rp (.bl _)
    | _ => exact q.elim
  | _ => cases ry <;> exact q.elim

/-! ### in -/
def isFlat : D → Bool
  | .non => true
  | .bl _ => true
  | .int _ => true
  | .str _ => true
  | _ => false
def eqF : D → D → Bool
  | .non, .non => true
  | .bl a, .bl b => a == b
  | .int a, .int b => a == b
  | .str a, .str b => a == b
  | .bl a, .int j => (if a then 1 else 0) == j
  | .int i, .bl b => i == (if b then 1 else 0)
  | _, _ => false
/-- x in ys, items as data -/
def inDeep (x : D) (ys : List D) (h : LH) : Option Bool := match pd h 65 x, pdA (pd h 65) ys with
  | some p, some qs => if (SeqAt.shaped p && SeqAt.shaped (.list qs)) = true then some (qs.any fun z => PyData.eqv z p) else none
  | _, _ => none
def inSq (x : D) (ys : List D) (h : LH) : Option Bool := if (ys.all isFlat && isFlat x) = true then some (ys.any fun z => eqF z x) else inDeep x ys h
def inD (x y : D) (h : LH) : Option Bool := match y with
  | .str b => (match x with
    | .str [c] => some (decide (c ∈ b))
    | _ => none)
  | .tup ys => inSq x ys h
  | .ktp ys => inSq x ys h
  | .ref n => (match asRd (.ref n) h with
    | some ys => inSq x ys h
    | none => none)
  | _ => none
def dIn : D → D → LH → R D := fun x y h => match inD x y h with
  | some b => .ok (.bl b) h
  | none => .bad
def dNotIn : D → D → LH → R D := fun x y h => match inD x y h with
  | some b => .ok (.bl (!b)) h
  | none => .bad
section
variable {K : PySem.W.Frag} {mp : List Addr} {H : Hp} {lh : LH}
theorem flat_rel {d : D} {v : V} (r : RelD K mp H d v) (h : isFlat d = true) : flatV v = true := by cases r <;> first | rfl | cases h
theorem flats_rel : ∀ {ds : List D} {vs : List V}, RelDs K mp H ds vs → ds.all isFlat = true → vs.all flatV = true
  | _, _, .nil, _ => rfl
  | _, _, .cons a b, h => by
    rw [List.all_cons, Bool.and_eq_true] at h ⊢
    exact ⟨flat_rel a h.1, flats_rel b h.2⟩
theorem eqF_rel {x y : D} {vx vy : V} (rx : RelD K mp H x vx) (ry : RelD K mp H y vy) (hx : isFlat x = true) (hy : isFlat y = true) : eqV vx vy = eqF x y := by
  cases rx <;> cases ry <;> first | rfl | cases hx | cases hy
  rename_i a b
  show ((⟨a.toArray⟩ : Str) == ⟨b.toArray⟩) = (a == b)
  by_cases e : a = b
  · subst e; simp
  · have : ¬ ((⟨a.toArray⟩ : Str) = ⟨b.toArray⟩) := fun z => e (str_inj.mp z)
    rw [beq_eq_false_iff_ne.mpr this, beq_eq_false_iff_ne.mpr e]
theorem any_rel {x : D} {vx : V} (rx : RelD K mp H x vx) (hx : isFlat x = true) : ∀ {ds : List D} {vs : List V}, RelDs K mp H ds vs → ds.all isFlat = true → inV vx vs = ds.any fun z => eqF z x
  | _, _, .nil, _ => rfl
  | _, _, .cons a b, h => by
    rw [List.all_cons, Bool.and_eq_true] at h
    have ih := any_rel rx hx b h.2
    unfold inV at ih ⊢
    rw [List.any_cons, List.any_cons, eqF_rel a rx h.1 hx, ih]
/-- what the four rules of in are asked -/
theorem inSq_ok {x : D} {ys : List D} {vx : V} {vs : List V} {b : Bool} (r : Rep K mp lh H) (rx : RelD K mp H x vx) (ry : RelDs K mp H ys vs) (h : inSq x ys lh = some b) :
    (flatV vx = true ∧ vs.all flatV = true ∧ inV vx vs = b) ∨ ∃ p qs, Dp K H vx p ∧ DpAll K H vs qs ∧ SeqAt.shaped p = true ∧ SeqAt.shaped (.list qs) = true ∧ (qs.any fun z => PyData.eqv z p) = b := by
  unfold inSq at h
  split at h
  · rename_i hf
    rw [Bool.and_eq_true] at hf
    cases h
    exact .inl ⟨flat_rel rx hf.2, flats_rel ry hf.1, any_rel rx hf.2 ry hf.1⟩
  · unfold inDeep at h
    cases e1 : pd lh 65 x with
    | none => simp only [e1] at h; cases h
    | some p =>
      cases e2 : pdA (pd lh 65) ys with
      | none => simp only [e1, e2] at h; cases h
      | some qs =>
        simp only [e1, e2] at h
        split at h
        · rename_i hs
          rw [Bool.and_eq_true] at hs
          cases h
          exact .inr ⟨p, qs, pd_ok r _ _ _ _ rx e1, pdA_ok (pd_ok r _) ry e2, hs.1, hs.2, rfl⟩
        · cases h
end
section
variable {X : Cx}
theorem op_inDT (hu : X.A.units + 65 < cLine) : OpR X (compareOp .In) (fun x y H Q => ∃ d ds, Dp X.K H x d ∧ Dp X.K H y (.tuple ds) ∧ SeqAt.shaped d = true ∧ SeqAt.shaped (.list ds) = true ∧ Q (.bl (ds.any fun z => PyData.eqv z d)) H) := by
  intro pins s σ H x y v u Q I rx ry h
  obtain ⟨d, ds, hd, he, sd, se, q⟩ := h
  obtain ⟨as, r1⟩ := Dp.reads I d x v hd rx
  obtain ⟨bs, r2⟩ := Dp.reads I (.tuple ds) y u he ry
  exact SeqAt.in_tuple_reads r2 r1 (SeqAt.canLay_of_shaped (d := .list ds) se) (SeqAt.canLay_of_shaped sd) (PyProof.Rows.room_in_shaped sd hu) ⟨.bl _, H, I, rfl, q⟩
theorem op_notInDT (hu : X.A.units + 65 < cLine) : OpR X (compareOp .NotIn) (fun x y H Q => ∃ d ds, Dp X.K H x d ∧ Dp X.K H y (.tuple ds) ∧ SeqAt.shaped d = true ∧ SeqAt.shaped (.list ds) = true ∧ Q (.bl (!ds.any fun z => PyData.eqv z d)) H) := by
  intro pins s σ H x y v u Q I rx ry h
  obtain ⟨d, ds, hd, he, sd, se, q⟩ := h
  obtain ⟨as, r1⟩ := Dp.reads I d x v hd rx
  obtain ⟨bs, r2⟩ := Dp.reads I (.tuple ds) y u he ry
  exact SeqAt.notIn_tuple_reads r2 r1 (SeqAt.canLay_of_shaped (d := .list ds) se) (SeqAt.canLay_of_shaped sd) (PyProof.Rows.room_in_shaped sd hu) ⟨.bl _, H, I, rfl, q⟩
theorem inD_ok {K : PySem.W.Frag} {mp : List Addr} {H : Hp} {lh : LH} {x y : D} {vx vy : V} {b : Bool} {A B C E : Prop} (r : Rep K mp lh H) (rx : RelD K mp H x vx) (ry : RelD K mp H y vy) (h : inD x y lh = some b)
    (kA : ∀ (c : Nat) (z : Str), vx = .str ⟨#[c]⟩ → vy = .str z → decide (c ∈ z.cps.toList) = b → A)
    (kB : ∀ p xs, vy = .ref p → (SqL K H p xs ∨ SqT K H p xs) → flatV vx = true → xs.all flatV = true → inV vx xs = b → B)
    (kC : ∀ d ds, Dp K H vx d → Dp K H vy (.list ds) → SeqAt.shaped d = true → SeqAt.shaped (.list ds) = true → (ds.any fun z => PyData.eqv z d) = b → C)
    (kE : ∀ d ds, Dp K H vx d → Dp K H vy (.tuple ds) → SeqAt.shaped d = true → SeqAt.shaped (.list ds) = true → (ds.any fun z => PyData.eqv z d) = b → E) : A ∨ (B ∨ (C ∨ E)) := by
  unfold inD at h
  cases ry with
  | str l =>
    cases rx with
    | str a =>
      match a, h with
      | [c], h => cases h; exact .inl (kA c _ rfl rfl rfl)
    | _ => cases h
  | @tup ys a vs ha ra =>
    rcases inSq_ok r rx ra h with ⟨h1, h2, h3⟩ | ⟨p, qs, h1, h2, h3, h4, h5⟩
    · exact .inr (.inl (kB a vs rfl (.inr ha.sq) h1 h2 h3))
    · exact .inr (.inr (.inr (kE p qs h1 (.tup ha.sq h2) h3 h4 h5)))
  | @ktp ys a vs ha ra =>
    rcases inSq_ok r rx ra h with ⟨h1, h2, h3⟩ | ⟨p, qs, h1, h2, h3, h4, h5⟩
    · exact .inr (.inl (kB a vs rfl (.inr ha.sq) h1 h2 h3))
    · exact .inr (.inr (.inr (kE p qs h1 (.tup ha.sq h2) h3 h4 h5)))
  | @ref n a hn =>
    dsimp only at h
    cases e : asRd (.ref n) lh with
    | none => rw [e] at h; cases h
    | some ys =>
      rw [e] at h
      obtain ⟨_, a', vs, e1, e2, _, h2, h3⟩ := asRd_of r (.ref hn) e
      cases e1; cases e2
      rcases inSq_ok r rx h3 h with ⟨g1, g2, g3⟩ | ⟨p, qs, g1, g2, g3, g4, g5⟩
      · exact .inr (.inl (kB a vs rfl (.inl h2) g1 g2 g3))
      · exact .inr (.inr (.inl (kC p qs g1 (.lst h2 g2) g3 g4 g5)))
  | _ => cases h
theorem o_in (hu : X.A.units + 65 < cLine) : ROp X (compareOp .In) dIn := by
  refine ⟨_, OpR.or op_in_sign (OpR.or op_in_seq (OpR.or (op_inD hu) (op_inDT hu))), fun mp lh H x y vx vy Q E rp rx ry q => ?_⟩
  unfold dIn at q
  cases e : inD x y lh with
  | none => simp only [e] at q; exact q.elim
  | some b =>
    simp only [e] at q
    have q := q.now rp (.bl b)
    exact inD_ok rp rx ry e (fun c z h1 h2 h3 => ⟨c, z, h1, h2, by rw [h3]; exact q⟩) (fun p xs h1 h2 h3 h4 h5 => ⟨p, xs, h1, h2, h3, h4, by rw [if_neg (by decide), h5]; exact q⟩)
      (fun d ds h1 h2 h3 h4 h5 => ⟨d, ds, h1, h2, h3, h4, by rw [h5]; exact q⟩) (fun d ds h1 h2 h3 h4 h5 => ⟨d, ds, h1, h2, h3, h4, by rw [h5]; exact q⟩)
theorem o_notIn (hu : X.A.units + 65 < cLine) : ROp X (compareOp .NotIn) dNotIn := by
  refine ⟨_, OpR.or op_notIn_sign (OpR.or op_notIn_seq (OpR.or (op_notInD hu) (op_notInDT hu))), fun mp lh H x y vx vy Q E rp rx ry q => ?_⟩
  unfold dNotIn at q
  cases e : inD x y lh with
  | none => simp only [e] at q; exact q.elim
  | some b =>
    simp only [e] at q
    have q := q.now rp (.bl (!b))
    exact inD_ok rp rx ry e (fun c z h1 h2 h3 => ⟨c, z, h1, h2, by rw [h3]; exact q⟩) (fun p xs h1 h2 h3 h4 h5 => ⟨p, xs, h1, h2, h3, h4, by rw [if_pos rfl, h5]; exact q⟩)
      (fun d ds h1 h2 h3 h4 h5 => ⟨d, ds, h1, h2, h3, h4, by rw [h5]; exact q⟩) (fun d ds h1 h2 h3 h4 h5 => ⟨d, ds, h1, h2, h3, h4, by rw [h5]; exact q⟩)
end
end Rf
set_option Elab.async false
set_option linter.all false
set_option maxRecDepth 100000
set_option maxHeartbeats 4000000
set_option autoImplicit false
/-! isinstance; subscripts, slices, len. -/
namespace Rf
open PySem PySem.Spec L2

/-! ### isinstance -/
inductive Tg where
  | non | bool | int | str | list | tuple | dict | ins (c : Nat) | exc (c : Nat)
  deriving DecidableEq
def tgV (K : PySem.W.Frag) : Tg → Value
  | .non => .type "NoneType"
  | .bool => .type "bool"
  | .int => .type "int"
  | .str => .type "str"
  | .list => .type "list"
  | .tuple => .type "tuple"
  | .dict => .type "dict"
  | .ins c => .ref (clsA K c)
  | .exc c => .ref (clsA K c)
def tgOf (d : D) (h : LH) : Option Tg := match d with
  | .non => some .non
  | .bl _ => some .bool
  | .int _ => some .int
  | .str _ => some .str
  | .tup _ => some .tuple
  | .rol _ => none
  | .ktp _ => some .tuple
  | .fn _ _ => none
  | .ref n => (match h[n]? with
    | some (.lst _) => some .list
    | some (.dic _ _) => some .dict
    | some (.ins c _) => some (.ins c)
    | some (.exc c []) => some (.exc c)
    | _ => none)
structure InsOk (K : PySem.W.Frag) (C : Addr) : Prop where
  cl : Cls K C
  ha : PySem.W.findIn K (.ref C) "__class__" = some (some (.builtin "object.__class__"))
  hn : PySem.W.specialIn K (.builtin "object.__class__") "__get__" = some (some (.builtin "getset_descriptor.__get__"))
  htk : PySem.W.takesIn K (.builtin "object.__class__") = some true
  hm : PySem.W.mroIn K C (.type "object") = some true
/-- isinstance of an exception that is kept -/
def rIsX (K : PySem.W.Frag) : List V → Hp → VK → Prop := fun xs H Q => ∃ (a D : Addr) (c : V) (u : Value) (b : Bool), xs = [.ref a, c] ∧ H a = some (ExcO a (.ref D) none) ∧ ExcC K D ∧ ClsV c u ∧ PySem.W.kitOne K (.ref D) u = some b ∧ Q (.bl b) H
theorem call_isX {X : Cx} : CallR X (.builtin "isinstance") (rIsX X.K) := by
  intro pins s σ H xs us Q I r h
  obtain ⟨a, D, c, u, b, rfl, ha, C, k, e, q⟩ := h
  cases r with
  | cons rx rr =>
    cases rr with
    | cons rt rr =>
      cases rr
      cases rx
      have e2 := k.eq rt
      subst e2
      obtain ⟨oe, vs, hget, hz, hv⟩ := (I.hok a _ ha).1
      have J : PySem.W.InstAt s.heap a oe D none := by
        obtain ⟨oc, od, oda, osl⟩ := oe
        obtain ⟨h1, h2⟩ := hz
        dsimp only at h1 h2 hv
        subst h1 h2 hv
        exact ⟨hget, rfl, rfl, trivial⟩
      exact PySem.W.kia_one (PySem.W.handS_kitx_exc C.hg C.hk C.hs C.hd C.ha C.hn C.ht C.hm) I.kIn J e (fun z => nomatch z) fun tk => ⟨.bl b, H, I.tok tk, rfl, q⟩
def mIsi (sub : Tg → Option Bool) (me : EM) : EM := fun ls h => (me ls h).bind fun d h1 => match tgOf d h1 with
  | some t => (match sub t with
    | some b => .ok (.bl b) h1
    | none => .bad)
  | none => .bad
section
variable {X : Cx} {K : PySem.W.Frag} {mp : List Addr} {H : Hp} {lh : LH}
theorem tg_ok {d : D} {v : V} {t : Tg} (r : Rep K mp lh H) (rd : RelD K mp H d v) (h : tgOf d lh = some t) (hI : ∀ c, t = .ins c → InsOk K (clsA K c)) :
    TyX K H v (tgV K t) ∨ ∃ c a, t = .exc c ∧ v = .ref a ∧ H a = some (ExcO a (.ref (clsA K c)) none) := by
  cases rd with
  | non => cases h; exact .inl (.base .non)
  | bl b => cases h; exact .inl (.base (.bl b))
  | int i => cases h; exact .inl (.base (.int i))
  | str l => cases h; exact .inl (.base (.str _))
  | @tup ds a vs hs rs =>
    have h := Option.some.inj h
    subst h
    rcases hs with hs | ⟨_, o, its, n, hk, hc, _⟩
    · exact .inl (.base (.tup hs))
    · exact .inl (.kTuple hk hc)
  | @ktp ds a vs hs rs =>
    have h := Option.some.inj h
    subst h
    obtain ⟨o, its, n, hk, hc, _⟩ := hs
    exact .inl (.kTuple hk hc)
  | rol _ _ => cases h
  | @ref n a ha =>
    unfold tgOf at h
    cases hn : lh[n]? with
    | none => simp only [hn] at h; cases h
    | some o =>
      have ro := r.obj n o a hn ha
      cases o with
      | lst xs => simp only [hn] at h; cases h; obtain ⟨vs, h1, _⟩ := ro; exact .inl (.base (.lst h1))
      | dic b kvs =>
        simp only [hn] at h; cases h
        cases b with
        | false => obtain ⟨ks, h1, _⟩ := ro; exact .inl (.base (.dK h1))
        | true => obtain ⟨ks, h1, _⟩ := ro; exact .inl (.base (.dT h1))
      | ins c fs =>
        simp only [hn] at h; cases h
        obtain ⟨dx, gs, h1, _⟩ := ro
        have i := hI c rfl
        exact .inl (.base (.ins h1 i.cl i.ha i.hn i.htk i.hm))
      | exc c fs =>
        cases fs with
        | cons p q => simp only [hn] at h; cases h
        | nil =>
          simp only [hn] at h; cases h
          obtain ⟨d, h1, h2⟩ := ro
          rcases h2.2 with ⟨_, e⟩ | ⟨dd, fs, ne, _⟩
          · subst e; exact .inr ⟨c, a, rfl, rfl, h1⟩
          · exact absurd rfl ne
      | dlk t kvs => simp only [hn] at h; cases h
end
section
variable {X : Cx} {W : WX} {e : Expr} {me : EM} {p p2 pos : Pos} {sub : Tg → Option Bool} {t : Str} {cv : V} {u : Value}
/-- isinstance(e, T), T a name -/
theorem re_isi (he : RE X W e me) (hT : PE X (.Name t p2) (tC cv)) (hcv : ClsV cv u) (hg : Gl X "isinstance") (hm : X.mg "isinstance" = none)
    (hsub : ∀ g b, sub g = some b → PySem.W.kitOne X.K (tgV X.K g) u = some b) (hI : ∀ c b, sub (.ins c) = some b → InsOk X.K (clsA X.K c)) (hE : ∀ c b, sub (.exc c) = some b → ExcC X.K (clsA X.K c))
    (hs : starEach [e, .Name t p2] X.env = (false, eval e X.env) :: starEach [.Name t p2] X.env := by rfl) (hs2 : starEach [.Name t p2] X.env = (false, eval (.Name t p2) X.env) :: starEach [] X.env := by rfl)
    (hpl : (backTo pos (starEach [.Name t p2] X.env)).any (·.1) = false := by rfl) :
    RE X W (.Call (.Name "isinstance" p) [e, .Name t p2] [] pos) (mIsi sub me) := by
  obtain ⟨te, a1, a2⟩ := he
  have hcr : CallR X (.builtin "isinstance") (fun xs H Q => rIsi X.K xs H Q ∨ rIsX X.K xs H Q) := fun pins s σ H xs us Q I r h => h.elim (call_isi pins s σ H xs us Q I r) (call_isX pins s σ H xs us Q I r)
  refine ⟨_, pe_callB (p := p) (pos := pos) hcr hg hm (by decide +kernel) (pa_cons a1 (pa_cons hT pa_nil hs2) hs) (he := hs) (hpl := hpl), fun mp lh ls σ H Q r rs q => ?_⟩
  refine a2 mp lh ls σ H _ r rs (q.bind fun mp1 H1 lh1 d v e1 r1 rl1 q1 => ?_)
  cases ht : tgOf d lh1 with
  | none => simp only [ht] at q1; exact q1.elim
  | some g =>
    cases hb : sub g with
    | none => simp only [ht, hb] at q1; exact q1.elim
    | some b =>
      simp only [ht, hb] at q1
      rcases tg_ok r1 rl1 ht (fun c ec => hI c b (by rw [← ec]; exact hb)) with h | ⟨c, a, rfl, rfl, ha⟩
      · exact .inl ⟨v, cv, _, u, b, rfl, hcv, h, hsub _ _ hb, q1.now r1 (.bl b)⟩
      · exact .inr ⟨a, _, cv, u, b, rfl, ha, hE c b hb, hcv, hsub _ _ hb, q1.now r1 (.bl b)⟩
/-- isinstance(e, (T, U)), both built in -/
theorem re_isi2 {t1 t2 : Str} {n1 n2 : String} {p3 p4 : Pos} {x1} (he : RE X W e me) (hT1 : PE X (.Name t1 p3) (tC (.ty n1))) (hT2 : PE X (.Name t2 p4) (tC (.ty n2))) (hg : Gl X "isinstance") (hm : X.mg "isinstance" = none)
    (hsub : ∀ g b, sub g = some b → PySem.W.kitAny X.K (tgV X.K g) [.type n1, .type n2] = some b) (hI : ∀ c b, sub (.ins c) = some b → InsOk X.K (clsA X.K c)) (hE : ∀ c, sub (.exc c) = none)
    (hs : starEach [e, .Tuple [.Name t1 p3, .Name t2 p4] x1 p2] X.env = (false, eval e X.env) :: starEach [.Tuple [.Name t1 p3, .Name t2 p4] x1 p2] X.env := by rfl)
    (hs2 : starEach [.Tuple [.Name t1 p3, .Name t2 p4] x1 p2] X.env = (false, eval (.Tuple [.Name t1 p3, .Name t2 p4] x1 p2) X.env) :: starEach [] X.env := by rfl)
    (hs3 : starEach [.Name t1 p3, .Name t2 p4] X.env = (false, eval (.Name t1 p3) X.env) :: starEach [.Name t2 p4] X.env := by rfl) (hs4 : starEach [.Name t2 p4] X.env = (false, eval (.Name t2 p4) X.env) :: starEach [] X.env := by rfl)
    (hpl : (backTo pos (starEach [.Tuple [.Name t1 p3, .Name t2 p4] x1 p2] X.env)).any (·.1) = false := by rfl) :
    RE X W (.Call (.Name "isinstance" p) [e, .Tuple [.Name t1 p3, .Name t2 p4] x1 p2] [] pos) (mIsi sub me) := by
  obtain ⟨te, a1, a2⟩ := he
  refine ⟨_, pe_callB (p := p) (pos := pos) call_isiT hg hm (by decide +kernel) (pa_cons a1 (pa_cons (pe_tup (pa_cons hT1 (pa_cons hT2 pa_nil hs4) hs3)) pa_nil hs2) hs) (he := hs) (hpl := hpl), fun mp lh ls σ H Q r rs q => ?_⟩
  refine a2 mp lh ls σ H _ r rs (q.bind fun mp1 H1 lh1 d v e1 r1 rl1 q1 => ?_)
  refine ⟨by show 2 ≤ sizeLine; decide, fun tp htp => ?_⟩
  cases ht : tgOf d lh1 with
  | none => simp only [ht] at q1; exact q1.elim
  | some g =>
    cases hb : sub g with
    | none => simp only [ht, hb] at q1; exact q1.elim
    | some b =>
      simp only [ht, hb] at q1
      have f : Ext X.K mp1 H1 mp1 (upd H1 tp (.tup [.ty n1, .ty n2])) := .free htp
      have r2 := r1.free (o := .tup [.ty n1, .ty n2]) htp
      rcases tg_ok r2 (rl1.ext f) ht (fun c ec => hI c b (by rw [← ec]; exact hb)) with h | ⟨c, a, rfl, rfl, ha⟩
      · exact ⟨v, tp, _, _, _, b, rfl, upd_same, .cons (.ty n1) (.cons (.ty n2) .nil), h, hsub _ _ hb, q1 mp1 _ _ f r2 (.bl b)⟩
      · rw [hE c] at hb; cases hb
end

/-! ### subscripts -/
def dIx : D → D → LH → R D := fun x y h => match y with
  | .int i => (match x with
    | .str l => if szOk l.length = true then (match atI l i with
      | some c => .ok (.str [c]) h
      | none => .bad) else .bad
    | .tup xs => (match atI xs i with
      | some d => .ok d h
      | none => .bad)
    | .ref n => (match asRd (.ref n) h with
      | some xs => (match atI xs i with
        | some d => .ok d h
        | none => .bad)
      | none => .bad)
    | _ => .bad)
  | _ => .bad
def RIx (X : Cx) (f : D → D → LH → R D) : Prop := ∃ r, IxR X r ∧ RefOp X.K r f
theorem atI_rel {K : PySem.W.Frag} {mp : List Addr} {H : Hp} {xs : List D} {vs : List V} {i : Int} {d : D} (r : RelDs K mp H xs vs) (h : atI xs i = some d) : ∃ v, atI vs i = some v ∧ RelD K mp H d v := by
  unfold atI at h ⊢
  rw [← r.length]
  cases e : ixN xs.length i with
  | none => rw [e] at h; cases h
  | some j => rw [e] at h; exact r.get h
theorem o_ix {X : Cx} : RIx X dIx := by
  refine ⟨_, ix_seq, fun mp lh H x y vx vy Q E rp rx ry q => ?_⟩
  cases ry with
  | int i =>
    cases rx with
    | str l =>
      simp only [dIx] at q
      cases hz : szOk l.length with
      | false => simp only [hz] at q; exact q.elim
      | true =>
        cases e : atI l i with
        | none => simp only [hz, e] at q; exact q.elim
        | some c => simp only [hz, e] at q; exact .inr (.inr ⟨_, i, c, rfl, rfl, by rw [str_len]; exact szOk_le hz, e, q.now rp (.str [c])⟩)
    | @tup ds a vs hs rs =>
      simp only [dIx] at q
      cases e : atI ds i with
      | none => simp only [e] at q; exact q.elim
      | some d =>
        simp only [e] at q
        obtain ⟨v, h1, h2⟩ := atI_rel rs e
        exact .inr (.inl ⟨a, vs, i, v, rfl, rfl, hs.sq, h1, q.now rp h2⟩)
    | @ref n a hn =>
      simp only [dIx] at q
      cases e1 : asRd (.ref n) lh with
      | none => simp only [e1] at q; exact q.elim
      | some xs =>
        cases e : atI xs i with
        | none => simp only [e1, e] at q; exact q.elim
        | some d =>
          simp only [e1, e] at q
          obtain ⟨_, a', vs, z1, z2, _, h2, h3⟩ := asRd_of rp (.ref hn) e1
          cases z1; cases z2
          obtain ⟨v, g1, g2⟩ := atI_rel h3 e
          exact .inl ⟨a, vs, i, v, rfl, rfl, h2, g1, q.now rp g2⟩
    | _ => exact q.elim
  | _ => cases rx <;> exact q.elim
section
variable {X : Cx} {W : WX} {a b : Expr} {ma mb : EM} {pos : Pos}
theorem re_ix (ha : RE X W a ma) (hb : RE X W b mb) (hs : PlainIx b := by exact fun _ _ => rfl) : RE X W (.Subscript a b pos) (mBin dIx ma mb) := by
  obtain ⟨r, h1, h2⟩ := o_ix (X := X)
  obtain ⟨ta, a1, a2⟩ := ha
  obtain ⟨tb, b1, b2⟩ := hb
  exact ⟨_, pe_ix h1 a1 b1 hs, ref_bin h2 a2 b2⟩
end
end Rf
set_option Elab.async false
set_option linter.all false
set_option maxRecDepth 100000
set_option maxHeartbeats 4000000
set_option autoImplicit false
/-! Slices; built-in calls and methods; stores by subscript; name op= e. -/
namespace Rf
open PySem PySem.Spec L2

/-! ### slices -/
abbrev OM := Ls → LH → R (Option Int)
def mNoPart : OM := fun _ h => .ok none h
def mPart (e : EM) : OM := fun ls h => (e ls h).bind fun d h1 => match d with
  | .int i => .ok (some i) h1
  | _ => .bad
abbrev RelOI : List Addr → Hp → Option Int → Option Int → Prop := fun _ _ a b => a = b
def ROp' (X : Cx) (W : WX) (e : Option Expr) (m : OM) : Prop := ∃ t, PO X e t ∧ ∀ mp lh ls σ H Q, Rep X.K mp lh H → RelS X.K mp H ls σ → PostG X.K RelOI mp H (m ls lh) Q (WE W σ) → t σ H Q
def cutL {α : Type} (xs : List α) (lo hi : Option Int) : List α := (xs.drop (HT.sIx xs.length 0 lo)).take (HT.sIx xs.length xs.length hi - HT.sIx xs.length 0 lo)
def dSl (x : D) (lo hi : Option Int) (h : LH) : R D := match x with
  | .str l => if szOk l.length = true then .ok (.str (cutL l lo hi)) h else .bad
  | .tup xs => .ok (.tup (cutL xs lo hi)) h
  | .ref n => (match asRd (.ref n) h with
    | some xs => .ok (.ref h.length) (h ++ [.lst (cutL xs lo hi)])
    | none => .bad)
  | _ => .bad
def mSl (me : EM) (ml mh : OM) : EM := fun ls h => (me ls h).bind fun x h1 => (ml ls h1).bind fun lo h2 => (mh ls h2).bind fun hi h3 => dSl x lo hi h3
theorem sIx_le' (n : Nat) (o : Option Int) : HT.sIx n 0 o ≤ n := HT.sIx_le _ _ (Nat.zero_le _) _
theorem relDs_cut {K : PySem.W.Frag} {mp : List Addr} {H : Hp} {xs : List D} {vs : List V} {lo hi : Option Int} (r : RelDs K mp H xs vs) : RelDs K mp H (cutL xs lo hi) (cutV vs lo hi) := by
  unfold cutL cutV
  rw [r.length]
  exact (r.drop _).take _
section
variable {X : Cx} {W : WX} {e : Expr} {me : EM} {lo hi : Option Expr} {ml mh : OM} {p2 pos : Pos}
theorem ro_none : ROp' X W none mNoPart := ⟨_, po_none, fun _ _ _ _ _ _ r _ q => q.now r rfl⟩
theorem ro_some (he : RE X W e me) : ROp' X W (some e) (mPart me) := by
  obtain ⟨t, a1, a2⟩ := he
  refine ⟨_, po_some a1, fun mp lh ls σ H Q r rs q => a2 mp lh ls σ H _ r rs (q.bind fun mp1 H1 lh1 d v e1 r1 rl1 q1 => ?_)⟩
  cases rl1 with
  | int i => exact ⟨i, rfl, q1.now r1 rfl⟩
  | _ => exact q1.elim
theorem re_slice (he : RE X W e me) (hl : ROp' X W lo ml) (hh : ROp' X W hi mh) : RE X W (.Subscript e (.Slice lo hi none p2) pos) (mSl me ml mh) := by
  obtain ⟨t, a1, a2⟩ := he
  obtain ⟨tl, l1, l2⟩ := hl
  obtain ⟨th, h1, h2⟩ := hh
  refine ⟨_, pe_slice (SlR.or sl_str (SlR.or sl_tupA sl_list)) a1 l1 h1, fun mp lh ls σ H Q r rs q => a2 mp lh ls σ H _ r rs (q.bind fun mp1 H1 lh1 x vx e1 r1 rl1 q1 => ?_)⟩
  refine l2 mp1 lh1 ls σ H1 _ r1 (rs.ext e1) (q1.bind fun mp2 H2 lh2 lo vlo e2 r2 rl2 q2 => ?_)
  refine h2 mp2 lh2 ls σ H2 _ r2 ((rs.ext e1).ext e2) (q2.bind fun mp3 H3 lh3 hi vhi e3 r3 rl3 q3 => ?_)
  cases rl2; cases rl3
  have rx := (rl1.ext e2).ext e3
  cases rx with
  | str l =>
    simp only [dSl] at q3
    cases hz : szOk l.length with
    | false => simp only [hz] at q3; exact q3.elim
    | true => simp only [hz] at q3; exact .inl ⟨_, rfl, by rw [str_len]; exact szOk_le hz, by
        have : cutS ⟨l.toArray⟩ lo hi = ⟨(cutL l lo hi).toArray⟩ := by unfold cutS cutL; rw [str_len]
        rw [this]; exact q3.now r3 (.str _)⟩
  | @tup ds a vs hs rs' =>
    simp only [dSl] at q3
    refine .inr (.inl ⟨a, vs, rfl, hs.sq, fun hw => ?_, fun hw p hp => ?_⟩)
    · have : cutL ds lo hi = ds := by
        unfold cutL; rw [rs'.length, hw.1, hw.2]; simp [← rs'.length]
      rw [this] at q3
      exact q3.now r3 (.tup hs rs')
    · exact q3 mp3 _ _ (.free hp) (r3.free hp) (.tup (.inl upd_same) ((relDs_cut rs').ext (.free hp)))
  | @ref n a hn =>
    simp only [dSl] at q3
    cases e1 : asRd (.ref n) lh3 with
    | none => simp only [e1] at q3; exact q3.elim
    | some xs =>
      simp only [e1] at q3
      obtain ⟨_, a', vs, z1, z2, _, h2, h3⟩ := asRd_of r3 (.ref hn) e1
      cases z1; cases z2
      exact .inr (.inr ⟨a, vs, rfl, h2, fun p hp => q3 (mp3 ++ [p]) _ _ (.alloc r3 hp) (r3.alloc hp ⟨_, upd_same, (relDs_cut h3).ext (.alloc r3 hp)⟩) (.ref (by rw [← r3.len]; simp))⟩)
  | _ => exact q3.elim
end

/-! ### built-in calls by name -/
def RefC (K : PySem.W.Frag) (r : List V → Hp → VK → Prop) (f : List D → LH → R D) : Prop := ∀ mp lh H xs vs Q E, Rep K mp lh H → RelDs K mp H xs vs → Post K mp H (f xs lh) Q E → r vs H Q
def RC (X : Cx) (g : Value) (f : List D → LH → R D) : Prop := ∃ r, CallR X g r ∧ RefC X.K r f
section
variable {X : Cx} {W : WX} {x : Str} {e : Expr} {es : List Expr} {ma : AM} {p pos : Pos} {f : List D → LH → R D} {id T : String}
theorem re_callB (hc : RC X (.builtin id) f) (hg : Gl X x) (hm : X.mg x = none) (hv : bootBuiltins x = some (.builtin id)) (ha : RA X W (e :: es) ma) (hn : x ≠ "__name__" := by decide) (hdb : (x == ("__debug__" : Str)) = false := by decide)
    (he : starEach (e :: es) X.env = (false, eval e X.env) :: starEach es X.env := by rfl) (hpl : (backTo pos (starEach es X.env)).any (·.1) = false := by rfl) : RE X W (.Call (.Name x p) (e :: es) [] pos) (mCall f ma) := by
  obtain ⟨r, c1, c2⟩ := hc
  obtain ⟨t, a1, a2, _⟩ := ha
  exact ⟨_, pe_callB (p := p) (pos := pos) c1 hg hm hv a1 (he := he) (hn := hn) (hdb := hdb) (hpl := hpl), fun mp lh ls σ H Q r rs q => a2 mp lh ls σ H _ r rs (q.bind fun mp1 H1 lh1 ds vs e1 r1 rl1 q1 => c2 mp1 lh1 H1 ds vs Q _ r1 rl1 q1)⟩
theorem re_callTy (hc : RC X (.type T) f) (hg : Gl X x) (hm : X.mg x = none) (hv : bootBuiltins x = some (.type T)) (ha : RA X W (e :: es) ma)
    (he : starEach (e :: es) X.env = (false, eval e X.env) :: starEach es X.env := by rfl) (hn : x ≠ "__name__" := by decide) (hdb : (x == ("__debug__" : Str)) = false := by decide) (hpl : (backTo pos (starEach es X.env)).any (·.1) = false := by rfl) : RE X W (.Call (.Name x p) (e :: es) [] pos) (mCall f ma) := by
  obtain ⟨r, c1, c2⟩ := hc
  obtain ⟨t, a1, a2, _⟩ := ha
  exact ⟨_, pe_callTy (p := p) (pos := pos) c1 hg hm hv a1 (he := he) (hn := hn) (hdb := hdb) (hpl := hpl), fun mp lh ls σ H Q r rs q => a2 mp lh ls σ H _ r rs (q.bind fun mp1 H1 lh1 ds vs e1 r1 rl1 q1 => c2 mp1 lh1 H1 ds vs Q _ r1 rl1 q1)⟩
end
theorem CallR.or {X : Cx} {g : Value} {r r' : List V → Hp → VK → Prop} (a : CallR X g r) (b : CallR X g r') : CallR X g (fun xs H Q => r xs H Q ∨ r' xs H Q) := fun pins s σ H xs us Q I rr h => h.elim (a pins s σ H xs us Q I rr) (b pins s σ H xs us Q I rr)
def f1 (g : D → LH → R D) : List D → LH → R D := fun ds h => match ds with
  | [d] => g d h
  | _ => .bad
/-- one argument -/
theorem refC1 {K : PySem.W.Frag} {r : List V → Hp → VK → Prop} {g : D → LH → R D} (h : ∀ mp lh H x v Q E, Rep K mp lh H → RelD K mp H x v → Post K mp H (g x lh) Q E → r [v] H Q) : RefC K r (f1 g) := fun mp lh H xs vs Q E rp rs q => by
  cases rs with
  | nil => exact q.elim
  | cons a b =>
    cases b with
    | nil => exact h _ _ _ _ _ Q E rp a q
    | cons _ _ => exact q.elim
def dLen : D → LH → R D := fun d h => match d with
  | .str l => if szOk l.length = true then .ok (.int l.length) h else .bad
  | .tup xs => .ok (.int xs.length) h
  | .ktp xs => .ok (.int xs.length) h
  | .ref n => (match h[n]? with
    | some (.lst xs) => .ok (.int xs.length) h
    | some (.dic false kvs) => .ok (.int kvs.length) h
    | _ => .bad)
  | _ => .bad
section
variable {X : Cx}
theorem c_len : RC X (.builtin "len") (f1 dLen) := by
  refine ⟨_, CallR.or call_len call_lenD, refC1 fun mp lh H x v Q E rp rx q => ?_⟩
  cases rx with
  | str l =>
    simp only [dLen] at q
    cases hz : szOk l.length with
    | false => simp only [hz] at q; exact q.elim
    | true => simp only [hz] at q; exact .inl ⟨_, l.length, rfl, ⟨by rw [str_len]; exact szOk_le hz, by rw [str_len]⟩, q.now rp (.int _)⟩
  | @tup ds a vs hs rs => exact .inl ⟨_, ds.length, rfl, .inr ⟨vs, hs.sq, rs.length⟩, q.now rp (.int _)⟩
  | @ktp ds a vs hs rs => exact .inl ⟨_, ds.length, rfl, .inr ⟨vs, hs.sq, rs.length⟩, q.now rp (.int _)⟩
  | @ref n a hn =>
    simp only [dLen] at q
    cases ho : lh[n]? with
    | none => simp only [ho] at q; exact q.elim
    | some o =>
      have ro := rp.obj n o a ho hn
      cases o with
      | lst xs => simp only [ho] at q; obtain ⟨vs, h1, h2⟩ := ro; exact .inl ⟨_, xs.length, rfl, .inl ⟨vs, SqL.of h1, h2.length⟩, q.now rp (.int _)⟩
      | dic b kvs =>
        cases b with
        | false => simp only [ho] at q; obtain ⟨ks, h1, h2⟩ := ro; exact .inr ⟨a, ks, rfl, h1, by rw [← paired_len h2]; exact q.now rp (.int _)⟩
        | true => simp only [ho] at q; exact q.elim
      | _ => simp only [ho] at q; exact q.elim
  | _ => exact q.elim
def dList : D → LH → R D := fun d h => match d with
  | .tup xs => .ok (.ref h.length) (h ++ [.lst xs])
  | .ktp xs => .ok (.ref h.length) (h ++ [.lst xs])
  | .rol xs => .ok (.ref h.length) (h ++ [.lst xs])
  | .ref n => (match asRd (.ref n) h with
    | some xs => .ok (.ref h.length) (h ++ [.lst xs])
    | none => .bad)
  | _ => .bad
theorem c_list : RC X (.type "list") (f1 dList) := by
  refine ⟨_, call_list_of, refC1 fun mp lh H x v Q E rp rx q => ?_⟩
  cases rx with
  | @rol ds a vs hs rs => exact ⟨a, vs, rfl, .inl hs.sq, fun p hp => q (mp ++ [p]) _ _ (.alloc rp hp) (rp.alloc hp ⟨_, upd_same, rs.ext (.alloc rp hp)⟩) (.ref (by rw [← rp.len]; simp))⟩
  | @ktp ds a vs hs rs => exact ⟨a, vs, rfl, .inr hs.sq, fun p hp => q (mp ++ [p]) _ _ (.alloc rp hp) (rp.alloc hp ⟨_, upd_same, rs.ext (.alloc rp hp)⟩) (.ref (by rw [← rp.len]; simp))⟩
  | @tup ds a vs hs rs => exact ⟨a, vs, rfl, .inr hs.sq, fun p hp => q (mp ++ [p]) _ _ (.alloc rp hp) (rp.alloc hp ⟨_, upd_same, rs.ext (.alloc rp hp)⟩) (.ref (by rw [← rp.len]; simp))⟩
  | @ref n a hn =>
    simp only [dList] at q
    cases e1 : asRd (.ref n) lh with
    | none => simp only [e1] at q; exact q.elim
    | some xs =>
      simp only [e1] at q
      obtain ⟨_, a', vs, z1, z2, _, h2, h3⟩ := asRd_of rp (.ref hn) e1
      cases z1; cases z2
      exact ⟨a, vs, rfl, .inl h2, fun p hp => q (mp ++ [p]) _ _ (.alloc rp hp) (rp.alloc hp ⟨_, upd_same, h3.ext (.alloc rp hp)⟩) (.ref (by rw [← rp.len]; simp))⟩
  | _ => exact q.elim
def dTuple : D → LH → R D := fun d h => match d with
  | .tup xs => .ok (.tup xs) h
  | .ref n => (match asRd (.ref n) h with
    | some xs => .ok (.tup xs) h
    | none => .bad)
  | _ => .bad
theorem c_tuple : RC X (.type "tuple") (f1 dTuple) := by
  refine ⟨_, call_tuple_of, refC1 fun mp lh H x v Q E rp rx q => ?_⟩
  cases rx with
  | @tup ds a vs hs rs => exact ⟨a, vs, rfl, .inr ⟨hs.sq, q.now rp (.tup hs rs)⟩⟩
  | @ref n a hn =>
    simp only [dTuple] at q
    cases e1 : asRd (.ref n) lh with
    | none => simp only [e1] at q; exact q.elim
    | some xs =>
      simp only [e1] at q
      obtain ⟨_, a', vs, z1, z2, _, h2, h3⟩ := asRd_of rp (.ref hn) e1
      cases z1; cases z2
      exact ⟨a, vs, rfl, .inl ⟨h2, fun p hp => q mp _ _ (.free hp) (rp.free hp) (.tup (.inl upd_same) (h3.ext (.free hp)))⟩⟩
  | _ => exact q.elim
def allB : List D → Option (List Bool)
  | [] => some []
  | .bl b :: r => (allB r).map (b :: ·)
  | _ => none
def allI : List D → Option (List Int)
  | [] => some []
  | .int i :: r => (allI r).map (i :: ·)
  | _ => none
def allS : List D → Option (List (List Nat))
  | [] => some []
  | .str l :: r => (allS r).map (l :: ·)
  | _ => none
theorem allB_rel {K : PySem.W.Frag} {mp : List Addr} {H : Hp} : ∀ {xs : List D} {vs : List V} {bs : List Bool}, RelDs K mp H xs vs → allB xs = some bs → vs = bs.map V.bl
  | _, _, _, .nil, h => by cases h; rfl
  | _, _, bs, .cons (d := d) (ds := ds) a b, h => by
    cases a with
    | bl c =>
      unfold allB at h
      cases e : allB ds with
      | none => rw [e] at h; cases h
      | some cs => rw [e] at h; cases h; rw [allB_rel b e]; rfl
    | _ => cases h
theorem allI_rel {K : PySem.W.Frag} {mp : List Addr} {H : Hp} : ∀ {xs : List D} {vs : List V} {bs : List Int}, RelDs K mp H xs vs → allI xs = some bs → vs = bs.map V.int
  | _, _, _, .nil, h => by cases h; rfl
  | _, _, bs, .cons (d := d) (ds := ds) a b, h => by
    cases a with
    | int c =>
      unfold allI at h
      cases e : allI ds with
      | none => rw [e] at h; cases h
      | some cs => rw [e] at h; cases h; rw [allI_rel b e]; rfl
    | _ => cases h
theorem allS_rel {K : PySem.W.Frag} {mp : List Addr} {H : Hp} : ∀ {xs : List D} {vs : List V} {bs : List (List Nat)}, RelDs K mp H xs vs → allS xs = some bs → vs = (bs.map fun l => (⟨l.toArray⟩ : Str)).map V.str
  | _, _, _, .nil, h => by cases h; rfl
  | _, _, bs, .cons (d := d) (ds := ds) a b, h => by
    cases a with
    | str c =>
      unfold allS at h
      cases e : allS ds with
      | none => rw [e] at h; cases h
      | some cs => rw [e] at h; cases h; rw [allS_rel b e]; rfl
    | _ => cases h
def dAll : D → LH → R D := fun d h => match asRd d h with
  | some xs => (match allB xs with
    | some bs => .ok (.bl (bs.all id)) h
    | none => .bad)
  | none => .bad
def dAny : D → LH → R D := fun d h => match asRd d h with
  | some xs => (match allB xs with
    | some bs => .ok (.bl (bs.any id)) h
    | none => .bad)
  | none => .bad
def dSum : D → LH → R D := fun d h => match asRd d h with
  | some xs => (match allI xs with
    | some bs => .ok (.int bs.sum) h
    | none => .bad)
  | none => .bad
theorem c_all (hc : X.calm = true) : RC X (.builtin "all") (f1 dAll) := by
  refine ⟨_, cr_all hc, refC1 fun mp lh H x v Q E rp rx q => ?_⟩
  unfold dAll at q
  cases e1 : asRd x lh with
  | none => simp only [e1] at q; exact q.elim
  | some xs =>
    cases e2 : allB xs with
    | none => simp only [e1, e2] at q; exact q.elim
    | some bs =>
      simp only [e1, e2] at q
      obtain ⟨n, a, vs, rfl, rfl, _, h2, h3⟩ := asRd_of rp rx e1
      exact ⟨a, bs, rfl, by rw [← allB_rel h3 e2]; exact h2, q.now rp (.bl _)⟩
theorem c_any (hc : X.calm = true) : RC X (.builtin "any") (f1 dAny) := by
  refine ⟨_, cr_any hc, refC1 fun mp lh H x v Q E rp rx q => ?_⟩
  unfold dAny at q
  cases e1 : asRd x lh with
  | none => simp only [e1] at q; exact q.elim
  | some xs =>
    cases e2 : allB xs with
    | none => simp only [e1, e2] at q; exact q.elim
    | some bs =>
      simp only [e1, e2] at q
      obtain ⟨n, a, vs, rfl, rfl, _, h2, h3⟩ := asRd_of rp rx e1
      exact ⟨a, bs, rfl, by rw [← allB_rel h3 e2]; exact h2, q.now rp (.bl _)⟩
theorem c_sum (hc : X.calm = true) : RC X (.builtin "sum") (f1 dSum) := by
  refine ⟨_, cr_sum hc, refC1 fun mp lh H x v Q E rp rx q => ?_⟩
  unfold dSum at q
  cases e1 : asRd x lh with
  | none => simp only [e1] at q; exact q.elim
  | some xs =>
    cases e2 : allI xs with
    | none => simp only [e1, e2] at q; exact q.elim
    | some bs =>
      simp only [e1, e2] at q
      obtain ⟨n, a, vs, rfl, rfl, _, h2, h3⟩ := asRd_of rp rx e1
      exact ⟨a, bs, rfl, by rw [← allI_rel h3 e2]; exact h2, q.now rp (.int _)⟩
end

/-! ### methods of built-in types -/
def RefM (K : PySem.W.Frag) (T : String) (r : V → List V → Hp → VK → Prop) (ty : D → LH → Bool) (f : D → List D → LH → R D) : Prop :=
  (∀ mp lh H x v, Rep K mp lh H → RelD K mp H x v → ty x lh = true → tyV K T v H) ∧
  ∀ mp lh H x v xs vs Q E, Rep K mp lh H → RelD K mp H x v → RelDs K mp H xs vs → Post K mp H (f x xs lh) Q E → r v vs H Q
/-- o.m(..): o is looked at, then the arguments, then it runs -/
def mBM (ty : D → LH → Bool) (f : D → List D → LH → R D) (mo : EM) (ma : AM) : EM := fun ls h => (mo ls h).bind fun x h1 => if ty x h1 = true then (ma ls h1).bind fun xs h2 => f x xs h2 else .bad
def isLst (d : D) (h : LH) : Bool := (asRd d h).isSome
def isStr (d : D) (_ : LH) : Bool := match d with
  | .str _ => true
  | _ => false
theorem ty_lst {K : PySem.W.Frag} : ∀ mp lh H x v, Rep K mp lh H → RelD K mp H x v → isLst x lh = true → tyV K "list" v H := fun mp lh H x v rp rx h => by
  unfold isLst at h
  cases e : asRd x lh with
  | none => rw [e] at h; cases h
  | some xs =>
    obtain ⟨n, a, vs, rfl, rfl, _, h2, _⟩ := asRd_of rp rx e
    exact .inl ⟨rfl, vs, h2⟩
theorem ty_str {K : PySem.W.Frag} : ∀ mp lh H x v, Rep K mp lh H → RelD K mp H x v → isStr x lh = true → tyV K "str" v H := fun mp lh H x v rp rx h => by
  cases rx with
  | str l => exact rfl
  | _ => cases h
section
variable {X : Cx} {W : WX} {o e : Expr} {es : List Expr} {name : Str} {id T : String} {mo : EM} {ma : AM} {apos cpos : Pos} {r : V → List V → Hp → VK → Prop} {ty : D → LH → Bool} {f : D → List D → LH → R D}
theorem re_bm (pa : PlainAttrs T) (slot : Slot T name id) (hty : typeOf (.builtin id) = pure (.type "method_descriptor")) (hm : MtR X id r) (hr : RefM X.K T r ty f) (ho : RE X W o mo) (ha : RA X W (e :: es) ma)
    (hbase : attributeBase o name X.env (eval o X.env) = eval o X.env := by rfl)
    (hfew : ((backTo cpos (starEach (e :: es) X.env)).all (fun x => !x.1) && (backToKw cpos (keywordEach [] X.env)).all (fun x => x.1.isSome)
      && decide ((e :: es).length + ([] : List Keyword).length + (if ([] : List Keyword).isEmpty then 0 else 1) < 30)) = true := by rfl)
    (hline : (apos.endLine == cpos.line) = true := by rfl) (hs : starEach (e :: es) X.env = (false, eval e X.env) :: starEach es X.env := by rfl) (hplain : (backTo cpos (starEach es X.env)).any (·.1) = false := by rfl) :
    RE X W (.Call (.Attribute o name apos) (e :: es) [] cpos) (mBM ty f mo ma) := by
  obtain ⟨to, o1, o2⟩ := ho
  obtain ⟨t, a1, a2, _⟩ := ha
  refine ⟨_, pe_bm pa slot hty hm o1 a1 hbase hfew hline hs hplain, fun mp lh ls σ H Q rp rs q => o2 mp lh ls σ H _ rp rs (q.bind fun mp1 H1 lh1 x v e1 r1 rl1 q1 => ?_)⟩
  cases ht : ty x lh1 with
  | false => simp only [ht] at q1; exact q1.elim
  | true =>
    simp only [ht, if_true] at q1
    exact ⟨hr.1 _ _ _ _ _ r1 rl1 ht, a2 mp1 lh1 ls σ H1 _ r1 (rs.ext e1) (q1.bind fun mp2 H2 lh2 xs vs e2 r2 rl2 q2 => hr.2 mp2 lh2 H2 x v xs vs Q _ r2 (rl1.ext e2) rl2 q2)⟩
theorem re_bm0 (pa : PlainAttrs T) (slot : Slot T name id) (hty : typeOf (.builtin id) = pure (.type "method_descriptor")) (hm : MtR X id r) (hr : RefM X.K T r ty f) (ho : RE X W o mo)
    (hbase : attributeBase o name X.env (eval o X.env) = eval o X.env := by rfl) (hline : (apos.endLine == cpos.line) = true := by rfl) :
    RE X W (.Call (.Attribute o name apos) [] [] cpos) (mBM ty f mo mNil) := by
  obtain ⟨to, o1, o2⟩ := ho
  refine ⟨_, pe_bm0 pa slot hty hm o1 hbase hline, fun mp lh ls σ H Q rp rs q => o2 mp lh ls σ H _ rp rs (q.bind fun mp1 H1 lh1 x v e1 r1 rl1 q1 => ?_)⟩
  cases ht : ty x lh1 with
  | false => simp only [ht] at q1; exact q1.elim
  | true =>
    simp only [ht, if_true] at q1
    exact ⟨hr.1 _ _ _ _ _ r1 rl1 ht, hr.2 mp1 lh1 H1 x v [] [] Q _ r1 rl1 .nil q1⟩
end
/-- xs.append(e) -/
def dAppend : D → List D → LH → R D := fun x as h => match x, as with
  | .ref n, [d] => (match h[n]? with
    | some (.lst xs) => if szOk (xs.length + 1) = true then .ok .non (h.set n (.lst (xs ++ [d]))) else .bad
    | _ => .bad)
  | _, _ => .bad
theorem m_append {K : PySem.W.Frag} : RefM K "list" rAppend isLst dAppend := by
  refine ⟨ty_lst, fun mp lh H x v xs vs Q E rp rx rs q => ?_⟩
  cases rx with
  | @ref n a hn =>
    cases rs with
    | nil => exact q.elim
    | @cons d y ds ys r1 r2 =>
      cases r2 with
      | cons _ _ => exact q.elim
      | nil =>
        simp only [dAppend] at q
        cases ho : lh[n]? with
        | none => simp only [ho] at q; exact q.elim
        | some o =>
          cases o with
          | lst zs =>
            simp only [ho] at q
            cases hz : szOk (zs.length + 1) with
            | false => simp only [hz] at q; exact q.elim
            | true =>
              simp only [hz] at q
              obtain ⟨ws, h1, h2⟩ := rp.obj n _ a ho hn
              have ew : Ext K mp H mp (upd H a (.lst (ws ++ [y]))) := .write rp hn ho rfl
              exact ⟨a, ws, y, rfl, rfl, h1, by rw [← h2.length]; exact Nat.lt_of_succ_le (szOk_le hz), q mp _ _ ew (rp.write hn ho rfl ⟨_, upd_same, (h2.append (.cons r1 .nil)).ext ew⟩) .non⟩
          | _ => simp only [ho] at q; exact q.elim
  | _ => cases rs <;> exact q.elim
/-- sep.join(texts) -/
def joinT (sep : List Nat) : List (List Nat) → List Nat
  | [] => []
  | [x] => x
  | x :: r => x ++ sep ++ joinT sep r
def dJoin : D → List D → LH → R D := fun x as h => match x, as with
  | .str sep, [d] => (match (match d with
      | .tup xs => some xs
      | _ => asRd d h) with
    | some xs => (match allS xs with
      | some ss => if Nat.ble ((ss.map (·.length)).sum + ss.length * sep.length) 16777216 = true then .ok (.str (joinT sep ss)) h else .bad
      | none => .bad)
    | none => .bad)
  | _, _ => .bad
theorem join_aux (sep : List Nat) : ∀ ss : List (List Nat), Str.join ⟨sep.toArray⟩ (ss.map fun l => (⟨l.toArray⟩ : Str)) = ⟨(joinT sep ss).toArray⟩
  | [] => rfl
  | [x] => rfl
  | x :: y :: r => by
    have ih := join_aux sep (y :: r)
    show (⟨x.toArray⟩ : Str) ++ ⟨sep.toArray⟩ ++ Str.join ⟨sep.toArray⟩ ((y :: r).map fun l => (⟨l.toArray⟩ : Str)) = ⟨(x ++ sep ++ joinT sep (y :: r)).toArray⟩
    rw [ih]
    have ap : ∀ a b : List Nat, (⟨a.toArray⟩ : Str) ++ ⟨b.toArray⟩ = ⟨(a ++ b).toArray⟩ := fun a b => by
      show (⟨a.toArray ++ b.toArray⟩ : Str) = _
      simp
    rw [ap, ap]
theorem join_is (sep : List Nat) (ss : List (List Nat)) : Txt.join ⟨sep.toArray⟩ (ss.map fun l => (⟨l.toArray⟩ : Str)) = ⟨(joinT sep ss).toArray⟩ := (TL.join_eq _ _).trans (join_aux sep ss)
theorem m_join {X : Cx} : ∃ r, MtR X "str.join" r ∧ RefM X.K "str" r isStr dJoin := by
  refine ⟨_, mt_join, ty_str, fun mp lh H x v xs vs Q E rp rx rs q => ?_⟩
  have key : ∀ (sep : List Nat) (p : Addr) (us : List V) (ds : List D), (SqL X.K H p us ∨ SqT X.K H p us) → RelDs X.K mp H ds us → Post X.K mp H (match allS ds with
      | some ss => if Nat.ble ((ss.map (·.length)).sum + ss.length * sep.length) 16777216 = true then .ok (.str (joinT sep ss)) lh else .bad
      | none => .bad) Q E → ∃ (a : Str) (p' : Addr), ∃ ys : List Str, V.str ⟨sep.toArray⟩ = .str a ∧ [V.ref p] = [V.ref p'] ∧ (SqL X.K H p' (ys.map V.str) ∨ SqT X.K H p' (ys.map V.str)) ∧
    (ys.map (·.length)).sum + ys.length * a.length ≤ 16777216 ∧ Q (.str (Txt.join a ys)) H := fun sep p us ds hp rd q => by
    cases e : allS ds with
    | none => simp only [e] at q; exact q.elim
    | some ss =>
      simp only [e] at q
      cases hz : Nat.ble ((ss.map (·.length)).sum + ss.length * sep.length) 16777216 with
      | false => simp only [hz] at q; exact q.elim
      | true =>
        simp only [hz] at q
        refine ⟨_, p, ss.map fun l => (⟨l.toArray⟩ : Str), rfl, rfl, by rw [← allS_rel rd e]; exact hp, ?_, by rw [join_is]; exact q.now rp (.str _)⟩
        have := Nat.le_of_ble_eq_true hz
        have e1 : ((ss.map fun l => (⟨l.toArray⟩ : Str)).map (·.length)) = ss.map (·.length) := by
          rw [List.map_map]
          exact List.map_congr_left fun l _ => str_len l
        rw [e1, List.length_map, str_len]; exact this
  cases rx with
  | str sep =>
    cases rs with
    | nil => exact q.elim
    | @cons d y ds ys r1 r2 =>
      cases r2 with
      | cons _ _ => exact q.elim
      | nil =>
        unfold dJoin at q
        cases r1 with
        | @tup ds a us hs rd => exact key sep a us ds (.inr hs.sq) rd q
        | @ref n a hn =>
          cases e1 : asRd (.ref n) lh with
          | none => simp only [e1] at q; exact q.elim
          | some zs =>
            simp only [e1] at q
            obtain ⟨_, a', vs, z1, z2, _, h2, h3⟩ := asRd_of rp (.ref hn) e1
            cases z1; cases z2
            exact key sep a vs zs (.inl h2) h3 q
        | _ => simp only [asRd] at q; exact q.elim
  | _ => exact q.elim
end Rf
set_option Elab.async false
set_option linter.all false
set_option maxRecDepth 100000
set_option maxHeartbeats 4000000
set_option autoImplicit false
/-! index, count; stores by subscript; name op= e; a, b = x, y. -/
namespace Rf
open PySem PySem.Spec L2

def RM (X : Cx) (T id : String) (ty : D → LH → Bool) (f : D → List D → LH → R D) : Prop := ∃ r, MtR X id r ∧ RefM X.K T r ty f
section
variable {X : Cx} {W : WX} {o e : Expr} {es : List Expr} {name : Str} {id T : String} {mo : EM} {ma : AM} {apos cpos : Pos} {ty : D → LH → Bool} {f : D → List D → LH → R D}
theorem re_bmR (hr : RM X T id ty f) (pa : PlainAttrs T) (slot : Slot T name id) (ho : RE X W o mo) (ha : RA X W (e :: es) ma)
    (hty : typeOf (.builtin id) = pure (.type "method_descriptor") := by rfl)
    (hbase : attributeBase o name X.env (eval o X.env) = eval o X.env := by rfl)
    (hfew : ((backTo cpos (starEach (e :: es) X.env)).all (fun x => !x.1) && (backToKw cpos (keywordEach [] X.env)).all (fun x => x.1.isSome)
      && decide ((e :: es).length + ([] : List Keyword).length + (if ([] : List Keyword).isEmpty then 0 else 1) < 30)) = true := by rfl)
    (hline : (apos.endLine == cpos.line) = true := by rfl) (hs : starEach (e :: es) X.env = (false, eval e X.env) :: starEach es X.env := by rfl) (hplain : (backTo cpos (starEach es X.env)).any (·.1) = false := by rfl) :
    RE X W (.Call (.Attribute o name apos) (e :: es) [] cpos) (mBM ty f mo ma) := by
  obtain ⟨r, h1, h2⟩ := hr
  exact re_bm pa slot hty h1 h2 ho ha hbase hfew hline hs hplain
theorem re_bmR0 (hr : RM X T id ty f) (pa : PlainAttrs T) (slot : Slot T name id) (ho : RE X W o mo)
    (hty : typeOf (.builtin id) = pure (.type "method_descriptor") := by rfl)
    (hbase : attributeBase o name X.env (eval o X.env) = eval o X.env := by rfl) (hline : (apos.endLine == cpos.line) = true := by rfl) :
    RE X W (.Call (.Attribute o name apos) [] [] cpos) (mBM ty f mo mNil) := by
  obtain ⟨r, h1, h2⟩ := hr
  exact re_bm0 pa slot hty h1 h2 ho hbase hline
end
/-- where c first stands -/
def ixT (c : Nat) : List Nat → Option Nat
  | [] => none
  | x :: r => if x = c then some 0 else (ixT c r).map (· + 1)
theorem ixT_some {c : Nat} : ∀ {l : List Nat} {i : Nat}, ixT c l = some i → l[i]? = some c ∧ ∀ k, k < i → l[k]? ≠ some c
  | [], _, h => by cases h
  | x :: r, i, h => by
    unfold ixT at h
    split at h
    · cases h; rename_i e; subst e; exact ⟨rfl, fun k hk => absurd hk (Nat.not_lt_zero _)⟩
    · rename_i ne
      cases e : ixT c r with
      | none => rw [e] at h; cases h
      | some j =>
        rw [e] at h; cases h
        obtain ⟨h1, h2⟩ := ixT_some e
        refine ⟨by simpa using h1, fun k hk => ?_⟩
        cases k with
        | zero => intro z; exact ne (by simpa using z)
        | succ k => intro z; exact h2 k (Nat.lt_of_succ_lt_succ hk) (by simpa using z)
theorem occ_one {l : List Nat} {c i : Nat} (h : ixT c l = some i) : ∃ rest, Builtin.Str.occurrences ⟨l.toArray⟩ ⟨#[c]⟩ 0 (⟨l.toArray⟩ : Str).length 1 = i :: rest := by
  obtain ⟨h1, h2⟩ := ixT_some h
  have at_iff : ∀ k, StrLaws.At ⟨l.toArray⟩ ⟨#[c]⟩ (⟨l.toArray⟩ : Str).length k ↔ l[k]? = some c := fun k => by
    have := StrLaws.subAt_one ⟨l.toArray⟩ c k
    simpa [StrLaws.At] using this
  rcases StrLaws.occ_head ⟨l.toArray⟩ ⟨#[c]⟩ 1 (Nat.le_refl _) with ⟨_, hn⟩ | ⟨j, r, e, ha, hn⟩
  · exact absurd ((at_iff i).mpr h1) (hn i)
  · have ej : j = i := by
      rcases Nat.lt_trichotomy j i with hlt | he | hgt
      · exact absurd ((at_iff j).mp ha) (h2 j hlt)
      · exact he
      · exact absurd ((at_iff i).mpr h1) (hn i hgt)
    subst ej; exact ⟨r, e⟩
/-- text.index(sign) where it stands -/
def dSIndex : D → List D → LH → R D := fun x as h => match x, as with
  | .str l, [.str [c]] => (match ixT c l with
    | some i => .ok (.int i) h
    | none => .bad)
  | _, _ => .bad
theorem m_sindex {X : Cx} : RM X "str" "str.index" isStr dSIndex := by
  refine ⟨_, mt_sindex, ty_str, fun mp lh H x v xs vs Q E rp rx rs q => ?_⟩
  cases rx with
  | str l =>
    cases rs with
    | nil => exact q.elim
    | @cons d y ds ys r1 r2 =>
      cases r2 with
      | cons _ _ => cases r1 <;> (try exact q.elim); rename_i b; cases b <;> (try exact q.elim); rename_i b; cases b <;> exact q.elim
      | nil =>
        cases r1 with
        | str b =>
          cases b with
          | nil => exact q.elim
          | cons c b =>
            cases b with
            | cons _ _ => exact q.elim
            | nil =>
              cases e : ixT c l with
              | none => simp only [dSIndex, e] at q; exact q.elim
              | some i =>
                simp only [dSIndex, e] at q
                obtain ⟨rest, hr⟩ := occ_one e
                exact ⟨_, _, i, rest, rfl, rfl, hr, q.now rp (.int _)⟩
        | _ => exact q.elim
  | _ => exact q.elim
/-- xs.index(x), xs.count(x) of flat things -/
def ixF (y : D) : List D → Option Nat
  | [] => none
  | x :: r => if eqF x y = true then some 0 else (ixF y r).map (· + 1)
theorem ixF_some {y : D} : ∀ {l : List D} {i : Nat}, ixF y l = some i → (∃ z, l[i]? = some z ∧ eqF z y = true) ∧ ∀ k z, k < i → l[k]? = some z → eqF z y = false
  | [], _, h => by cases h
  | x :: r, i, h => by
    unfold ixF at h
    split at h
    · cases h; rename_i e; exact ⟨⟨x, rfl, e⟩, fun k z hk => absurd hk (Nat.not_lt_zero _)⟩
    · rename_i ne
      cases e : ixF y r with
      | none => rw [e] at h; cases h
      | some j =>
        rw [e] at h; cases h
        obtain ⟨⟨z, h1, h3⟩, h2⟩ := ixF_some e
        refine ⟨⟨z, by simpa using h1, h3⟩, fun k z hk hz => ?_⟩
        cases k with
        | zero => simp at hz; subst hz; exact Bool.eq_false_iff.mpr ne
        | succ k => exact h2 k z (Nat.lt_of_succ_lt_succ hk) (by simpa using hz)
def dLIndex : D → List D → LH → R D := fun x as h => match asRd x h, as with
  | some xs, [y] => if (isFlat y && xs.all isFlat) = true then (match ixF y xs with
    | some i => .ok (.int i) h
    | none => .bad) else .bad
  | _, _ => .bad
theorem m_lindex {X : Cx} : RM X "list" "list.index" isLst dLIndex := by
  refine ⟨_, mt_index, ty_lst, fun mp lh H x v xs vs Q E rp rx rs q => ?_⟩
  unfold dLIndex at q
  cases e1 : asRd x lh with
  | none => simp only [e1] at q; exact q.elim
  | some zs =>
    obtain ⟨n, a, us, rfl, rfl, _, h2, h3⟩ := asRd_of rp rx e1
    cases rs with
    | nil => simp only [e1] at q; exact q.elim
    | @cons d y ds ys r1 r2 =>
      cases r2 with
      | cons _ _ => simp only [e1] at q; exact q.elim
      | nil =>
        simp only [e1] at q
        cases hf : isFlat d && zs.all isFlat with
        | false => simp only [hf] at q; exact q.elim
        | true =>
          simp only [hf] at q
          rw [Bool.and_eq_true] at hf
          cases e : ixF d zs with
          | none => simp only [e] at q; exact q.elim
          | some i =>
            simp only [e] at q
            obtain ⟨⟨z, hz, hq⟩, hno⟩ := ixF_some e
            obtain ⟨u, hu, ru⟩ := h3.get hz
            have fz : isFlat z = true := List.all_eq_true.mp hf.2 z (List.mem_of_getElem? hz)
            refine ⟨a, us, y, i, u, rfl, rfl, h2, flat_rel r1 hf.1, flats_rel h3 hf.2, hu, by rw [eqF_rel ru r1 fz hf.1]; exact hq, fun m z' hm hz' => ?_, q.now rp (.int _)⟩
            obtain ⟨d', hd', rd'⟩ := h3.getv hz'
            rw [eqF_rel rd' r1 (List.all_eq_true.mp hf.2 d' (List.mem_of_getElem? hd')) hf.1]
            exact hno m d' hm hd'
def rCntF (K : PySem.W.Frag) : V → List V → Hp → VK → Prop := fun x xs H Q => ∃ (p : Addr) (ys : List V) (y : V), x = .ref p ∧ xs = [y] ∧ SqL K H p ys ∧ flatV y = true ∧ ys.all flatV = true ∧ Q (.int ((ys.countP fun z => eqV z y) : Nat)) H
theorem countP_eqU {y : V} : ∀ {ys : List V} {us : List Value}, Vals ys us → ys.all flatV = true → us.countP (eqU y) = ys.countP fun z => eqV z y
  | _, _, .nil, _ => rfl
  | _, _, .cons r rs, h => by
    rw [List.all_cons, Bool.and_eq_true] at h
    rw [List.countP_cons, List.countP_cons, countP_eqU rs h.2, eqU_of r h.1]
theorem mt_lcountF {X : Cx} : MtR X "list.count" (rCntF X.K) := by
  intro pins s σ H x xs v us Q I rx rxs h
  obtain ⟨p, ys, y, rfl, rfl, hs, fy, fys, q⟩ := h
  cases rx
  obtain ⟨u, rfl, ru⟩ := rxs.one
  obtain ⟨its, rv, ⟨⟨cls, dd, data, sl⟩, n, ho, hc, hdn, hd⟩, hlen⟩ := I.list hs
  simp only at hc hd
  subst hc hd
  refine call_meets PySem.F.slot_list_count ⟨_, ho, rfl⟩ PySem.F.entry_list_count (PySem.F.args_list_count_2 _ _)
    (SeqAt.list_countAt p its.toArray n dd sl u (eqU y)) ⟨ho, fun u' hu' => mem_eqAt ru fy rv fys u' (by simpa using hu'), ?_⟩
  refine ⟨.int ((ys.countP fun z => eqV z y) : Nat), H, I.tok _, ⟨s.toks, ?_⟩, q⟩
  show Value.int ((its.toArray.toList.countP (eqU y) : Nat) : Int) s.toks = Value.int _ s.toks
  rw [show its.toArray.toList = its from rfl, countP_eqU rv fys]
def dLCount : D → List D → LH → R D := fun x as h => match asRd x h, as with
  | some xs, [y] => if (isFlat y && xs.all isFlat) = true then .ok (.int ((xs.countP fun z => eqF z y) : Nat)) h else .bad
  | _, _ => .bad
theorem countP_rel {K : PySem.W.Frag} {mp : List Addr} {H : Hp} {y : D} {vy : V} (ry : RelD K mp H y vy) (hy : isFlat y = true) : ∀ {ds : List D} {vs : List V}, RelDs K mp H ds vs → ds.all isFlat = true → (vs.countP fun z => eqV z vy) = ds.countP fun z => eqF z y
  | _, _, .nil, _ => rfl
  | _, _, .cons a b, h => by
    rw [List.all_cons, Bool.and_eq_true] at h
    rw [List.countP_cons, List.countP_cons, countP_rel ry hy b h.2, eqF_rel a ry h.1 hy]
theorem m_lcount {X : Cx} : RM X "list" "list.count" isLst dLCount := by
  refine ⟨_, mt_lcountF, ty_lst, fun mp lh H x v xs vs Q E rp rx rs q => ?_⟩
  unfold dLCount at q
  cases e1 : asRd x lh with
  | none => simp only [e1] at q; exact q.elim
  | some zs =>
    obtain ⟨n, a, us, rfl, rfl, _, h2, h3⟩ := asRd_of rp rx e1
    cases rs with
    | nil => simp only [e1] at q; exact q.elim
    | @cons d y ds ys r1 r2 =>
      cases r2 with
      | cons _ _ => simp only [e1] at q; exact q.elim
      | nil =>
        simp only [e1] at q
        cases hf : isFlat d && zs.all isFlat with
        | false => simp only [hf] at q; exact q.elim
        | true =>
          simp only [hf] at q
          rw [Bool.and_eq_true] at hf
          exact ⟨a, us, y, rfl, rfl, h2, flat_rel r1 hf.1, flats_rel h3 hf.2, by rw [countP_rel r1 hf.1 h3 hf.2]; exact q.now rp (.int _)⟩

/-! ### stores by subscript -/
def RSt (X : Cx) (f : D → D → D → LH → Option LH) : Prop := ∃ t, PSet X t ∧ ∀ mp lh lh' H o i x vo vi vx Q, Rep X.K mp lh H → RelD X.K mp H o vo → RelD X.K mp H i vi → RelD X.K mp H x vx → f o i x lh = some lh' → (∀ H', Ext X.K mp H mp H' → Rep X.K mp lh' H' → Q H') → t vo vi vx H Q
def mSetSub (f : D → D → D → LH → Option LH) (me mo mi : EM) : SM := fun ls h => liftE (me ls h) ls fun x h1 => liftE (mo ls h1) ls fun o h2 => liftE (mi ls h2) ls fun i h3 => match f o i x h3 with
  | some h4 => .nx ls h4
  | none => .bad
section
variable {X : Cx} {W : WX} {o i e : Expr} {me mo mi : EM} {pos pos' : Pos} {f : D → D → D → LH → Option LH}
theorem rs_setSub (hf : RSt X f) (he : RE X W e me) (ho : RE X W o mo) (hi : RE X W i mi)
    (ha : ∀ v, assign (.Subscript o i pos') X.env v = (do
      let ov ← holding [v] (eval o X.env)
      let iv ← holding [v, ov] (eval i X.env)
      standAt pos'
      holding [v, ov, iv] (setItem ov iv v)
      release [v, ov, iv] []) := by intro _; rfl) (hs : swapsWithSole [.Subscript o i pos'] e pos.line X.env = pure false := by rfl) (hw : swappedStores [.Subscript o i pos'] e X.env = pure none := by rfl)
    (h1 : (assignEach [.Subscript o i pos'] X.env).map (·.2) = [assign (.Subscript o i pos') X.env] := by rfl) : RS X W (.Assign [.Subscript o i pos'] e pos) (mSetSub f me mo mi) := by
  obtain ⟨ts, s1, s2⟩ := hf
  obtain ⟨te, e1, e2⟩ := he
  obtain ⟨to, o1, o2⟩ := ho
  obtain ⟨ti, i1, i2⟩ := hi
  refine ⟨_, ps_asg e1 (pg_sub o1 i1 s1 ha) hs hw h1, fun mp lh ls σ H De r rs q => e2 mp lh ls σ H _ r rs (q.lift rs fun mp1 H1 lh1 x vx x1 r1 rl1 q1 => ?_)⟩
  refine o2 mp1 lh1 ls σ H1 _ r1 (rs.ext x1) (q1.lift (rs.ext x1) fun mp2 H2 lh2 o vo x2 r2 rl2 q2 => ?_)
  refine i2 mp2 lh2 ls σ H2 _ r2 ((rs.ext x1).ext x2) (q2.lift ((rs.ext x1).ext x2) fun mp3 H3 lh3 i vi x3 r3 rl3 q3 => ?_)
  have rs3 := ((rs.ext x1).ext x2).ext x3
  cases hf : f o i x lh3 with
  | none => simp only [hf] at q3; exact q3.elim
  | some lh4 =>
    simp only [hf] at q3
    exact s2 mp3 lh3 lh4 H3 o i x vo vi vx _ r3 (rl2.ext x3) rl3 ((rl1.ext x2).ext x3) hf fun H4 x4 r4 => q3 mp3 H4 σ x4 r4 (rs3.ext x4)
end
def dSetL : D → D → D → LH → Option LH := fun o i x h => match o, i with
  | .ref n, .int k => (match h[n]? with
    | some (.lst xs) => (ixN xs.length k).map fun j => h.set n (.lst (xs.set j x))
    | _ => none)
  | _, _ => none
theorem s_list {X : Cx} : RSt X dSetL := by
  refine ⟨_, set_list, fun mp lh lh' H o i x vo vi vx Q rp ro ri rx hf q => ?_⟩
  cases ro with
  | @ref n a hn =>
    cases ri with
    | int k =>
      unfold dSetL at hf
      cases ho : lh[n]? with
      | none => simp only [ho] at hf; cases hf
      | some ob =>
        cases ob with
        | lst xs =>
          simp only [ho] at hf
          obtain ⟨vs, h1, h2⟩ := rp.obj n _ a ho hn
          cases hj : ixN xs.length k with
          | none => rw [hj] at hf; cases hf
          | some j =>
            rw [hj] at hf; cases hf
            have ew : Ext X.K mp H mp (upd H a (.lst (vs.set j vx))) := .write rp hn ho rfl
            exact ⟨a, vs, k, j, rfl, rfl, h1, by rw [← h2.length]; exact hj, q _ ew (rp.write hn ho rfl ⟨_, upd_same, (RelDs.set rx j h2).ext ew⟩)⟩
        | _ => simp only [ho] at hf; cases hf
    | _ => cases hf
  | _ => cases ri <;> cases hf

/-! ### name op= e; a, b = x, y -/
def mAug (f : D → D → LH → R D) (i : Nat) (me : EM) : SM := fun ls h => match ls[i]? with
  | some (some (.fn _ _)) => .bad
  | some (some x) => liftE ((me ls h).bind fun y h1 => f x y h1) ls fun z h2 => .nx (ls.set i (some z)) h2
  | _ => .bad
def mPar (i j : Nat) (ma : AM) : SM := fun ls h => liftE (ma ls h) ls fun ds h1 => match ds with
  | [x, y] => .nx ((ls.set i (some x)).set j (some y)) h1
  | _ => .bad
def mPar3 (i j l : Nat) (ma : AM) : SM := fun ls h => liftE (ma ls h) ls fun ds h1 => match ds with
  | [x, y, z] => .nx (((ls.set i (some x)).set j (some y)).set l (some z)) h1
  | _ => .bad
/-- of a rule for inplaceOp -/
theorem pip_of {X : Cx} {op : Operator} {r : R2} (h : OpR X (inplaceOp op) r) : PIp X op r := fun pins s σ H x y v u Q I r1 r2 hh => h pins s σ H x y v u Q I r1 r2 hh
section
variable {X : Cx} {W : WX} {e a b c : Expr} {me : EM} {ma : AM} {pos pos' : Pos} {f : D → D → LH → R D}
theorem rs_aug {i : Nat} {x : Str} {op : Operator} (hN : X.N.Nodup) (hi : X.N[i]? = some x) (hx : Loc X.env.scope x) (ho : ROp X (inplaceOp op) f) (he : RE X W e me)
    (hf : X.fn x = true ∨ X.env.scope.names.lookup x = some .local := by first | exact .inl rfl | exact .inr rfl | assumption) : RS X W (.AugAssign (.Name x pos') op e pos) (mAug f i me) := by
  obtain ⟨r, o1, o2⟩ := ho
  obtain ⟨t, a1, a2⟩ := he
  refine ⟨_, ps_aug hN hi hx a1 (pip_of o1) hf, fun mp lh ls σ H De rp rs q => ?_⟩
  unfold mAug at q
  cases hl : ls[i]? with
  | none => rw [hl] at q; exact q.elim
  | some o =>
    cases o with
    | none => rw [hl] at q; exact q.elim
    | some d =>
      obtain ⟨v, hv, rv⟩ := rs.2 i d hl
      have nf : isFn d = false := by
        cases d with
        | fn _ _ => rw [hl] at q; exact q.elim
        | _ => rfl
      have q : PostS X.K mp H (liftE ((me ls lh).bind fun y h1 => f d y h1) ls fun z h2 => .nx (ls.set i (some z)) h2) De W := by
        rw [hl] at q
        cases d with
        | fn _ _ => cases nf
        | _ => exact q
      have rv := rv.d nf
      refine ⟨v, hv, a2 mp lh ls σ H _ rp rs ?_⟩
      have q' : PostG X.K (RelD X.K) mp H ((me ls lh).bind fun y h1 => f d y h1) (fun z H2 => De.nx (σ.set i (some z)) H2) (WE W σ) :=
        q.lift rs fun mp1 H1 lh1 z vz e1 r1 rl1 q1 => q1 mp1 H1 _ .refl r1 ((rs.ext e1).set rl1)
      exact q'.bind fun mp1 H1 lh1 y vy e1 r1 rl1 q1 => o2 mp1 lh1 H1 d y v vy _ _ r1 (rv.ext e1) rl1 q1
theorem rs_par {i j : Nat} {x y : Str} {px py pt : Pos} {kt k2 pt2} (hc : X.calm = true) (hN : X.N.Nodup) (hi : X.N[i]? = some x) (hj : X.N[j]? = some y) (hij : i ≠ j)
    (hx : X.env.scope.names.lookup x = some .local) (hy : X.env.scope.names.lookup y = some .local) (ha : RA X W [a, b] ma)
    (hw : swappedStores [.Tuple [.Name x px, .Name y py] kt pt] (.Tuple [a, b] k2 pt2) X.env = pure (some [x, y]) := by rfl)
    (hs : swapsWithSole [.Tuple [.Name x px, .Name y py] kt pt] (.Tuple [a, b] k2 pt2) pos.line X.env = pure false := by rfl) :
    RS X W (.Assign [.Tuple [.Name x px, .Name y py] kt pt] (.Tuple [a, b] k2 pt2) pos) (mPar i j ma) := by
  obtain ⟨t, a1, a2, _⟩ := ha
  refine ⟨_, ps_par hc hN hi hj hij hx hy a1 hw hs, fun mp lh ls σ H De r rs q => a2 mp lh ls σ H _ r rs (q.lift rs fun mp1 H1 lh1 ds vs e1 r1 rl1 q1 => ?_)⟩
  match ds, vs, rl1, q1 with
  | [x, y], _, .cons (v := v) r1' (.cons (v := w) r2' .nil), q1 => exact ⟨v, w, rfl, q1 mp1 H1 _ .refl r1 (((rs.ext e1).set r1').set r2')⟩
  | [], _, _, q1 => exact q1.elim
  | [_], _, _, q1 => exact q1.elim
  | _ :: _ :: _ :: _, _, _, q1 => exact q1.elim
end
theorem oi_add {X : Cx} : ROp X (inplaceOp .Add) (fun x y h => match x, y with
    | .int i, .int j => .ok (.int (i + j)) h
    | .str a, .str b => if szOk (a.length + b.length) = true then .ok (.str (a ++ b)) h else .bad
    | _, _ => .bad) := by
  refine ⟨_, OpR.or iop_add iop_add_str, fun mp lh H x y vx vy Q E rp rx ry q => ?_⟩
  cases rx with
  | int i =>
    cases ry with
    | int j => exact .inl ⟨i, j, rfl, rfl, q.now rp (.int _)⟩
    | _ => exact q.elim
  | str a =>
    cases ry with
    | str b =>
      cases hz : szOk (a.length + b.length) with
      | false => simp only [hz] at q; exact q.elim
      | true =>
        simp only [hz] at q
        refine .inr ⟨_, _, rfl, rfl, by rw [str_len, str_len]; exact szOk_le hz, ?_⟩
        have ap : (⟨a.toArray⟩ : Str) ++ ⟨b.toArray⟩ = ⟨(a ++ b).toArray⟩ := by
          show (⟨a.toArray ++ b.toArray⟩ : Str) = _
          simp
        rw [ap]; exact q.now rp (.str _)
    | _ => exact q.elim
  | _ => cases ry <;> exact q.elim
theorem oi_sub {X : Cx} : ROp X (inplaceOp .Sub) (fun x y h => match x, y with
    | .int i, .int j => .ok (.int (i - j)) h
    | _, _ => .bad) := by
  refine ⟨_, iop_sub, fun mp lh H x y vx vy Q E rp rx ry q => ?_⟩
  cases rx with
  | int i =>
    cases ry with
    | int j => exact ⟨i, j, rfl, rfl, q.now rp (.int _)⟩
    | _ => exact q.elim
  | _ => cases ry <;> exact q.elim
end Rf
set_option Elab.async false
set_option linter.all false
set_option maxRecDepth 100000
set_option maxHeartbeats 4000000
set_option autoImplicit false
/-! list comprehensions. -/
namespace Rf
open PySem PySem.Spec L2

def WF : WX := fun _ _ _ _ => False
theorem takesF {X : Cx} (h : X.xe = fun _ _ => False) : Takes X WF := fun u s' ⟨_, _, _, _, _, _, _, _, _, _, _, _, _, _, _, _, w⟩ => w.elim
/-! the widest readings -/
def cE (K : PySem.W.Frag) (W : WX) (m : EM) : TE := fun σ H Q => ∃ mp lh ls, Rep K mp lh H ∧ RelS K mp H ls σ ∧ Post K mp H (m ls lh) Q (WE W σ)
def cT (K : PySem.W.Frag) (W : WX) (m : TM) : TT := fun σ H Q => ∃ mp lh ls, Rep K mp lh H ∧ RelS K mp H ls σ ∧ PostB K mp H (m ls lh) Q (WE W σ)
def cI (K : PySem.W.Frag) (W : WX) (m : IM) : TI := fun σ H Q => ∃ mp lh ls, Rep K mp lh H ∧ RelS K mp H ls σ ∧ PostG K (RelI K) mp H (m ls lh) Q (WE W σ)
/-- a store that touches the names vs alone -/
def RefGw (K : PySem.W.Frag) (g : TG) (m : GM) (vs : List Nat) : Prop := ∀ mp lh ls ls' σ H d v Q, Rep K mp lh H → RelS K mp H ls σ → RelD K mp H d v → m d ls = some ls' → (∀ σ', RelS K mp H ls' σ' → wipe σ' vs = wipe σ vs → Q σ' H) → g v σ H Q
def RefGsw (K : PySem.W.Frag) (g : TGs) (m : List D → Ls → Option Ls) (vs : List Nat) : Prop := ∀ mp lh ls ls' σ H d v Q, Rep K mp lh H → RelS K mp H ls σ → RelDs K mp H d v → m d ls = some ls' → (∀ σ', RelS K mp H ls' σ' → wipe σ' vs = wipe σ vs → Q σ' H) → g v σ H Q
def RGw (X : Cx) (e : Expr) (m : GM) (vs : List Nat) : Prop := ∃ g, PG X e g ∧ RefGw X.K g m vs
def RGsw (X : Cx) (es : List Expr) (m : List D → Ls → Option Ls) (vs : List Nat) : Prop := ∃ g, PGs X es g ∧ RefGsw X.K g m vs
def cG (K : PySem.W.Frag) (m : GM) (vs : List Nat) : TG := fun v σ H Q => ∃ mp lh ls ls' d, Rep K mp lh H ∧ RelS K mp H ls σ ∧ RelD K mp H d v ∧ m d ls = some ls' ∧ ∀ σ', RelS K mp H ls' σ' → wipe σ' vs = wipe σ vs → Q σ' H
theorem wipe_set {σ : L2.St} {i : Nat} {x : Option V} : ∀ {vs : List Nat}, i ∈ vs → wipe (σ.set i x) vs = wipe σ vs
  | [], h => by cases h
  | v :: vs, h => by
    unfold wipe
    by_cases e : i = v
    · subst e
      by_cases h2 : i ∈ vs
      · rw [wipe_set h2]
      · have : ∀ {vs : List Nat}, i ∉ vs → ∀ σ : L2.St, (wipe (σ.set i x) vs).set i none = (wipe σ vs).set i none := by
          intro vs
          induction vs with
          | nil => intro _ σ; unfold wipe; rw [List.set_set]
          | cons w ws ih =>
            intro h σ
            have h1 : w ≠ i := fun z => h (by rw [z]; exact List.mem_cons_self)
            have h2 : i ∉ ws := fun m => h (List.mem_cons_of_mem _ m)
            unfold wipe
            rw [List.set_comm _ _ h1, ih h2, List.set_comm _ _ h1]
        exact this h2 σ
    · have h2 : i ∈ vs := by
        rcases List.mem_cons.mp h with z | z
        · exact absurd z e
        · exact z
      rw [wipe_set h2]
theorem wipe_set_none {σ : L2.St} : ∀ (vs : List Nat) (i : Nat), (wipe σ vs).set i none = wipe (σ.set i none) vs
  | [], i => rfl
  | v :: vs, i => by
    show ((wipe σ vs).set v none).set i none = (wipe (σ.set i none) vs).set v none
    rw [← wipe_set_none vs i]
    by_cases e : v = i
    · subst e; rfl
    · rw [List.set_comm _ _ e]
theorem wipe_idem {σ : L2.St} : ∀ vs : List Nat, wipe (wipe σ vs) vs = wipe σ vs
  | [] => rfl
  | v :: vs => by
    show (wipe ((wipe σ vs).set v none) vs).set v none = (wipe σ vs).set v none
    rw [← wipe_set_none, wipe_idem vs, List.set_set]
section
variable {X : Cx} {W : WX} {e : Expr} {es : List Expr} {me : EM} {mt : TM} {mi : IM} {m : GM} {r : List D → Ls → Option Ls} {vs : List Nat} {pos : Pos} {tg iter : Expr}
theorem RE.pe (h : RE X W e me) : PE X e (cE X.K W me) := by
  obtain ⟨t, a, b⟩ := h
  exact ⟨fun pins s σ H Q I ⟨mp, lh, ls, r, rs, q⟩ => a.run pins s σ H Q I (b mp lh ls σ H Q r rs q)⟩
theorem RT.pt (h : RT X W e mt) : PT X e (cT X.K W mt) := by
  obtain ⟨t, a, b⟩ := h
  exact ⟨fun pins s σ H Q I ⟨mp, lh, ls, r, rs, q⟩ => a.run pins s σ H Q I (b mp lh ls σ H Q r rs q)⟩
theorem RI.pi (h : RI X W tg iter mi) : PI X tg iter (cI X.K W mi) := by
  obtain ⟨t, a, b⟩ := h
  exact ⟨fun pins s σ H Q I ⟨mp, lh, ls, r, rs, q⟩ => a.run pins s σ H Q I (b mp lh ls σ H Q r rs q)⟩
theorem RGw.pg (h : RGw X e m vs) : PG X e (cG X.K m vs) := by
  obtain ⟨t, a, b⟩ := h
  exact ⟨fun pins s σ H v u Q I rv ⟨mp, lh, ls, ls', d, r, rs, rd, hm, q⟩ => a.run pins s σ H v u Q I rv (b mp lh ls ls' σ H d v Q r rs rd hm q)⟩
theorem rgw_name {i : Nat} {x : Str} (hN : X.N.Nodup) (hi : X.N[i]? = some x) (hx : Loc X.env.scope x) (hv : i ∈ vs) (hf : X.fn x = true ∨ X.env.scope.names.lookup x = some .local := by first | exact .inl rfl | exact .inr rfl | assumption) : RGw X (.Name x pos) (gmName i) vs :=
  ⟨_, pg_name hN hi hx hf, fun mp lh ls ls' σ H d v Q rp rs rd h q => by cases h; exact q _ (rs.set rd) (wipe_set hv)⟩
theorem rgsw_nil : RGsw X [] gmNil vs := ⟨_, pgs_nil, fun mp lh ls ls' σ H d v Q rp rs rd h q => by
  cases rd with
  | nil => cases h; exact ⟨rfl, q _ rs rfl⟩
  | cons a b => cases h⟩
theorem rgsw_cons (h1 : RGw X e m vs) (h2 : RGsw X es r vs) (hs : (assignEach (e :: es) X.env).map (·.2) = assign e X.env :: (assignEach es X.env).map (·.2) := by rfl) : RGsw X (e :: es) (gmCons m r) vs := by
  obtain ⟨g, a1, a2⟩ := h1
  obtain ⟨u, b1, b2⟩ := h2
  refine ⟨_, pgs_cons a1 b1 hs, fun mp lh ls ls' σ H d v Q rp rs rd h q => ?_⟩
  cases rd with
  | nil => cases h
  | @cons d v ds vs' a b =>
    have h' : (m d ls).bind (fun ls' => r ds ls') = some ls' := h
    cases hm : m d ls with
    | none => rw [hm] at h'; cases h'
    | some l1 =>
      rw [hm] at h'
      exact ⟨v, vs', rfl, a2 mp lh ls l1 σ H d v _ rp rs a hm fun σ1 rs1 w1 => b2 mp lh l1 ls' σ1 H ds vs' Q rp rs1 b h' fun σ2 rs2 w2 => q σ2 rs2 (w2.trans w1)⟩
theorem rgw_tup {k : Nat} {n : Nat} (hc : X.calm = true) (h : RGsw X es r vs) (hn : (assignEach es X.env).length = n := by rfl) (hst : (assignEach es X.env).findIdx? (·.1) = none := by rfl) : RGw X (.Tuple es k pos) (gmTup n r) vs := by
  obtain ⟨g, a1, a2⟩ := h
  refine ⟨_, pg_tup hc a1 hn hst, fun mp lh ls ls' σ H d v Q rp rs rd h q => ?_⟩
  cases rd with
  | @tup ds a us hq hr =>
    have h' : (if ds.length = n then r ds ls else none) = some ls' := h
    split at h'
    · rename_i hl
      exact ⟨a, us, rfl, hq.sq, by rw [← hr.length]; exact hl, a2 mp lh ls ls' σ H ds us Q rp rs hr h' q⟩
    · cases h'
  | _ => cases h
/-- a clause's tests -/
def RTs (X : Cx) (W : WX) (ifs : List Expr) (m : TM) : Prop := PTs X ifs (cT X.K W m)
def mYes : TM := fun _ h => .ok true h
theorem rts_nil : RTs X W [] mYes := ⟨fun pins s σ H Q I ⟨mp, lh, ls, r, rs, q⟩ => pts_nil.run pins s σ H Q I (q.now r rfl)⟩
theorem rts_one (h : RT X W e mt) : RTs X W [e] mt := pts_one h.pt
end

/-! ### the accumulating list stands outside the logical heap -/
section
variable {K : PySem.W.Frag} {mp mp' mp1 : List Addr} {H H' H1 : Hp} {lh : LH} {p : Addr}
theorem sub_upd {xs : List V} {o' : HO} (hp : H p = some (.lst xs)) : Sub K mp H mp (upd H p o') := by
  refine ⟨fun h => h, fun a vs h => ?_, fun a ob u h => ?_⟩
  · rw [upd_ne (fun z => by subst z; rw [hp] at h; cases h)]; exact h
  · rw [upd_ne (fun z => by subst z; rw [hp] at h; cases h)]; exact h
/-- from H1, where p was free, to H: p written -/
theorem Ext.acc {xs : List V} {o : HO} (e : Ext K mp1 H1 mp H) (h1 : H1 p = none) (hp : H p = some (.lst xs)) : Ext K mp1 H1 mp (upd H p o) :=
  ⟨e.pre, fun a u h hn ht => by rw [upd_ne (ne_of_none h h1)]; exact e.frame a u h hn ht, e.new, fun a vs h => (sub_upd (mp := mp) (K := K) hp).tup a vs (e.tup a vs h), fun a ob u h => by rw [upd_ne (fun z => by subst z; have := e.frz _ _ _ h; rw [hp] at this; cases this)]; exact e.frz a ob u h,
    fun a ps h hn => by rw [upd_ne (ne_of_none h h1)]; exact e.tbl a ps h hn⟩
theorem TabOk.put (t : TabOk K mp H) {u o : HO} (hp : H p = some u) (h1 : ∀ ps, u ≠ .tbl ps) (h2 : ∀ φ, u ≠ .ext φ) : TabOk K mp (upd H p o) := ⟨fun q hq => by
  obtain ⟨ps, k1, k2, k3⟩ := t.all q hq
  refine ⟨ps, by rw [upd_ne (fun z => by rw [z, hp] at k1; exact h1 ps (Option.some.inj k1))]; exact k1, k2, fun pos cv e => ?_⟩
  obtain ⟨c, e1, e2, e3⟩ := k3 pos cv e
  exact ⟨c, e1, by rw [upd_ne (fun z => by rw [z, hp] at e2; exact h2 _ (Option.some.inj e2))]; exact e2, e3⟩⟩
theorem TabOk.wide (t : TabOk K mp H) {u : HO} (hp : H p = some u) (h2 : ∀ φ, u ≠ .ext φ) : TabOk K (mp ++ [p]) H := ⟨fun q hq => by
  obtain ⟨ps, k1, k2, k3⟩ := t.all q hq
  refine ⟨ps, k1, k2, fun pos cv e => ?_⟩
  obtain ⟨c, e1, e2, e3⟩ := k3 pos cv e
  exact ⟨c, e1, e2, fun z => by
    rcases List.mem_append.mp z with z | z
    · exact e3 z
    · rw [List.mem_singleton.mp z, hp] at e2; exact h2 _ (Option.some.inj e2)⟩⟩
theorem RelO.turn (t : SubW mp H mp H') {o : LO} {a : Addr} (hs : H' a = H a) (hx : ∀ dd fs, H dd = Option.some (.xd fs) → H' dd = Option.some (.xd fs)) (h : RelO K mp H o a) : RelO K mp H' o a := by
  cases o with
  | lst ds => obtain ⟨vs, q, r⟩ := h; exact ⟨vs, hs.trans q, r.subw t⟩
  | dic b kvs => cases b with
    | false => obtain ⟨ks, q, r⟩ := h; exact ⟨ks, hs.trans q, Paired.imp (fun p q z => ⟨z.1, z.2.subw t⟩) r⟩
    | true => obtain ⟨ks, q, r⟩ := h; exact ⟨ks, hs.trans q, Paired.imp (fun p q z => ⟨z.1, z.2.subw t⟩) r⟩
  | ins c fs => obtain ⟨dx, gs, q, r⟩ := h; exact ⟨dx, gs, hs.trans q, Paired.imp (fun p q z => ⟨z.1, z.2.subw t⟩) r⟩
  | exc c fs =>
    obtain ⟨d, q, r1, r2⟩ := h
    refine ⟨d, hs.trans q, r1, ?_⟩
    rcases r2 with r2 | ⟨dd, fs, ne, e1, e2, e3, e4⟩
    · exact .inl r2
    · exact .inr ⟨dd, fs, ne, e1, hx _ _ e2, e3, Paired.imp (fun p q z => ⟨z.1, z.2.subw t⟩) e4⟩
  | dlk b kvs => cases b with
    | false => obtain ⟨o, ks, q, r⟩ := h; exact ⟨o, ks, hs.trans q, Paired.imp (fun p q z => ⟨z.1, z.2.subw t⟩) r⟩
    | true => obtain ⟨o, ks, q, r⟩ := h; exact ⟨o, ks, hs.trans q, Paired.imp (fun p q z => ⟨z.1, z.2.subw t⟩) r⟩
theorem Rep.acc {xs : List V} {o : HO} (r : Rep K mp lh H) (hm : p ∉ mp) (hp : H p = some (.lst xs)) : Rep K mp lh (upd H p o) :=
  ⟨r.len, r.nd, fun n u a h1 h2 => (r.obj n u a h1 h2).turn (sub_upd (K := K) hp).w (upd_ne fun z => hm (z ▸ List.mem_of_getElem? h2))
    fun dd fs h => (upd_ne (show dd ≠ p from fun z => by rw [z, hp] at h; cases h)).trans h, r.tab.put hp (fun _ z => by cases z) (fun _ z => by cases z)⟩
/-- at the end it comes in -/
theorem Ext.adopt (r : Rep K mp lh H) (e : Ext K mp1 H1 mp H) (h1 : H1 p = none) : Ext K mp1 H1 (mp ++ [p]) H := by
  obtain ⟨more, em⟩ := e.pre
  refine ⟨⟨more ++ [p], by rw [em]; simp⟩, e.frame, fun a ha hn => ?_, e.tup, e.frz, e.tbl⟩
  rcases List.mem_append.mp ha with h | h
  · exact e.new a h hn
  · rw [List.mem_singleton.mp h]; exact h1
theorem Ext.more (hm : p ∉ mp) : (∀ (n : Nat) (a : Addr), mp[n]? = some a → (mp ++ [p])[n]? = some a) := fun n a h => by
  rw [List.getElem?_append_left (List.getElem?_eq_some_iff.mp h).1]; exact h
mutual
theorem RelD.wide : ∀ {d : D} {v : V}, RelD K mp H d v → RelD K (mp ++ [p]) H d v
  | _, _, .non => .non
  | _, _, .bl b => .bl b
  | _, _, .int i => .int i
  | _, _, .str l => .str l
  | _, _, .tup h r => .tup h (RelDs.wide r)
  | _, _, .ktp h r => .ktp h (RelDs.wide r)
  | _, _, .rol h r => .rol h (RelDs.wide r)
  | _, _, .ref h => .ref (by rw [List.getElem?_append_left (List.getElem?_eq_some_iff.mp h).1]; exact h)
theorem RelDs.wide : ∀ {d : List D} {v : List V}, RelDs K mp H d v → RelDs K (mp ++ [p]) H d v
  | _, _, .nil => .nil
  | _, _, .cons h r => .cons (RelD.wide h) (RelDs.wide r)
end
theorem RelO.wide {o : LO} {a : Addr} (hx : ∀ fs, H p ≠ Option.some (.xd fs)) (h : RelO K mp H o a) : RelO K (mp ++ [p]) H o a := by
  cases o with
  | lst ds => obtain ⟨vs, q, r⟩ := h; exact ⟨vs, q, r.wide⟩
  | dic b kvs => cases b with
    | false => obtain ⟨ks, q, r⟩ := h; exact ⟨ks, q, Paired.imp (fun p q z => ⟨z.1, z.2.wide⟩) r⟩
    | true => obtain ⟨ks, q, r⟩ := h; exact ⟨ks, q, Paired.imp (fun p q z => ⟨z.1, z.2.wide⟩) r⟩
  | ins c fs => obtain ⟨dx, gs, q, r⟩ := h; exact ⟨dx, gs, q, Paired.imp (fun p q z => ⟨z.1, z.2.wide⟩) r⟩
  | exc c fs =>
    obtain ⟨d, q, r1, r2⟩ := h
    refine ⟨d, q, r1, ?_⟩
    rcases r2 with r2 | ⟨dd, fs, ne, e1, e2, e3, e4⟩
    · exact .inl r2
    · refine .inr ⟨dd, fs, ne, e1, e2, fun z => ?_, Paired.imp (fun p q z => ⟨z.1, z.2.wide⟩) e4⟩
      rcases List.mem_append.mp z with z | z
      · exact e3 z
      · rw [List.mem_singleton.mp z] at e2; exact hx _ e2
  | dlk b kvs => cases b with
    | false => obtain ⟨o, ks, q, r⟩ := h; exact ⟨o, ks, q, Paired.imp (fun p q z => ⟨z.1, z.2.wide⟩) r⟩
    | true => obtain ⟨o, ks, q, r⟩ := h; exact ⟨o, ks, q, Paired.imp (fun p q z => ⟨z.1, z.2.wide⟩) r⟩
theorem Rep.adopt {xs : List V} {ds : List D} (r : Rep K mp lh H) (hm : p ∉ mp) (hp : H p = some (.lst xs)) (rd : RelDs K mp H ds xs) : Rep K (mp ++ [p]) (lh ++ [.lst ds]) H := by
  refine ⟨by simp [r.len], ?_, fun n u a h1 h2 => ?_, r.tab.wide hp (fun _ z => by cases z)⟩
  · refine List.nodup_append.mpr ⟨r.nd, (by simp), fun a ha b hb => ?_⟩
    rw [List.mem_singleton.mp hb]
    intro z; exact hm (z ▸ ha)
  · by_cases hl : n < mp.length
    · rw [List.getElem?_append_left hl] at h2
      rw [List.getElem?_append_left (by rw [← r.len]; exact hl)] at h1
      exact (r.obj n u a h1 h2).wide (fun fs z => by rw [hp] at z; cases z)
    · have h2l := (List.getElem?_eq_some_iff.mp h2).1
      have en : n = mp.length := by simp at h2l; omega
      subst en
      rw [List.getElem?_append_right (Nat.le_refl _)] at h2
      rw [List.getElem?_append_right (by rw [r.len]; exact Nat.le_refl _), r.len] at h1
      simp at h1 h2
      subst h1 h2; exact ⟨xs, hp, rd.wide⟩
theorem CloA.put {id : Nat} {a : Addr} {vs : List V} {u o : HO} (hp : H p = some u) (hn : ∀ φ, u ≠ .ext φ) (h : CloA K mp H id a vs) : CloA K mp (upd H p o) id a vs := by
  have ne : ∀ {b : Addr} {φ : Heap → Prop}, H b = Option.some (.ext φ) → upd H p o b = Option.some (.ext φ) := fun {b φ} e => by
    rw [upd_ne (fun z => by rw [z, hp] at e; exact hn φ (Option.some.inj e))]; exact e
  obtain ⟨st, name, qual, cl, c, h1, h2, h3, h4, h5, C⟩ := h
  refine ⟨st, name, qual, cl, c, h1, ne h2, h3, ne h4, h5, C.len, C.all, C.inj, fun i y hi => ?_⟩
  obtain ⟨c, o, u, v, k1, k2, k3, k4, k5, k6⟩ := C.has i y hi
  exact ⟨c, o, u, v, k1, ne k2, k3, k4, k5, k6⟩
theorem RelF.put {d : D} {v : V} {u o : HO} (hp : H p = some u) (hn : ∀ φ, u ≠ .ext φ) (t : Sub K mp H mp (upd H p o)) (h : RelF K mp H d v) : RelF K mp (upd H p o) d v := by
  cases d with
  | fn id caps =>
    obtain ⟨a, vs, h1, h2, h3⟩ := h
    exact ⟨a, vs, h1, h2.put hp hn, RelDs.sub t h3⟩
  | _ => exact (RelD.sub t h).f
theorem Ext.out (e : Ext K mp H mp' H') {o : HO} (hp : H p = some o) (hm : p ∉ mp) (ht : ∀ ps, o ≠ .tbl ps := by intro _ z; cases z) : H' p = some o ∧ p ∉ mp' := ⟨e.frame _ _ hp hm ht, fun z => by
  have := e.new p z hm
  rw [hp] at this; cases this⟩
end

/-! ### one clause -/
def wipeL (ls : Ls) : List Nat → Ls
  | [] => ls
  | v :: vs => (wipeL ls vs).set v none
theorem RelS.wipe {K : PySem.W.Frag} {mp : List Addr} {H : Hp} {ls : Ls} {σ : L2.St} (rs : RelS K mp H ls σ) : ∀ vs : List Nat, RelS K mp H (wipeL ls vs) (L2.wipe σ vs)
  | [] => rs
  | _ :: vs => (RelS.wipe rs vs).unset
def mLcGo (g : GM) (tt : TM) (te : EM) (L : LI) (ls0 : Ls) : Nat → Nat → List D → LH → R (List D)
  | 0, _, _, _ => .bad
  | n + 1, i, acc, h => match L i h with
    | .done => .ok acc h
    | .bad => .bad
    | .item d => match g d ls0 with
      | none => .bad
      | some ls1 => match tt ls1 h with
        | .ok true h1 => (match te ls1 h1 with
          | .ok y h2 => if szOk (acc.length + 1) = true then mLcGo g tt te L ls0 n (i + 1) (acc ++ [y]) h2 else .bad
          | _ => .bad)
        | .ok false h1 => mLcGo g tt te L ls0 n (i + 1) acc h1
        | _ => .bad
def mkL (r : R (List D)) : R D := r.bind fun acc h => .ok (.ref h.length) (h ++ [.lst acc])
def mLc (n : Nat) (wi : IM) (g : GM) (tt : TM) (te : EM) (vs : List Nat) : EM := fun ls h => (wi ls h).bind fun L h1 => mkL (mLcGo g tt te L (wipeL ls vs) n 0 [] h1)
section
variable {X : Cx} {W : WX} {elt tg iter : Expr} {ifs : List Expr} {scope : Scope} {own : List (Str × Nat)} {pos : Pos} {wi : IM} {g : GM} {mt : TM} {me : EM}
theorem lc_run {K : PySem.W.Frag} {vs : List Nat} (n : Nat) {tI : TI} (hi : RefI K W tI wi) : RefE K W (tLc tI (cG K g vs) (cT K WF mt) (cE K WF me) vs) (mLc n wi g mt me vs) := by
  intro mp0 lh0 ls σ H0 Q r0 rs0 q0
  refine hi mp0 lh0 ls σ H0 _ r0 rs0 (q0.bind fun mp1 H1 lh1 L J e1 r1 rl1 q1 => ?_)
  intro Dd hD
  have rs1 := rs0.ext e1
  refine ⟨fun i k H => ∃ mp lh acc xs, Ext K mp1 H1 mp H ∧ Rep K mp lh H ∧ Dd ∉ mp ∧ H Dd = some (.lst xs) ∧ RelDs K mp H acc xs ∧ PostG K (RelD K) mp1 H1 (mkL (mLcGo g mt me L (wipeL ls vs) k i acc lh)) Q (WE W σ), ⟨n, mp1, lh1, [], [], ?_, r1.free hD, r1.free_ne hD, upd_same, .nil, q1⟩, ?_⟩
  · exact .free hD
  rintro i k H ⟨mp, lh, acc, xs, ex, r, hm, hp, ra, q⟩
  cases k with
  | zero => exact q.elim
  | succ k =>
    unfold mLcGo at q
    have rii := (rl1.ext ex) i mp lh H .refl r
    cases hL : L i lh with
    | done =>
      rw [hL] at rii q
      exact .inl ⟨rii, q (mp ++ [Dd]) H _ (.adopt r ex hD) (r.adopt hm hp ra) (.ref (by rw [← r.len]; simp))⟩
    | bad => rw [hL] at q; exact q.elim
    | item d =>
      rw [hL] at rii q
      refine .inr ⟨rii.1, fun H' => ∃ mp lh acc xs, Ext K mp1 H1 mp H' ∧ Rep K mp lh H' ∧ Dd ∉ mp ∧ H' Dd = some (.lst xs) ∧ RelDs K mp H' acc xs ∧ PostG K (RelD K) mp1 H1 (mkL (mLcGo g mt me L (wipeL ls vs) k (i + 1) acc lh)) Q (WE W σ), fun H' z => ⟨k, Nat.lt_succ_self _, z⟩, fun x H' y => ?_⟩
      obtain ⟨e2, r2, rd⟩ := rii.2 x H' y
      obtain ⟨hp2, hm2⟩ := e2.out hp hm
      have ra2 := ra.ext e2
      have ex2 := ex.trans e2
      cases hg : g d (wipeL ls vs) with
      | none => simp only [hg] at q; exact q.elim
      | some ls1 =>
        simp only [hg] at q
        refine ⟨mp, lh, wipeL ls vs, ls1, d, r2, (rs1.wipe vs).ext ex2, rd, hg, fun σ2 rs2 w2 => ⟨w2.trans (wipe_idem vs), mp, lh, ls1, r2, rs2, ?_⟩⟩
        cases ht : mt ls1 lh with
        | bad => simp only [ht] at q; exact q.elim
        | ex x lh' => simp only [ht] at q; exact q.elim
        | ok b lh3 =>
          intro mp3 H3 b' e3 r3 eb
          cases eb
          obtain ⟨hp3, hm3⟩ := e3.out hp2 hm2
          cases b with
          | false =>
            simp only [ht] at q
            exact iteF ⟨mp3, lh3, acc, xs, ex2.trans e3, r3, hm3, hp3, ra2.ext e3, q⟩
          | true =>
            simp only [ht] at q
            refine iteT ⟨mp3, lh3, ls1, r3, rs2.ext e3, ?_⟩
            cases hy : me ls1 lh3 with
            | bad => simp only [hy] at q; exact q.elim
            | ex x lh' => simp only [hy] at q; exact q.elim
            | ok y lh4 =>
              simp only [hy] at q
              intro mp4 H4 vy e4 r4 ry
              obtain ⟨hp4, hm4⟩ := e4.out hp3 hm3
              have ra4 := (ra2.ext e3).ext e4
              cases hz : szOk (acc.length + 1) with
              | false => simp only [hz] at q; exact q.elim
              | true =>
                simp only [hz] at q
                refine ⟨xs, hp4, by rw [← ra4.length]; exact Nat.lt_of_succ_le (szOk_le hz), mp4, lh4, acc ++ [y], xs ++ [vy], ((ex2.trans e3).trans e4).acc hD hp4, r4.acc hm4 hp4, hm4, upd_same, ?_, q⟩
                exact (ra4.append (.cons ry .nil)).sub (sub_upd hp4)
theorem re_lc (n : Nat) (hc : X.calm = true) (hN : X.N.Nodup) (ok : BlkOk X.N X.env.scope scope own) (hi : RI X W tg iter wi)
    (hg : ∀ (s : Shared) (H : Hp) (C : Addr) (cl : List (Str × Addr)) (fp : List Addr), RGw (X.blk s H scope (compEnvC scope cl C X.env) fp) tg g (own.map (·.2))) (ht : ∀ (s : Shared) (H : Hp) (C : Addr) (cl : List (Str × Addr)) (fp : List Addr), RTs (X.blk s H scope (compEnvC scope cl C X.env) fp) WF ifs mt)
    (he : ∀ (s : Shared) (H : Hp) (C : Addr) (cl : List (Str × Addr)) (fp : List Addr), RE (X.blk s H scope (compEnvC scope cl C X.env) fp) WF elt me) (hs : ∀ x, foldedSetIterable iter X.env x = pure x := by intro _; rfl) :
    RE X W (.ListComp elt [⟨tg, iter, ifs, 0⟩] scope pos) (mLc n wi g mt me (own.map (·.2))) := by
  obtain ⟨t, i1, i2⟩ := hi
  exact ⟨_, pe_lc hc hN i1 ok (fun s H C cl fp => show PG _ _ (cG X.K g (own.map (·.2))) from (hg s H C cl fp).pg) (fun s H C cl fp => show PTs _ _ (cT X.K WF mt) from ht s H C cl fp) (fun s H C cl fp => show PE _ _ (cE X.K WF me) from (he s H C cl fp).pe) hs, lc_run n i2⟩
theorem rs_setLc (n : Nat) {i : Nat} {y : Str} {py spos : Pos} (hc : X.calm = true) (hN : X.N.Nodup) (hy : X.N[i]? = some y) (hyl : X.env.scope.names.lookup y = some .local)
    (hsw : swapsWith (.ListComp elt [⟨tg, iter, ifs, 0⟩] scope pos) (some (.Name y py)) spos.line X.env = pure true) (ok : BlkOk X.N X.env.scope scope own) (hi : RI X W tg iter wi)
    (hg : ∀ (s : Shared) (H : Hp) (C : Addr) (cl : List (Str × Addr)) (fp : List Addr), RGw (X.blk s H scope (compEnvC scope cl C X.env) fp) tg g (own.map (·.2))) (ht : ∀ (s : Shared) (H : Hp) (C : Addr) (cl : List (Str × Addr)) (fp : List Addr), RTs (X.blk s H scope (compEnvC scope cl C X.env) fp) WF ifs mt)
    (he : ∀ (s : Shared) (H : Hp) (C : Addr) (cl : List (Str × Addr)) (fp : List Addr), RE (X.blk s H scope (compEnvC scope cl C X.env) fp) WF elt me) (hs : ∀ x, foldedSetIterable iter X.env x = pure x := by intro _; rfl) :
    RS X W (.Assign [.Name y py] (.ListComp elt [⟨tg, iter, ifs, 0⟩] scope pos) spos) (mSet i (mLc n wi g mt me (own.map (·.2)))) := by
  obtain ⟨t, i1, i2⟩ := hi
  refine ⟨_, ps_setLc hc hN hy hyl hsw i1 ok (fun s H C cl fp => show PG _ _ (cG X.K g (own.map (·.2))) from (hg s H C cl fp).pg) (fun s H C cl fp => show PTs _ _ (cT X.K WF mt) from ht s H C cl fp) (fun s H C cl fp => show PE _ _ (cE X.K WF me) from (he s H C cl fp).pe) hs, fun mp lh ls σ H De r rs q => ?_⟩
  exact lc_run n i2 mp lh ls σ H _ r rs (q.lift rs fun mp1 H1 lh1 x vx e1 r1 rl1 q1 => q1 mp1 H1 _ .refl r1 ((rs.ext e1).set rl1))
end

/-! ### two clauses -/
def mLc2In (g1 : GM) (tt1 : TM) (te : EM) (L : LI) (ls0 : Ls) : Nat → Nat → List D → LH → R (List D) := mLcGo g1 tt1 te L ls0
def mLc2Go (g : GM) (tt : TM) (wi1 : IM) (g1 : GM) (tt1 : TM) (te : EM) (vs1 : List Nat) (m : Nat) (L : LI) (ls0 : Ls) : Nat → Nat → List D → LH → R (List D)
  | 0, _, _, _ => .bad
  | n + 1, i, acc, h => match L i h with
    | .done => .ok acc h
    | .bad => .bad
    | .item d => match g d ls0 with
      | none => .bad
      | some ls1 => match tt ls1 h with
        | .ok true h1 => (match wi1 ls1 h1 with
          | .ok L1 h2 => (match mLcGo g1 tt1 te L1 (wipeL ls1 vs1) m 0 acc h2 with
            | .ok acc' h3 => mLc2Go g tt wi1 g1 tt1 te vs1 m L ls0 n (i + 1) acc' h3
            | _ => .bad)
          | _ => .bad)
        | .ok false h1 => mLc2Go g tt wi1 g1 tt1 te vs1 m L ls0 n (i + 1) acc h1
        | _ => .bad
def mLc2 (n m : Nat) (wi : IM) (g : GM) (tt : TM) (wi1 : IM) (g1 : GM) (tt1 : TM) (te : EM) (vs vs1 : List Nat) : EM := fun ls h => (wi ls h).bind fun L h1 => mkL (mLc2Go g tt wi1 g1 tt1 te vs1 m L (wipeL ls vs) n 0 [] h1)
section
variable {X : Cx} {W : WX} {elt tg iter tg1 iter1 : Expr} {ifs ifs1 : List Expr} {scope : Scope} {own : List (Str × Nat)} {pos : Pos} {wi wi1 : IM} {g g1 : GM} {mt mt1 : TM} {me : EM} {vs1 : List Nat}
theorem lc2_run {K : PySem.W.Frag} {vs : List Nat} (n m : Nat) {tI : TI} (hi : RefI K W tI wi) : RefE K W (tLc2 tI (cG K g vs) (cT K WF mt) (cI K WF wi1) (cG K g1 vs1) (cT K WF mt1) (cE K WF me) vs vs1) (mLc2 n m wi g mt wi1 g1 mt1 me vs vs1) := by
  intro mp0 lh0 ls σ H0 Q r0 rs0 q0
  refine hi mp0 lh0 ls σ H0 _ r0 rs0 (q0.bind fun mp1 H1 lh1 L J e1 r1 rl1 q1 => ?_)
  intro Dd hD
  have rs1 := rs0.ext e1
  refine ⟨fun i k H => ∃ mp lh acc xs, Ext K mp1 H1 mp H ∧ Rep K mp lh H ∧ Dd ∉ mp ∧ H Dd = some (.lst xs) ∧ RelDs K mp H acc xs ∧ PostG K (RelD K) mp1 H1 (mkL (mLc2Go g mt wi1 g1 mt1 me vs1 m L (wipeL ls vs) k i acc lh)) Q (WE W σ), ⟨n, mp1, lh1, [], [], ?_, r1.free hD, r1.free_ne hD, upd_same, .nil, q1⟩, ?_⟩
  · exact .free hD
  rintro i k H ⟨mp, lh, acc, xs, ex, r, hm, hp, ra, q⟩
  cases k with
  | zero => exact q.elim
  | succ k =>
    unfold mLc2Go at q
    have rii := (rl1.ext ex) i mp lh H .refl r
    cases hL : L i lh with
    | done =>
      rw [hL] at rii q
      exact .inl ⟨rii, q (mp ++ [Dd]) H _ (.adopt r ex hD) (r.adopt hm hp ra) (.ref (by rw [← r.len]; simp))⟩
    | bad => rw [hL] at q; exact q.elim
    | item d =>
      rw [hL] at rii q
      refine .inr ⟨rii.1, fun H' => ∃ mp lh acc xs, Ext K mp1 H1 mp H' ∧ Rep K mp lh H' ∧ Dd ∉ mp ∧ H' Dd = some (.lst xs) ∧ RelDs K mp H' acc xs ∧ PostG K (RelD K) mp1 H1 (mkL (mLc2Go g mt wi1 g1 mt1 me vs1 m L (wipeL ls vs) k (i + 1) acc lh)) Q (WE W σ), fun H' z => ⟨k, Nat.lt_succ_self _, z⟩, fun x H' y => ?_⟩
      obtain ⟨e2, r2, rd⟩ := rii.2 x H' y
      obtain ⟨hp2, hm2⟩ := e2.out hp hm
      have ra2 := ra.ext e2
      have ex2 := ex.trans e2
      cases hg : g d (wipeL ls vs) with
      | none => simp only [hg] at q; exact q.elim
      | some ls1 =>
        simp only [hg] at q
        refine ⟨mp, lh, wipeL ls vs, ls1, d, r2, (rs1.wipe vs).ext ex2, rd, hg, fun σ2 rs2 w2 => ⟨w2.trans (wipe_idem vs), mp, lh, ls1, r2, rs2, ?_⟩⟩
        cases ht : mt ls1 lh with
        | bad => simp only [ht] at q; exact q.elim
        | ex x lh' => simp only [ht] at q; exact q.elim
        | ok b lh3 =>
          intro mp3 H3 b' e3 r3 eb
          cases eb
          obtain ⟨hp3, hm3⟩ := e3.out hp2 hm2
          cases b with
          | false =>
            simp only [ht] at q
            exact iteF ⟨mp3, lh3, acc, xs, ex2.trans e3, r3, hm3, hp3, ra2.ext e3, q⟩
          | true =>
            simp only [ht] at q
            refine iteT ⟨mp3, lh3, ls1, r3, rs2.ext e3, ?_⟩
            have rs3 := rs2.ext e3
            cases hw : wi1 ls1 lh3 with
            | bad => simp only [hw] at q; exact q.elim
            | ex x lh' => simp only [hw] at q; exact q.elim
            | ok L1 lh4 =>
              simp only [hw] at q
              intro mp4 H4 J1 e4 r4 rl4
              obtain ⟨hp4, hm4⟩ := e4.out hp3 hm3
              have rs4 := rs3.ext e4
              have ra4 := (ra2.ext e3).ext e4
              have ex4 := (ex2.trans e3).trans e4
              -- the inner loop
              let fin1 : R (List D) → R D := fun r => match r with
                | .ok acc' h3 => mkL (mLc2Go g mt wi1 g1 mt1 me vs1 m L (wipeL ls vs) k (i + 1) acc' h3)
                | _ => .bad
              have q4 : PostG K (RelD K) mp1 H1 (fin1 (mLcGo g1 mt1 me L1 (wipeL ls1 vs1) m 0 acc lh4)) Q (WE W σ) := by
                cases hh : mLcGo g1 mt1 me L1 (wipeL ls1 vs1) m 0 acc lh4 with
                | bad => simp only [hh] at q; exact q.elim
                | ex x lh' => simp only [hh] at q; exact q.elim
                | ok a h => simp only [hh] at q; exact q
              refine ⟨fun j u H => ∃ mp lh acc xs, Ext K mp1 H1 mp H ∧ Rep K mp lh H ∧ Dd ∉ mp ∧ H Dd = some (.lst xs) ∧ RelDs K mp H acc xs ∧ RelI K mp H L1 J1 ∧ RelS K mp H ls1 σ2 ∧ PostG K (RelD K) mp1 H1 (fin1 (mLcGo g1 mt1 me L1 (wipeL ls1 vs1) u j acc lh)) Q (WE W σ), ⟨m, mp4, lh4, acc, xs, ex4, r4, hm4, hp4, ra4, rl4, rs4, q4⟩, ?_⟩
              rintro j u H ⟨mp, lh, acc, xs, ex, r, hm, hp, ra, rl, rsj, q⟩
              cases u with
              | zero => exact q.elim
              | succ u =>
                unfold mLcGo at q
                have rii := rl j mp lh H .refl r
                cases hL : L1 j lh with
                | done =>
                  rw [hL] at rii q
                  exact .inl ⟨rii, mp, lh, acc, xs, ex, r, hm, hp, ra, q⟩
                | bad => rw [hL] at q; exact q.elim
                | item d =>
                  rw [hL] at rii q
                  refine .inr ⟨rii.1, fun H => ∃ mp lh acc xs, Ext K mp1 H1 mp H ∧ Rep K mp lh H ∧ Dd ∉ mp ∧ H Dd = some (.lst xs) ∧ RelDs K mp H acc xs ∧ RelI K mp H L1 J1 ∧ RelS K mp H ls1 σ2 ∧ PostG K (RelD K) mp1 H1 (fin1 (mLcGo g1 mt1 me L1 (wipeL ls1 vs1) u (j + 1) acc lh)) Q (WE W σ), fun H' z => ⟨u, Nat.lt_succ_self _, z⟩, fun x H' y => ?_⟩
                  obtain ⟨e2, r2, rd⟩ := rii.2 x H' y
                  obtain ⟨hp2, hm2⟩ := e2.out hp hm
                  have ra2 := ra.ext e2
                  have ex2 := ex.trans e2
                  have rsj2 := rsj.ext e2
                  have rl2 := rl.ext e2
                  cases hg : g1 d (wipeL ls1 vs1) with
                  | none => simp only [hg] at q; exact q.elim
                  | some ls2 =>
                    simp only [hg] at q
                    refine ⟨mp, lh, wipeL ls1 vs1, ls2, d, r2, rsj2.wipe vs1, rd, hg, fun σ3 rs2 w2 => ⟨w2.trans (wipe_idem vs1), mp, lh, ls2, r2, rs2, ?_⟩⟩
                    cases ht : mt1 ls2 lh with
                    | bad => simp only [ht] at q; exact q.elim
                    | ex x lh' => simp only [ht] at q; exact q.elim
                    | ok b lh3 =>
                      intro mp3 H3 b' e3 r3 eb
                      cases eb
                      obtain ⟨hp3, hm3⟩ := e3.out hp2 hm2
                      cases b with
                      | false =>
                        simp only [ht] at q
                        exact iteF ⟨mp3, lh3, acc, xs, ex2.trans e3, r3, hm3, hp3, ra2.ext e3, rl2.ext e3, rsj2.ext e3, q⟩
                      | true =>
                        simp only [ht] at q
                        refine iteT ⟨mp3, lh3, ls2, r3, rs2.ext e3, ?_⟩
                        cases hy : me ls2 lh3 with
                        | bad => simp only [hy] at q; exact q.elim
                        | ex x lh' => simp only [hy] at q; exact q.elim
                        | ok y lh4 =>
                          simp only [hy] at q
                          intro mp4 H4 vy e4 r4 ry
                          obtain ⟨hp4, hm4⟩ := e4.out hp3 hm3
                          have ra4 := (ra2.ext e3).ext e4
                          cases hz : szOk (acc.length + 1) with
                          | false => simp only [hz] at q; exact q.elim
                          | true =>
                            simp only [hz] at q
                            have tu : Sub K mp4 H4 mp4 (upd H4 Dd (.lst (xs ++ [vy]))) := sub_upd hp4
                            have ex5 : Ext K mp1 H1 mp4 H4 := (ex2.trans e3).trans e4
                            have ri4 : RelI K mp4 (upd H4 Dd (.lst (xs ++ [vy]))) L1 J1 := fun i m lh H2 s2 r => ((rl2.ext e3).ext e4) i m lh H2 (Sub.trans tu s2) r
                            exact ⟨xs, hp4, by rw [← ra4.length]; exact Nat.lt_of_succ_le (szOk_le hz), mp4, lh4, acc ++ [y], xs ++ [vy], ex5.acc hD hp4, r4.acc hm4 hp4, hm4, upd_same, (ra4.append (.cons ry .nil)).sub tu, ri4, ⟨((rsj2.ext e3).ext e4).1, fun i d hh => by
                              obtain ⟨v, a, b⟩ := ((rsj2.ext e3).ext e4).2 i d hh
                              exact ⟨v, a, RelF.put hp4 (fun _ z => by cases z) tu b⟩⟩, q⟩
theorem re_lc2 (n m : Nat) (hc : X.calm = true) (hN : X.N.Nodup) (ok : BlkOk X.N X.env.scope scope own) (hv : ∀ i ∈ vs1, i ∈ own.map (·.2)) (hi : RI X W tg iter wi)
    (hg : ∀ (s : Shared) (H : Hp) (C : Addr) (cl : List (Str × Addr)) (fp : List Addr), RGw (X.blk s H scope (compEnvC scope cl C X.env) fp) tg g (own.map (·.2))) (ht : ∀ (s : Shared) (H : Hp) (C : Addr) (cl : List (Str × Addr)) (fp : List Addr), RTs (X.blk s H scope (compEnvC scope cl C X.env) fp) WF ifs mt)
    (hi1 : ∀ (s : Shared) (H : Hp) (C : Addr) (cl : List (Str × Addr)) (fp : List Addr), RI (X.blk s H scope (compEnvC scope cl C X.env) fp) WF tg1 iter1 wi1)
    (hg1 : ∀ (s : Shared) (H : Hp) (C : Addr) (cl : List (Str × Addr)) (fp : List Addr), RGw (X.blk s H scope (compEnvC scope cl C X.env) fp) tg1 g1 vs1) (ht1 : ∀ (s : Shared) (H : Hp) (C : Addr) (cl : List (Str × Addr)) (fp : List Addr), RTs (X.blk s H scope (compEnvC scope cl C X.env) fp) WF ifs1 mt1)
    (he : ∀ (s : Shared) (H : Hp) (C : Addr) (cl : List (Str × Addr)) (fp : List Addr), RE (X.blk s H scope (compEnvC scope cl C X.env) fp) WF elt me) (hs : ∀ x, foldedSetIterable iter X.env x = pure x := by intro _; rfl) (hs1 : ∀ env x, foldedSetIterable iter1 env x = pure x := by intro _ _; rfl) :
    RE X W (.ListComp elt [⟨tg, iter, ifs, 0⟩, ⟨tg1, iter1, ifs1, 0⟩] scope pos) (mLc2 n m wi g mt wi1 g1 mt1 me (own.map (·.2)) vs1) := by
  obtain ⟨t, i1, i2⟩ := hi
  exact ⟨_, pe_lc2 hc hN i1 ok hv (fun s H C cl fp => show PG _ _ (cG X.K g (own.map (·.2))) from (hg s H C cl fp).pg) (fun s H C cl fp => show PTs _ _ (cT X.K WF mt) from ht s H C cl fp) (fun s H C cl fp => show PI _ _ _ (cI X.K WF wi1) from (hi1 s H C cl fp).pi) (fun s H C cl fp => show PG _ _ (cG X.K g1 vs1) from (hg1 s H C cl fp).pg) (fun s H C cl fp => show PTs _ _ (cT X.K WF mt1) from ht1 s H C cl fp) (fun s H C cl fp => show PE _ _ (cE X.K WF me) from (he s H C cl fp).pe) hs hs1, lc2_run n m i2⟩
theorem rs_setLc2 (n m : Nat) {i : Nat} {y : Str} {py spos : Pos} (hc : X.calm = true) (hN : X.N.Nodup) (hy : X.N[i]? = some y) (hyl : X.env.scope.names.lookup y = some .local)
    (hsw : swapsWith (.ListComp elt [⟨tg, iter, ifs, 0⟩, ⟨tg1, iter1, ifs1, 0⟩] scope pos) (some (.Name y py)) spos.line X.env = pure true) (ok : BlkOk X.N X.env.scope scope own) (hv : ∀ i ∈ vs1, i ∈ own.map (·.2)) (hi : RI X W tg iter wi)
    (hg : ∀ (s : Shared) (H : Hp) (C : Addr) (cl : List (Str × Addr)) (fp : List Addr), RGw (X.blk s H scope (compEnvC scope cl C X.env) fp) tg g (own.map (·.2))) (ht : ∀ (s : Shared) (H : Hp) (C : Addr) (cl : List (Str × Addr)) (fp : List Addr), RTs (X.blk s H scope (compEnvC scope cl C X.env) fp) WF ifs mt)
    (hi1 : ∀ (s : Shared) (H : Hp) (C : Addr) (cl : List (Str × Addr)) (fp : List Addr), RI (X.blk s H scope (compEnvC scope cl C X.env) fp) WF tg1 iter1 wi1)
    (hg1 : ∀ (s : Shared) (H : Hp) (C : Addr) (cl : List (Str × Addr)) (fp : List Addr), RGw (X.blk s H scope (compEnvC scope cl C X.env) fp) tg1 g1 vs1) (ht1 : ∀ (s : Shared) (H : Hp) (C : Addr) (cl : List (Str × Addr)) (fp : List Addr), RTs (X.blk s H scope (compEnvC scope cl C X.env) fp) WF ifs1 mt1)
    (he : ∀ (s : Shared) (H : Hp) (C : Addr) (cl : List (Str × Addr)) (fp : List Addr), RE (X.blk s H scope (compEnvC scope cl C X.env) fp) WF elt me) (hs : ∀ x, foldedSetIterable iter X.env x = pure x := by intro _; rfl) (hs1 : ∀ env x, foldedSetIterable iter1 env x = pure x := by intro _ _; rfl) :
    RS X W (.Assign [.Name y py] (.ListComp elt [⟨tg, iter, ifs, 0⟩, ⟨tg1, iter1, ifs1, 0⟩] scope pos) spos) (mSet i (mLc2 n m wi g mt wi1 g1 mt1 me (own.map (·.2)) vs1)) := by
  obtain ⟨t, i1, i2⟩ := hi
  refine ⟨_, ps_setLc2 hc hN hy hyl hsw i1 ok hv (fun s H C cl fp => show PG _ _ (cG X.K g (own.map (·.2))) from (hg s H C cl fp).pg) (fun s H C cl fp => show PTs _ _ (cT X.K WF mt) from ht s H C cl fp) (fun s H C cl fp => show PI _ _ _ (cI X.K WF wi1) from (hi1 s H C cl fp).pi) (fun s H C cl fp => show PG _ _ (cG X.K g1 vs1) from (hg1 s H C cl fp).pg) (fun s H C cl fp => show PTs _ _ (cT X.K WF mt1) from ht1 s H C cl fp) (fun s H C cl fp => show PE _ _ (cE X.K WF me) from (he s H C cl fp).pe) hs hs1, fun mp lh ls σ H De r rs q => ?_⟩
  exact lc2_run n m i2 mp lh ls σ H _ r rs (q.lift rs fun mp1 H1 lh1 x vx e1 r1 rl1 q1 => q1 mp1 H1 _ .refl r1 ((rs.ext e1).set rl1))
end
end Rf
set_option Elab.async false
set_option linter.all false
set_option maxRecDepth 100000
set_option maxHeartbeats 4000000
set_option autoImplicit false
/-! the head's hook with facts of the layer's own; defs and calls by name. -/
namespace Rf
open PySem PySem.Spec L2

/-! ### data that stands in the module -/
def kdA (f : D → Value → Bool) : List D → List Value → Bool
  | [], [] => true
  | d :: ds, v :: vs => f d v && kdA f ds vs
  | _, _ => false
def kdB (K : PySem.W.Frag) : Nat → D → Value → Bool
  | 0, _, _ => false
  | n + 1, d, v => match d, v with
    | .non, .none => true
    | .bl a, .bool b => a == b
    | .int i, .int j _ => decide (i = j)
    | .str l, .str y _ => decide (y = ⟨l.toArray⟩)
    | .tup ds, .ref a => kc ds && (match K.lookup a with
      | some o => decide (o.cls = .type "tuple") && (match o.data with
        | .seq its _ => decide (its.size ≤ sizeLine) && kdA (kdB K n) ds its.toList
        | _ => false)
      | none => false)
    | .ktp ds, .ref a => (match K.lookup a with
      | some o => decide (o.cls = .type "tuple") && (match o.data with
        | .seq its _ => decide (its.size ≤ sizeLine) && kdA (kdB K n) ds its.toList
        | _ => false)
      | none => false)
    | _, _ => false
theorem kdA_ok {K : PySem.W.Frag} {f : D → Value → Bool} (hf : ∀ d u, f d u = true → ∃ v, RelV v u ∧ ∀ mp H, RelD K mp H d v) : ∀ {ds : List D} {us : List Value}, kdA f ds us = true → ∃ vs, Vals vs us ∧ ∀ mp H, RelDs K mp H ds vs
  | [], [], _ => ⟨[], .nil, fun _ _ => .nil⟩
  | [], _ :: _, h => by cases h
  | _ :: _, [], h => by cases h
  | d :: ds, u :: us, h => by
    rw [kdA, Bool.and_eq_true] at h
    obtain ⟨v, h1, h2⟩ := hf d u h.1
    obtain ⟨vs, h3, h4⟩ := kdA_ok hf h.2
    exact ⟨v :: vs, .cons h1 h3, fun mp H => .cons (h2 mp H) (h4 mp H)⟩
theorem kdB_ok {K : PySem.W.Frag} : ∀ (n : Nat) (d : D) (u : Value), kdB K n d u = true → ∃ v, RelV v u ∧ ∀ mp H, RelD K mp H d v
  | 0, _, _, h => by cases h
  | n + 1, d, u, h => by
    unfold kdB at h
    cases d with
    | non => cases u with
      | none => exact ⟨.non, rfl, fun _ _ => .non⟩
      | _ => cases h
    | bl a => cases u with
      | bool b => obtain rfl : a = b := by simpa using h
                  exact ⟨.bl a, rfl, fun _ _ => .bl a⟩
      | _ => cases h
    | int i => cases u with
      | int j t => obtain rfl : i = j := of_decide_eq_true h
                   exact ⟨.int i, ⟨t, rfl⟩, fun _ _ => .int i⟩
      | _ => cases h
    | str l => cases u with
      | str y t => obtain rfl : y = ⟨l.toArray⟩ := of_decide_eq_true h
                   exact ⟨.str ⟨l.toArray⟩, ⟨t, rfl⟩, fun _ _ => .str l⟩
      | _ => cases h
    | ktp ds => cases u with
      | ref a =>
        dsimp only at h
        cases hk : K.lookup a with
        | none => rw [hk] at h; cases h
        | some o =>
          rw [hk] at h
          dsimp only at h
          rw [Bool.and_eq_true] at h
          obtain ⟨h1, h2⟩ := h
          cases hd : o.data with
          | seq its m =>
            rw [hd] at h2
            dsimp only at h2
            rw [Bool.and_eq_true] at h2
            obtain ⟨vs, r1, r2⟩ := kdA_ok (K := K) (fun d u => kdB_ok n d u) h2.2
            exact ⟨.ref a, rfl, fun mp H => .ktp ⟨o, its, m, hk, of_decide_eq_true h1, hd, of_decide_eq_true h2.1, r1⟩ (r2 mp H)⟩
          | _ => rw [hd] at h2; cases h2
      | _ => cases h
    | fn _ _ => cases u <;> cases h
    | tup ds => cases u with
      | ref a =>
        dsimp only at h
        rw [Bool.and_eq_true] at h
        obtain ⟨hkc, h⟩ := h
        cases hk : K.lookup a with
        | none => rw [hk] at h; cases h
        | some o =>
          rw [hk] at h
          dsimp only at h
          rw [Bool.and_eq_true] at h
          obtain ⟨h1, h2⟩ := h
          cases hd : o.data with
          | seq its m =>
            rw [hd] at h2
            dsimp only at h2
            rw [Bool.and_eq_true] at h2
            obtain ⟨vs, r1, r2⟩ := kdA_ok (K := K) (fun d u => kdB_ok n d u) h2.2
            exact ⟨.ref a, rfl, fun mp H => .tup (.inr ⟨hkc, o, its, m, hk, of_decide_eq_true h1, hd, of_decide_eq_true h2.1, r1⟩) (r2 mp H)⟩
          | _ => rw [hd] at h2; cases h2
      | _ => cases h
    | rol _ => cases u <;> cases h
    | ref _ => cases u <;> cases h
/-- a value of the module, of a keyword default -/
def gval (x : Str) (K : PySem.W.Frag) : Option Value := match PySem.W.nsIn K mainGlobals x with
  | some (some u) => some u
  | _ => none
def kwval (c m k : Str) (K : PySem.W.Frag) : Option Value := match K.lookup (He.fAd K (c, some m)) with
  | some o => (match o.data with
    | .func fd => (match fd.kwdefaults with
      | .ref D => (match PySem.W.nsIn K D k with
        | some (some u) => some u
        | _ => none)
      | _ => none)
    | _ => none)
  | none => none
def adOf (p : PySem.W.Frag → Option Value) (K : PySem.W.Frag) : Addr := match p K with
  | some (.ref a) => a
  | _ => 0
def datB (p : PySem.W.Frag → Option Value) (d : D) (K : PySem.W.Frag) : Bool := match p K with
  | some u => kdB K 12 d u
  | none => false
theorem datB_ok {K : PySem.W.Frag} {p : PySem.W.Frag → Option Value} {d : D} (h : datB p d K = true) : ∃ u v, p K = some u ∧ RelV v u ∧ ∀ mp H, RelD K mp H d v := by
  unfold datB at h
  cases e : p K with
  | none => rw [e] at h; cases h
  | some u =>
    rw [e] at h
    obtain ⟨v, h1, h2⟩ := kdB_ok 12 d u h
    exact ⟨u, v, rfl, h1, h2⟩
theorem datB_tup {K : PySem.W.Frag} {p : PySem.W.Frag → Option Value} {ds : List D} (h : datB p (.ktp ds) K = true) : ∀ mp H, RelD K mp H (.ktp ds) (.ref (adOf p K)) := by
  obtain ⟨u, v, e, r, q⟩ := datB_ok h
  intro mp H
  cases q mp H with
  | @ktp _ a vs h1 h2 =>
    obtain rfl : u = Value.ref a := r
    have : adOf p K = a := by unfold adOf; rw [e]
    rw [this]
    exact .ktp h1 h2

inductive Cn where
  | ty (s : String) | cl (c : Nat)
def Cn.val (K : PySem.W.Frag) : Cn → Value
  | .ty s => .type s
  | .cl c => .ref (clsA K c)
def Cn.v (K : PySem.W.Frag) : Cn → V
  | .ty s => .ty s
  | .cl c => .ref (clsA K c)
def luk {α β : Type} [DecidableEq α] : List (α × β) → α → Option β
  | [], _ => none
  | (a, b) :: r, x => if a = x then some b else luk r x
theorem luk_all {α β : Type} [DecidableEq α] {f : α → β → Bool} : ∀ {l : List (α × β)} {x : α} {y : β}, (l.all fun p => f p.1 p.2) = true → luk l x = some y → f x y = true
  | [], _, _, _, h => by cases h
  | (a, b) :: r, x, y, ha, h => by
    rw [List.all_cons, Bool.and_eq_true] at ha
    unfold luk at h
    split at h
    · rename_i e; subst e; cases h; exact ha.1
    · exact luk_all ha.2 h
inductive Fx where
  | kit (u : Cn) (tab : List (Tg × Bool)) | exm (c : Nat) (tab : List (Nat × Bool)) | excC (c : Nat) | insC (c : Nat) | dat (p : PySem.W.Frag → Option Value) (d : D) | kit2 (a b : String) (tab : List (Tg × Bool))
def oo (a b : Option (Option Value)) : Bool := decide (a = b)
def Fx.ok (K : PySem.W.Frag) : Fx → Bool
  | .kit u tab => tab.all fun p => decide (PySem.W.kitOne K (tgV K p.1) (u.val K) = some p.2)
  | .exm c tab => tab.all fun p => decide (PySem.W.exmOne K (.ref (clsA K p.1)) (.ref (clsA K c)) = some p.2)
  | .excC c => oo (PySem.W.findIn K (.ref (clsA K c)) "__getattribute__") (some (some (.builtin "BaseException.__getattribute__"))) && (oo (PySem.W.findIn K (.ref (clsA K c)) "__getattr__") (some none) && (decide (PySem.W.subIn K (.ref (clsA K c)) (.type "BaseException") = some true) && (PySem.W.hasDictIn K (clsA K c)
      && (oo (PySem.W.findIn K (.ref (clsA K c)) "__class__") (some (some (.builtin "object.__class__"))) && (oo (PySem.W.specialIn K (.builtin "object.__class__") "__get__") (some (some (.builtin "getset_descriptor.__get__"))) && (decide (PySem.W.takesIn K (.builtin "object.__class__") = some true) && decide (PySem.W.mroIn K (clsA K c) (.type "object") = some true)))))))
  | .insC c => oo (PySem.W.findIn K (.ref (clsA K c)) "__class__") (some (some (.builtin "object.__class__"))) && (oo (PySem.W.specialIn K (.builtin "object.__class__") "__get__") (some (some (.builtin "getset_descriptor.__get__"))) && (decide (PySem.W.takesIn K (.builtin "object.__class__") = some true) && decide (PySem.W.mroIn K (clsA K c) (.type "object") = some true)))
  | .dat p d => datB p d K
  | .kit2 a b tab => tab.all fun p => decide (PySem.W.kitAny K (tgV K p.1) [.type a, .type b] = some p.2)
def fxAll (l : List Fx) (K : PySem.W.Frag) : Bool := l.all (Fx.ok K)
section
variable {K : PySem.W.Frag}
theorem oo_ok {a b : Option (Option Value)} (h : oo a b = true) : a = b := of_decide_eq_true h
theorem kit_ok {u : Cn} {tab : List (Tg × Bool)} (h : (Fx.kit u tab).ok K = true) : ∀ g b, luk tab g = some b → PySem.W.kitOne K (tgV K g) (u.val K) = some b := fun g b e => of_decide_eq_true (luk_all (f := fun g b => decide (PySem.W.kitOne K (tgV K g) (u.val K) = some b)) h e)
theorem exmt_ok {c : Nat} {tab : List (Nat × Bool)} (h : (Fx.exm c tab).ok K = true) : ∀ g b, luk tab g = some b → PySem.W.exmOne K (.ref (clsA K g)) (.ref (clsA K c)) = some b := fun g b e => of_decide_eq_true (luk_all (f := fun g b => decide (PySem.W.exmOne K (.ref (clsA K g)) (.ref (clsA K c)) = some b)) h e)
theorem kit2_ok {a b : String} {tab : List (Tg × Bool)} (h : (Fx.kit2 a b tab).ok K = true) : ∀ g r, luk tab g = some r → PySem.W.kitAny K (tgV K g) [.type a, .type b] = some r := fun g r e => of_decide_eq_true (luk_all (f := fun g r => decide (PySem.W.kitAny K (tgV K g) [.type a, .type b] = some r)) h e)
theorem excC_ok {c : Nat} (h : (Fx.excC c).ok K = true) : ExcC K (clsA K c) := by
  unfold Fx.ok at h
  simp only [Bool.and_eq_true] at h
  obtain ⟨h1, h2, h3, h4, h5, h6, h7, h8⟩ := h
  exact ⟨oo_ok h1, oo_ok h2, of_decide_eq_true h3, h4, oo_ok h5, oo_ok h6, of_decide_eq_true h7, of_decide_eq_true h8⟩
theorem insC_ok {c : Nat} (hc : Cls K (clsA K c)) (h : (Fx.insC c).ok K = true) : InsOk K (clsA K c) := by
  unfold Fx.ok at h
  simp only [Bool.and_eq_true] at h
  obtain ⟨h5, h6, h7, h8⟩ := h
  exact ⟨hc, oo_ok h5, oo_ok h6, of_decide_eq_true h7, of_decide_eq_true h8⟩
end
abbrev AlX : Type := Bool × He.AlD
def obsX (fx : List Fx) (fa : List He.Fa) (fn : List He.DefD) (K : PySem.W.Frag) : AlX := (fxAll fx K, He.obsD fa fn K)
def obsXG (n : Nat) (fx : List Fx) (fa : List He.Fa) (fn : List He.DefD) (g : Addr → Option Obj) : AlX := obsX fx fa fn (He.frG g (He.asD g n))
def hookX (n : Nat) (fx : List Fx) (fa : List He.Fa) (fn : List He.DefD) : PySem.W.Hook where
  α := AlX
  obs := fun s => obsXG n fx fa fn s.heap.get?
  val := fun _ => (true, He.valD fn)
  says := fun _ h => ∃ K : PySem.W.Frag, K.In h ∧ fxAll fx K = true ∧ He.SaysD fa fn K
  of := fun _ _ e => ⟨_, He.frG_in, congrArg Prod.fst e, congrArg Prod.snd e⟩
  keeps := fun _ _ _ ⟨K, hK, c⟩ k => ⟨K, PySem.W.Frag.In.keeps hK k, c⟩
theorem obsXG_eq {n : Nat} {fx : List Fx} {fa : List He.Fa} {fn : List He.DefD} {g : Addr → Option Obj} {s : Shared} (h : ∀ a, g a = s.heap.get? a) : obsXG n fx fa fn g = (hookX n fx fa fn).obs s := by
  have e : g = s.heap.get? := funext h
  rw [e] <;> rfl

/-! ### a call with plain data: the callee is run on no heap at all -/
mutual
def pureD : D → Bool
  | .tup xs => pureDs xs
  | .rol _ => false
  | .ktp xs => pureDs xs
  | .fn _ _ => false
  | .ref _ => false
  | _ => true
def pureDs : List D → Bool
  | [] => true
  | d :: ds => pureD d && pureDs ds
end
mutual
theorem RelD.pure {K : PySem.W.Frag} {mp mp' : List Addr} {H : Hp} : ∀ {d : D} {v : V}, pureD d = true → RelD K mp H d v → RelD K mp' H d v
  | _, _, _, .non => .non
  | _, _, _, .bl b => .bl b
  | _, _, _, .int i => .int i
  | _, _, _, .str l => .str l
  | _, _, h, .tup hs r => .tup hs (RelDs.pure (by simpa [pureD] using h) r)
  | _, _, h, .ktp hs r => .ktp hs (RelDs.pure (by simpa [pureD] using h) r)
  | _, _, h, .rol _ _ => by simp [pureD] at h
  | _, _, h, .ref _ => by simp [pureD] at h
theorem RelDs.pure {K : PySem.W.Frag} {mp mp' : List Addr} {H : Hp} : ∀ {d : List D} {v : List V}, pureDs d = true → RelDs K mp H d v → RelDs K mp' H d v
  | _, _, _, .nil => .nil
  | _, _, h, .cons a b => by
    rw [pureDs, Bool.and_eq_true] at h
    exact .cons (RelD.pure h.1 a) (RelDs.pure h.2 b)
end
/-! all numbers moved up -/
mutual
def D.up (k : Nat) : D → D
  | .tup xs => .tup (upDs k xs)
  | .rol xs => .rol (upDs k xs)
  | .ktp xs => .ktp (upDs k xs)
  | .fn i xs => .fn i (upDs k xs)
  | .ref n => .ref (k + n)
  | .non => .non
  | .bl b => .bl b
  | .int i => .int i
  | .str l => .str l
def upDs (k : Nat) : List D → List D
  | [] => []
  | d :: ds => D.up k d :: upDs k ds
end
def upF (k : Nat) : List (Nat × D) → List (Nat × D)
  | [] => []
  | (i, d) :: r => (i, D.up k d) :: upF k r
def upK (k : Nat) : List (D × D) → List (D × D)
  | [] => []
  | (i, d) :: r => (i, D.up k d) :: upK k r
def LO.up (k : Nat) : LO → LO
  | .lst xs => .lst (upDs k xs)
  | .dic t kvs => .dic t (upK k kvs)
  | .ins c fs => .ins c (upF k fs)
  | .exc c fs => .exc c (upF k fs)
  | .dlk t kvs => .dlk t (upK k kvs)
def upH (k : Nat) : LH → LH
  | [] => []
  | o :: r => o.up k :: upH k r
def runA (m : FM) : FM := fun ds h => if pureDs ds = true then (match m ds [] with
  | .ok d h' => if pureD d = true then .ok d h else (match d with
    | .ref n => (match h'[n]? with
      | some (.lst xs) => if pureDs xs = true then .ok (.ref h.length) (h ++ [.lst xs]) else .ok (d.up h.length) (h ++ upH h.length h')
      | _ => .ok (d.up h.length) (h ++ upH h.length h'))
    | _ => .ok (d.up h.length) (h ++ upH h.length h'))
  | .ex x _ => (match x.fs with
    | [] => .ex ⟨x.cls, []⟩ h
    | _ => m ds h)
  | .bad => .bad) else m ds h
section
variable {K : PySem.W.Frag} {mp mp' : List Addr} {H H' : Hp} {lh lh' : LH}
theorem Ext.drop (e : Ext K [] H mp' H') : Ext K mp H mp H' := ⟨⟨[], by simp⟩, fun a o h _ ht => e.frame a o h (by simp) ht, fun a h1 h2 => absurd h1 h2, e.tup, e.frz, fun a ps h _ => e.tbl a ps h (by simp)⟩
theorem Rep.drop (r : Rep K mp lh H) (e : Ext K [] H mp' H') (r' : Rep K mp' lh' H') : Rep K mp lh H' := r.same e.drop (fun a ha => by
  obtain ⟨n, o, _, _, q⟩ := r.at ha
  obtain ⟨u, hu⟩ := q.some
  rw [hu]; exact e.frame a u hu (by simp) (q.nt hu).2) (TabOk.back r e r'.tab)
theorem kc_map {g : D → D} {gs : List D → List D} (hn : gs [] = []) (hc : ∀ d r, gs (d :: r) = g d :: gs r) (hs : ∀ l, g (.str l) = .str l) (ht : ∀ xs, g (.tup xs) = .tup (gs xs)) : ∀ {ds : List D}, kc ds = true → kc (gs ds) = true := by
  intro ds h
  unfold kc at h
  split at h <;> first
    | (simp only [hc, hn, hs, ht]; exact h)
    | (simp only [hc, hn, hs, ht]; rfl)
    | cases h
theorem TpA.map {a : Addr} {ds es : List D} {vs : List V} (h : TpA K H a ds vs) (k : kc ds = true → kc es = true) : TpA K H a es vs := h.imp id fun z => ⟨k z.1, z.2⟩
theorem Rep.none (t : TabOk K mp H) : Rep K [] [] H := ⟨rfl, by simp, fun n o a h => by simp at h, t.less (fun a h => by simp at h)⟩
mutual
theorem RelD.up : ∀ {d : D} {v : V}, RelD K mp' H d v → RelD K (mp ++ mp') H (d.up mp.length) v
  | _, _, .non => .non
  | _, _, .bl b => .bl b
  | _, _, .int i => .int i
  | _, _, .str l => .str l
  | _, _, .tup h r => .tup (h.map (kc_map (g := D.up mp.length) (gs := upDs mp.length) rfl (fun _ _ => rfl) (fun _ => rfl) (fun _ => rfl))) (RelDs.up r)
  | _, _, .ktp h r => .ktp h (RelDs.up r)
  | _, _, .rol h r => .rol h (RelDs.up r)
  | _, _, .ref h => .ref (by rw [List.getElem?_append_right (Nat.le_add_right _ _), Nat.add_sub_cancel_left]; exact h)
theorem RelDs.up : ∀ {d : List D} {v : List V}, RelDs K mp' H d v → RelDs K (mp ++ mp') H (upDs mp.length d) v
  | _, _, .nil => .nil
  | _, _, .cons h r => .cons (RelD.up h) (RelDs.up r)
end
theorem upF_rel : ∀ {fs : List (Nat × D)} {gs : List (Str × V)}, Paired (fun (p : Nat × D) (q : Str × V) => q.1 = nm p.1 ∧ RelD K mp' H p.2 q.2) fs gs → Paired (fun (p : Nat × D) (q : Str × V) => q.1 = nm p.1 ∧ RelD K (mp ++ mp') H p.2 q.2) (upF mp.length fs) gs
  | _, _, .nil => .nil
  | _, _, .cons h r => .cons ⟨h.1, h.2.up⟩ (upF_rel r)
theorem upK_rel {κ : Type} {KR : D → κ → Prop} : ∀ {fs : List (D × D)} {gs : List (κ × V)}, Paired (fun (p : D × D) (q : κ × V) => KR p.1 q.1 ∧ RelD K mp' H p.2 q.2) fs gs → Paired (fun (p : D × D) (q : κ × V) => KR p.1 q.1 ∧ RelD K (mp ++ mp') H p.2 q.2) (upK mp.length fs) gs
  | _, _, .nil => .nil
  | _, _, .cons h r => .cons ⟨h.1, h.2.up⟩ (upK_rel r)
theorem RelO.notX {o : LO} {a : Addr} (h : RelO K mp H o a) : ∀ fs, H a ≠ Option.some (.xd fs) := fun fs z => by
  cases o with
  | lst ds => obtain ⟨vs, q, _⟩ := h; rw [q] at z; cases z
  | dic t kvs => cases t with
    | false => obtain ⟨ks, q, _⟩ := h; rw [q] at z; cases z
    | true => obtain ⟨ks, q, _⟩ := h; rw [q] at z; cases z
  | ins c fs => obtain ⟨dx, gs, q, _⟩ := h; rw [q] at z; cases z
  | exc c fs => obtain ⟨d, q, _⟩ := h; rw [q] at z; cases z
  | dlk t kvs => cases t with
    | false => obtain ⟨o, ks, q, _⟩ := h; rw [q] at z; cases z
    | true => obtain ⟨o, ks, q, _⟩ := h; rw [q] at z; cases z
theorem RelO.up {o : LO} {a : Addr} (r : Rep K mp lh H) (h : RelO K mp' H o a) : RelO K (mp ++ mp') H (o.up mp.length) a := by
  cases o with
  | lst ds => obtain ⟨vs, q, r⟩ := h; exact ⟨vs, q, r.up⟩
  | dic t kvs => cases t with
    | false => obtain ⟨ks, q, r⟩ := h; exact ⟨ks, q, upK_rel r⟩
    | true => obtain ⟨ks, q, r⟩ := h; exact ⟨ks, q, upK_rel r⟩
  | ins c fs => obtain ⟨dx, gs, q, r⟩ := h; exact ⟨dx, gs, q, upF_rel r⟩
  | exc c fs =>
    obtain ⟨d, q, r1, r2⟩ := h
    refine ⟨d, q, r1, ?_⟩
    rcases r2 with ⟨e1, e2⟩ | ⟨dd, fs', ne, e1, e2, e3, e4⟩
    · have : fs = [] := e1
      subst this; exact .inl ⟨rfl, e2⟩
    · refine .inr ⟨dd, fs', ?_, e1, e2, fun z => ?_, upF_rel e4⟩
      · cases fs with
        | nil => exact absurd rfl ne
        | cons p q => intro z; cases z
      · rcases List.mem_append.mp z with z | z
        · obtain ⟨n, o, _, _, q⟩ := r.at z
          exact q.notX _ e2
        · exact e3 z
  | dlk t kvs => cases t with
    | false => obtain ⟨o, ks, q, r⟩ := h; exact ⟨o, ks, q, upK_rel r⟩
    | true => obtain ⟨o, ks, q, r⟩ := h; exact ⟨o, ks, q, upK_rel r⟩
theorem RelO.wider {o : LO} {a : Addr} (r' : Rep K mp' lh' H) (h : RelO K mp H o a) : RelO K (mp ++ mp') H o a := by
  have s : Sub K mp H (mp ++ mp') H := ⟨fun {n a} h => by rw [List.getElem?_append_left (List.getElem?_eq_some_iff.mp h).1]; exact h, fun _ _ h => h, fun _ _ _ h => h⟩
  cases o with
  | lst ds => obtain ⟨vs, q, r⟩ := h; exact ⟨vs, q, r.sub s⟩
  | dic b kvs => cases b with
    | false => obtain ⟨ks, q, r⟩ := h; exact ⟨ks, q, Paired.imp (fun p q z => ⟨z.1, z.2.sub s⟩) r⟩
    | true => obtain ⟨ks, q, r⟩ := h; exact ⟨ks, q, Paired.imp (fun p q z => ⟨z.1, z.2.sub s⟩) r⟩
  | ins c fs => obtain ⟨dx, gs, q, r⟩ := h; exact ⟨dx, gs, q, Paired.imp (fun p q z => ⟨z.1, z.2.sub s⟩) r⟩
  | exc c fs =>
    obtain ⟨d, q, r1, r2⟩ := h
    refine ⟨d, q, r1, ?_⟩
    rcases r2 with r2 | ⟨dd, fs, ne, e1, e2, e3, e4⟩
    · exact .inl r2
    · refine .inr ⟨dd, fs, ne, e1, e2, fun z => ?_, Paired.imp (fun p q z => ⟨z.1, z.2.sub s⟩) e4⟩
      rcases List.mem_append.mp z with z | z
      · exact e3 z
      · obtain ⟨n, o, _, _, q⟩ := r'.at z
        exact q.notX _ e2
  | dlk b kvs => cases b with
    | false => obtain ⟨o, ks, q, r⟩ := h; exact ⟨o, ks, q, Paired.imp (fun p q z => ⟨z.1, z.2.sub s⟩) r⟩
    | true => obtain ⟨o, ks, q, r⟩ := h; exact ⟨o, ks, q, Paired.imp (fun p q z => ⟨z.1, z.2.sub s⟩) r⟩
theorem upH_len {k : Nat} : ∀ h : LH, (upH k h).length = h.length
  | [] => rfl
  | _ :: r => congrArg Nat.succ (upH_len r)
theorem upH_get {k : Nat} : ∀ {h : LH} {n : Nat} {o : LO}, (upH k h)[n]? = Option.some o → ∃ o', h[n]? = Option.some o' ∧ o = o'.up k
  | [], n, o, h => by simp [upH] at h
  | x :: r, 0, o, h => by simp [upH] at h; exact ⟨x, by simp, h.symm⟩
  | x :: r, n + 1, o, h => by
    obtain ⟨o', h1, h2⟩ := upH_get (h := r) (n := n) (o := o) (by simpa [upH] using h)
    exact ⟨o', by simpa using h1, h2⟩
/-- what a callee made on no heap comes behind -/
theorem Ext.join (e : Ext K [] H mp' H') : Ext K mp H (mp ++ mp') H' := ⟨⟨mp', rfl⟩, fun a o h _ ht => e.frame a o h (by simp) ht, fun a h1 h2 => by
  rcases List.mem_append.mp h1 with z | z
  · exact absurd z h2
  · exact e.new a z (by simp), e.tup, e.frz, fun a ps h _ => e.tbl a ps h (by simp)⟩
theorem Rep.join (r : Rep K mp lh H) (e : Ext K [] H mp' H') (r' : Rep K mp' lh' H') : Rep K (mp ++ mp') (lh ++ upH lh.length lh') H' := by
  have rd := r.drop e r'
  refine ⟨by rw [List.length_append, List.length_append, upH_len, r.len, r'.len], ?_, fun n o a h1 h2 => ?_, rd.tab.both r'.tab⟩
  · refine List.nodup_append.mpr ⟨r.nd, r'.nd, fun a ha b hb z => ?_⟩
    subst z
    obtain ⟨n, o, _, _, q⟩ := r.at ha
    obtain ⟨u, hu⟩ := q.some
    have := e.new a hb (by simp)
    rw [hu] at this; cases this
  · by_cases hl : n < mp.length
    · rw [List.getElem?_append_left hl] at h2
      rw [List.getElem?_append_left (by rw [← r.len]; exact hl)] at h1
      exact (rd.obj n o a h1 h2).wider r'
    · have hl2 : mp.length ≤ n := Nat.le_of_not_lt hl
      rw [List.getElem?_append_right hl2] at h2
      rw [List.getElem?_append_right (by rw [← r.len]; exact hl2)] at h1
      obtain ⟨o', h3, h4⟩ := upH_get h1
      rw [h4, ← r.len]
      exact (r'.obj _ o' a (by rw [r.len]; exact h3) h2).up rd
theorem FnRef.pure {P : Program} {w : World} {mg : Str → Option Value} {base : Heap} {k : Nat} {f : Addr} {fd : FuncData} {ps : List Str} {m : FM} (F : FnRef P w K mg base k f fd ps m) : FnRef P w K mg base k f fd ps (runA m) := FnOk.imp F fun vs H Q E ⟨mp, lh, ds, rp, rd, hl, q⟩ => by
  unfold runA at q
  by_cases hp : pureDs ds = true
  · rw [if_pos hp] at q
    cases hm : m ds [] with
    | bad => rw [hm] at q; exact q.elim
    | ok d lh' =>
      simp only [hm] at q
      refine ⟨[], [], ds, Rep.none rp.tab, rd.pure hp, hl, ?_⟩
      rw [hm]
      intro mp' H' v e r rl
      by_cases hd : pureD d = true
      · rw [if_pos hd] at q
        exact q mp H' v e.drop (rp.drop e r) (rl.pure hd)
      · rw [if_neg hd] at q
        have all : Post K mp H (R.ok (d.up lh.length) (lh ++ upH lh.length lh')) Q E → Q v H' := fun q => q (mp ++ mp') H' v e.join (rp.join e r) (by rw [← rp.len]; exact rl.up)
        cases rl with
        | @ref n a hn =>
          dsimp only at q
          cases ho : lh'[n]? with
          | none => rw [ho] at q; exact all q
          | some o =>
            cases o with
            | lst xs =>
              simp only [ho] at q
              by_cases hx : pureDs xs = true
              · rw [if_pos hx] at q
                obtain ⟨ws, h1, h2⟩ := r.obj n _ a ho hn
                have ha : a ∈ mp' := List.mem_of_getElem? hn
                have hH : H a = none := e.new a ha (by simp)
                refine q (mp ++ [a]) H' (.ref a) (.adopt (rp.drop e r) e.drop hH) ((rp.drop e r).adopt (rp.free_ne hH) h1 (h2.pure hx)) (.ref (by rw [← rp.len]; simp))
              · rw [if_neg hx] at q; exact all q
            | _ => simp only [ho] at q; exact all q
        | _ => exact all q
    | ex x lh' =>
      simp only [hm] at q
      cases hx : x.fs with
      | cons a b => rw [hx] at q; exact ⟨mp, lh, ds, rp, rd, hl, q⟩
      | nil =>
        rw [hx] at q
        refine ⟨[], [], ds, Rep.none rp.tab, rd.pure hp, hl, ?_⟩
        rw [hm]
        intro mp' H' c dd e r rx
        refine q mp H' c dd e.drop (rp.drop e r) ⟨rx.1, .inl ⟨rfl, ?_⟩⟩
        rcases rx.2 with ⟨_, z⟩ | ⟨_, _, ne, _⟩
        · exact z
        · exact absurd hx ne
  · rw [if_neg hp] at q
    exact ⟨mp, lh, ds, rp, rd, hl, q⟩
end

/-! ### defs and calls by name -/
structure Fc (fx : List Fx) (fa : List He.Fa) (fn : List He.DefD) (K : PySem.W.Frag) (mg : Str → Option Value) (base : Heap) : Prop where
  x : fxAll fx K = true
  c : He.SaysD fa fn K
  hp : ∃ h : Heap, K.In h ∧ h.Ns mainGlobals mg
  tb : ∀ x fd c P, x ∈ ndL → fdOf K x = some fd → fd.code = .ref c → tabA K fd = some P → LamX.TabB base mg c P
  tn : ((tabsOf K).map (·.1)).Nodup
section
variable {fx : List Fx} {fa : List He.Fa} {fn : List He.DefD} {K : PySem.W.Frag} {mg : Str → Option Value} {base : Heap}
theorem Fc.fx_ (h : Fc fx fa fn K mg base) (i : Nat) {f : Fx} (e : fx[i]? = some f := by rfl) : f.ok K = true := List.all_eq_true.mp h.x f (List.mem_of_getElem? e)
theorem Fc.glo (h : Fc fx fa fn K mg base) (i : Nat) {x : Str} (e : fa[i]? = some (.glo x) := by rfl) : mg x = some (.ref (He.ga K x)) := let ⟨_, X, G⟩ := h.hp; He.glo_ok X G (h.c.fact i e)
theorem Fc.free (h : Fc fx fa fn K mg base) (i : Nat) {x : Str} (e : fa[i]? = some (.free x) := by rfl) : mg x = none := let ⟨_, X, G⟩ := h.hp; He.free_ok X G (h.c.fact i e)
theorem Fc.int (h : Fc fx fa fn K mg base) (i : Nat) {x : Str} {n : Int} (e : fa[i]? = some (.int x n) := by rfl) : ∃ t, mg x = some (.int n t) := let ⟨_, X, G⟩ := h.hp; He.int_ok X G (h.c.fact i e)
theorem Fc.str (h : Fc fx fa fn K mg base) (i : Nat) {x z : Str} (e : fa[i]? = some (.str x z) := by rfl) : ∃ t, mg x = some (.str z t) := let ⟨_, X, G⟩ := h.hp; He.str_ok X G (h.c.fact i e)
end
def Cal (P : Program) (w : World) (K : PySem.W.Frag) (mg : Str → Option Value) (base : Heap) (k : Nat) (x : Str) (ps : List Str) (n : Nat) (ks : List Str) (gd : List D → List D → List D) (mf : FM) : Prop :=
  ∃ fd, FnRef P w K mg base k (He.ga K x) fd ps mf ∧ BindD K fd ps n ks gd ∧ PySem.W.keepIn K (.ref (He.ga K x)) = true ∧ mg x = some (.ref (He.ga K x))
abbrev gd0 : List D → List D → List D := fun ds _ => ds
abbrev gdA : List D → List D → List D := fun ds es => ds ++ es
section
variable {P : Program} {w : World} {K : PySem.W.Frag} {mg : Str → Option Value} {base : Heap} {x qual : Str} {params : Arguments} {body : List Stmt} {scope : Scope} {N ps ks : List Str} {k n : Nat} {b : SM} {fd : FuncData} {mf : FM} {gd : List D → List D → List D}
/-- keywords in the parameters' order, no defaults -/
theorem bindD_kw {f : Addr} (F : FunD K x qual params body scope [] [] f fd) (hps : n + ks.length = ps.length)
    (h : ∀ (kV doc pm : Value) (an : Option Addr) (cdv ct : Value) (us ws : List Value), us.length = n → ws.length = ks.length → bindArgs (PySem.W.fnOf x qual params body scope .none kV doc pm an cdv ct) ⟨us, ks.zip ws⟩ = pure (ps.zip (us ++ ws))) : BindD K fd ps n ks gdA := by
  obtain ⟨oc, od, dV, kV, doc, pm, an, cdv, ct, osl, rfl, lk, hcd, hD, hK⟩ := F.ex
  have eD : dV = .none := by
    rcases hD with ⟨_, e⟩ | ⟨e, _⟩
    · exact e
    · exact absurd rfl e
  subst eD
  exact ⟨fun us ws => us ++ ws, fun vs zs => vs ++ zs, fun s us ws hk h1 h2 => .of_eq (h kV doc pm an cdv ct us ws h1 h2), fun vs us zs ws r1 r2 => r1.append r2, fun mp H ds vs es zs h1 h2 r1 r2 => ⟨r1.append r2, by show (ds ++ es).length = _; rw [List.length_append, h1, h2]; exact hps⟩⟩
theorem takesC {f : Addr} {cdv : Value} {A : Around} {outer : List Env} {s : Shared} {H : Hp} {E : XK} : Takes (cxOf (L2.CX P w) P w K mg base N qual scope f cdv A outer s H E) (fun c d _ H' => E c d H') := takes_of rfl rfl rfl rfl
theorem passC {f : Addr} {cdv : Value} {A : Around} {outer : List Env} {s : Shared} {H : Hp} {E : XK} : PassesOwn (model P w) (cxOf (L2.CX P w) P w K mg base N qual scope f cdv A outer s H E).A (cxOf (L2.CX P w) P w K mg base N qual scope f cdv A outer s H E).env (cxOf (L2.CX P w) P w K mg base N qual scope f cdv A outer s H E).xe := passes_of rfl
theorem cal_of (F : FunD K x qual params body scope [] [] (He.ga K x) fd) (hm : mg x = some (.ref (He.ga K x))) (S : FnScope N ps scope) (hbd : BindD K fd ps n ks gd)
    (hb : ∀ (cdv : Value) (A : Around) (outer : List Env) (s : Shared) (H : Hp) (E : XK), Room k (A.deeper (PyProof.Rows.envOfC qual scope s.heap.objs.size (He.ga K x) cdv)) →
      RSs (cxOf (L2.CX P w) P w K mg base N qual scope (He.ga K x) cdv A outer s H E) (fun c d _ H' => E c d H') body b) : Cal P w K mg base (k + 1) x ps n ks gd (runA (fm N.length b)) :=
  ⟨fd, (fnref F S hb).pure, hbd, F.kp, hm⟩
theorem bindD_no {f : Addr} (F : FunD K x qual params body scope [] [] f fd)
    (h : ∀ (kV doc pm : Value) (an : Option Addr) (cdv ct : Value) (us : List Value), us.length = ps.length → bindArgs (PySem.W.fnOf x qual params body scope .none kV doc pm an cdv ct) ⟨us, []⟩ = pure (ps.zip us)) : BindD K fd ps ps.length [] gd0 := bindD_all (F.bindsN h)
end
section
variable {X : Cx} {W : WX} {k n : Nat} {ps ks : List Str} {x : Str} {p pos : Pos} {e : Expr} {es : List Expr} {kws : List Keyword} {ma mk : AM} {gd : List D → List D → List D} {mf : FM}
theorem re_cal (C : Cal X.prog X.w X.K X.mg X.base k x ps n ks gd mf) (hr : Room k X.A) (hg : Gl X x) (tkx : Takes X W)
    (ha : RA X W (e :: es) ma) (hkw : RK X W kws mk) (hn : (e :: es).length = n := by rfl) (hkn : kws.length = ks.length := by rfl) (hall : (backToKw pos (keywordEach kws X.env)).all (·.1.isSome) = true := by rfl) (hks : (backToKw pos (keywordEach kws X.env)).filterMap (·.1) = ks := by rfl)
    (hdb : (x == ("__debug__" : Str)) = false := by decide) (he : starEach (e :: es) X.env = (false, eval e X.env) :: starEach es X.env := by rfl)
    (hpl : ((backTo pos (starEach (e :: es) X.env)).any (·.1) || (backToKw pos (keywordEach kws X.env)).any (·.1.isNone)) = false := by rfl) :
    RE X W (.Call (.Name x p) (e :: es) kws pos) (mCallK gd mf ma mk) := by
  obtain ⟨fd, F, hb, hk, hm⟩ := C
  exact re_callK F hr hg hm hk tkx hb ha hkw hn hkn hall hks hdb he hpl
theorem re_gint {x : Str} {i : Int} {pos : Pos} (hg : Gl X x) (h : ∃ t, X.mg x = some (.int i t)) (hd : (x == ("__debug__" : Str)) = false := by decide) : RE X W (.Name x pos) (mC (.int i)) := by
  obtain ⟨t, h⟩ := h
  exact re_glob (v := .int i) (pe_glob hg h ⟨t, rfl⟩ hd) fun _ _ => .int _
theorem re_gstr {x z : Str} (l : List Nat) {pos : Pos} (hg : Gl X x) (h : ∃ t, X.mg x = some (.str z t)) (hz : z = ⟨l.toArray⟩) (hd : (x == ("__debug__" : Str)) = false := by decide) : RE X W (.Name x pos) (mC (.str l)) := by
  obtain ⟨t, h⟩ := h
  subst hz
  exact re_glob (v := .str ⟨l.toArray⟩) (pe_glob hg h ⟨t, rfl⟩ hd) fun _ _ => .str _
/-- isinstance(e, T): T a built-in type, a class -/
theorem re_isiT {t : Str} {T : String} {p2 : Pos} {me : EM} {tab : List (Tg × Bool)} (he : RE X W e me) (hg : Gl X "isinstance") (hm : X.mg "isinstance" = none) (hgT : Gl X t) (hmT : X.mg t = none) (hv : bootBuiltins t = some (.type T)) (hx : (Fx.kit (.ty T) tab).ok X.K = true)
    (hI : ∀ c b, luk tab (.ins c) = some b → InsOk X.K (clsA X.K c)) (hE : ∀ c b, luk tab (.exc c) = some b → ExcC X.K (clsA X.K c)) (hn : t ≠ "__name__" := by decide) (hd : (t == ("__debug__" : Str)) = false := by decide)
    (hs : starEach [e, .Name t p2] X.env = (false, eval e X.env) :: starEach [.Name t p2] X.env := by rfl) (hs2 : starEach [.Name t p2] X.env = (false, eval (.Name t p2) X.env) :: starEach [] X.env := by rfl)
    (hpl : (backTo pos (starEach [.Name t p2] X.env)).any (·.1) = false := by rfl) :
    RE X W (.Call (.Name "isinstance" p) [e, .Name t p2] [] pos) (mIsi (luk tab) me) :=
  re_isi he (pe_bltn (v := .ty T) hgT hmT hv rfl hn hd) (.ty T) hg hm (kit_ok hx) hI hE hs hs2 hpl
theorem re_isiC {t : Str} {c : Nat} {p2 : Pos} {me : EM} {tab : List (Tg × Bool)} (he : RE X W e me) (hg : Gl X "isinstance") (hm : X.mg "isinstance" = none) (hgT : Gl X t) (hmT : X.mg t = some (.ref (clsA X.K c))) (hx : (Fx.kit (.cl c) tab).ok X.K = true)
    (hI : ∀ c b, luk tab (.ins c) = some b → InsOk X.K (clsA X.K c)) (hE : ∀ c b, luk tab (.exc c) = some b → ExcC X.K (clsA X.K c)) (hd : (t == ("__debug__" : Str)) = false := by decide)
    (hs : starEach [e, .Name t p2] X.env = (false, eval e X.env) :: starEach [.Name t p2] X.env := by rfl) (hs2 : starEach [.Name t p2] X.env = (false, eval (.Name t p2) X.env) :: starEach [] X.env := by rfl)
    (hpl : (backTo pos (starEach [.Name t p2] X.env)).any (·.1) = false := by rfl) :
    RE X W (.Call (.Name "isinstance" p) [e, .Name t p2] [] pos) (mIsi (luk tab) me) :=
  re_isi he (pe_glob (v := .ref (clsA X.K c)) hgT hmT rfl hd) (.own _) hg hm (kit_ok hx) hI hE hs hs2 hpl
theorem re_sv (i : Nat) {x : Str} {pos : Pos} (hN : X.N[i]? = some x := by rfl) (hv : Vis X.env.scope x := by first | exact Or.inl rfl | exact Or.inr (Or.inl rfl) | exact Or.inr (Or.inr rfl)) (hd : (x == ("__debug__" : Str)) = false := by decide)
    (hcd : (x == ("__classdict__" : Str)) = false := by decide) : RE X W (.Name x pos) (mV i) := re_var (pv i hN hv hd hcd)
end
end Rf
set_option Elab.async false
set_option linter.all false
set_option maxRecDepth 100000
set_option maxHeartbeats 4000000
set_option autoImplicit false
/-! what the printed texts call. -/
namespace Rf
open PySem PySem.Spec L2

abbrev fSub : D → D → LH → R D := oI0 fun i j => .int (i - j)
abbrev fDiv : D → D → LH → R D := oI (fun _ j => decide (0 < j) && decide (j < 1073741824)) fun i j => .int (i / j)
abbrev fMod : D → D → LH → R D := oI (fun _ j => decide (0 < j)) fun i j => .int (i % j)
abbrev fPow : D → D → LH → R D := oI (fun i j => decide (0 ≤ j) && (decide (j ≤ 1000000) && Nat.blt i.natAbs 18446744073709551616)) fun i j => .int (i ^ j.toNat)
abbrev fLe : D → D → LH → R D := oI0 fun i j => .bl (decide (i ≤ j))
abbrev fGt : D → D → LH → R D := oI0 fun i j => .bl (decide (j < i))
abbrev fGe : D → D → LH → R D := oI0 fun i j => .bl (decide (j ≤ i))
def fIAdd : D → D → LH → R D := fun x y h => match x, y with
    | .int i, .int j => .ok (.int (i + j)) h
    | .str a, .str b => if szOk (a.length + b.length) = true then .ok (.str (a ++ b)) h else .bad
    | _, _ => .bad
def fISub : D → D → LH → R D := fun x y h => match x, y with
    | .int i, .int j => .ok (.int (i - j)) h
    | _, _ => .bad
theorem Room.u64 {k : Nat} {A : Around} (r : Room k A) : A.units + 64 < cLine := by have := r.un; omega
theorem Room.u65 {k : Nat} {A : Around} (r : Room k A) : A.units + 65 < cLine := by have := r.un; omega
/-- this, or else that -/
def mAlt (a b : EM) : EM := fun ls h => match a ls h with
  | .bad => b ls h
  | r => r
section
variable {X : Cx} {W : WX} {e : Expr} {ma mb : EM}
theorem re_alt (ha : RE X W e ma) (hb : RE X W e mb) : RE X W e (mAlt ma mb) := by
  obtain ⟨t, a1, a2⟩ := ha
  obtain ⟨u, b1, b2⟩ := hb
  refine ⟨fun σ H Q => t σ H Q ∨ u σ H Q, ⟨fun pins s σ H Q I h => h.elim (a1.run pins s σ H Q I) (b1.run pins s σ H Q I)⟩, fun mp lh ls σ H Q r rs q => ?_⟩
  unfold mAlt at q
  cases hm : ma ls lh with
  | bad => rw [hm] at q; exact .inr (b2 mp lh ls σ H Q r rs q)
  | ok d h => rw [hm] at q; exact .inl (a2 mp lh ls σ H Q r rs (by rw [hm]; exact q))
  | ex x h => rw [hm] at q; exact .inl (a2 mp lh ls σ H Q r rs (by rw [hm]; exact q))
end
/-- walked: a list, a tuple, a text -/
def imAny (e : EM) : IM := fun ls h => (e ls h).bind fun d h1 => match d with
  | .ref n => (match h1[n]? with
    | some (.lst _) => .ok (liList n) h1
    | _ => .bad)
  | .tup xs => .ok (liSeq xs) h1
  | .ktp xs => .ok (liSeq xs) h1
  | .str l => .ok (liStr l) h1
  | _ => .bad
section
variable {X : Cx} {W : WX} {tg l : Expr} {me : EM}
theorem ri_any (he : RE X W l me) : RI X W tg l (imAny me) := by
  obtain ⟨t1, a1, a2⟩ := ri_list (tg := tg) he
  obtain ⟨t2, b1, b2⟩ := ri_tup (tg := tg) he
  obtain ⟨t3, c1, c2⟩ := ri_str (tg := tg) he
  refine ⟨fun σ H Q => t1 σ H Q ∨ t2 σ H Q ∨ t3 σ H Q, ⟨fun pins s σ H Q I h => h.elim (a1.run pins s σ H Q I) fun h => h.elim (b1.run pins s σ H Q I) (c1.run pins s σ H Q I)⟩, fun mp lh ls σ H Q r rs q => ?_⟩
  unfold imAny at q
  cases hm : me ls lh with
  | bad => rw [hm] at q; exact q.elim
  | ex x h => rw [hm] at q; exact .inl (a2 mp lh ls σ H Q r rs (by unfold imSeq; rw [hm]; exact q))
  | ok d h =>
    rw [hm] at q
    cases d with
    | ref n => exact .inl (a2 mp lh ls σ H Q r rs (by unfold imSeq; rw [hm]; exact q))
    | tup xs => exact .inr (.inl (b2 mp lh ls σ H Q r rs (by unfold imTup; rw [hm]; exact q)))
    | ktp xs => exact .inr (.inl (b2 mp lh ls σ H Q r rs (by unfold imTup; rw [hm]; exact q)))
    | str l => exact .inr (.inr (c2 mp lh ls σ H Q r rs (by unfold imStr; rw [hm]; exact q)))
    | _ => exact q.elim
end
section
variable {fx : List Fx} {fa : List He.Fa} {fn : List He.DefD} {K : PySem.W.Frag} {mg : Str → Option Value} {base : Heap}
theorem Fc.gloC (h : Fc fx fa fn K mg base) (i c : Nat) {x : Str} (e : fa[i]? = some (.glo x) := by rfl) (ex : x = nm c := by rfl) : mg x = some (.ref (clsA K c)) := by
  subst ex; exact h.glo i e
theorem Fc.exc (h : Fc fx fa fn K mg base) (i c : Nat) {x : Str} (e : fa[i]? = some (.exc x) := by rfl) (ex : x = nm c := by rfl) : PySem.W.excIn K (clsA K c) He.veBase "ValueError.__new__" = true ∧ PySem.W.keepIn K (.ref (clsA K c)) = true ∧ PySem.W.subIn K (.ref (clsA K c)) (.type "BaseException") = some true ∧
    PySem.W.typeIn K (.ref (clsA K c)) = some (.type "type") := by
  subst ex; exact He.exc_ok (h.c.fact i e)
end
section
variable {X : Cx} {W : WX} {c : Nat} {x m : Str} {j} {p p2 pos2 pos : Pos}
theorem rs_raiseF (hc : X.calm = true) (tkx : Takes X W) (q : PySem.W.excIn X.K (clsA X.K c) He.veBase "ValueError.__new__" = true ∧ PySem.W.keepIn X.K (.ref (clsA X.K c)) = true ∧ PySem.W.subIn X.K (.ref (clsA X.K c)) (.type "BaseException") = some true ∧
    PySem.W.typeIn X.K (.ref (clsA X.K c)) = some (.type "type")) (gC : X.mg x = some (.ref (clsA X.K c))) (hg : Gl X x) (hdb : (x == ("__debug__" : Str)) = false := by decide) :
    RS X W (.Raise (some (.Call (.Name x p) [.Constant (.str m) j p2] [] pos2)) none pos) (mRaise c) := rs_raise hc tkx q.1 gC q.2.1 q.2.2.1 q.2.2.2 hg hdb
end
/-- -e -/
def mNeg (me : EM) : EM := fun ls h => (me ls h).bind fun d h1 => match d with
  | .int i => .ok (.int (-i)) h1
  | _ => .bad
theorem re_neg {X : Cx} {W : WX} {e : Expr} {me : EM} {pos : Pos} (he : RE X W e me) : RE X W (.UnaryOp .USub e pos) (mNeg me) := by
  obtain ⟨t, a1, a2⟩ := he
  refine ⟨_, pe_un un_neg a1, fun mp lh ls σ H Q r rs q => a2 mp lh ls σ H _ r rs (q.bind fun mp1 H1 lh1 d v e1 r1 rl1 q1 => ?_)⟩
  cases rl1 with
  | int i => exact ⟨i, rfl, q1.now r1 (.int _)⟩
  | _ => exact q1.elim
theorem exc_tab {K : PySem.W.Frag} {L : List Nat} {tab : List (Tg × Bool)} (hL : ∀ c ∈ L, ExcC K (clsA K c)) (ht : (tab.all fun p => match p.1 with
    | .exc c => decide (c ∈ L)
    | _ => true) = true) : ∀ c b, luk tab (.exc c) = some b → ExcC K (clsA K c) := fun c b e => hL c (of_decide_eq_true (luk_all (f := fun g _ => match g with
    | .exc c => decide (c ∈ L)
    | _ => true) ht e))
theorem ins_tab {K : PySem.W.Frag} {L : List Nat} {tab : List (Tg × Bool)} (hL : ∀ c ∈ L, InsOk K (clsA K c)) (ht : (tab.all fun p => match p.1 with
    | .ins c => decide (c ∈ L)
    | _ => true) = true) : ∀ c b, luk tab (.ins c) = some b → InsOk K (clsA K c) := fun c b e => hL c (of_decide_eq_true (luk_all (f := fun g _ => match g with
    | .ins c => decide (c ∈ L)
    | _ => true) ht e))
theorem excs_nil {K : PySem.W.Frag} : ∀ c ∈ ([] : List Nat), ExcC K (clsA K c) := fun _ h => by cases h
theorem excs_cons {K : PySem.W.Frag} {a : Nat} {L : List Nat} (h1 : (Fx.excC a).ok K = true) (h2 : ∀ c ∈ L, ExcC K (clsA K c)) : ∀ c ∈ a :: L, ExcC K (clsA K c) := fun c h => by
  rcases List.mem_cons.mp h with z | z
  · rw [z]; exact excC_ok h1
  · exact h2 c z
theorem inss_nil {K : PySem.W.Frag} : ∀ c ∈ ([] : List Nat), InsOk K (clsA K c) := fun _ h => by cases h
theorem inss_cons {K : PySem.W.Frag} {a : Nat} {L : List Nat} (h0 : Cls K (clsA K a)) (h1 : (Fx.insC a).ok K = true) (h2 : ∀ c ∈ L, InsOk K (clsA K c)) : ∀ c ∈ a :: L, InsOk K (clsA K c) := fun c h => by
  rcases List.mem_cons.mp h with z | z
  · rw [z]; exact insC_ok h0 h1
  · exact h2 c z
end Rf
set_option Elab.async false
set_option linter.all false
set_option maxRecDepth 100000
set_option maxHeartbeats 4000000
set_option autoImplicit false
/-! the law's draws. -/
namespace Rf
open PySem PySem.Spec L2
def drawB : SM := mSeq (mSet 2 (mBin dIx (mV 0) (mC (.int 0)))) (mSeq (mSetSub dSetL (mBin dAdd (mBin dIx (mV 0) (mC (.int 1))) (mC (.int 1))) (mV 0) (mC (.int 1))) (mSeq (mSet 3 (mBin fMod (mBin dIx (mV 0) (mC (.int 1))) (mCall (f1 dLen) (mCons (mV 2) (mNil))))) (mSeq (mSet 4 (mBin dIx (mV 2) (mV 3))) (mSeq (mIfS (mTest (mBin fGe (mV 4) (mC (.int 1000000000000000000)))) (mSeq (mSetSub dSetL (mBin fDiv (mV 4) (mV 1)) (mV 2) (mV 3)) (mRet (mBin fMod (mV 4) (mV 1)))) (mNext)) (mSeq (mSet 5 (mBin fMod (mBin dAdd (mV 4) (mBin dMul (mC (.int 104729)) (mBin dIx (mV 0) (mC (.int 1))))) (mC (.int 4294967291)))) (mSeq (mSet 5 (mBin fMod (mBin fPow (mV 5) (mC (.int 5))) (mC (.int 4294967279)))) (mRet (mBin fMod (mBin fDiv (mBin fMod (mBin dAdd (mBin dMul (mBin fDiv (mV 5) (mC (.int 64))) (mC (.int 69621))) (mV 5)) (mC (.int 4294967231))) (mC (.int 8))) (mV 1)))))))))
def drawM : FM := fm 6 drawB
/-- a town: where its row stands, the row, the count -/
structure Town (h : LH) (t r : Nat) (row : List Int) (c : Int) : Prop where
  tn : h[t]? = some (.lst [.ref r, .int c])
  rw_ : h[r]? = some (.lst (row.map D.int))
  ne : row ≠ []
  tr : t ≠ r
theorem ixN_lt {n : Nat} {j : Nat} (h : j < n) : ixN n (j : Int) = some j := by
  unfold ixN
  rw [if_pos (by omega), if_pos (by omega)]; simp
theorem atI_lt {α : Type} {xs : List α} {j : Nat} {x : α} (h : xs[j]? = some x) : atI xs (j : Int) = some x := by
  unfold atI
  rw [ixN_lt (List.getElem?_eq_some_iff.mp h).1]; exact h
theorem draw_ok {h : LH} {t r : Nat} {row : List Int} {c n : Int} (T : Town h t r row c) (hn : 1 ≤ n) (hn2 : n < 1073741824) :
    ∃ (v : Int) (row' : List Int), 0 ≤ v ∧ v < n ∧ row'.length = row.length ∧ drawM [.ref t, .int n] h = .ok (.int v) ((h.set t (.lst [.ref r, .int (c + 1)])).set r (.lst (row'.map D.int))) := by
  obtain ⟨ht, hr, hne, htr⟩ := T
  have lt : t < h.length := (List.getElem?_eq_some_iff.mp ht).1
  have lr : r < h.length := (List.getElem?_eq_some_iff.mp hr).1
  have h1t : (h.set t (.lst [.ref r, .int (c + 1)]))[t]? = some (.lst [.ref r, .int (c + 1)]) := by rw [List.getElem?_set_self lt]
  have h1r : (h.set t (.lst [.ref r, .int (c + 1)]))[r]? = some (.lst (row.map D.int)) := by rw [List.getElem?_set_ne htr]; exact hr
  have hlen : 0 < row.length := List.length_pos_iff.mpr hne
  obtain ⟨j, hj⟩ : ∃ j : Nat, (c + 1) % (row.length : Int) = (j : Int) := ⟨((c + 1) % (row.length : Int)).toNat, by rw [Int.toNat_of_nonneg (Int.emod_nonneg _ (by omega))]⟩
  have jl : j < row.length := by have := Int.emod_lt_of_pos (c + 1) (show (0 : Int) < row.length by omega); omega
  obtain ⟨cell, hcell⟩ : ∃ cell, row[j]? = some cell := ⟨row[j], List.getElem?_eq_getElem jl⟩
  have hcD : (row.map D.int)[j]? = some (.int cell) := by rw [List.getElem?_map, hcell]; rfl
  have a1 : atI (row.map D.int) (j : Int) = some (.int cell) := atI_lt hcD
  have i1 : ixN (row.map D.int).length (j : Int) = some j := ixN_lt (by simpa using jl)
  generalize eh1 : h.set t (.lst [.ref r, .int (c + 1)]) = h1 at h1t h1r ⊢
  have s1 : drawB [some (.ref t), some (.int n), none, none, none, none] h = (mSeq (mIfS (mTest (mBin fGe (mV 4) (mC (.int 1000000000000000000)))) (mSeq (mSetSub dSetL (mBin fDiv (mV 4) (mV 1)) (mV 2) (mV 3)) (mRet (mBin fMod (mV 4) (mV 1)))) (mNext)) (mSeq (mSet 5 (mBin fMod (mBin dAdd (mV 4) (mBin dMul (mC (.int 104729)) (mBin dIx (mV 0) (mC (.int 1))))) (mC (.int 4294967291)))) (mSeq (mSet 5 (mBin fMod (mBin fPow (mV 5) (mC (.int 5))) (mC (.int 4294967279)))) (mRet (mBin fMod (mBin fDiv (mBin fMod (mBin dAdd (mBin dMul (mBin fDiv (mV 5) (mC (.int 64))) (mC (.int 69621))) (mV 5)) (mC (.int 4294967231))) (mC (.int 8))) (mV 1))))))
      [some (.ref t), some (.int n), some (.ref r), some (.int j), some (.int cell), none] h1 := by
    have hlen' : (0 : Int) < (row.map D.int).length := by simpa using hlen
    have hj' : (c + 1) % ((row.map D.int).length : Int) = j := by simpa using hj
    simp only [drawB, mSeq, mSet, liftE, mBin, mV, mC, R.bind, dIx, asRd, ht, List.getElem?_cons_zero, List.getElem?_cons_succ, List.set_cons_zero, List.set_cons_succ]
    have z0 : atI [D.ref r, .int c] 0 = some (.ref r) := rfl
    have z1 : atI [D.ref r, .int c] 1 = some (.int c) := rfl
    have z2 : atI [D.ref r, .int (c + 1)] 1 = some (.int (c + 1)) := rfl
    have y1 : ixN [D.ref r, .int c].length 1 = some 1 := rfl
    simp only [z0, mSetSub, liftE, mBin, mV, mC, R.bind, dIx, asRd, ht, z1, dAdd, dSetL, y1, Option.map_some, List.getElem?_cons_zero, List.getElem?_cons_succ, List.set_cons_zero, List.set_cons_succ, eh1, h1t, h1r, z2, mCall, mCons, mNil, f1, dLen, oI, hlen', decide_true, if_true, hj', a1]
  have s2 : drawM [.ref t, .int n] h = fin (drawB [some (.ref t), some (.int n), none, none, none, none] h) := rfl
  rw [s2, s1]
  by_cases hb : (1000000000000000000 : Int) ≤ cell
  · refine ⟨cell % n, row.set j (cell / n), Int.emod_nonneg _ (by omega), Int.emod_lt_of_pos _ (by omega), by simp, ?_⟩
    have n1 : decide (0 < n) = true := decide_eq_true (by omega)
    have n2 : decide (n < 1073741824) = true := decide_eq_true hn2
    have b1 : decide ((1000000000000000000 : Int) ≤ cell) = true := decide_eq_true hb
    have l1 : ∀ x : LO, (h1.set r x).length = h1.length := fun x => by simp
    simp only [mSeq, mIfS, mTest, mSetSub, mRet, liftE, mBin, mV, mC, R.bind, List.getElem?_cons_zero, List.getElem?_cons_succ, oI0, oI, b1, if_true, n1, n2, Bool.and_self, dSetL, h1r, i1, Option.map_some, fin]
    rw [List.map_set]
  · have b1 : decide ((1000000000000000000 : Int) ≤ cell) = false := decide_eq_false hb
    have z2 : atI [D.ref r, .int (c + 1)] 1 = some (.int (c + 1)) := rfl
    obtain ⟨m1, e1⟩ : ∃ m1, (cell + 104729 * (c + 1)) % 4294967291 = m1 := ⟨_, rfl⟩
    have g1 : 0 ≤ m1 := by rw [← e1]; exact Int.emod_nonneg _ (by omega)
    have g2 : m1 < 4294967291 := by rw [← e1]; exact Int.emod_lt_of_pos _ (by omega)
    obtain ⟨m2, e2⟩ : ∃ m2, m1 ^ (5 : Int).toNat % 4294967279 = m2 := ⟨_, rfl⟩
    have nb : Nat.blt m1.natAbs 18446744073709551616 = true := by
      have : m1.natAbs < 18446744073709551616 := by omega
      exact Nat.ble_eq_true_of_le this
    have n1 : decide (0 < n) = true := decide_eq_true (by omega)
    have w1 : (bnd64 104729 || bnd64 (c + 1)) = true := by
      have : bnd64 104729 = true := by decide
      rw [this]; rfl
    have w2 : ∀ i, (bnd64 i || bnd64 69621) = true := fun i => by
      have : bnd64 69621 = true := by decide
      rw [this]; simp
    refine ⟨((m2 / 64 * 69621 + m2) % 4294967231 / 8) % n, row, Int.emod_nonneg _ (by omega), Int.emod_lt_of_pos _ (by omega), rfl, ?_⟩
    have d1 : decide ((0 : Int) < 4294967291) = true := by decide
    have d2 : decide ((0 : Int) < 4294967279) = true := by decide
    have d3 : (decide ((0 : Int) < 64) && decide ((64 : Int) < 1073741824)) = true := by decide
    have d4 : decide ((0 : Int) < 4294967231) = true := by decide
    have d5 : (decide ((0 : Int) < 8) && decide ((8 : Int) < 1073741824)) = true := by decide
    have d6 : (decide ((0 : Int) ≤ 5) && (decide ((5 : Int) ≤ 1000000) && true)) = true := by decide
    simp only [mSeq, mIfS, mTest, mSetSub, mSet, mNext, mRet, liftE, mBin, mV, mC, R.bind, List.getElem?_cons_zero, List.getElem?_cons_succ, List.set_cons_zero, List.set_cons_succ, oI0, oI, b1, Bool.false_eq_true, if_false, if_true, dIx, asRd, h1t, z2, dMul, w1, dAdd, d1, e1, nb, d6, e2, d2, d3, w2, d4, d5, n1, fin]
    congr 1
    have : h1.set r (.lst (row.map D.int)) = h1 := by
      apply List.ext_getElem?
      intro i
      by_cases e : r = i
      · subst e
        have lr1 : r < h1.length := (List.getElem?_eq_some_iff.mp h1r).1
        rw [List.getElem?_set_self lr1, h1r]
      · rw [List.getElem?_set_ne e]
    rw [this]
theorem Town.next {h : LH} {t r : Nat} {row row' : List Int} {c : Int} (T : Town h t r row c) (hl : row'.length = row.length) : Town ((h.set t (.lst [.ref r, .int (c + 1)])).set r (.lst (row'.map D.int))) t r row' (c + 1) := by
  obtain ⟨ht, hr, hne, htr⟩ := T
  have lt : t < h.length := (List.getElem?_eq_some_iff.mp ht).1
  have lr : r < h.length := (List.getElem?_eq_some_iff.mp hr).1
  refine ⟨?_, ?_, ?_, htr⟩
  · rw [List.getElem?_set_ne (Ne.symm htr), List.getElem?_set_self lt]
  · rw [List.getElem?_set_self (by simpa using lr)]
  · intro e; subst e; simp at hl; exact hne (List.length_eq_zero_iff.mp hl.symm)
/-! ### picks, towns -/
def pickB (dm : FM) : SM := mRet (mBin dIx (mV 1) (mCallK gd0 dm (mCons (mV 0) (mCons (mCall (f1 dLen) (mCons (mV 1) (mNil))) (mNil))) (mNil)))
def pickM : FM := runA (fm 2 (pickB (runA drawM)))
theorem Town.get {h : LH} {t r : Nat} {row row' : List Int} {c c' : Int} (T : Town h t r row c) {p : Nat} {o : LO} (hp : h[p]? = some o) (h1 : p ≠ t) (h2 : p ≠ r) : ((h.set t (.lst [.ref r, .int c'])).set r (.lst (row'.map D.int)))[p]? = some o := by
  rw [List.getElem?_set_ne (Ne.symm h2), List.getElem?_set_ne (Ne.symm h1)]; exact hp
theorem pick_ok {h : LH} {t r p : Nat} {row : List Int} {c : Int} {xs : List D} (T : Town h t r row c) (hp : h[p]? = some (.lst xs)) (h1 : p ≠ t) (h2 : p ≠ r) (hx : 1 ≤ xs.length) (hx2 : xs.length < 1073741824) :
    ∃ (v : Nat) (x : D) (row' : List Int), xs[v]? = some x ∧ row'.length = row.length ∧ pickM [.ref t, .ref p] h = .ok x ((h.set t (.lst [.ref r, .int (c + 1)])).set r (.lst (row'.map D.int))) := by
  obtain ⟨v, row', v0, vn, hl, e⟩ := draw_ok (n := (xs.length : Int)) T (by omega) (by omega)
  obtain ⟨k, rfl⟩ : ∃ k : Nat, v = (k : Int) := ⟨v.toNat, (Int.toNat_of_nonneg v0).symm⟩
  have kl : k < xs.length := by omega
  have hk : xs[k]? = some xs[k] := List.getElem?_eq_getElem kl
  refine ⟨k, xs[k], row', hk, hl, ?_⟩
  have s1 : pickM [.ref t, .ref p] h = fin (pickB (runA drawM) [some (.ref t), some (.ref p)] h) := rfl
  have s2 : runA drawM [.ref t, .int xs.length] h = drawM [.ref t, .int xs.length] h := rfl
  rw [s1]
  have g := T.get (row' := row') (c' := c + 1) hp h1 h2
  have a1 := atI_lt hk
  simp only [pickB, mRet, liftE, mBin, mV, R.bind, mCallK, mCons, mNil, mCall, f1, dLen, List.getElem?_cons_zero, List.getElem?_cons_succ, hp, gd0, s2, e, dIx, asRd, g, a1, fin]
end Rf
set_option Elab.async false
set_option linter.all false
set_option maxRecDepth 100000
set_option maxHeartbeats 200000
set_option autoImplicit false
/-! towns, the law's end. -/
namespace Rf
open PySem PySem.Spec L2
def townB : SM := mRet (mLst (mCons (mIf (mTest (mBin dNe (mV 0) (mLst (mNil)))) (mCall (f1 dList) (mCons (mV 0) (mNil))) (mLst (mCons (mC (.int 0)) (mNil)))) (mCons (mC (.int 0)) (mNil))))
def townM : FM := runA (fm 1 townB)
theorem pdA_int {f : D → Option PyData} (hf : ∀ i, f (.int i) = some (.int i)) : ∀ ns : List Int, pdA f (ns.map D.int) = some (ns.map PyData.int)
  | [] => rfl
  | n :: ns => by
    rw [List.map_cons, pdA, hf, pdA_int hf ns]; rfl
theorem canLayI : ∀ ns : List Int, PyData.canLayAll0 (ns.map PyData.int) = true
  | [] => by rw [List.map_nil, PyData.canLayAll0]
  | n :: ns => by rw [List.map_cons, PyData.canLayAll0, canLayI ns, PyData.canLay0]; rfl
theorem depthI : ∀ ns : List Int, PyData.depthAll (ns.map PyData.int) = 0
  | [] => by rw [List.map_nil, PyData.depthAll]
  | n :: ns => by rw [List.map_cons, PyData.depthAll, depthI ns, PyData.depth]; rfl
theorem pd_rol (h : LH) (n : Nat) (xs : List D) : pd h (n + 1) (.rol xs) = (pdA (pd h n) xs).map .list := by rw [pd]
theorem pd_ref (h : LH) (n k : Nat) : pd h (n + 1) (.ref k) = (asRd (.ref k) h).bind fun xs => (pdA (pd h n) xs).map .list := by rw [pd]
theorem pd_int (h : LH) (n : Nat) (i : Int) : pd h (n + 1) (.int i) = some (.int i) := by rw [pd]
theorem ne_script (ns : List Int) (h : LH) : dNe (.rol (ns.map D.int)) (.ref h.length) (h ++ [.lst []]) = .ok (.bl (!ns.isEmpty)) (h ++ [.lst []]) := by
  have e1 : (h ++ [LO.lst []])[h.length]? = some (.lst []) := by simp
  have p1 : pd (h ++ [.lst []]) 66 (.rol (ns.map D.int)) = some (.list (ns.map PyData.int)) := by
    rw [show (66 : Nat) = 65 + 1 from rfl, pd_rol, pdA_int (fun i => by rw [show (65 : Nat) = 64 + 1 from rfl, pd_int])]; rfl
  have p2 : pd (h ++ [.lst []]) 66 (.ref h.length) = some (.list []) := by
    rw [show (66 : Nat) = 65 + 1 from rfl, pd_ref]
    simp only [asRd, e1, Option.bind_some, pdA, Option.map_some]
  have sh : SeqAt.shaped (.list (ns.map PyData.int)) = true := by
    unfold SeqAt.shaped
    rw [PyData.canLay0, canLayI, PyData.depth, depthI]; rfl
  have sh2 : SeqAt.shaped (.list []) = true := by
    unfold SeqAt.shaped
    rw [PyData.canLay0, PyData.canLayAll0, PyData.depth, PyData.depthAll]; rfl
  have ev : PyData.eqv (.list (ns.map PyData.int)) (.list []) = ns.isEmpty := by
    cases ns with
    | nil => rw [List.map_nil, PyData.eqv, PyData.eqvAll]; rfl
    | cons n ns => rw [List.map_cons, PyData.eqv, PyData.eqvAll]; rfl
  have es : eqS (.rol (ns.map D.int)) (.ref h.length) = none := rfl
  simp only [dNe, eqD, es, p1, p2, sh, sh2, ev, Bool.and_self, if_true]
theorem town_ok (ns : List Int) : ∃ row : List Int, row ≠ [] ∧ townM [.rol (ns.map D.int)] [] = .ok (.ref 2) [.lst [], .lst (row.map D.int), .lst [.ref 1, .int 0]] := by
  have s1 : townM [.rol (ns.map D.int)] [] = fin (townB [some (.rol (ns.map D.int))] []) := rfl
  have e := ne_script ns []
  have e' : dNe (.rol (ns.map D.int)) (.ref 0) [.lst []] = .ok (.bl (!ns.isEmpty)) [.lst []] := e
  cases ns with
  | nil =>
    refine ⟨[0], by simp, ?_⟩
    rw [s1]
    have z : (szOk [D.ref 1, D.int 0].length) = true := rfl
    simp only [townB, mRet, liftE, mLst, mCons, mNil, mIf, mTest, mBin, mV, mC, R.bind, List.getElem?_cons_zero, List.length_nil, List.nil_append, e', List.map_nil, List.isEmpty_nil, Bool.not_true, Bool.false_eq_true, if_false, fin]
    rfl
  | cons n ns =>
    refine ⟨n :: ns, by simp, ?_⟩
    rw [s1]
    have z0 : szOk 0 = true := rfl
    simp only [townB, mRet, liftE, mLst, mCons, mNil, mIf, mTest, mBin, mV, mC, R.bind, List.getElem?_cons_zero, List.length_nil, List.nil_append, z0, if_true, e', List.isEmpty_cons, Bool.not_false, mCall, f1, dList, fin]
    rfl
/-! ### what came of a part -/
def isNx : SR → Bool
  | .nx _ _ => true
  | _ => false
def hOf : SR → LH
  | .nx _ h => h
  | _ => []
def lsOf : SR → Ls
  | .nx l _ => l
  | _ => []
theorem nx_eq {r : SR} (h : isNx r = true) : r = .nx (lsOf r) (hOf r) := by
  cases r <;> first | rfl | cases h
def isRtT : SR → Bool
  | .rt (.bl true) _ => true
  | _ => false
theorem rtT_eq {r : SR} (h : isRtT r = true) : ∃ h', fin r = .ok (.bl true) h' := by
  cases r with
  | rt d h' =>
    cases d with
    | bl b => cases b with
      | true => exact ⟨h', rfl⟩
      | false => cases h
    | _ => cases h
  | _ => cases h
/-- the law's promise from its mirror -/
theorem law_of {K : PySem.W.Frag} {m : FM} (hm : ∀ ns : List Int, ∃ h', m [.rol (ns.map D.int)] [] = .ok (.bl true) h') (H : Hp) (a : Addr) (ns : List Int) (hT : TabOk K [] H) (hF : SqF K H a (ns.map V.int)) : spOf K 1 m [.ref a] H (fun v _ => v = .bl true) fun _ _ _ => False := by
  obtain ⟨h', e⟩ := hm ns
  have rl : ∀ ns : List Int, RelDs K [] H (ns.map D.int) (ns.map V.int) := fun ns => by
    induction ns with
    | nil => exact .nil
    | cons n ns ih => exact .cons (.int n) ih
  refine ⟨[], [], [.rol (ns.map D.int)], Rep.none hT, .cons (.rol hF (rl ns)) .nil, rfl, ?_⟩
  rw [e]
  intro mp' H' v ex r rv
  cases rv; rfl
/-- the law lets nothing out -/
def CXn : CXT := fun _ _ _ _ _ _ => False
theorem fn_no {P : Program} {w : World} {K : PySem.W.Frag} {mg : Str → Option Value} {base : Heap} {k : Nat} {f : Addr} {fd : FuncData} {ps : List Str} {sp : Sp} (F : FnOk P w K mg base (L2.CX P w) k f fd ps sp) : FnOk P w K mg base CXn k f fd ps (fun vs H Q _ => sp vs H Q fun _ _ _ => False) :=
  ⟨fun vs H Q E h => F.len vs H Q _ h, fun A outer s H args us vs Q E hr he hb hv hs => codeAny_mono (F.run A outer s H args us vs Q (fun _ _ _ => False) hr he hb hv hs) fun r s' h => by
    cases r with
    | error e => obtain ⟨_, _, _, _, _, _, _, _, _, _, _, _, z⟩ := h; exact z.elim
    | ok fl => cases fl <;> exact h⟩
/-- what is asked of the law: the script may be any list that is not handed on -/
def spLaw (K : PySem.W.Frag) : Sp := fun vs H Q _ => ∃ (a : Addr) (ns : List Int), vs = [.ref a] ∧ TabOk K [] H ∧ SqL K H a (ns.map V.int) ∧ ∀ H', Q (.bl true) H'
theorem fn_law {P : Program} {w : World} {K : PySem.W.Frag} {mg : Str → Option Value} {base : Heap} {k : Nat} {f : Addr} {fd : FuncData} {x : Str} {m : FM} (F : FnRef P w K mg base k f fd [x] m) (hm : ∀ ns : List Int, ∃ h', m [.rol (ns.map D.int)] [] = .ok (.bl true) h') : FnOk P w K mg base CXn k f fd [x] (spLaw K) := by
  have G := fn_no F
  refine ⟨fun vs H Q E h => by obtain ⟨a, ns, rfl, _⟩ := h; rfl, fun A outer s H args us vs Q E hr he hb hv hs => ?_⟩
  obtain ⟨a, ns, rfl, hT, hS, hQ⟩ := hs
  have go : ∀ H0 : Hp, Env0 P w K mg base A outer s H0 → TabOk K [] H0 → SqF K H0 a (ns.map V.int) → codeAny (model P w) A (.call (.ref f) args) (CR CXn outer P w H0 s Q E) s := fun H0 he0 ht hf =>
    codeAny_mono (G.run A outer s H0 args us [.ref a] (fun v _ => v = .bl true) E hr he0 hb hv (law_of hm H0 a ns ht hf)) fun r s' h => by
      cases r with
      | error e => exact h
      | ok fl =>
        cases fl with
        | ret u =>
          obtain ⟨v, H', h1, h2, h3, h4, h5, h6⟩ := h
          have h6 : v = .bl true := h6
          subst h6
          exact ⟨_, H', h1, h2, h3, h4, h5, hQ H'⟩
        | _ => exact h
  rcases hS with (hS | ⟨o, hS⟩) | hS
  · obtain ⟨hz, its, n, hi, ho⟩ := he.hok a _ hS
    have same : ∀ b u, H b = some u → b ≠ a → upd H a (.frz { cls := .type "list", data := .seq its.toArray n } (.lst (ns.map V.int))) b = some u := fun b u e ne => by rw [upd_ne ne]; exact e
    have no : ∀ b, H b = none → upd H a (.frz { cls := .type "list", data := .seq its.toArray n } (.lst (ns.map V.int))) b = none := fun b e => by rw [upd_ne (fun z => by rw [z, hS] at e; cases e)]; exact e
    have he' : Env0 P w K mg base A outer s (upd H a (.frz { cls := .type "list", data := .seq its.toArray n } (.lst (ns.map V.int)))) := by
      refine ⟨he.frames, he.mod, fun b ob e => ⟨(he.bs b ob e).1, no b (he.bs b ob e).2⟩, he.bsz, he.funs, fun b hb => no b (he.frf b hb), fun b u e => ?_, he.bare⟩
      by_cases hba : b = a
      · subst hba
        rw [upd_same] at e
        cases e
        exact ⟨ho, hz, its, n, hi, ho⟩
      · rw [upd_ne hba] at e
        exact (he.hok b u e).stay (fun _ _ _ e => e) (fun c e => same c _ e fun z => by rw [z, hS] at e; cases e) (fun c xs e => same c _ e fun z => by rw [z, hS] at e; cases e)
    refine codeAny_mono (go _ he' (hT.put hS (fun _ z => by cases z) (fun _ z => by cases z)) (.inl ⟨_, upd_same⟩)) fun r s' h => ?_
    cases r with
    | error e => exact h
    | ok fl =>
      cases fl with
      | ret u =>
        obtain ⟨v, H', h1, h2, h3, h4, h5, h6⟩ := h
        refine ⟨v, H', h1, h2, ⟨fun b ob e n => h3.keep b ob e (no b n), fun b ob e n => h3.slot b ob e (no b n), fun b ob e n => h3.free b ob e (no b n), h3.there, fun b xs e => h3.tups b xs (same b _ e fun z => by rw [z, hS] at e; cases e), fun b ob u e => h3.frzs b ob u (same b _ e fun z => by rw [z, hS] at e; cases e), fun b ps e => h3.tbls b ps (same b _ e fun z => by rw [z, hS] at e; cases e)⟩, h4, h5, h6⟩
      | _ => exact h
  · exact go H he hT (.inl ⟨o, hS⟩)
  · exact go H he hT (.inr hS)
end Rf
set_option Elab.async false
set_option linter.all false
set_option maxRecDepth 100000
set_option maxHeartbeats 400000
set_option autoImplicit false
/-! loops told at once. -/
namespace Rf
open PySem PySem.Spec L2
theorem liStr_at {l p s : List Nat} {c : Nat} (e : l = p ++ c :: s) (h : LH) : liStr l p.length h = .item (.str [c]) := by
  unfold liStr
  have : l[p.length]? = some c := by rw [e]; simp
  rw [this]
theorem liStr_end {l : List Nat} (h : LH) : liStr l l.length h = .done := by
  unfold liStr
  have : l[l.length]? = none := by simp
  rw [this]
/-- for sign in text: S tells the names behind each beginning -/
theorem for_str {g : GM} {b : SM} {l : List Nat} {h : LH} (S : List Nat → Ls) (hs : ∀ p c s, l = p ++ c :: s → ∃ ls1, g (.str [c]) (S p) = some ls1 ∧ b ls1 h = .nx (S (p ++ [c])) h) :
    ∀ (s p : List Nat) (n : Nat), l = p ++ s → s.length < n → mForGo g b (liStr l) n p.length (S p) h = .nx (S l) h
  | [], p, n, e, hn => by
    obtain ⟨n, rfl⟩ : ∃ k, n = k + 1 := ⟨n - 1, by simp at hn; omega⟩
    have ep : l = p := by simpa using e
    subst ep
    unfold mForGo
    rw [liStr_end]
  | c :: s, p, n, e, hn => by
    obtain ⟨n, rfl⟩ : ∃ k, n = k + 1 := ⟨n - 1, by simp at hn; omega⟩
    obtain ⟨ls1, h1, h2⟩ := hs p c s e
    have ih := for_str S hs s (p ++ [c]) n (by rw [e]; simp) (by simp at hn; omega)
    unfold mForGo
    rw [liStr_at e]
    simp only [h1, h2]
    rw [show p.length + 1 = (p ++ [c]).length by simp]
    exact ih
/-- [f(sign) for sign in text] -/
theorem lc_str {g : GM} {te : EM} {l : List Nat} {h : LH} {ls0 : Ls} {f : Nat → D} (hs : ∀ c ∈ l, ∃ ls1, g (.str [c]) ls0 = some ls1 ∧ te ls1 h = .ok (f c) h) (hl : l.length ≤ 16777216) :
    ∀ (s p : List Nat) (n : Nat), l = p ++ s → s.length < n → mLcGo g mYes te (liStr l) ls0 n p.length (p.map f) h = .ok (l.map f) h
  | [], p, n, e, hn => by
    obtain ⟨n, rfl⟩ : ∃ k, n = k + 1 := ⟨n - 1, by simp at hn; omega⟩
    have ep : l = p := by simpa using e
    subst ep
    unfold mLcGo
    rw [liStr_end]
  | c :: s, p, n, e, hn => by
    obtain ⟨n, rfl⟩ : ∃ k, n = k + 1 := ⟨n - 1, by simp at hn; omega⟩
    obtain ⟨ls1, h1, h2⟩ := hs c (by rw [e]; simp)
    have ih := lc_str hs hl s (p ++ [c]) n (by rw [e]; simp) (by simp at hn; omega)
    have hz : szOk ((p.map f).length + 1) = true := by
      have : l.length = p.length + (s.length + 1) := by rw [e]; simp
      exact Nat.ble_eq_true_of_le (by simp; omega)
    unfold mLcGo
    rw [liStr_at e]
    simp only [h1, mYes, h2, hz, if_true]
    rw [show p.length + 1 = (p ++ [c]).length by simp, show p.map f ++ [f c] = (p ++ [c]).map f by simp]
    exact ih
theorem runA_pure {m : FM} {ds : List D} {d : D} {h h' : LH} (hp : pureDs ds = true) (e : m ds [] = .ok d h') (hd : pureD d = true) : runA m ds h = .ok d h := by
  unfold runA
  rw [if_pos hp, e]
  simp only [hd, if_true]
theorem all_true {α : Type} (l : List α) : allB (l.map fun _ => D.bl true) = some (l.map fun _ => true) := by
  induction l with
  | nil => rfl
  | cons a l ih => rw [List.map_cons, allB, ih]; rfl
theorem cut_last {l : List Nat} {c : Nat} : cutL (l ++ [c]) (some (-1)) none = [c] := by
  unfold cutL HT.sIx
  have h1 : ((-1 : Int) + ((l ++ [c]).length : Int)).toNat = l.length := by simp; omega
  simp only [show ((-1 : Int) < 0) from by decide, if_true, h1]
  simp
theorem cut_init {l : List Nat} {c : Nat} : cutL (l ++ [c]) none (some (-1)) = l := by
  unfold cutL HT.sIx
  have h1 : ((-1 : Int) + ((l ++ [c]).length : Int)).toNat = l.length := by simp; omega
  simp only [show ((-1 : Int) < 0) from by decide, if_true, h1]
  simp
theorem cut_nil : cutL ([] : List Nat) (some (-1)) none = [] := rfl
theorem atI_last {α : Type} {l : List α} {c : α} : atI (l ++ [c]) (-1) = some c := by
  unfold atI ixN
  have h2 : ¬ (0 : Int) ≤ -1 := by decide
  have h3 : -((l ++ [c]).length : Int) ≤ -1 := by simp; omega
  have h1 : ((-1 : Int) + ((l ++ [c]).length : Int)).toNat = l.length := by simp; omega
  simp only [h2, if_false, h3, if_true, h1, Option.bind_some]
  simp
/-! ### draws, told by what they keep -/
def Kp (t r : Nat) (h h' : LH) : Prop := ∀ (p : Nat) (o : LO), h[p]? = some o → p ≠ t → p ≠ r → h'[p]? = some o
theorem Kp.refl {t r : Nat} {h : LH} : Kp t r h h := fun _ _ h _ _ => h
theorem Kp.trans {t r : Nat} {h h1 h2 : LH} (a : Kp t r h h1) (b : Kp t r h1 h2) : Kp t r h h2 := fun p o e n1 n2 => b p o (a p o e n1 n2) n1 n2
theorem Kp.app {t r : Nat} {h more : LH} : Kp t r h (h ++ more) := fun p o e _ _ => by rw [List.getElem?_append_left (List.getElem?_eq_some_iff.mp e).1]; exact e
theorem Town.app {h more : LH} {t r : Nat} {row : List Int} {c : Int} (T : Town h t r row c) : Town (h ++ more) t r row c :=
  ⟨by rw [List.getElem?_append_left (List.getElem?_eq_some_iff.mp T.tn).1]; exact T.tn, by rw [List.getElem?_append_left (List.getElem?_eq_some_iff.mp T.rw_).1]; exact T.rw_, T.ne, T.tr⟩
theorem drawK {h : LH} {t r : Nat} {row : List Int} {c n : Int} (T : Town h t r row c) (hn : 1 ≤ n) (hn2 : n < 1073741824) :
    ∃ (v : Nat) (h' : LH) (row' : List Int), (v : Int) < n ∧ runA drawM [.ref t, .int n] h = .ok (.int v) h' ∧ Town h' t r row' (c + 1) ∧ Kp t r h h' ∧ h'.length = h.length := by
  obtain ⟨v, row', v0, vn, hl, e⟩ := draw_ok T hn hn2
  obtain ⟨k, rfl⟩ : ∃ k : Nat, v = (k : Int) := ⟨v.toNat, (Int.toNat_of_nonneg v0).symm⟩
  exact ⟨k, _, row', vn, e, T.next hl, fun p o hp h1 h2 => T.get hp h1 h2, by simp⟩
theorem pickK {h : LH} {t r p : Nat} {row : List Int} {c : Int} {xs : List D} (T : Town h t r row c) (hp : h[p]? = some (.lst xs)) (h1 : p ≠ t) (h2 : p ≠ r) (hx : 1 ≤ xs.length) (hx2 : xs.length < 1073741824) :
    ∃ (v : Nat) (x : D) (h' : LH) (row' : List Int), xs[v]? = some x ∧ pickM [.ref t, .ref p] h = .ok x h' ∧ Town h' t r row' (c + 1) ∧ Kp t r h h' ∧ h'.length = h.length := by
  obtain ⟨v, x, row', hv, hl, e⟩ := pick_ok T hp h1 h2 hx hx2
  exact ⟨v, x, _, row', hv, e, T.next hl, fun p o hp h1 h2 => T.get hp h1 h2, by simp⟩
theorem pickS {h : LH} {t r : Nat} {row : List Int} {c : Int} {al : List Nat} (T : Town h t r row c) (hx : 1 ≤ al.length) (hx2 : al.length < 1000000) :
    ∃ (x : Nat) (h' : LH) (row' : List Int), x ∈ al ∧ pickM [.ref t, .str al] h = .ok (.str [x]) h' ∧ Town h' t r row' (c + 1) ∧ Kp t r h h' ∧ h'.length = h.length := by
  obtain ⟨k, h', row', kn, e, T', kp, hl⟩ := drawK (n := (al.length : Int)) T (by omega) (by omega)
  have kl : k < al.length := by omega
  have hk : al[k]? = some al[k] := List.getElem?_eq_getElem kl
  refine ⟨al[k], h', row', List.mem_of_getElem? hk, ?_, T', kp, hl⟩
  have s1 : pickM [.ref t, .str al] h = fin (pickB (runA drawM) [some (.ref t), some (.str al)] h) := rfl
  have z : szOk al.length = true := Nat.ble_eq_true_of_le (by omega)
  rw [s1]
  have a1 := atI_lt hk
  simp only [pickB, mRet, liftE, mBin, mV, R.bind, mCallK, mCons, mNil, mCall, f1, dLen, List.getElem?_cons_zero, List.getElem?_cons_succ, gd0, z, if_true, e, dIx, a1, fin]
/-! ### a drawn word -/
def wordB : SM := mRet (mBM isStr dJoin (mC (.str [])) (mCons (mLc 100000 (imRange1 (mCons (mCallK gd0 (runA drawM) (mCons (mV 0) (mCons (mBin dAdd (mV 2) (mC (.int 1))) (mNil))) (mNil)) (mNil))) (gmName 3) (mYes) (mCallK gd0 pickM (mCons (mV 0) (mCons (mV 1) (mNil))) (mNil)) [3]) (mNil)))
def wordM : FM := runA (fm 4 wordB)
theorem liRange_at {lo : Int} {n i : Nat} (h : i < n) (hp : LH) : liRange lo n i hp = .item (.int (lo + i)) := by unfold liRange; rw [if_pos h]
theorem liRange_end {lo : Int} {n : Nat} (hp : LH) : liRange lo n n hp = .done := by unfold liRange; rw [if_neg (Nat.lt_irrefl _)]
theorem word_loop {t r : Nat} {al : List Nat} {m : D} (ha : 1 ≤ al.length) (ha2 : al.length < 1000000) (n : Nat) (hn : n ≤ 1000) : ∀ (k : Nat) (i fuel : Nat) (acc : List (List Nat)) (h : LH) (row : List Int) (c : Int), Town h t r row c → i + k = n → acc.length = i → k < fuel →
    ∃ (w : List Nat) (h' : LH) (row' : List Int) (c' : Int), w.length = k ∧ (∀ x ∈ w, x ∈ al) ∧ mLcGo (gmName 3) mYes (mCallK gd0 pickM (mCons (mV 0) (mCons (mV 1) (mNil))) (mNil)) (liRange 0 n) [some (.ref t), some (.str al), some m, none] fuel i (acc.map D.str) h = .ok ((acc ++ w.map fun x => [x]).map D.str) h' ∧ Town h' t r row' c' ∧ Kp t r h h' ∧ h'.length = h.length
  | 0, i, fuel, acc, h, row, c, T, e, ea, hf => by
    obtain ⟨fuel, rfl⟩ : ∃ j, fuel = j + 1 := ⟨fuel - 1, by omega⟩
    have : i = n := by omega
    subst this
    refine ⟨[], h, row, c, rfl, (by simp), ?_, T, .refl, rfl⟩
    unfold mLcGo
    rw [liRange_end]; simp
  | k + 1, i, fuel, acc, h, row, c, T, e, ea, hf => by
    obtain ⟨fuel, rfl⟩ : ∃ j, fuel = j + 1 := ⟨fuel - 1, by omega⟩
    obtain ⟨x, h1, row1, hx, ex, T1, kp1, hl1⟩ := pickS (al := al) T ha ha2
    obtain ⟨w, h', row', c', wl, wm, ew, T', kp', hl'⟩ := word_loop (m := m) ha ha2 n hn k (i + 1) fuel (acc ++ [[x]]) h1 row1 (c + 1) T1 (by omega) (by simp [ea]) (by omega)
    refine ⟨x :: w, h', row', c', by simp [wl], ?_, ?_, T', kp1.trans kp', hl'.trans hl1⟩
    · intro y hy
      rcases List.mem_cons.mp hy with z | z
      · rw [z]; exact hx
      · exact wm y z
    · have hz : szOk ((acc.map D.str).length + 1) = true := Nat.ble_eq_true_of_le (by simp; omega)
      unfold mLcGo
      rw [liRange_at (by omega)]
      simp only [gmName, List.set_cons_zero, List.set_cons_succ, mYes, mCallK, mCons, mNil, mV, R.bind, List.getElem?_cons_zero, List.getElem?_cons_succ, gd0, ex, hz, if_true]
      have e1 : acc.map D.str ++ [D.str [x]] = (acc ++ [[x]]).map D.str := by simp
      rw [e1]
      have e2 : acc ++ (x :: w).map (fun x => [x]) = (acc ++ [[x]]) ++ w.map fun x => [x] := by simp
      rw [e2]
      exact ew
theorem allS_map (ss : List (List Nat)) : allS (ss.map D.str) = some ss := by
  induction ss with
  | nil => rfl
  | cons a l ih => rw [List.map_cons, allS, ih]; rfl
theorem join_signs : ∀ w : List Nat, joinT [] (w.map fun x => [x]) = w
  | [] => rfl
  | [x] => rfl
  | x :: y :: r => by
    have := join_signs (y :: r)
    show [x] ++ [] ++ joinT [] ((y :: r).map fun x => [x]) = _
    rw [this]; rfl
theorem sum_ones (w : List Nat) : ((w.map fun x => [x]).map (·.length)).sum = w.length := by
  induction w with
  | nil => rfl
  | cons a l ih => rw [List.map_cons, List.map_cons, List.sum_cons, ih]; simp; omega
theorem word_ok {h : LH} {t r : Nat} {row : List Int} {c : Int} {al : List Nat} {most : Int} (T : Town h t r row c) (ha : 1 ≤ al.length) (ha2 : al.length < 1000000) (hm : 0 ≤ most) (hm2 : most < 1000) :
    ∃ (w : List Nat) (h' : LH) (row' : List Int) (c' : Int), (∀ x ∈ w, x ∈ al) ∧ (w.length : Int) ≤ most ∧ wordM [.ref t, .str al, .int most] h = .ok (.str w) h' ∧ Town h' t r row' c' ∧ Kp t r h h' := by
  obtain ⟨k, h1, row1, kn, ek, T1, kp1, hl1⟩ := drawK (n := most + 1) T (by omega) (by omega)
  obtain ⟨w, h2, row2, c2, wl, wm, ew, T2, kp2, hl2⟩ := word_loop (m := .int most) ha ha2 k (by omega) k 0 100000 [] h1 row1 (c + 1) T1 (by omega) rfl (by omega)
  refine ⟨w, h2 ++ [.lst (w.map fun x => .str [x])], row2, c2, wm, by omega, ?_, T2.app, (kp1.trans kp2).trans .app⟩
  have s1 : wordM [.ref t, .str al, .int most] h = fin (wordB [some (.ref t), some (.str al), some (.int most), none] h) := rfl
  rw [s1]
  have rg : rgOk (k : Int) = true := by
    unfold rgOk
    rw [decide_eq_true (by omega : -(2 ^ 62 : Int) ≤ k), decide_eq_true (by omega : (k : Int) < 2 ^ 62)]; rfl
  have tn : ((k : Int)).toNat = k := by omega
  have wp : wipeL [some (.ref t), some (.str al), some (.int most), none] [3] = [some (.ref t), some (.str al), some (.int most), none] := rfl
  have e0 : ([] : List (List Nat)).map D.str = [] := rfl
  rw [e0] at ew
  have mp : (([] : List (List Nat)) ++ w.map fun x => [x]).map D.str = w.map fun x => .str [x] := by simp
  rw [mp] at ew
  have gl : (h2 ++ [LO.lst (w.map fun x => .str [x])])[h2.length]? = some (.lst (w.map fun x => .str [x])) := by simp
  have al1 : allS (w.map fun x => D.str [x]) = some (w.map fun x => [x]) := by
    have := allS_map (w.map fun x => [x])
    rw [List.map_map] at this
    exact this
  have sz : Nat.ble (((w.map fun x => [x]).map (·.length)).sum + (w.map fun x => [x]).length * ([] : List Nat).length) 16777216 = true := by
    refine Nat.ble_eq_true_of_le ?_
    rw [sum_ones]; simp; omega
  simp only [wordB, mRet, liftE, mBM, mC, R.bind, isStr, if_true, mCons, mNil, mLc, imRange1, mCallK, mV, List.getElem?_cons_zero, List.getElem?_cons_succ, gd0, mBin, dAdd, ek, rg, tn, wp, ew, mkL, dJoin, asRd, gl, al1, sz, join_signs, fin]
/-- for i in range(n): what each turn keeps -/
theorem for_range {g : GM} {b : SM} {lo : Int} {n : Nat} (P : Ls → LH → Prop) (hs : ∀ (i : Int) ls h, P ls h → ∃ ls1 ls' h', g (.int i) ls = some ls1 ∧ b ls1 h = .nx ls' h' ∧ P ls' h') :
    ∀ (k i fuel : Nat) (ls : Ls) (h : LH), P ls h → i + k = n → k < fuel → ∃ ls' h', mForGo g b (liRange lo n) fuel i ls h = .nx ls' h' ∧ P ls' h'
  | 0, i, fuel, ls, h, p, e, hf => by
    obtain ⟨fuel, rfl⟩ : ∃ j, fuel = j + 1 := ⟨fuel - 1, by omega⟩
    have : i = n := by omega
    subst this
    exact ⟨ls, h, by unfold mForGo; rw [liRange_end], p⟩
  | k + 1, i, fuel, ls, h, p, e, hf => by
    obtain ⟨fuel, rfl⟩ : ∃ j, fuel = j + 1 := ⟨fuel - 1, by omega⟩
    obtain ⟨ls1, ls', h', e1, e2, p'⟩ := hs (lo + i) ls h p
    obtain ⟨ls2, h2, e3, p2⟩ := for_range (n := n) (lo := lo) P hs k (i + 1) fuel ls' h' p' (by omega) (by omega)
    refine ⟨ls2, h2, ?_, p2⟩
    unfold mForGo
    rw [liRange_at (show i < n by omega)]
    simp only [e1, e2]
    exact e3
/-- [x for x in xs if b(x)] over a list that stands -/
theorem lc_filter {g : GM} {tt : TM} {te : EM} {m : Nat} {xs : List D} {h : LH} {ls0 : Ls} {b : D → Bool} (hx : h[m]? = some (.lst xs)) (hl : xs.length ≤ 100000) (hs : ∀ d ∈ xs, ∃ ls1, g d ls0 = some ls1 ∧ tt ls1 h = .ok (b d) h ∧ te ls1 h = .ok d h) :
    ∀ (s p : List D) (fuel : Nat), xs = p ++ s → s.length < fuel → mLcGo g tt te (liList m) ls0 fuel p.length (p.filter b) h = .ok (xs.filter b) h
  | [], p, fuel, e, hf => by
    obtain ⟨fuel, rfl⟩ : ∃ j, fuel = j + 1 := ⟨fuel - 1, by simp at hf; omega⟩
    have ep : xs = p := by simpa using e
    subst ep
    unfold mLcGo
    have : liList m xs.length h = .done := by
      have : xs[xs.length]? = none := by simp
      simp only [liList, hx, liSeq, this]
    rw [this]
  | d :: s, p, fuel, e, hf => by
    obtain ⟨fuel, rfl⟩ : ∃ j, fuel = j + 1 := ⟨fuel - 1, by simp at hf; omega⟩
    obtain ⟨ls1, e1, e2, e3⟩ := hs d (by rw [e]; simp)
    have ih := lc_filter hx hl hs s (p ++ [d]) fuel (by rw [e]; simp) (by simp at hf; omega)
    have hL : liList m p.length h = .item d := by
      have : xs[p.length]? = some d := by rw [e]; simp
      simp only [liList, hx, liSeq, this]
    unfold mLcGo
    rw [hL]
    simp only [e1, e2, e3]
    have hz : szOk ((p.filter b).length + 1) = true := Nat.ble_eq_true_of_le (by
      have h1 : (p.filter b).length ≤ p.length := List.length_filter_le _ _
      have h2 : xs.length = p.length + (s.length + 1) := by rw [e]; simp
      omega)
    cases hb : b d with
    | true =>
      have ef : (p ++ [d]).filter b = p.filter b ++ [d] := by simp [hb]
      rw [ef, List.length_append] at ih
      simp only [e3, hz, if_true]
      exact ih
    | false =>
      have ef : (p ++ [d]).filter b = p.filter b := by simp [hb]
      rw [ef, List.length_append] at ih
      exact ih
theorem pd_str (h : LH) (n : Nat) (l : List Nat) : pd h (n + 1) (.str l) = some (.str ⟨l.toArray⟩) := by rw [pd]
theorem pdA_str {f : D → Option PyData} (hf : ∀ l, f (.str l) = some (.str ⟨l.toArray⟩)) : ∀ ss : List (List Nat), pdA f (ss.map D.str) = some (ss.map fun l => PyData.str ⟨l.toArray⟩)
  | [] => rfl
  | n :: ns => by
    rw [List.map_cons, pdA, hf, pdA_str hf ns]; rfl
def okT (l : List Nat) : Bool := l.all (· < 0x110000)
theorem okT_str {l : List Nat} (h : okT l = true) : PyData.canLay0 (.str ⟨l.toArray⟩) = true := by
  rw [PyData.canLay0]
  unfold PyData.strOk
  simpa [okT] using h
theorem canLayS : ∀ ss : List (List Nat), ss.all okT = true → PyData.canLayAll0 (ss.map fun l => PyData.str ⟨l.toArray⟩) = true
  | [], _ => by rw [List.map_nil, PyData.canLayAll0]
  | n :: ns, h => by
    rw [List.all_cons, Bool.and_eq_true] at h
    rw [List.map_cons, PyData.canLayAll0, canLayS ns h.2, okT_str h.1]; rfl
theorem depthS : ∀ ss : List (List Nat), PyData.depthAll (ss.map fun l => PyData.str ⟨l.toArray⟩) = 0
  | [] => by rw [List.map_nil, PyData.depthAll]
  | n :: ns => by rw [List.map_cons, PyData.depthAll, depthS ns, PyData.depth]; rfl
theorem eqvS : ∀ ss : List (List Nat), PyData.eqvAll (ss.map fun l => PyData.str ⟨l.toArray⟩) (ss.map fun l => PyData.str ⟨l.toArray⟩) = true
  | [] => by rw [List.map_nil, PyData.eqvAll]
  | n :: ns => by rw [List.map_cons, PyData.eqvAll, eqvS ns, PyData.eqv]; simp
/-- two lists of the same texts are equal -/
theorem eq_texts {h : LH} {a b : Nat} {ss : List (List Nat)} (ha : h[a]? = some (.lst (ss.map D.str))) (hb : h[b]? = some (.lst (ss.map D.str))) (ho : ss.all okT = true) : dEq (.ref a) (.ref b) h = .ok (.bl true) h := by
  have p : ∀ c, h[c]? = some (.lst (ss.map D.str)) → pd h 66 (.ref c) = some (.list (ss.map fun l => PyData.str ⟨l.toArray⟩)) := fun c hc => by
    rw [show (66 : Nat) = 65 + 1 from rfl, pd_ref]
    simp only [asRd, hc, Option.bind_some]
    rw [pdA_str (fun l => by rw [show (65 : Nat) = 64 + 1 from rfl, pd_str])]; rfl
  have sh : SeqAt.shaped (.list (ss.map fun l => PyData.str ⟨l.toArray⟩)) = true := by
    unfold SeqAt.shaped
    rw [PyData.canLay0, canLayS ss ho, PyData.depth, depthS]; rfl
  have ev : PyData.eqv (.list (ss.map fun l => PyData.str ⟨l.toArray⟩)) (.list (ss.map fun l => PyData.str ⟨l.toArray⟩)) = true := by rw [PyData.eqv, eqvS]
  have es : eqS (.ref a) (.ref b) = none := rfl
  simp only [dEq, eqD, es, p a ha, p b hb, sh, ev, Bool.and_self, if_true]
end Rf
set_option Elab.async false
set_option linter.all false
set_option maxRecDepth 100000
set_option maxHeartbeats 400000
set_option autoImplicit false
/-! keyword defaults; classes. -/
namespace Rf
open PySem PySem.Spec L2
theorem gval_mg {K : PySem.W.Frag} {mg : Str → Option Value} {h : Heap} {x : Str} {u : Value} (X : K.In h) (G : h.Ns mainGlobals mg) (e : gval x K = some u) : mg x = some u := by
  unfold gval at e
  cases q : PySem.W.nsIn K mainGlobals x with
  | none => rw [q] at e; cases e
  | some o =>
    cases o with
    | none => rw [q] at e; cases e
    | some w => rw [q] at e; cases e; exact PySem.W.mg_of X G q
/-- keyword-only parameters, those from the a-th on lacking ms.length of them -/
theorem bindD_kd {K : PySem.W.Frag} {x qual : Str} {params : Arguments} {body : List Stmt} {scope : Scope} {kws : List (Str × V)} {f : Addr} {fd : FuncData} {ps ks : List Str} (n a : Nat) (ms : List (Str × V)) (dm : List D)
    (F : FunD K x qual params body scope [] kws f fd) (hk : kws ≠ []) (hms : ∀ q ∈ ms, q ∈ kws) (hdm : ∀ mp H, RelDs K mp H dm (ms.map (·.2))) (hps : n + (ks.length + ms.length) = ps.length)
    (h : ∀ (D : Addr) (doc pm : Value) (an : Option Addr) (cdv ct : Value) (us mv ws : List Value), us.length = n → mv.length = ms.length → ws.length = ks.length →
      KwChain D ((ms.map (·.1)).zip mv) (bindArgs (PySem.W.fnOf x qual params body scope .none (.ref D) doc pm an cdv ct) ⟨us, ks.zip ws⟩) (ps.zip (us ++ (ws.take a ++ (mv ++ ws.drop a))))) :
    BindD K fd ps n ks (fun ds es => ds ++ (es.take a ++ (dm ++ es.drop a))) := by
  obtain ⟨oc, od, dV, kV, doc, pm, an, cdv, ct, osl, rfl, lk, hcd, hD, hK⟩ := F.ex
  have eD : dV = .none := by
    rcases hD with ⟨_, e⟩ | ⟨e, _⟩
    · exact e
    · exact absurd rfl e
  subst eD
  rcases hK with e | ⟨D, rfl, hq⟩
  · exact absurd e hk
  · obtain ⟨mv, hl, rk, hks⟩ := kwd_vals (ms := ms) fun q hm => hq q (hms q hm)
    refine ⟨fun us ws => us ++ (ws.take a ++ (mv ++ ws.drop a)), fun vs zs => vs ++ (zs.take a ++ (ms.map (·.2) ++ zs.drop a)), fun s us ws X l1 l2 => BindsTo.of_looks fun M => KwChain.looks X hks (h D doc pm an cdv ct us mv ws l1 hl l2), fun vs us zs ws r1 r2 => r1.append ((r2.take a).append (rk.append (r2.drop a))), fun mp H ds vs es zs h1 h2 r1 r2 => ⟨r1.append ((r2.take a).append ((hdm mp H).append (r2.drop a))), ?_⟩⟩
    have hl2 : dm.length = ms.length := by have := (hdm mp H).length; simpa using this
    rw [← hps]
    simp [List.length_append, h1, h2, hl2, List.length_take, List.length_drop]
    omega
/-! ### names of the module that hold data; isinstance(e, (T, U)) -/
section
variable {X : Cx} {W : WX} {e : Expr} {me : EM} {p p2 pos : Pos}
theorem re_gdat {x : Str} {d : D} {pos : Pos} (hg : Gl X x) (hp : ∃ h : Heap, X.K.In h ∧ h.Ns mainGlobals X.mg) (hx : (Fx.dat (gval x) d).ok X.K = true) (hd : (x == ("__debug__" : Str)) = false := by decide) : RE X W (.Name x pos) (mC d) := by
  obtain ⟨h, K1, G⟩ := hp
  obtain ⟨u, v, e, r, q⟩ := datB_ok (show datB (gval x) d X.K = true from hx)
  exact re_glob (pe_glob hg (gval_mg K1 G e) r hd) q
theorem re_isiTT {t1 t2 : Str} {n1 n2 : String} {p3 p4 : Pos} {x1} {tab : List (Tg × Bool)} (he : RE X W e me) (hg : Gl X "isinstance") (hm : X.mg "isinstance" = none) (hg1 : Gl X t1) (hm1 : X.mg t1 = none) (hv1 : bootBuiltins t1 = some (.type n1)) (hg2 : Gl X t2) (hm2 : X.mg t2 = none) (hv2 : bootBuiltins t2 = some (.type n2))
    (hx : (Fx.kit2 n1 n2 tab).ok X.K = true) (hI : ∀ c b, luk tab (.ins c) = some b → InsOk X.K (clsA X.K c)) (hE : ∀ c, luk tab (.exc c) = none)
    (q1 : t1 ≠ "__name__" := by decide) (q2 : (t1 == ("__debug__" : Str)) = false := by decide) (q3 : t2 ≠ "__name__" := by decide) (q4 : (t2 == ("__debug__" : Str)) = false := by decide)
    (hs : starEach [e, .Tuple [.Name t1 p3, .Name t2 p4] x1 p2] X.env = (false, eval e X.env) :: starEach [.Tuple [.Name t1 p3, .Name t2 p4] x1 p2] X.env := by rfl)
    (hs2 : starEach [.Tuple [.Name t1 p3, .Name t2 p4] x1 p2] X.env = (false, eval (.Tuple [.Name t1 p3, .Name t2 p4] x1 p2) X.env) :: starEach [] X.env := by rfl)
    (hs3 : starEach [.Name t1 p3, .Name t2 p4] X.env = (false, eval (.Name t1 p3) X.env) :: starEach [.Name t2 p4] X.env := by rfl) (hs4 : starEach [.Name t2 p4] X.env = (false, eval (.Name t2 p4) X.env) :: starEach [] X.env := by rfl)
    (hpl : (backTo pos (starEach [.Tuple [.Name t1 p3, .Name t2 p4] x1 p2] X.env)).any (·.1) = false := by rfl) :
    RE X W (.Call (.Name "isinstance" p) [e, .Tuple [.Name t1 p3, .Name t2 p4] x1 p2] [] pos) (mIsi (luk tab) me) :=
  re_isi2 he (pe_bltn (v := .ty n1) hg1 hm1 hv1 rfl q1 q2) (pe_bltn (v := .ty n2) hg2 hm2 hv2 rfl q3 q4) hg hm (kit2_ok hx) hI hE hs hs2 hs3 hs4 hpl
end
/-! ### methods, instances, by name -/
def CalM (P : Program) (w : World) (K : PySem.W.Frag) (mg : Str → Option Value) (base : Heap) (k c : Nat) (m : Str) (ps : List Str) (mf : FM) : Prop :=
  ∃ fd, FnRef P w K mg base k (He.ma K (clsA K c) m) fd ps mf ∧ Binds K fd ps [] ∧ Cls K (clsA K c) ∧ Meth K (clsA K c) m (He.ma K (clsA K c) m)
/-- C(..): the init, bound so -/
def CalN (P : Program) (w : World) (K : PySem.W.Frag) (mg : Str → Option Value) (base : Heap) (k c : Nat) (x : Str) (ps : List Str) (n : Nat) (ks : List Str) (gd : List D → List D → List D) (mf : FM) : Prop :=
  ∃ fd, FnRef P w K mg base k (He.ma K (clsA K c) "__init__") fd ps mf ∧ BindD K fd ps (n + 1) ks gd ∧ Mk K (clsA K c) (He.ma K (clsA K c) "__init__") ∧ mg x = some (.ref (clsA K c))
section
variable {X : Cx} {W : WX} {k n c : Nat} {ps ks : List Str} {x m : Str} {p pos apos : Pos} {e o : Expr} {es : List Expr} {kws : List Keyword} {mo : EM} {ma mk : AM} {gd : List D → List D → List D} {mf : FM}
theorem re_methC {pl : Sem Bool} (C : CalM X.prog X.w X.K X.mg X.base k c m ps mf) (hr : Room k X.A) (tkx : Takes X W) (hnm : ∀ i, nm i ≠ m) (ho : RE X W o mo) (ha : RA X W (e :: es) ma)
    (hn : (e :: es).length + 1 = ps.length := by rfl) (hst : starEach (e :: es) X.env = (false, eval e X.env) :: starEach es X.env := by rfl) (hpl : (backTo pos (starEach es X.env)).any (·.1) = false := by rfl)
    (ht : eval (.Call (.Attribute o m apos) (e :: es) [] pos) X.env = (do
      let ov ← eval o X.env
      standAt apos.atName
      let (f, first) ← holding [ov] (getMethod ov m pl)
      callWith pos f first (backTo pos (starEach (e :: es) X.env)) (backToKw pos (keywordEach [] X.env))) := by rfl) :
    RE X W (.Call (.Attribute o m apos) (e :: es) [] pos) (mMeth c mf mo ma) := by
  obtain ⟨fd, F, hb, hc, hm⟩ := C
  exact re_meth ho hc hm hnm F hr hb tkx ha hn hst hpl ht
theorem re_methC0 {pl : Sem Bool} (C : CalM X.prog X.w X.K X.mg X.base k c m ps mf) (hr : Room k X.A) (tkx : Takes X W) (hnm : ∀ i, nm i ≠ m) (ho : RE X W o mo)
    (hn : 1 = ps.length := by rfl)
    (ht : eval (.Call (.Attribute o m apos) [] [] pos) X.env = (do
      let ov ← eval o X.env
      standAt apos.atName
      let (f, first) ← holding [ov] (getMethod ov m pl)
      callWith pos f first (backTo pos (starEach [] X.env)) (backToKw pos (keywordEach [] X.env))) := by rfl) :
    RE X W (.Call (.Attribute o m apos) [] [] pos) (mMeth c mf mo mNil) := by
  obtain ⟨fd, F, hb, hc, hm⟩ := C
  exact re_meth0 ho hc hm hnm F hr hb tkx hn ht
theorem re_makeC (C : CalN X.prog X.w X.K X.mg X.base k c x ps n ks gd mf) (hr : Room (k + 1) X.A) (hg : Gl X x) (tkx : Takes X W)
    (ha : RA X W (e :: es) ma) (hkw : RK X W kws mk) (hn : (e :: es).length = n := by rfl) (hkn : kws.length = ks.length := by rfl)
    (hall : (backToKw pos (keywordEach kws X.env)).all (·.1.isSome) = true := by rfl) (hks : (backToKw pos (keywordEach kws X.env)).filterMap (·.1) = ks := by rfl) (hdb : (x == ("__debug__" : Str)) = false := by decide)
    (he : starEach (e :: es) X.env = (false, eval e X.env) :: starEach es X.env := by rfl) (hpl : ((backTo pos (starEach (e :: es) X.env)).any (·.1) || (backToKw pos (keywordEach kws X.env)).any (·.1.isNone)) = false := by rfl) :
    RE X W (.Call (.Name x p) (e :: es) kws pos) (mMake c gd mf ma mk) := by
  obtain ⟨fd, F, hb, M, hm⟩ := C
  exact re_make M F hr hg hm hb tkx ha hkw hn hkn hall hks hdb he hpl
end
theorem flds_nil {K : PySem.W.Frag} {f : Str} : ∀ c ∈ ([] : List Nat), Cls K (clsA K c) ∧ NoAttr K (clsA K c) f := fun _ h => by cases h
theorem flds_cons {K : PySem.W.Frag} {f : Str} {a : Nat} {L : List Nat} (h0 : Cls K (clsA K a)) (h1 : NoAttr K (clsA K a) f) (h2 : ∀ c ∈ L, Cls K (clsA K c) ∧ NoAttr K (clsA K c) f) : ∀ c ∈ a :: L, Cls K (clsA K c) ∧ NoAttr K (clsA K c) f := fun c h => by
  rcases List.mem_cons.mp h with z | z
  · rw [z]; exact ⟨h0, h1⟩
  · exact h2 c z
theorem dat_tup {K : PySem.W.Frag} {p : PySem.W.Frag → Option Value} {ds : List D} (h : (Fx.dat p (.ktp ds)).ok K = true) : ∀ mp H, RelD K mp H (.ktp ds) (.ref (adOf p K)) := datB_tup (show datB p (.ktp ds) K = true from h)
end Rf
set_option Elab.async false
set_option linter.all false
set_option maxRecDepth 100000
set_option maxHeartbeats 400000
set_option autoImplicit false
/-! sorted(set(e)). -/
namespace Rf
open PySem PySem.Spec L2
def itemsOf (d : D) (h : LH) : Option (List D) := match d with
  | .tup xs => some xs
  | .ktp xs => some xs
  | _ => asRd d h
def mSortSet (m : EM) : EM := fun ls h => (m ls h).bind fun d h1 => match d with
  | .str l => if Nat.blt l.length 4000 = true then .ok (.ref h1.length) (h1 ++ [.lst ((sdT (l.map fun c => [c])).map .str)]) else .bad
  | _ => (match itemsOf d h1 with
    | some xs => if Nat.blt xs.length 4000 = true then (match allI xs with
      | some is => .ok (.ref h1.length) (h1 ++ [.lst ((sdI is).map .int)])
      | none => (match allS xs with
        | some ss => .ok (.ref h1.length) (h1 ++ [.lst ((sdT ss).map .str)])
        | none => .bad)) else .bad
    | none => .bad)
theorem relDs_ints {K : PySem.W.Frag} {mp : List Addr} {H : Hp} : ∀ (l : List Int), RelDs K mp H (l.map .int) (l.map V.int)
  | [] => .nil
  | x :: r => .cons (.int x) (relDs_ints r)
theorem itemsOf_ok {K : PySem.W.Frag} {mp : List Addr} {lh : LH} {H : Hp} {d : D} {v : V} {xs : List D} (r : Rep K mp lh H) (rd : RelD K mp H d v) (e : itemsOf d lh = some xs) : ∃ a vs, v = .ref a ∧ (SqL K H a vs ∨ SqT K H a vs) ∧ RelDs K mp H xs vs := by
  cases rd with
  | @tup ds a vs hs rs =>
    obtain rfl : ds = xs := Option.some.inj e
    exact ⟨a, vs, rfl, .inr hs.sq, rs⟩
  | @ktp ds a vs hs rs =>
    obtain rfl : ds = xs := Option.some.inj e
    exact ⟨a, vs, rfl, .inr hs.sq, rs⟩
  | @ref n a hn =>
    obtain ⟨_, a', vs, z1, z2, _, h2, h3⟩ := asRd_of r (.ref hn) (show asRd (.ref n) lh = some xs from e)
    cases z1; cases z2
    exact ⟨a, vs, rfl, .inl h2, h3⟩
  | _ => cases e
theorem re_sortSet {X : Cx} {W : WX} {e : Expr} {me : EM} {p1 p2 pos1 pos2 : Pos} (hc : X.calm = true) (he : RE X W e me) (hg1 : Gl X "sorted") (hm1 : X.mg "sorted" = none) (hg2 : Gl X "set") (hm2 : X.mg "set" = none)
    (hs1 : starEach [.Call (.Name "set" p2) [e] [] pos2] X.env = [(false, eval (.Call (.Name "set" p2) [e] [] pos2) X.env)] := by rfl) (hs2 : starEach [e] X.env = [(false, eval e X.env)] := by rfl) :
    RE X W (.Call (.Name "sorted" p1) [.Call (.Name "set" p2) [e] [] pos2] [] pos1) (mSortSet me) := by
  obtain ⟨t, a1, a2⟩ := he
  have hset := pe_callTy (p := p2) (pos := pos2) (CallR.or (cr_set_str hc) (cr_setK hc)) hg2 hm2 (by decide +kernel) (pa_cons a1 pa_nil hs2) (he := hs2)
  refine ⟨_, pe_callB (p := p1) (pos := pos1) (CallR.or (cr_sorted_set hc) (cr_sorted_setI hc)) hg1 hm1 (by decide +kernel) (pa_cons hset pa_nil hs1) (he := hs1), fun mp lh ls σ H Q r rs q => ?_⟩
  refine a2 mp lh ls σ H _ r rs (q.bind fun mp1 H1 lh1 d v e1 r1 rl1 q1 => ?_)
  have key : ∀ xs, itemsOf d lh1 = some xs → PostG X.K (RelD X.K) mp1 H1 (if Nat.blt xs.length 4000 = true then (match allI xs with
      | some is => .ok (.ref lh1.length) (lh1 ++ [.lst ((sdI is).map .int)])
      | none => (match allS xs with
        | some ss => .ok (.ref lh1.length) (lh1 ++ [.lst ((sdT ss).map .str)])
        | none => .bad)) else .bad) Q (WE W σ) → (rSetStr X.w [v] H1 (fun x H2 => rSortedSet X.w [x] H2 Q ∨ rSortedI' X.w [x] H2 Q) ∨ rSetK X.K X.w [v] H1 (fun x H2 => rSortedSet X.w [x] H2 Q ∨ rSortedI' X.w [x] H2 Q)) := fun xs hx q1 => by
    obtain ⟨a, vs, rfl, hs, rv⟩ := itemsOf_ok r1 rl1 hx
    cases hz : Nat.blt xs.length 4000 with
    | false => simp only [hz] at q1; exact q1.elim
    | true =>
      simp only [hz, if_true] at q1
      have hl : xs.length < 4000 := Nat.le_of_ble_eq_true hz
      cases hi : allI xs with
      | some is =>
        simp only [hi] at q1
        have ev := allI_rel rv hi
        have il : is.length = xs.length := by have := rv.length; rw [ev] at this; simpa using this.symm
        have ek : vs = (is.map Sum.inl : List Key).map kV := by rw [ev, List.map_map]; rfl
        refine .inr ⟨a, is.map Sum.inl, rfl, by rw [← ek]; exact hs, by simp; omega, fun p hp => .inr ⟨p, is, rfl, upd_same, fun p' hp' => ?_⟩⟩
        have f := Ext.free (K := X.K) (mp := mp1) (o := SetMO X.w p (is.map Sum.inl)) hp
        have r2 := r1.free (o := SetMO X.w p (is.map Sum.inl)) hp
        exact q1 (mp1 ++ [p']) _ _ (f.trans (.alloc r2 hp')) (r2.alloc hp' ⟨_, upd_same, relDs_ints _⟩) (.ref (by rw [← r1.len]; simp))
      | none =>
        simp only [hi] at q1
        cases hss : allS xs with
        | none => simp only [hss] at q1; exact q1.elim
        | some ss =>
          simp only [hss] at q1
          have ev := allS_rel rv hss
          have il : ss.length = xs.length := by have := rv.length; rw [ev] at this; simpa using this.symm
          have ek : vs = ((ss.map fun l => (⟨l.toArray⟩ : Str)).map Sum.inr : List Key).map kV := by rw [ev, List.map_map (f := Sum.inr)]; rfl
          refine .inr ⟨a, (ss.map fun l => (⟨l.toArray⟩ : Str)).map Sum.inr, rfl, by rw [← ek]; exact hs, by simp; omega, fun p hp => .inl ⟨p, ss.map fun l => (⟨l.toArray⟩ : Str), rfl, upd_same, fun p' hp' => ?_⟩⟩
          have f := Ext.free (K := X.K) (mp := mp1) (o := SetMO X.w p ((ss.map fun l => (⟨l.toArray⟩ : Str)).map Sum.inr)) hp
          have r2 := r1.free (o := SetMO X.w p ((ss.map fun l => (⟨l.toArray⟩ : Str)).map Sum.inr)) hp
          have et : (ss.map fun l => (⟨l.toArray⟩ : Str)).map (·.cps.toList) = ss := by rw [List.map_map]; simp [Function.comp_def]
          rw [et]
          exact q1 (mp1 ++ [p']) _ _ (f.trans (.alloc r2 hp')) (r2.alloc hp' ⟨_, upd_same, relDs_strs _⟩) (.ref (by rw [← r1.len]; simp))
  have oth : ∀ o, itemsOf d lh1 = o → PostG X.K (RelD X.K) mp1 H1 (match o with
      | some xs => if Nat.blt xs.length 4000 = true then (match allI xs with
        | some is => .ok (.ref lh1.length) (lh1 ++ [.lst ((sdI is).map .int)])
        | none => (match allS xs with
          | some ss => .ok (.ref lh1.length) (lh1 ++ [.lst ((sdT ss).map .str)])
          | none => .bad)) else .bad
      | none => .bad) Q (WE W σ) → (rSetStr X.w [v] H1 (fun x H2 => rSortedSet X.w [x] H2 Q ∨ rSortedI' X.w [x] H2 Q) ∨ rSetK X.K X.w [v] H1 (fun x H2 => rSortedSet X.w [x] H2 Q ∨ rSortedI' X.w [x] H2 Q)) := fun o ho q => by
    cases o with
    | none => exact q.elim
    | some xs => exact key xs ho q
  cases rl1 with
  | str l =>
    cases hz : Nat.blt l.length 4000 with
    | false => simp only [hz] at q1; exact q1.elim
    | true =>
      simp only [hz] at q1
      refine .inl ⟨_, rfl, by simpa [Nat.blt, Nat.lt_iff_add_one_le] using Nat.le_of_ble_eq_true hz, fun p hp => .inl ?_⟩
      have E1 : Ext X.K mp1 H1 mp1 (upd H1 p (SetMO X.w p (l.toArray.toList.map fun c => .inr ⟨#[c]⟩))) := .free hp
      refine ⟨p, l.map fun c => ⟨#[c]⟩, rfl, by rw [upd_same, List.map_map]; rfl, fun p2 hp2 => ?_⟩
      have R1 := r1.free (o := SetMO X.w p (l.toArray.toList.map fun c => .inr ⟨#[c]⟩)) hp
      refine q1 (mp1 ++ [p2]) _ _ (E1.trans (.alloc R1 hp2)) (R1.alloc hp2 ⟨_, upd_same, ?_⟩) (.ref (by rw [← r1.len]; simp))
      have : (l.map fun c => ([c] : List Nat)) = (l.map fun c => (⟨#[c]⟩ : Str)).map (·.cps.toList) := by rw [List.map_map]; rfl
      rw [this]
      exact relDs_strs _
  | _ => exact oth _ rfl q1
end Rf
set_option Elab.async false
set_option linter.all false
set_option maxRecDepth 100000
set_option maxHeartbeats 400000
set_option autoImplicit false
/-! what a mirror comes to: posts. -/
namespace Rf
open PySem PySem.Spec L2
class KR (α : Type) where
  run : α → LH → Prop
class KX where
  run : Exn → LH → Prop
class KS where
  N : Ls → LH → Prop
  T : D → LH → Prop
  B : Ls → LH → Prop
  C : Ls → LH → Prop
  X : Exn → Ls → LH → Prop
/-- what a result comes to; what is asked behind stands where the rewriting does not look -/
def okR {α : Type} (r : R α) [q : KR α] [y : KX] : Prop := match r with
  | .ok a h => q.run a h
  | .ex x h => y.run x h
  | .bad => False
def okS (r : SR) [k : KS] : Prop := match r with
  | .nx l h => k.N l h
  | .rt d h => k.T d h
  | .bk l h => k.B l h
  | .ct l h => k.C l h
  | .ex x l h => k.X x l h
  | .bad => False
section
variable {α β : Type} {N : Ls → LH → Prop} {T : D → LH → Prop} {B C : Ls → LH → Prop} {X : Exn → Ls → LH → Prop} {Y : Exn → LH → Prop} {ls : Ls} {h : LH}
theorem okR_ok {a : α} {Q : α → LH → Prop} : @okR _ (.ok a h) ⟨Q⟩ ⟨Y⟩ = Q a h := by cases h <;> rfl
theorem okR_ex {x : Exn} {Q : α → LH → Prop} : @okR _ (.ex x h) ⟨Q⟩ ⟨Y⟩ = Y x h := by cases h <;> rfl
theorem okS_nx : @okS (.nx ls h) ⟨N, T, B, C, X⟩ = N ls h := by cases h <;> rfl
theorem okS_rt {d : D} : @okS (.rt d h) ⟨N, T, B, C, X⟩ = T d h := by cases h <;> rfl
theorem okS_bk : @okS (.bk ls h) ⟨N, T, B, C, X⟩ = B ls h := by cases h <;> rfl
theorem okS_ct : @okS (.ct ls h) ⟨N, T, B, C, X⟩ = C ls h := by cases h <;> rfl
theorem okS_ex {x : Exn} : @okS (.ex x ls h) ⟨N, T, B, C, X⟩ = X x ls h := by cases h <;> rfl
theorem okR_bind {r : R α} {f : α → LH → R β} {Q : β → LH → Prop} : @okR _ (r.bind f) ⟨Q⟩ ⟨Y⟩ = @okR _ r ⟨fun a h => @okR _ (f a h) ⟨Q⟩ ⟨Y⟩⟩ ⟨Y⟩ := by cases r <;> rfl
theorem okR_ext {r : R α} {Q Q' : α → LH → Prop} (e : ∀ a h, Q a h = Q' a h) : @okR _ r ⟨Q⟩ ⟨Y⟩ = @okR _ r ⟨Q'⟩ ⟨Y⟩ := by
  have : Q = Q' := funext fun a => funext fun h => e a h
  rw [this]
theorem okS_lift {r : R α} {f : α → LH → SR} : @okS (liftE r ls f) ⟨N, T, B, C, X⟩ = @okR _ r ⟨fun a h => @okS (f a h) ⟨N, T, B, C, X⟩⟩ ⟨fun x h => X x ls h⟩ := by cases r <;> rfl
theorem okS_seq {a b : SM} : @okS (mSeq a b ls h) ⟨N, T, B, C, X⟩ = @okS (a ls h) ⟨(fun l h => @okS (b l h) ⟨N, T, B, C, X⟩), T, B, C, X⟩ := by
  unfold mSeq
  cases a ls h <;> rfl
theorem okS_if {c : TM} {a b : SM} : @okS (mIfS c a b ls h) ⟨N, T, B, C, X⟩ = @okR _ (c ls h) ⟨fun k h => @okS (if k = true then a ls h else b ls h) ⟨N, T, B, C, X⟩⟩ ⟨fun x h => X x ls h⟩ := okS_lift
theorem okS_ret {e : EM} : @okS (mRet e ls h) ⟨N, T, B, C, X⟩ = @okR _ (e ls h) ⟨T⟩ ⟨fun x h => X x ls h⟩ := okS_lift
theorem okS_drop {e : EM} : @okS (mDrop e ls h) ⟨N, T, B, C, X⟩ = @okR _ (e ls h) ⟨fun _ h => N ls h⟩ ⟨fun x h => X x ls h⟩ := okS_lift
theorem okS_set {i : Nat} {e : EM} : @okS (mSet i e ls h) ⟨N, T, B, C, X⟩ = @okR _ (e ls h) ⟨fun d h => N (ls.set i (some d)) h⟩ ⟨fun x h => X x ls h⟩ := okS_lift
theorem okS_next : @okS (mNext ls h) ⟨N, T, B, C, X⟩ = N ls h := by cases h <;> rfl
theorem okS_retN : @okS (mRetN ls h) ⟨N, T, B, C, X⟩ = T .non h := by cases h <;> rfl
theorem okS_brk : @okS (mBreak ls h) ⟨N, T, B, C, X⟩ = B ls h := by cases h <;> rfl
theorem okS_cont : @okS (mCont ls h) ⟨N, T, B, C, X⟩ = C ls h := by cases h <;> rfl
theorem okS_raise {c : Nat} : @okS (mRaise c ls h) ⟨N, T, B, C, X⟩ = X ⟨c, []⟩ ls h := by cases h <;> rfl
theorem okR_fin {r : SR} {Q : D → LH → Prop} : @okR _ (fin r) ⟨Q⟩ ⟨Y⟩ = @okS r ⟨(fun _ h => Q .non h), Q, (fun _ _ => False), (fun _ _ => False), (fun x _ h => Y x h)⟩ := by cases r <;> rfl
theorem okR_bin {f : D → D → LH → R D} {a b : EM} {Q : D → LH → Prop} : @okR _ (mBin f a b ls h) ⟨Q⟩ ⟨Y⟩ = @okR _ (a ls h) ⟨fun x h => @okR _ (b ls h) ⟨fun y h => @okR _ (f x y h) ⟨Q⟩ ⟨Y⟩⟩ ⟨Y⟩⟩ ⟨Y⟩ := okR_bind.trans (okR_ext fun _ _ => okR_bind)
theorem okR_test {m : EM} {Q : Bool → LH → Prop} : @okR _ (mTest m ls h) ⟨Q⟩ ⟨Y⟩ = @okR _ (m ls h) ⟨fun d h => @okR _ (match d with
  | .bl b => .ok b h
  | _ => .bad) ⟨Q⟩ ⟨Y⟩⟩ ⟨Y⟩ := okR_bind
theorem okR_not {m : TM} {Q : Bool → LH → Prop} : @okR _ (mNot m ls h) ⟨Q⟩ ⟨Y⟩ = @okR _ (m ls h) ⟨fun b h => Q (!b) h⟩ ⟨Y⟩ := okR_bind
theorem okR_and {a b : TM} {Q : Bool → LH → Prop} : @okR _ (mAnd a b ls h) ⟨Q⟩ ⟨Y⟩ = @okR _ (a ls h) ⟨fun c h => @okR _ (if c = true then b ls h else .ok false h) ⟨Q⟩ ⟨Y⟩⟩ ⟨Y⟩ := okR_bind
theorem okR_or {a b : TM} {Q : Bool → LH → Prop} : @okR _ (mOr a b ls h) ⟨Q⟩ ⟨Y⟩ = @okR _ (a ls h) ⟨fun c h => @okR _ (if c = true then .ok true h else b ls h) ⟨Q⟩ ⟨Y⟩⟩ ⟨Y⟩ := okR_bind
theorem okR_andV {a b : EM} {Q : D → LH → Prop} : @okR _ (mAndV a b ls h) ⟨Q⟩ ⟨Y⟩ = @okR _ (a ls h) ⟨fun x h => @okR _ (match x with
  | .bl true => b ls h
  | .bl false => .ok (.bl false) h
  | _ => .bad) ⟨Q⟩ ⟨Y⟩⟩ ⟨Y⟩ := okR_bind
theorem okR_orV {a b : EM} {Q : D → LH → Prop} : @okR _ (mOrV a b ls h) ⟨Q⟩ ⟨Y⟩ = @okR _ (a ls h) ⟨fun x h => @okR _ (match x with
  | .bl true => .ok (.bl true) h
  | .bl false => b ls h
  | _ => .bad) ⟨Q⟩ ⟨Y⟩⟩ ⟨Y⟩ := okR_bind
theorem okR_notV {a : EM} {Q : D → LH → Prop} : @okR _ (mNotV a ls h) ⟨Q⟩ ⟨Y⟩ = @okR _ (a ls h) ⟨fun x h => @okR _ (match x with
  | .bl b => .ok (.bl (!b)) h
  | _ => .bad) ⟨Q⟩ ⟨Y⟩⟩ ⟨Y⟩ := okR_bind
theorem okR_mif {c : TM} {a b : EM} {Q : D → LH → Prop} : @okR _ (mIf c a b ls h) ⟨Q⟩ ⟨Y⟩ = @okR _ (c ls h) ⟨fun k h => @okR _ (if k = true then a ls h else b ls h) ⟨Q⟩ ⟨Y⟩⟩ ⟨Y⟩ := okR_bind
theorem okR_C {d : D} {Q : D → LH → Prop} : @okR _ (mC d ls h) ⟨Q⟩ ⟨Y⟩ = Q d h := by cases h <;> rfl
theorem okR_nil {Q : List D → LH → Prop} : @okR _ (mNil ls h) ⟨Q⟩ ⟨Y⟩ = Q [] h := by cases h <;> rfl
theorem okR_yes {Q : Bool → LH → Prop} : @okR _ (mYes ls h) ⟨Q⟩ ⟨Y⟩ = Q true h := by cases h <;> rfl
theorem okR_cons {a : EM} {r : AM} {Q : List D → LH → Prop} : @okR _ (mCons a r ls h) ⟨Q⟩ ⟨Y⟩ = @okR _ (a ls h) ⟨fun x h => @okR _ (r ls h) ⟨fun xs h => Q (x :: xs) h⟩ ⟨Y⟩⟩ ⟨Y⟩ := okR_bind.trans (okR_ext fun _ _ => okR_bind.trans (okR_ext fun _ _ => okR_ok))
theorem okR_call {m : FM} {a : AM} {Q : D → LH → Prop} : @okR _ (mCall m a ls h) ⟨Q⟩ ⟨Y⟩ = @okR _ (a ls h) ⟨fun ds h => @okR _ (m ds h) ⟨Q⟩ ⟨Y⟩⟩ ⟨Y⟩ := okR_bind
theorem okR_callK {gd : List D → List D → List D} {m : FM} {a k : AM} {Q : D → LH → Prop} : @okR _ (mCallK gd m a k ls h) ⟨Q⟩ ⟨Y⟩ = @okR _ (a ls h) ⟨fun ds h => @okR _ (k ls h) ⟨fun es h => @okR _ (m (gd ds es) h) ⟨Q⟩ ⟨Y⟩⟩ ⟨Y⟩⟩ ⟨Y⟩ := okR_bind.trans (okR_ext fun _ _ => okR_bind)
theorem okR_tup {a : AM} {Q : D → LH → Prop} : @okR _ (mTup a ls h) ⟨Q⟩ ⟨Y⟩ = @okR _ (a ls h) ⟨fun xs h => @okR _ (if szOk xs.length = true then .ok (.tup xs) h else .bad) ⟨Q⟩ ⟨Y⟩⟩ ⟨Y⟩ := okR_bind
theorem okR_lst {a : AM} {Q : D → LH → Prop} : @okR _ (mLst a ls h) ⟨Q⟩ ⟨Y⟩ = @okR _ (a ls h) ⟨fun xs h => @okR _ (if szOk xs.length = true then .ok (.ref h.length) (h ++ [.lst xs]) else .bad) ⟨Q⟩ ⟨Y⟩⟩ ⟨Y⟩ := okR_bind
theorem okR_fld {cs : List Nat} {i : Nat} {m : EM} {Q : D → LH → Prop} : @okR _ (mFld cs i m ls h) ⟨Q⟩ ⟨Y⟩ = @okR _ (m ls h) ⟨fun d h => @okR _ (match d with
  | .ref n => (match fldOf cs i n h with
    | some v => .ok v h
    | none => .bad)
  | _ => .bad) ⟨Q⟩ ⟨Y⟩⟩ ⟨Y⟩ := okR_bind
theorem okR_meth {c : Nat} {m : FM} {mo : EM} {ma : AM} {Q : D → LH → Prop} : @okR _ (mMeth c m mo ma ls h) ⟨Q⟩ ⟨Y⟩ = @okR _ (mo ls h) ⟨fun d h => @okR _ (match d with
  | .ref n => if insOf c n h = true then (ma ls h).bind fun ds h2 => m (.ref n :: ds) h2 else .bad
  | _ => .bad) ⟨Q⟩ ⟨Y⟩⟩ ⟨Y⟩ := okR_bind
theorem okR_make {c : Nat} {gd : List D → List D → List D} {m : FM} {ma mk : AM} {Q : D → LH → Prop} : @okR _ (mMake c gd m ma mk ls h) ⟨Q⟩ ⟨Y⟩ = @okR _ (ma ls h) ⟨fun ds h => @okR _ (mk ls h) ⟨fun es h => @okR _ (m (gd (.ref h.length :: ds) es) (h ++ [.ins c []])) ⟨fun r h3 => @okR _ (match r with
  | .non => .ok (.ref h.length) h3
  | _ => .bad) ⟨Q⟩ ⟨Y⟩⟩ ⟨Y⟩⟩ ⟨Y⟩⟩ ⟨Y⟩ := okR_bind.trans (okR_ext fun _ _ => okR_bind.trans (okR_ext fun _ _ => okR_bind))
theorem okR_bm {ty : D → LH → Bool} {f : D → List D → LH → R D} {mo : EM} {ma : AM} {Q : D → LH → Prop} : @okR _ (mBM ty f mo ma ls h) ⟨Q⟩ ⟨Y⟩ = @okR _ (mo ls h) ⟨fun x h => @okR _ (if ty x h = true then (ma ls h).bind fun xs h2 => f x xs h2 else .bad) ⟨Q⟩ ⟨Y⟩⟩ ⟨Y⟩ := okR_bind
theorem okR_isi {sub : Tg → Option Bool} {m : EM} {Q : D → LH → Prop} : @okR _ (mIsi sub m ls h) ⟨Q⟩ ⟨Y⟩ = @okR _ (m ls h) ⟨fun d h => @okR _ (match tgOf d h with
  | some t => (match sub t with
    | some b => .ok (.bl b) h
    | none => .bad)
  | none => .bad) ⟨Q⟩ ⟨Y⟩⟩ ⟨Y⟩ := okR_bind
theorem okS_for {n : Nat} {wi : IM} {g : GM} {b : SM} : @okS (mFor n wi g b ls h) ⟨N, T, B, C, X⟩ = @okR _ (wi ls h) ⟨fun L h => @okS (mForGo g b L n 0 ls h) ⟨N, T, B, C, X⟩⟩ ⟨fun x h => X x ls h⟩ := okS_lift
theorem okR_lc {n : Nat} {wi : IM} {g : GM} {tt : TM} {te : EM} {vs : List Nat} {Q : D → LH → Prop} : @okR _ (mLc n wi g tt te vs ls h) ⟨Q⟩ ⟨Y⟩ = @okR _ (wi ls h) ⟨fun L h => @okR _ (mLcGo g tt te L (wipeL ls vs) n 0 [] h) ⟨fun acc h => Q (.ref h.length) (h ++ [.lst acc])⟩ ⟨Y⟩⟩ ⟨Y⟩ := okR_bind.trans (okR_ext fun _ _ => okR_bind)
theorem okR_any {e : EM} {Q : LI → LH → Prop} : @okR _ (imAny e ls h) ⟨Q⟩ ⟨Y⟩ = @okR _ (e ls h) ⟨fun d h => @okR _ (match d with
  | .ref n => (match h[n]? with
    | some (.lst _) => .ok (liList n) h
    | _ => .bad)
  | .tup xs => .ok (liSeq xs) h
  | .ktp xs => .ok (liSeq xs) h
  | .str l => .ok (liStr l) h
  | _ => .bad) ⟨Q⟩ ⟨Y⟩⟩ ⟨Y⟩ := okR_bind
theorem okS_asg {e : EM} {g : GM} : @okS (mAsg e g ls h) ⟨N, T, B, C, X⟩ = @okR _ (e ls h) ⟨fun d h => @okS (match g d ls with
  | some ls' => .nx ls' h
  | none => .bad) ⟨N, T, B, C, X⟩⟩ ⟨fun x h => X x ls h⟩ := okS_lift
theorem okS_setFld {cs : List Nat} {i : Nat} {mo me : EM} : @okS (mSetFld cs i mo me ls h) ⟨N, T, B, C, X⟩ = @okR _ (me ls h) ⟨fun d h => @okR _ (mo ls h) ⟨fun o h => @okS (match o with
  | .ref n => (match setFld cs i n d h with
    | some h3 => .nx ls h3
    | none => .bad)
  | _ => .bad) ⟨N, T, B, C, X⟩⟩ ⟨fun x h => X x ls h⟩⟩ ⟨fun x h => X x ls h⟩ := okS_lift.trans (okR_ext fun _ _ => okS_lift)
end
/-! ### walks -/
def itm (xs : List D) (i : Nat) : Stp := match xs[i]? with
  | some d => .item d
  | none => .done
theorem itm_seq {xs : List D} {i : Nat} {h : LH} : liSeq xs i h = itm xs i := rfl
theorem itm_str {l : List Nat} {i : Nat} {h : LH} : liStr l i h = itm (l.map fun c => .str [c]) i := by
  unfold liStr itm
  rw [List.getElem?_map]
  cases l[i]? <;> rfl
def rgD (lo : Int) (n : Nat) : List D := (List.range n).map fun (k : Nat) => .int (lo + (k : Int))
theorem rgD_get {lo : Int} {n k : Nat} (h : k < n) : (rgD lo n)[k]? = some (.int (lo + (k : Int))) := by
  unfold rgD; simp [h]
theorem rgD_len {lo : Int} {n : Nat} : (rgD lo n).length = n := by unfold rgD; simp
theorem itm_range {lo : Int} {n i : Nat} {h : LH} : liRange lo n i h = itm (rgD lo n) i := by
  unfold liRange itm
  by_cases e : i < n
  · rw [if_pos e, rgD_get e]
  · rw [if_neg e, List.getElem?_eq_none (by rw [rgD_len]; omega)]
theorem itm_list {n : Nat} {xs : List D} {i : Nat} {h : LH} (e : h[n]? = some (.lst xs)) : liList n i h = itm xs i := by
  unfold liList; rw [e]; rfl
section
variable {N : Ls → LH → Prop} {T : D → LH → Prop} {B C : Ls → LH → Prop} {X : Exn → Ls → LH → Prop} {Y : Exn → LH → Prop}
theorem for_go {g : GM} {b : SM} {L : LI} (xs : List D) (I : Nat → Ls → LH → Prop) (hL : ∀ i ls h, I i ls h → L i h = itm xs i)
    (hs : ∀ i d ls h, xs[i]? = some d → I i ls h → ∃ ls1, g d ls = some ls1 ∧ @okS (b ls1 h) ⟨I (i + 1), T, N, I (i + 1), X⟩)
    (he : ∀ ls h, I xs.length ls h → N ls h) : ∀ (k i fuel : Nat) (ls : Ls) (h : LH), I i ls h → i + k = xs.length → k < fuel → @okS (mForGo g b L fuel i ls h) ⟨N, T, B, C, X⟩
  | 0, i, fuel, ls, h, p, e, hf => by
    obtain ⟨fuel, rfl⟩ : ∃ j, fuel = j + 1 := ⟨fuel - 1, by omega⟩
    have : i = xs.length := by omega
    subst this
    unfold mForGo
    have e0 : itm xs xs.length = .done := by unfold itm; rw [List.getElem?_eq_none (Nat.le_refl _)]
    rw [hL _ _ _ p, e0]
    exact he ls h p
  | k + 1, i, fuel, ls, h, p, e, hf => by
    obtain ⟨fuel, rfl⟩ : ∃ j, fuel = j + 1 := ⟨fuel - 1, by omega⟩
    have hi : xs[i]? = some (xs[i]'(by omega)) := List.getElem?_eq_getElem (by omega)
    obtain ⟨ls1, e1, e2⟩ := hs i _ ls h hi p
    unfold mForGo
    have e0 : itm xs i = .item (xs[i]'(by omega)) := by unfold itm; rw [hi]
    rw [hL _ _ _ p, e0]
    simp only [e1]
    have ih := for_go xs I hL hs he k (i + 1) fuel
    cases hb : b ls1 h with
    | nx l' h' => rw [hb] at e2; exact ih l' h' e2 (by omega) (by omega)
    | ct l' h' => rw [hb] at e2; exact ih l' h' e2 (by omega) (by omega)
    | bk l' h' => rw [hb] at e2; exact e2
    | rt d h' => rw [hb] at e2; exact e2
    | ex x l' h' => rw [hb] at e2; exact e2
    | bad => rw [hb] at e2; exact e2
theorem ok_for {g : GM} {b : SM} {L : LI} {fuel : Nat} {ls : Ls} {h : LH} (xs : List D) (I : Nat → Ls → LH → Prop) (h0 : I 0 ls h) (hf : xs.length < fuel) (hL : ∀ i ls h, I i ls h → L i h = itm xs i)
    (hs : ∀ i d ls h, xs[i]? = some d → I i ls h → ∃ ls1, g d ls = some ls1 ∧ @okS (b ls1 h) ⟨I (i + 1), T, N, I (i + 1), X⟩)
    (he : ∀ ls h, I xs.length ls h → N ls h) : @okS (mForGo g b L fuel 0 ls h) ⟨N, T, B, C, X⟩ := for_go xs I hL hs he xs.length 0 fuel ls h h0 (by omega) hf
theorem lc_go {g : GM} {tt : TM} {te : EM} {L : LI} {ls0 : Ls} {Q : List D → LH → Prop} (xs : List D) (hl : xs.length ≤ 16777216) (I : Nat → List D → LH → Prop) (hL : ∀ i acc h, I i acc h → L i h = itm xs i)
    (hs : ∀ i d acc h, xs[i]? = some d → I i acc h → ∃ ls1, g d ls0 = some ls1 ∧ @okR _ (tt ls1 h) ⟨fun k h => if k = true then @okR _ (te ls1 h) ⟨fun y h => I (i + 1) (acc ++ [y]) h⟩ ⟨fun _ _ => False⟩ else I (i + 1) acc h⟩ ⟨fun _ _ => False⟩)
    (he : ∀ acc h, I xs.length acc h → Q acc h) : ∀ (k i fuel : Nat) (acc : List D) (h : LH), I i acc h → acc.length ≤ i → i + k = xs.length → k < fuel → @okR _ (mLcGo g tt te L ls0 fuel i acc h) ⟨Q⟩ ⟨Y⟩
  | 0, i, fuel, acc, h, p, ea, e, hf => by
    obtain ⟨fuel, rfl⟩ : ∃ j, fuel = j + 1 := ⟨fuel - 1, by omega⟩
    have : i = xs.length := by omega
    subst this
    unfold mLcGo
    have e0 : itm xs xs.length = .done := by unfold itm; rw [List.getElem?_eq_none (Nat.le_refl _)]
    rw [hL _ _ _ p, e0]
    exact he acc h p
  | k + 1, i, fuel, acc, h, p, ea, e, hf => by
    obtain ⟨fuel, rfl⟩ : ∃ j, fuel = j + 1 := ⟨fuel - 1, by omega⟩
    have hi : xs[i]? = some (xs[i]'(by omega)) := List.getElem?_eq_getElem (by omega)
    obtain ⟨ls1, e1, e2⟩ := hs i _ acc h hi p
    unfold mLcGo
    have e0 : itm xs i = .item (xs[i]'(by omega)) := by unfold itm; rw [hi]
    rw [hL _ _ _ p, e0]
    simp only [e1]
    have ih := lc_go (ls0 := ls0) xs hl I hL hs he k (i + 1) fuel
    cases hb : tt ls1 h with
    | bad => rw [hb] at e2; exact e2.elim
    | ex x h' => rw [hb] at e2; exact e2.elim
    | ok c h1 =>
      rw [hb] at e2
      cases c with
      | false => exact ih acc h1 e2 (by omega) (by omega) (by omega)
      | true =>
        change @okR _ (te ls1 h1) ⟨_⟩ ⟨_⟩ at e2
        have hz : szOk (acc.length + 1) = true := Nat.ble_eq_true_of_le (by omega)
        cases ht : te ls1 h1 with
        | bad => rw [ht] at e2; exact e2.elim
        | ex x h' => rw [ht] at e2; exact e2.elim
        | ok y h2 =>
          rw [ht] at e2
          simp only [ht, hz, if_true]
          exact ih (acc ++ [y]) h2 e2 (by simp; omega) (by omega) (by omega)
theorem ok_lc {g : GM} {tt : TM} {te : EM} {L : LI} {ls0 : Ls} {Q : List D → LH → Prop} {fuel : Nat} {h : LH} (xs : List D) (I : Nat → List D → LH → Prop) (h0 : I 0 [] h) (hf : xs.length < fuel) (hl : xs.length ≤ 16777216) (hL : ∀ i acc h, I i acc h → L i h = itm xs i)
    (hs : ∀ i d acc h, xs[i]? = some d → I i acc h → ∃ ls1, g d ls0 = some ls1 ∧ @okR _ (tt ls1 h) ⟨fun k h => if k = true then @okR _ (te ls1 h) ⟨fun y h => I (i + 1) (acc ++ [y]) h⟩ ⟨fun _ _ => False⟩ else I (i + 1) acc h⟩ ⟨fun _ _ => False⟩)
    (he : ∀ acc h, I xs.length acc h → Q acc h) : @okR _ (mLcGo g tt te L ls0 fuel 0 [] h) ⟨Q⟩ ⟨Y⟩ := lc_go xs hl I hL hs he xs.length 0 fuel [] h h0 (by simp) (by omega) hf
theorem ok_while {c : TM} {b : SM} (I : Nat → Ls → LH → Prop) (hs : ∀ k ls h, I k ls h → @okR _ (c ls h) ⟨fun t h => if t = true then @okS (b ls h) ⟨(fun l h => ∃ j, j < k ∧ I j l h), T, N, (fun l h => ∃ j, j < k ∧ I j l h), X⟩ else N ls h⟩ ⟨fun x h => X x ls h⟩) :
    ∀ (fuel k : Nat) (ls : Ls) (h : LH), I k ls h → k < fuel → @okS (mWhile fuel c b ls h) ⟨N, T, B, C, X⟩
  | 0, k, ls, h, p, hf => by omega
  | fuel + 1, k, ls, h, p, hf => by
    have e := hs k ls h p
    unfold mWhile
    rw [okS_lift]
    cases hc : c ls h with
    | bad => rw [hc] at e; exact e.elim
    | ex x h' => rw [hc] at e; exact e
    | ok t h1 =>
      rw [hc] at e
      change if t = true then _ else _ at e
      show @okS (if t = true then _ else _) ⟨N, T, B, C, X⟩
      cases t with
      | false => exact e
      | true =>
        simp only [if_true] at e ⊢
        cases hb : b ls h1 with
        | nx l' h' => rw [hb] at e; obtain ⟨j, hj, q⟩ := e; exact ok_while I hs fuel j l' h' q (by omega)
        | ct l' h' => rw [hb] at e; obtain ⟨j, hj, q⟩ := e; exact ok_while I hs fuel j l' h' q (by omega)
        | bk l' h' => rw [hb] at e; exact e
        | rt d h' => rw [hb] at e; exact e
        | ex x l' h' => rw [hb] at e; exact e
        | bad => rw [hb] at e; exact e
end
/-- a comprehension that changes nothing -/
theorem lc_pure {g : GM} {tt : TM} {te : EM} {L : LI} {ls0 : Ls} {h : LH} {fuel : Nat} (xs : List D) (b : D → Bool) (f : D → D) (hL : ∀ i, L i h = itm xs i) (hf : xs.length < fuel) (hl : xs.length ≤ 16777216)
    (hs : ∀ d ∈ xs, ∃ ls1, g d ls0 = some ls1 ∧ tt ls1 h = .ok (b d) h ∧ (b d = true → te ls1 h = .ok (f d) h)) : mLcGo g tt te L ls0 fuel 0 [] h = .ok ((xs.filter b).map f) h := by
  have key : @okR _ (mLcGo g tt te L ls0 fuel 0 [] h) ⟨fun acc h' => acc = (xs.filter b).map f ∧ h' = h⟩ ⟨fun _ _ => False⟩ := by
    refine ok_lc xs (fun i acc h' => acc = ((xs.take i).filter b).map f ∧ h' = h) ⟨by simp, rfl⟩ hf hl (fun i acc h' p => by rw [p.2]; exact hL i) (fun i d acc h' hd p => ?_) (fun acc h' p => ⟨by simpa using p.1, p.2⟩)
    obtain ⟨rfl, rfl⟩ := p
    obtain ⟨ls1, e1, e2, e3⟩ := hs d (List.mem_of_getElem? hd)
    refine ⟨ls1, e1, ?_⟩
    rw [e2]
    have ht : xs.take (i + 1) = xs.take i ++ [d] := by
      rw [List.take_add_one, hd]; rfl
    show if b d = true then _ else _
    cases hb : b d with
    | true =>
      rw [if_pos rfl, e3 hb]
      exact ⟨by rw [ht]; simp [hb], rfl⟩
    | false =>
      rw [if_neg (by simp)]
      exact ⟨by rw [ht]; simp [hb], rfl⟩
  cases hr : mLcGo g tt te L ls0 fuel 0 [] h with
  | bad => rw [hr] at key; exact key.elim
  | ex x h' => rw [hr] at key; exact key.elim
  | ok a h' => rw [hr] at key; obtain ⟨rfl, rfl⟩ := key; rfl
theorem lc_map {g : GM} {te : EM} {L : LI} {ls0 : Ls} {h : LH} {fuel : Nat} (xs : List D) (f : D → D) (hL : ∀ i, L i h = itm xs i) (hf : xs.length < fuel) (hl : xs.length ≤ 16777216)
    (hs : ∀ d ∈ xs, ∃ ls1, g d ls0 = some ls1 ∧ te ls1 h = .ok (f d) h) : mLcGo g mYes te L ls0 fuel 0 [] h = .ok (xs.map f) h := by
  have := lc_pure (tt := mYes) (te := te) xs (fun _ => true) f hL hf hl (fun d hd => let ⟨l, a, b⟩ := hs d hd; ⟨l, a, rfl, fun _ => b⟩)
  rw [this]
  have : xs.filter (fun _ => true) = xs := List.filter_eq_self.mpr fun _ _ => rfl
  rw [this]
/-- from posts to the result -/
theorem okR_eq {α : Type} {r : R α} {Q : α → LH → Prop} (h : @okR _ r ⟨Q⟩ ⟨fun _ _ => False⟩) : ∃ a h', r = .ok a h' ∧ Q a h' := by
  cases r with
  | ok a h' => exact ⟨a, h', rfl, h⟩
  | ex x h' => exact h.elim
  | bad => exact h.elim
theorem okR_of {α : Type} {r : R α} {Q : α → LH → Prop} {Y : Exn → LH → Prop} {a : α} {h' : LH} (e : r = .ok a h') (q : Q a h') : @okR _ r ⟨Q⟩ ⟨Y⟩ := by rw [e]; exact q
theorem okR_imp {α : Type} {r : R α} {Q Q' : α → LH → Prop} {Y : Exn → LH → Prop} (h : @okR _ r ⟨Q⟩ ⟨fun _ _ => False⟩) (k : ∀ a h, Q a h → Q' a h) : @okR _ r ⟨Q'⟩ ⟨Y⟩ := by
  cases r with
  | ok a h' => exact k a h' h
  | ex x h' => exact h.elim
  | bad => exact h.elim
end Rf
set_option Elab.async false
set_option linter.all false
set_option maxRecDepth 100000
set_option maxHeartbeats 400000
set_option autoImplicit false
/-! posts: more rules, frames, the head tactic. -/
namespace Rf
open PySem PySem.Spec L2
theorem luk_c {α β : Type} [DecidableEq α] {a : α} {b : β} {r : List (α × β)} {x : α} : luk ((a, b) :: r) x = if a = x then some b else luk r x := by cases r <;> rfl
def rngK (ds : List D) (h : LH) : R LI := match ds with
  | [.int j] => if rgOk j = true then .ok (liRange 0 j.toNat) h else .bad
  | _ => .bad
def rngK2 (ds : List D) (h : LH) : R LI := match ds with
  | [.int i, .int j] => if (rgOk i && rgOk j) = true then .ok (liRange i (j - i).toNat) h else .bad
  | _ => .bad
theorem rgOk_le {i : Int} (h1 : -1000000 ≤ i) (h2 : i ≤ 1000000) : rgOk i = true := by
  unfold rgOk
  have a : decide (-(2 ^ 62) ≤ i) = true := decide_eq_true (by omega)
  have b : decide (i < 2 ^ 62) = true := decide_eq_true (by omega)
  rw [a, b, Bool.and_self]
theorem rngK_int {j : Int} {h : LH} (h1 : -1000000 ≤ j) (h2 : j ≤ 1000000) : rngK [.int j] h = .ok (liRange 0 j.toNat) h := by
  unfold rngK
  exact if_pos (rgOk_le h1 h2)
theorem rngK_nat {n : Nat} {h : LH} (hn : n ≤ 1000000) : rngK [.int n] h = .ok (liRange 0 n) h := by
  rw [rngK_int (by omega) (by omega), Int.toNat_natCast]
theorem rngK2_int {i j : Int} {h : LH} (h1 : -1000000 ≤ j) (h2 : j ≤ 1000000) (h3 : -1000000 ≤ i) (h4 : i ≤ 1000000) : rngK2 [.int i, .int j] h = .ok (liRange i (j - i).toNat) h := by
  unfold rngK2
  exact if_pos (by rw [rgOk_le h1 h2, rgOk_le h3 h4, Bool.and_self])
/-- what a name holds -/
def gV (o : Option (Option D)) (h : LH) : R D := match o with
  | some (some (.fn _ _)) => .bad
  | some (some d) => .ok d h
  | _ => .bad
theorem gV_nf {d : D} {h : LH} (hf : isFn d = false) : gV (some (some d)) h = .ok d h := by
  cases d with
  | fn _ _ => cases hf
  | _ => rfl
theorem gV_non {h : LH} : gV (some (some .non)) h = .ok .non h := by cases h <;> rfl
theorem gV_bl {b : Bool} {h : LH} : gV (some (some (.bl b))) h = .ok (.bl b) h := by cases h <;> rfl
theorem gV_int {b : Int} {h : LH} : gV (some (some (.int b))) h = .ok (.int b) h := by cases h <;> rfl
theorem gV_str {b : List Nat} {h : LH} : gV (some (some (.str b))) h = .ok (.str b) h := by cases h <;> rfl
theorem gV_tup {b : List D} {h : LH} : gV (some (some (.tup b))) h = .ok (.tup b) h := by cases h <;> rfl
theorem gV_ktp {b : List D} {h : LH} : gV (some (some (.ktp b))) h = .ok (.ktp b) h := by cases h <;> rfl
theorem gV_rol {b : List D} {h : LH} : gV (some (some (.rol b))) h = .ok (.rol b) h := by cases h <;> rfl
theorem gV_ref {b : Nat} {h : LH} : gV (some (some (.ref b))) h = .ok (.ref b) h := by cases h <;> rfl
theorem mV_gV {i : Nat} {ls : Ls} {h : LH} : mV i ls h = gV ls[i]? h := by
  unfold mV gV
  cases ls[i]? with
  | none => rfl
  | some o =>
    cases o with
    | none => rfl
    | some d => cases d <;> rfl
section
variable {N : Ls → LH → Prop} {T : D → LH → Prop} {B C : Ls → LH → Prop} {X : Exn → Ls → LH → Prop} {Y : Exn → LH → Prop} {ls : Ls} {h : LH}
theorem okR_V {i : Nat} {Q : D → LH → Prop} : @okR _ (mV i ls h) ⟨Q⟩ ⟨Y⟩ = @okR _ (gV ls[i]? h) ⟨Q⟩ ⟨Y⟩ := by rw [mV_gV]
theorem okR_chain {f g : D → D → LH → R D} {a b c : EM} {Q : D → LH → Prop} : @okR _ (mChain f g a b c ls h) ⟨Q⟩ ⟨Y⟩ = @okR _ (a ls h) ⟨fun x h => @okR _ (b ls h) ⟨fun y h => @okR _ (f x y h) ⟨fun z h => @okR _ (match z with
  | .bl true => (c ls h).bind fun u h4 => g y u h4
  | .bl false => .ok (.bl false) h
  | _ => .bad) ⟨Q⟩ ⟨Y⟩⟩ ⟨Y⟩⟩ ⟨Y⟩⟩ ⟨Y⟩ := okR_bind.trans (okR_ext fun _ _ => okR_bind.trans (okR_ext fun _ _ => okR_bind))
theorem okR_rng1 {a : AM} {Q : LI → LH → Prop} : @okR _ (imRange1 a ls h) ⟨Q⟩ ⟨Y⟩ = @okR _ (a ls h) ⟨fun ds h => @okR _ (rngK ds h) ⟨Q⟩ ⟨Y⟩⟩ ⟨Y⟩ := okR_bind
theorem okR_rng2 {a : AM} {Q : LI → LH → Prop} : @okR _ (imRange2 a ls h) ⟨Q⟩ ⟨Y⟩ = @okR _ (a ls h) ⟨fun ds h => @okR _ (rngK2 ds h) ⟨Q⟩ ⟨Y⟩⟩ ⟨Y⟩ := okR_bind
theorem okR_neg {m : EM} {Q : D → LH → Prop} : @okR _ (mNeg m ls h) ⟨Q⟩ ⟨Y⟩ = @okR _ (m ls h) ⟨fun d h => @okR _ (match d with
  | .int i => .ok (.int (-i)) h
  | _ => .bad) ⟨Q⟩ ⟨Y⟩⟩ ⟨Y⟩ := okR_bind
theorem okR_sl {me : EM} {ml mh : OM} {Q : D → LH → Prop} : @okR _ (mSl me ml mh ls h) ⟨Q⟩ ⟨Y⟩ = @okR _ (me ls h) ⟨fun x h => @okR _ (ml ls h) ⟨fun lo h => @okR _ (mh ls h) ⟨fun hi h => @okR _ (dSl x lo hi h) ⟨Q⟩ ⟨Y⟩⟩ ⟨Y⟩⟩ ⟨Y⟩⟩ ⟨Y⟩ := okR_bind.trans (okR_ext fun _ _ => okR_bind.trans (okR_ext fun _ _ => okR_bind))
theorem okR_noPart {Q : Option Int → LH → Prop} : @okR _ (mNoPart ls h) ⟨Q⟩ ⟨Y⟩ = Q none h := by cases h <;> rfl
theorem okR_part {e : EM} {Q : Option Int → LH → Prop} : @okR _ (mPart e ls h) ⟨Q⟩ ⟨Y⟩ = @okR _ (e ls h) ⟨fun d h => @okR _ (match d with
  | .int i => .ok (some i) h
  | _ => .bad) ⟨Q⟩ ⟨Y⟩⟩ ⟨Y⟩ := okR_bind
theorem okS_sub {f : D → D → D → LH → Option LH} {me mo mi : EM} : @okS (mSetSub f me mo mi ls h) ⟨N, T, B, C, X⟩ = @okR _ (me ls h) ⟨fun x h => @okR _ (mo ls h) ⟨fun o h => @okR _ (mi ls h) ⟨fun i h => @okS (match f o i x h with
  | some h4 => .nx ls h4
  | none => .bad) ⟨N, T, B, C, X⟩⟩ ⟨fun x h => X x ls h⟩⟩ ⟨fun x h => X x ls h⟩⟩ ⟨fun x h => X x ls h⟩ := okS_lift.trans (okR_ext fun _ _ => okS_lift.trans (okR_ext fun _ _ => okS_lift))
theorem okS_aug {f : D → D → LH → R D} {i : Nat} {me : EM} {d : D} (e : ls[i]? = some (some d)) (nf : isFn d = false := by rfl) : @okS (mAug f i me ls h) ⟨N, T, B, C, X⟩ = @okR _ (me ls h) ⟨fun y h => @okR _ (f d y h) ⟨fun z h => N (ls.set i (some z)) h⟩ ⟨fun x h => X x ls h⟩⟩ ⟨fun x h => X x ls h⟩ := by
  unfold mAug; rw [e]
  cases d with
  | fn _ _ => cases nf
  | _ => exact okS_lift.trans (okR_bind.trans (okR_ext fun _ _ => okR_ext fun _ _ => rfl))
theorem okS_par {i j : Nat} {ma : AM} : @okS (mPar i j ma ls h) ⟨N, T, B, C, X⟩ = @okR _ (ma ls h) ⟨fun ds h => @okS (match ds with
  | [x, y] => .nx ((ls.set i (some x)).set j (some y)) h
  | _ => .bad) ⟨N, T, B, C, X⟩⟩ ⟨fun x h => X x ls h⟩ := okS_lift
theorem okR_alt {a b : EM} {Q : D → LH → Prop} (h1 : @okR _ (a ls h) ⟨Q⟩ ⟨Y⟩) : @okR _ (mAlt a b ls h) ⟨Q⟩ ⟨Y⟩ := by
  unfold mAlt
  cases hr : a ls h with
  | bad => rw [hr] at h1; exact h1.elim
  | ok d h' => rw [hr] at h1; exact h1
  | ex x h' => rw [hr] at h1; exact h1
theorem okR_altE {a b : EM} {d : D} {h' : LH} (h1 : a ls h = .ok d h') : mAlt a b ls h = .ok d h' := by
  unfold mAlt; rw [h1]
end
/-! ### frames -/
structure Fr (S : List Nat) (h h' : LH) : Prop where
  len : h.length ≤ h'.length
  get : ∀ (p : Nat) (o : LO), h[p]? = some o → p ∉ S → h'[p]? = some o
theorem Fr.refl {S : List Nat} {h : LH} : Fr S h h := ⟨Nat.le_refl _, fun _ _ h _ => h⟩
theorem Fr.trans {S : List Nat} {h h1 h2 : LH} (a : Fr S h h1) (b : Fr S h1 h2) : Fr S h h2 := ⟨Nat.le_trans a.len b.len, fun p o e n => b.get p o (a.get p o e n) n⟩
theorem Fr.app {S : List Nat} {h more : LH} : Fr S h (h ++ more) := ⟨by simp, fun p o e _ => by rw [List.getElem?_append_left (List.getElem?_eq_some_iff.mp e).1]; exact e⟩
theorem Fr.set {S : List Nat} {h : LH} {n : Nat} {o : LO} (hn : n ∈ S) : Fr S h (h.set n o) := ⟨by simp, fun p o' e hp => by
  have : n ≠ p := fun z => hp (by rw [← z]; exact hn)
  rw [List.getElem?_set_ne this]; exact e⟩
theorem Fr.mono {S S' : List Nat} {h h' : LH} (a : Fr S h h') (hs : ∀ x ∈ S, x ∈ S') : Fr S' h h' := ⟨a.len, fun p o e n => a.get p o e fun z => n (hs p z)⟩
/-- changes at places that were not there are no changes -/
theorem Fr.cut {S : List Nat} {h h' : LH} {n : Nat} (a : Fr (n :: S) h h') (hn : h.length ≤ n) : Fr S h h' := ⟨a.len, fun p o e hp => a.get p o e fun z => by
  rcases List.mem_cons.mp z with z | z
  · have := (List.getElem?_eq_some_iff.mp e).1; omega
  · exact hp z⟩
theorem Kp.fr {t r : Nat} {h h' : LH} (a : Kp t r h h') (l : h.length ≤ h'.length) : Fr [t, r] h h' := ⟨l, fun p o e n => a p o e (fun z => n (by simp [z])) (fun z => n (by simp [z]))⟩
theorem Town.fr {h h' : LH} {t r : Nat} {row : List Int} {c : Int} {S : List Nat} (T : Town h t r row c) (f : Fr S h h') (h1 : t ∉ S) (h2 : r ∉ S) : Town h' t r row c := ⟨f.get _ _ T.tn h1, f.get _ _ T.rw_ h2, T.ne, T.tr⟩
theorem Town.lt {h : LH} {t r : Nat} {row : List Int} {c : Int} (T : Town h t r row c) : t < h.length := (List.getElem?_eq_some_iff.mp T.tn).1
theorem Town.lr {h : LH} {t r : Nat} {row : List Int} {c : Int} (T : Town h t r row c) : r < h.length := (List.getElem?_eq_some_iff.mp T.rw_).1
theorem Town.fresh {h : LH} {t r : Nat} {row : List Int} {c : Int} (T : Town h t r row c) : h.length ≠ t ∧ h.length ≠ r := ⟨by have := T.lt; omega, by have := T.lr; omega⟩
theorem app_at {h : LH} {o : LO} : (h ++ [o])[h.length]? = some o := by simp
theorem app_lt {h : LH} {o o' : LO} {p : Nat} (e : h[p]? = some o) : (h ++ [o'])[p]? = some o := by rw [List.getElem?_append_left (List.getElem?_eq_some_iff.mp e).1]; exact e
theorem drawF {h : LH} {t r : Nat} {row : List Int} {c n : Int} (T : Town h t r row c) (hn : 1 ≤ n) (hn2 : n < 1073741824) :
    ∃ (v : Nat) (h' : LH) (row' : List Int), (v : Int) < n ∧ runA drawM [.ref t, .int n] h = .ok (.int v) h' ∧ Town h' t r row' (c + 1) ∧ Fr [t, r] h h' ∧ h'.length = h.length := by
  obtain ⟨v, h', row', a, b, c, d, e⟩ := drawK T hn hn2
  exact ⟨v, h', row', a, b, c, d.fr (by omega), e⟩
theorem pickF {h : LH} {t r p : Nat} {row : List Int} {c : Int} {xs : List D} (T : Town h t r row c) (hp : h[p]? = some (.lst xs)) (h1 : p ≠ t) (h2 : p ≠ r) (hx : 1 ≤ xs.length) (hx2 : xs.length < 1073741824) :
    ∃ (v : Nat) (x : D) (h' : LH) (row' : List Int), xs[v]? = some x ∧ pickM [.ref t, .ref p] h = .ok x h' ∧ Town h' t r row' (c + 1) ∧ Fr [t, r] h h' ∧ h'.length = h.length := by
  obtain ⟨v, x, h', row', a, b, c, d, e⟩ := pickK T hp h1 h2 hx hx2
  exact ⟨v, x, h', row', a, b, c, d.fr (by omega), e⟩
/-- a pick from a list just made -/
theorem pickN {h : LH} {t r : Nat} {row : List Int} {c : Int} (T : Town h t r row c) (xs : List D) (hx : 1 ≤ xs.length) (hx2 : xs.length < 1073741824) :
    ∃ (v : Nat) (x : D) (h' : LH) (row' : List Int), xs[v]? = some x ∧ pickM [.ref t, .ref h.length] (h ++ [.lst xs]) = .ok x h' ∧ Town h' t r row' (c + 1) ∧ Fr [t, r] h h' ∧ h'.length = h.length + 1 := by
  have := T.lt
  have := T.lr
  obtain ⟨v, x, h', row', a, b, c, d, e⟩ := pickF (T.app (more := [.lst xs])) app_at (by omega) (by omega) hx hx2
  exact ⟨v, x, h', row', a, b, c, Fr.app.trans d, by rw [e]; simp⟩
theorem wordF {h : LH} {t r : Nat} {row : List Int} {c : Int} {al : List Nat} {most : Int} (T : Town h t r row c) (ha : 1 ≤ al.length) (ha2 : al.length < 1000000) (hm : 0 ≤ most) (hm2 : most < 1000) :
    ∃ (w : List Nat) (h' : LH) (row' : List Int) (c' : Int), (∀ x ∈ w, x ∈ al) ∧ (w.length : Int) ≤ most ∧ wordM [.ref t, .str al, .int most] h = .ok (.str w) h' ∧ Town h' t r row' c' ∧ Fr [t, r] h h' := by
  obtain ⟨w, h', row', c', a, b, c, d, e⟩ := word_ok T ha ha2 hm hm2
  refine ⟨w, h', row', c', a, b, c, d, e.fr ?_⟩
  -- the heap only grows: its last object stands
  by_cases hl : h.length ≤ h'.length
  · exact hl
  · exfalso
    have lt := T.lt
    have lr := T.lr
    have h1 := d.lt
    have h2 := d.lr
    obtain ⟨o, ho⟩ : ∃ o, h[h'.length]? = some o := ⟨h[h'.length]'(by omega), List.getElem?_eq_getElem (by omega)⟩
    have := e h'.length o ho (by omega) (by omega)
    simp at this
/-! ### equal lists -/
theorem eqvI : ∀ ss : List Int, PyData.eqvAll (ss.map PyData.int) (ss.map PyData.int) = true
  | [] => by rw [List.map_nil, PyData.eqvAll]
  | n :: ns => by rw [List.map_cons, PyData.eqvAll, eqvI ns, PyData.eqv]; simp
theorem pd_ints {h : LH} {a n : Nat} {ns : List Int} (ha : h[a]? = some (.lst (ns.map D.int))) : pd h (n + 2) (.ref a) = some (.list (ns.map PyData.int)) := by
  rw [pd_ref]
  simp only [asRd, ha, Option.bind_some]
  rw [pdA_int (fun i => pd_int h n i)]; rfl
theorem shaped_ints (ns : List Int) : SeqAt.shaped (.list (ns.map PyData.int)) = true := by
  unfold SeqAt.shaped
  rw [PyData.canLay0, canLayI, PyData.depth, depthI]; rfl
theorem eqD_ints {h : LH} {a b : Nat} {ns : List Int} (ha : h[a]? = some (.lst (ns.map D.int))) (hb : h[b]? = some (.lst (ns.map D.int))) : eqD (.ref a) (.ref b) h = some true := by
  have ev : PyData.eqv (.list (ns.map PyData.int)) (.list (ns.map PyData.int)) = true := by rw [PyData.eqv, eqvI]
  have es : eqS (.ref a) (.ref b) = none := rfl
  simp only [eqD, es, pd_ints (n := 64) ha, pd_ints (n := 64) hb, shaped_ints, ev, Bool.and_self, if_true]
theorem eq_ints {h : LH} {a b : Nat} {ns : List Int} (ha : h[a]? = some (.lst (ns.map D.int))) (hb : h[b]? = some (.lst (ns.map D.int))) : dEq (.ref a) (.ref b) h = .ok (.bl true) h := by
  simp only [dEq, eqD_ints ha hb]
theorem ne_ints {h : LH} {a b : Nat} {ns : List Int} (ha : h[a]? = some (.lst (ns.map D.int))) (hb : h[b]? = some (.lst (ns.map D.int))) : dNe (.ref a) (.ref b) h = .ok (.bl false) h := by
  simp only [dNe, eqD_ints ha hb, Bool.not_true]
theorem pd_tup (h : LH) (n : Nat) (xs : List D) : pd h (n + 1) (.tup xs) = (pdA (pd h n) xs).map .tuple := by rw [pd]
theorem ne_tupI {h : LH} {ns : List Int} : dNe (.tup (ns.map D.int)) (.tup (ns.map D.int)) h = .ok (.bl false) h := by
  have p : pd h 66 (.tup (ns.map D.int)) = some (.tuple (ns.map PyData.int)) := by
    rw [show (66 : Nat) = 65 + 1 from rfl, pd_tup, pdA_int (fun i => by rw [show (65 : Nat) = 64 + 1 from rfl, pd_int])]; rfl
  have sh : SeqAt.shaped (.tuple (ns.map PyData.int)) = true := by
    unfold SeqAt.shaped
    rw [PyData.canLay0, canLayI, PyData.depth, depthI]; rfl
  have ev : PyData.eqv (.tuple (ns.map PyData.int)) (.tuple (ns.map PyData.int)) = true := by rw [PyData.eqv, eqvI]
  have es : eqS (.tup (ns.map D.int)) (.tup (ns.map D.int)) = none := rfl
  simp only [dNe, eqD, es, p, sh, ev, Bool.and_self, if_true, Bool.not_true]
theorem allI_map (ns : List Int) : allI (ns.map D.int) = some ns := by
  induction ns with
  | nil => rfl
  | cons a l ih => rw [List.map_cons, allI, ih]; rfl
theorem allB_map (bs : List Bool) : allB (bs.map D.bl) = some bs := by
  induction bs with
  | nil => rfl
  | cons a l ih => rw [List.map_cons, allB, ih]; rfl
theorem sdI_id {l : List Int} (h : RisI l) : sdI l = l := risI_eq (sdI_ris l) h fun z => sdI_mem
end Rf
set_option Elab.async false
set_option linter.all false
set_option maxRecDepth 100000
set_option maxHeartbeats 400000
set_option autoImplicit false
/-! enumerate(text). -/
namespace Rf
open PySem PySem.Spec PyProof.Rows L2
def IteS (x : Str) : It :=
  ⟨fun i _ => i < x.cps.size, fun i H v H' => ∃ T c, v = .ref T ∧ H T = none ∧ H' = upd H T (.tup [.int (i : Nat), .str ⟨#[c]⟩]) ∧ x.cps[i]? = some c, fun i _ => x.cps.size ≤ i⟩
theorem turn_enumS {P : Program} {w : World} {K : PySem.W.Frag} {elts : List Expr} {kk : Nat} {tpos : Pos} (x : Str) (t : Tok) (e it : Addr) :
    Turn P w K (.Tuple elts kk tpos) (IteS x) [e, it] e (fun i h => (∃ old, IsEnum h e it ((i : Nat) : Int) old) ∧ (h.IsStrIter it (strIterType x) x t i ∧ i ≤ x.cps.size) ∧ e ≠ it) where
  mem := by simp
  obj := fun i h st b hb => by
    obtain ⟨⟨old, he⟩, ⟨⟨o, ho, hc, hd⟩, _⟩, _⟩ := st
    have e' : b = e ∨ b = it := by simpa using hb
    rcases e' with z | z
    · rw [z]; exact ⟨_, he, fun v q => nomatch q⟩
    · rw [z]; exact ⟨o, ho, fun v q => by rw [hd] at q; cases q⟩
  keep := fun i h h' st k => let ⟨⟨old, he⟩, ⟨⟨o, ho, r⟩, hl⟩, hne⟩ := st; ⟨⟨old, k e (by simp) _ he⟩, ⟨⟨o, k it (by simp) o ho, r⟩, hl⟩, hne⟩
  item := by
    intro X hP hw hK hc i pins s σ H E I hf st hg
    subst hP hw hK
    obtain ⟨⟨old, he⟩, ⟨hit, hil⟩, hne⟩ := st
    have hg : i < x.cps.size := hg
    have hel : e < s.heap.objs.size := Heap.lt_size he
    have hil' : it < s.heap.objs.size := by obtain ⟨_, q, _⟩ := hit; exact Heap.lt_size q
    have D : Draws X.prog X.w X.A.in1 it [it] x.cps.size (fun i v => ∃ c u, x.cps[i]? = some c ∧ v = .str ⟨#[c]⟩ u) (fun i h => h.IsStrIter it (strIterType x) x t i) := Draws.text (A := X.A.in1) (show X.A.in1.handled = none from I.ok.hd hc) it x t
    refine wpAny_pyNext_enum_itemD D he hit hg hne (by simpa using hne) fun y h' tk hP ho hit' hT hsz hk => ?_
    obtain ⟨c, u, hcx, rfl⟩ := hP
    refine ⟨_, rfl, wpAny_letOwnedTupleGo_enum (s := { s with heap := h', toks := tk + 1 }) ho fun h'' he' sb => ?_⟩
    have hT2 : h''.get? s.heap.objs.size = some { cls := .type "tuple", data := .seq #[.int i tk, .str ⟨#[c]⟩ u] } := (sb.2 _ (Nat.ne_of_gt hel)).trans hT
    have new : ObjOk X.prog X.w (upd H s.heap.objs.size (.tup [.int (i : Nat), .str ⟨#[c]⟩])) h'' s.heap.objs.size (.tup [.int (i : Nat), .str ⟨#[c]⟩]) :=
      ⟨by show 2 ≤ sizeLine; decide, [.int i tk, .str ⟨#[c]⟩ u], .cons ⟨_, rfl⟩ (.cons ⟨_, rfl⟩ .nil), ⟨_, hT2, rfl, _, rfl⟩⟩
    have I1 : Inv X pins σ (upd H s.heap.objs.size (.tup [.int (i : Nat), .str ⟨#[c]⟩])) { s with heap := h'', toks := tk + 1 } :=
      I.turnedNew (ch := [e, it]) (fun b ob hb q => (sb.2 b (fun z => hb (by simp [z]))).trans (hk b ob (fun z => hb (by simp [z])) (fun z => hb (by simp [z])) q)) hf (Nat.le_refl _) new
    refine ⟨.ref s.heap.objs.size, _, I1, rfl, ⟨_, c, rfl, I.hok.fresh (Nat.le_refl _), rfl, hcx⟩, ⟨⟨.str ⟨#[c]⟩ u, ?_⟩, ⟨?_, hg⟩, hne⟩, fun b hb => ?_⟩
    · have e1 : ((i + 1 : Nat) : Int) = (i : Int) + 1 := by omega
      rw [e1]; exact he'
    · obtain ⟨o, ho', r⟩ := hit'
      exact ⟨o, (sb.2 it (Ne.symm hne)).trans ho', r⟩
    · have hb' : b < s.heap.objs.size := by
        have e' : b = e ∨ b = it := by simpa using hb
        rcases e' with z | z
        · rw [z]; exact hel
        · rw [z]; exact hil'
      rw [upd_ne (Nat.ne_of_lt hb')]
      exact (hf b hb).1
  done := by
    intro X hP hw hK hc i pins s σ H E I hf st hg
    subst hP hw hK
    obtain ⟨⟨old, he⟩, ⟨hit, hil⟩, hne⟩ := st
    have hg : x.cps.size ≤ i := hg
    have ei : i = x.cps.size := Nat.le_antisymm hil hg
    subst ei
    obtain ⟨f0, f1, f2, f3, f4, f5⟩ := hf it (by simp)
    have D : Draws X.prog X.w X.A.in1 it [it] x.cps.size (fun i v => ∃ c u, x.cps[i]? = some c ∧ v = .str ⟨#[c]⟩ u) (fun i h => h.IsStrIter it (strIterType x) x t i) := Draws.text (A := X.A.in1) (show X.A.in1.handled = none from I.ok.hd hc) it x t
    exact wpAny_pyNext_enum_endD D he hit fun h' eb => ⟨rfl, I.turned (t' := s.toks) (fun b o hb q => eb b o hb q) f0 f1 f3 f4 f5⟩
  self := fun A i s Q E st h => let ⟨⟨_, he⟩, _⟩ := st; wpAny_pyIter_enum he h
def iEnumS (ta : TA) : TI := fun σ H R => ta σ H fun vs H1 => ∃ x, vs = [.str x] ∧ R (IteS x) H1
theorem pi_enumS {X : Cx} {e : Expr} {ta : TA} {p pos tpos : Pos} {elts : List Expr} {kk : Nat} (hg : Gl X "enumerate") (hm : X.mg "enumerate" = none) (ha : PA X [e] ta) (hs : starEach [e] X.env = [(false, eval e X.env)] := by rfl) :
    PI X (.Tuple elts kk tpos) (.Call (.Name "enumerate" p) [e] [] pos) (iEnumS ta) := by
  refine ⟨fun pins s σ H R I h => ?_⟩
  refine Call_ (ld_blt I hg hm boot_enumerate (PyProof.Rows.callWith_type1 (thn (ha.run pos pins s σ H _ I h) fun us s1 ⟨vs, H1, I1, r1, q1⟩ => ?_) hs rfl))
  obtain ⟨x, ex, q⟩ := q1
  subst ex
  cases r1 with
  | cons r rr =>
    cases rr
    obtain ⟨t, rfl⟩ := r
    refine call_enumerate_str fun h' he hit hsz hk => wpAny_pyIter_enum he ?_
    have I2 : Inv X pins σ H1 { s1 with heap := h' } := I1.kept (t' := s1.toks) hk
    refine ⟨s1.heap.objs.size + 1, [s1.heap.objs.size + 1, s1.heap.objs.size], _, _, H1, rfl, I2, turn_enumS x t (s1.heap.objs.size + 1) s1.heap.objs.size, ⟨⟨.none, he⟩, ⟨hit, Nat.zero_le _⟩, Nat.succ_ne_self _⟩, fun b hb => ?_, q⟩
    have e' : b = s1.heap.objs.size + 1 ∨ b = s1.heap.objs.size := by simpa using hb
    have hle : s1.heap.objs.size ≤ b := by
      rcases e' with z | z
      · rw [z]; exact Nat.le_add_right _ _
      · rw [z]; exact Nat.le_refl _
    exact I1.fpOk hle (I1.hok.fresh hle)
/-- enumerate(e), e a text or a list -/
def liEnumS (l : List Nat) : LI := fun i _ => match l[i]? with
  | some c => .item (.tup [.int i, .str [c]])
  | none => .done
def liEnumL (n : Nat) : LI := fun i h => match h[n]? with
  | some (.lst xs) => (match xs[i]? with
    | some d => .item (.tup [.int i, d])
    | none => .done)
  | _ => .bad
def imEnum (a : AM) : IM := fun ls h => (a ls h).bind fun ds h1 => match ds with
  | [.str l] => .ok (liEnumS l) h1
  | [.ref n] => (match h1[n]? with
    | some (.lst _) => .ok (liEnumL n) h1
    | _ => .bad)
  | _ => .bad
theorem ri_enum {X : Cx} {W : WX} {e : Expr} {ma : AM} {p pos tpos : Pos} {elts : List Expr} {kk : Nat} (hg : Gl X "enumerate") (hm : X.mg "enumerate" = none) (ha : RA X W [e] ma) (hs : starEach [e] X.env = [(false, eval e X.env)] := by rfl) : RI X W (.Tuple elts kk tpos) (.Call (.Name "enumerate" p) [e] [] pos) (imEnum ma) := by
  obtain ⟨t, a1, a2, _⟩ := ha
  have b1 := pi_enumS (tpos := tpos) (p := p) (pos := pos) (elts := elts) (kk := kk) hg hm a1 hs
  have b2 := pi_enum (tpos := tpos) (p := p) (pos := pos) (elts := elts) (kk := kk) hg hm a1 hs
  refine ⟨fun σ H R => iEnumS t σ H R ∨ iEnum X.K t σ H R, ⟨fun pins s σ H R I h => h.elim (b1.run pins s σ H R I) (b2.run pins s σ H R I)⟩, fun mp lh ls σ H Q r rs q => ?_⟩
  unfold imEnum at q
  cases hm : ma ls lh with
  | bad => rw [hm] at q; exact q.elim
  | ex x h' => rw [hm] at q; exact .inl (a2 mp lh ls σ H _ r rs (by rw [hm]; exact q))
  | ok ds h' =>
    rw [hm] at q
    match ds, hm, q with
    | [], hm, q => exact (show False from q).elim
    | [.str l], hm, q =>
      refine .inl (a2 mp lh ls σ H _ r rs ?_)
      rw [hm]
      intro mp1 H1 vs e1 r1 rl
      cases rl with
      | cons a b =>
        cases b
        cases a
        refine ⟨_, rfl, PostG.now (Rl := RelI X.K) (PostG.ext (show PostG X.K (RelI X.K) mp H (.ok (liEnumS l) h') Q (WE W σ) from q) e1) r1 fun i m lh2 H2 e2 r2 => ?_⟩
        unfold liEnumS
        cases hx : l[i]? with
        | none =>
          have := List.getElem?_eq_none_iff.mp hx
          show l.toArray.size ≤ i
          simpa using this
        | some c =>
          have hl := (List.getElem?_eq_some_iff.mp hx).1
          refine ⟨by show i < l.toArray.size; simpa using hl, fun x H' y => ?_⟩
          obtain ⟨T, c', rfl, hT, rfl, hc'⟩ := y
          have : c' = c := by
            have : l[i]? = some c' := by simpa using hc'
            rw [hx] at this; cases this; rfl
          subst this
          exact ⟨.free hT, r2.free hT, .tup (.inl upd_same) (.cons (.int _) (.cons (.str [c']) .nil))⟩
    | [.ref n], hm, q =>
      have q : PostG X.K (RelI X.K) mp H (match h'[n]? with
        | some (.lst _) => .ok (liEnumL n) h'
        | _ => .bad) Q (WE W σ) := q
      refine .inr (a2 mp lh ls σ H _ r rs ?_)
      rw [hm]
      intro mp1 H1 vs e1 r1 rl
      cases rl with
      | cons a b =>
        cases b
        cases a with
        | @ref _ a ha =>
          cases hn : h'[n]? with
          | none => simp only [hn] at q; exact q.elim
          | some o =>
            have ro := r1.obj n o a hn ha
            cases o with
            | lst xs =>
              obtain ⟨vs, hv, rd⟩ := ro
              simp only [hn] at q
              refine ⟨a, vs, rfl, SqL.of hv, PostG.now (PostG.ext q e1) r1 fun i m lh2 H2 e2 r2 => ?_⟩
              have ha2 := e2.get ha
              unfold liEnumL
              cases hn2 : lh2[n]? with
              | none => trivial
              | some o2 =>
                have ro2 := r2.obj n o2 a hn2 ha2
                cases o2 with
                | lst ys =>
                  obtain ⟨us, hv2, rd2⟩ := ro2
                  show match (match ys[i]? with
                    | some d => Stp.item (.tup [.int i, d])
                    | none => .done) with
                    | .done => (Ite X.K a).stop i H2
                    | .item d => (Ite X.K a).go i H2 ∧ ∀ x H', (Ite X.K a).yld i H2 x H' → Ext X.K m H2 m H' ∧ Rep X.K m lh2 H' ∧ RelD X.K m H' d x
                    | .bad => True
                  cases hx : ys[i]? with
                  | none =>
                    have := List.getElem?_eq_none_iff.mp hx
                    exact ⟨us, SqL.of hv2, by rw [← rd2.length]; exact this⟩
                  | some d =>
                    obtain ⟨v, hvi, rv⟩ := rd2.get hx
                    refine ⟨⟨us, v, SqL.of hv2, hvi⟩, fun x H' y => ?_⟩
                    obtain ⟨T, x', rfl, hT, rfl, y2⟩ := y
                    have := y2 us (SqL.of hv2)
                    rw [hvi] at this; cases this
                    exact ⟨.free hT, r2.free hT, .tup (.inl upd_same) (.cons (.int _) (.cons (rv.ext (.free hT)) .nil))⟩
                | _ => trivial
            | _ => simp only [hn] at q; exact q.elim
    | [.non], hm, q => exact (show False from q).elim
    | [.bl _], hm, q => exact (show False from q).elim
    | [.int _], hm, q => exact (show False from q).elim
    | [.tup _], hm, q => exact (show False from q).elim
    | [.rol _], hm, q => exact (show False from q).elim
    | a :: b :: c, hm, q => exact (show False by cases a <;> exact q).elim
end Rf
set_option Elab.async false
set_option linter.all false
set_option maxRecDepth 100000
set_option maxHeartbeats 400000
set_option autoImplicit false
/-! dicts: keys are ints or texts, or tuples of them. -/
namespace Rf
open PySem PySem.Spec PyProof.Rows L2
def eqK : D → D → Bool
  | .int i, .int j => decide (i = j)
  | .str a, .str b => decide (a = b)
  | _, _ => false
def eqKs : List D → List D → Bool
  | [], [] => true
  | a :: r, b :: s => eqK a b && eqKs r s
  | _, _ => false
def eqY : D → D → Bool
  | .tup a, .tup b => eqKs a b
  | a, b => eqK a b
def isK : D → Bool
  | .int _ => true
  | .str _ => true
  | _ => false
def isT : D → Bool
  | .tup xs => xs.all isK && !kc xs
  | _ => false
def keyOk (t : Bool) (k : D) : Bool := match t with
  | true => isT k
  | false => isK k
def getK (kvs : List (D × D)) (k : D) : Option D := (kvs.find? fun p => eqY p.1 k).map (·.2)
def putD (kvs : List (D × D)) (k v : D) : List (D × D) := if (kvs.any fun p => eqY p.1 k) = true then kvs.map (fun p => if eqY p.1 k = true then (p.1, v) else p) else kvs ++ [(k, v)]
/-- a dict that may be written; one that may be read -/
def dicW (d : D) (h : LH) : Option (Bool × List (D × D)) := match d with
  | .ref n => (match h[n]? with
    | some (.dic t kvs) => some (t, kvs)
    | _ => none)
  | _ => none
def dicR (d : D) (h : LH) : Option (Bool × List (D × D)) := match d with
  | .ref n => (match h[n]? with
    | some (.dic t kvs) => some (t, kvs)
    | some (.dlk t kvs) => some (t, kvs)
    | _ => none)
  | _ => none
section
variable {K : PySem.W.Frag} {mp : List Addr} {H : Hp} {lh : LH}
abbrev PGr {κ : Type} (KR : D → κ → Prop) (K : PySem.W.Frag) (mp : List Addr) (H : Hp) : List (D × D) → List (κ × V) → Prop := Paired (fun (p : D × D) (q : κ × V) => KR p.1 q.1 ∧ RelD K mp H p.2 q.2)
abbrev PK (K : PySem.W.Frag) (mp : List Addr) (H : Hp) : List (D × D) → List (Key × V) → Prop := PGr KeyR K mp H
abbrev PTk (K : PySem.W.Frag) (mp : List Addr) (H : Hp) : List (D × D) → List (List Key × V) → Prop := PGr KeyT K mp H
theorem key_rel {k : D} {v : V} (r : RelD K mp H k v) (h : isK k = true) : ∃ key, v = kV key ∧ KeyR k key := by
  cases r with
  | int i => exact ⟨.inl i, rfl, rfl⟩
  | str l => exact ⟨.inr ⟨l.toArray⟩, rfl, rfl⟩
  | _ => cases h
theorem keys_rel : ∀ {ds : List D} {vs : List V}, RelDs K mp H ds vs → ds.all isK = true → ∃ keys : List Key, vs = keys.map kV ∧ Paired KeyR ds keys
  | _, _, .nil, _ => ⟨[], rfl, .nil⟩
  | _, _, .cons a b, h => by
    rw [List.all_cons, Bool.and_eq_true] at h
    obtain ⟨k, e1, e2⟩ := key_rel a h.1
    obtain ⟨ks, e3, e4⟩ := keys_rel b h.2
    exact ⟨k :: ks, by rw [e1, e3]; rfl, .cons e2 e4⟩
theorem keyT_rel {k : D} {v : V} (r : RelD K mp H k v) (h : isT k = true) : ∃ b keys, v = .ref b ∧ H b = some (.tup (keys.map kV)) ∧ KeyT k keys := by
  cases r with
  | @tup ds a vs hs rs =>
    unfold isT at h
    rw [Bool.and_eq_true] at h
    obtain ⟨ks, e1, e2⟩ := keys_rel rs h.1
    rcases hs with hs | ⟨hk, _⟩
    · exact ⟨a, ks, rfl, by rw [← e1]; exact hs, e2⟩
    · rw [hk] at h; cases h.2
  | _ => cases h
theorem eqK_rel : ∀ {a b : D} {ka kb : Key}, KeyR a ka → KeyR b kb → decide (ka = kb) = eqK a b
  | .int i, .int i', .inl j, .inl j', ra, rb => by
    have e1 : i = j := ra
    have e2 : i' = j' := rb
    subst e1 e2
    show decide ((Sum.inl i : Key) = Sum.inl i') = decide (i = i')
    by_cases h : i = i'
    · rw [decide_eq_true h, decide_eq_true (by rw [h])]
    · rw [decide_eq_false h, decide_eq_false (by intro z; cases z; exact h rfl)]
  | .int i, .str b, .inl j, .inr y, _, _ => by
    show decide ((Sum.inl j : Key) = Sum.inr y) = false
    exact decide_eq_false (by intro z; cases z)
  | .str a, .int i, .inr x, .inl j, _, _ => by
    show decide ((Sum.inr x : Key) = Sum.inl j) = false
    exact decide_eq_false (by intro z; cases z)
  | .str a, .str b, .inr x, .inr y, ra, rb => by
    have e1 : x = ⟨a.toArray⟩ := ra
    have e2 : y = ⟨b.toArray⟩ := rb
    subst e1 e2
    show decide ((Sum.inr (⟨a.toArray⟩ : Str) : Key) = Sum.inr ⟨b.toArray⟩) = decide (a = b)
    by_cases h : a = b
    · rw [decide_eq_true h, decide_eq_true (by rw [h])]
    · rw [decide_eq_false h, decide_eq_false (by
        intro z
        injection z with z
        injection z with z
        exact h (by simpa using z))]
theorem eqKs_rel : ∀ {a b : List D} {ka kb : List Key}, Paired KeyR a ka → Paired KeyR b kb → decide (ka = kb) = eqKs a b
  | _, _, _, _, .nil, .nil => rfl
  | _, _, _, _, .nil, .cons _ _ => by exact decide_eq_false (by intro z; cases z)
  | _, _, _, _, .cons _ _, .nil => by exact decide_eq_false (by intro z; cases z)
  | a :: r, b :: s, ka :: kr, kb :: ks, .cons h1 h2, .cons h3 h4 => by
    have e1 := eqK_rel h1 h3
    have e2 := eqKs_rel h2 h4
    show _ = (eqK a b && eqKs r s)
    rw [← e1, ← e2]
    by_cases h : ka = kb
    · by_cases h' : kr = ks
      · rw [decide_eq_true h, decide_eq_true h', decide_eq_true (by rw [h, h'])]; rfl
      · rw [decide_eq_false h', decide_eq_false (by intro z; injection z with _ z; exact h' z), Bool.and_false]
    · rw [decide_eq_false h, decide_eq_false (by intro z; injection z with z; exact h z), Bool.false_and]
class KRel {κ : Type} [DecidableEq κ] (KR : D → κ → Prop) : Prop where
  eq : ∀ {a b : D} {ka kb : κ}, KR a ka → KR b kb → decide (ka = kb) = eqY a b
instance : KRel KeyR := ⟨fun {a b ka kb} ra rb => by
  rw [eqK_rel ra rb]
  cases a with
  | tup xs => exact ra.elim
  | _ => rfl⟩
instance : KRel KeyT := ⟨fun {a b ka kb} ra rb => by
  cases a with
  | tup xs =>
    cases b with
    | tup ys => exact eqKs_rel ra rb
    | _ => exact rb.elim
  | _ => exact ra.elim⟩
section
variable {κ : Type} [DecidableEq κ] {KR : D → κ → Prop} [hE : KRel KR]
theorem getK_rel {k : D} {key : κ} (rk : KR k key) : ∀ {kvs : List (D × D)} {ks : List (κ × V)}, PGr KR K mp H kvs ks → match getK kvs k with
    | some d => ∃ v, valV ks key = some v ∧ RelD K mp H d v
    | none => valV ks key = none
  | _, _, .nil => rfl
  | p :: kvs, q :: ks, .cons a r => by
    have ih := getK_rel rk r
    have e := hE.eq a.1 rk
    unfold getK at ih ⊢
    rw [List.find?_cons]
    cases h : eqY p.1 k with
    | true =>
      rw [h] at e
      exact ⟨q.2, valV_pos (of_decide_eq_true e), a.2⟩
    | false =>
      rw [h] at e
      rw [valV_neg (of_decide_eq_false e)]
      exact ih
theorem any_pk {k : D} {key : κ} (rk : KR k key) : ∀ {kvs : List (D × D)} {ks : List (κ × V)}, PGr KR K mp H kvs ks → (ks.any fun kv => decide (kv.1 = key)) = kvs.any fun p => eqY p.1 k
  | _, _, .nil => rfl
  | p :: kvs, q :: ks, .cons a r => by rw [List.any_cons, List.any_cons, any_pk rk r, hE.eq a.1 rk]
theorem map_pk {k x : D} {key : κ} {v : V} (rk : KR k key) (rx : RelD K mp H x v) : ∀ {kvs : List (D × D)} {ks : List (κ × V)}, PGr KR K mp H kvs ks → PGr KR K mp H (kvs.map (fun p => if eqY p.1 k = true then (p.1, x) else p)) (ks.map fun kv => if kv.1 = key then (kv.1, v) else kv)
  | _, _, .nil => .nil
  | p :: kvs, q :: ks, .cons a r => by
    rw [List.map_cons, List.map_cons]
    refine .cons ?_ (map_pk rk rx r)
    have e := hE.eq a.1 rk
    cases h : eqY p.1 k with
    | true =>
      rw [h] at e
      rw [if_pos rfl, if_pos (of_decide_eq_true e)]
      exact ⟨a.1, rx⟩
    | false =>
      rw [h] at e
      rw [if_neg (by simp), if_neg (of_decide_eq_false e)]
      exact a
theorem paired_app {α β : Type} {F : α → β → Prop} : ∀ {a c : List α} {b d : List β}, Paired F a b → Paired F c d → Paired F (a ++ c) (b ++ d)
  | _, _, _, _, .nil, s => s
  | _, _, _, _, .cons x r, s => .cons x (paired_app r s)
theorem put_pk {k x : D} {key : κ} {v : V} (rk : KR k key) (rx : RelD K mp H x v) {kvs : List (D × D)} {ks : List (κ × V)} (r : PGr KR K mp H kvs ks) : PGr KR K mp H (putD kvs k x) (putK ks key v) := by
  unfold putD putK
  rw [any_pk rk r]
  cases h : (kvs.any fun p => eqY p.1 k) with
  | true => rw [if_pos rfl, if_pos rfl]; exact map_pk rk rx r
  | false => rw [if_neg (by simp), if_neg (by simp)]; exact paired_app r (.cons ⟨rk, rx⟩ .nil)
theorem PGr.ext {mp' : List Addr} {H' : Hp} {kvs : List (D × D)} {ks : List (κ × V)} (r : PGr KR K mp H kvs ks) (e : Ext K mp H mp' H') : PGr KR K mp' H' kvs ks := Paired.imp (fun _ _ z => ⟨z.1, z.2.ext e⟩) r
end
theorem PK.ext {mp' : List Addr} {H' : Hp} {kvs : List (D × D)} {ks : List (Key × V)} (r : PK K mp H kvs ks) (e : Ext K mp H mp' H') : PK K mp' H' kvs ks := PGr.ext r e
/-- what stands there -/
def DicR (K : PySem.W.Frag) (mp : List Addr) (H : Hp) (a : Addr) (t : Bool) (kvs : List (D × D)) : Prop := match t with
  | false => ∃ ks, Rd H a (.dK ks) ∧ PK K mp H kvs ks
  | true => ∃ ks, Rd H a (.dT ks) ∧ PTk K mp H kvs ks
theorem dicR_ok {d : D} {v : V} {t : Bool} {kvs : List (D × D)} (r : Rep K mp lh H) (rd : RelD K mp H d v) (e : dicR d lh = some (t, kvs)) : ∃ n a, d = .ref n ∧ v = .ref a ∧ mp[n]? = some a ∧ DicR K mp H a t kvs := by
  unfold dicR at e
  cases rd with
  | @ref n a hn =>
    cases ho : lh[n]? with
    | none => simp only [ho] at e; cases e
    | some o =>
      have ro := r.obj n o a ho hn
      cases o with
      | dic t' kvs' =>
        simp only [ho] at e; cases e
        cases t with
        | false => obtain ⟨ks, h1, h2⟩ := ro; exact ⟨n, a, rfl, rfl, hn, ks, .inl h1, h2⟩
        | true => obtain ⟨ks, h1, h2⟩ := ro; exact ⟨n, a, rfl, rfl, hn, ks, .inl h1, h2⟩
      | dlk t' kvs' =>
        simp only [ho] at e; cases e
        cases t with
        | false => obtain ⟨o, ks, h1, h2⟩ := ro; exact ⟨n, a, rfl, rfl, hn, ks, .inr ⟨o, h1⟩, h2⟩
        | true => obtain ⟨o, ks, h1, h2⟩ := ro; exact ⟨n, a, rfl, rfl, hn, ks, .inr ⟨o, h1⟩, h2⟩
      | _ => simp only [ho] at e; cases e
  | _ => cases e
/-- a look -/
theorem dget_ok {a : Addr} {t : Bool} {kvs : List (D × D)} {y : D} {vy : V} (h : DicR K mp H a t kvs) (ry : RelD K mp H y vy) (hk : keyOk t y = true) : ∃ ov, DGet H a vy ov ∧ (match getK kvs y with
    | some d => ∃ v, ov = some v ∧ RelD K mp H d v
    | none => ov = none) := by
  cases t with
  | false =>
    obtain ⟨ks, h1, h2⟩ := h
    obtain ⟨key, rfl, rk⟩ := key_rel ry hk
    refine ⟨_, .inl ⟨ks, key, h1, rfl, rfl⟩, ?_⟩
    exact getK_rel rk h2
  | true =>
    obtain ⟨ks, h1, h2⟩ := h
    obtain ⟨b, key, rfl, hb, rk⟩ := keyT_rel ry hk
    refine ⟨_, .inr ⟨ks, key, b, h1, rfl, hb, rfl⟩, ?_⟩
    exact getK_rel rk h2
theorem dicR_isD {a : Addr} {t : Bool} {kvs : List (D × D)} (h : DicR K mp H a t kvs) : IsD H a := by
  cases t with
  | false => obtain ⟨ks, h1, _⟩ := h; exact .inl ⟨ks, h1⟩
  | true => obtain ⟨ks, h1, _⟩ := h; exact .inr ⟨ks, h1⟩
end
/-! ### d[k] -/
def dDGet : D → D → LH → R D := fun x y h => match dicR x h with
  | some (t, kvs) => if keyOk t y = true then (match getK kvs y with
    | some d => .ok d h
    | none => .bad) else .bad
  | none => .bad
section
variable {X : Cx} {W : WX} {o i e value : Expr} {mo mi me : EM} {pos pos' : Pos}
theorem re_dget (hu : X.A.units + 64 < cLine) (ho : RE X W o mo) (hi : RE X W i mi) (hs : NoSl i := by exact fun _ _ => rfl) : RE X W (.Subscript o i pos) (mBin dDGet mo mi) := by
  obtain ⟨to, o1, o2⟩ := ho
  obtain ⟨ti, i1, i2⟩ := hi
  refine ⟨_, pe_dget (by omega) o1 i1 hs, fun mp lh ls σ H Q r rs q => o2 mp lh ls σ H _ r rs (q.bind fun mp1 H1 lh1 x vx e1 r1 rl1 q1 => i2 mp1 lh1 ls σ H1 _ r1 (rs.ext e1) (q1.bind fun mp2 H2 lh2 y vy e2 r2 rl2 q2 => ?_))⟩
  unfold dDGet at q2
  cases hd : dicR x lh2 with
  | none => simp only [hd] at q2; exact q2.elim
  | some p =>
    obtain ⟨t, kvs⟩ := p
    simp only [hd] at q2
    obtain ⟨n, a, rfl, rfl, hn, hD⟩ := dicR_ok r2 (rl1.ext e2) hd
    cases hk : keyOk t y with
    | false => simp only [hk] at q2; exact q2.elim
    | true =>
      simp only [hk, if_true] at q2
      obtain ⟨ov, g, gg⟩ := dget_ok hD rl2 hk
      cases hg : getK kvs y with
      | none => simp only [hg] at q2; exact q2.elim
      | some d =>
        simp only [hg] at q2 gg
        obtain ⟨v, rfl, g2⟩ := gg
        exact ⟨a, v, rfl, g, q2.now r2 g2⟩
/-! ### k in d -/
def dDIn : D → D → LH → R D := fun y x h => match dicR x h with
  | some (t, kvs) => if keyOk t y = true then .ok (.bl (getK kvs y).isSome) h else .bad
  | none => .bad
def dDNotIn : D → D → LH → R D := fun y x h => match dicR x h with
  | some (t, kvs) => if keyOk t y = true then .ok (.bl (!(getK kvs y).isSome)) h else .bad
  | none => .bad
theorem din_ok {K : PySem.W.Frag} {mp : List Addr} {H : Hp} {lh : LH} {x y : D} {vx vy : V} {t : Bool} {kvs : List (D × D)} (r : Rep K mp lh H) (rx : RelD K mp H x vx) (ry : RelD K mp H y vy) (hd : dicR x lh = some (t, kvs)) (hk : keyOk t y = true) : ∃ a ov, vx = .ref a ∧ DGet H a vy ov ∧ ov.isSome = (getK kvs y).isSome := by
  obtain ⟨n, a, rfl, rfl, hn, hD⟩ := dicR_ok r rx hd
  obtain ⟨ov, g, gg⟩ := dget_ok hD ry hk
  refine ⟨a, ov, rfl, g, ?_⟩
  cases hg : getK kvs y with
  | none => simp only [hg] at gg; rw [gg]; rfl
  | some d => simp only [hg] at gg; obtain ⟨v, g1, _⟩ := gg; rw [g1]; rfl
theorem o_din (hu : X.A.units + 64 < cLine) : ROp X (compareOp .In) dDIn := by
  refine ⟨fun y x H Q => ∃ a ov, x = .ref a ∧ DGet H a y ov ∧ Q (.bl ov.isSome) H, fun pins s σ H y x v u Q I ry rx h => ?_, fun mp lh H y x vy vx Q E rp ry rx q => ?_⟩
  · obtain ⟨a, ov, rfl, g, q⟩ := h
    obtain rfl : u = Value.ref a := rx
    exact d_in (by omega) I g ry fun s3 I3 => ⟨.bl ov.isSome, H, I3, rfl, q⟩
  · unfold dDIn at q
    cases hd : dicR x lh with
    | none => simp only [hd] at q; exact q.elim
    | some p =>
      obtain ⟨t, kvs⟩ := p
      cases hk : keyOk t y with
      | false => simp only [hd, hk] at q; exact q.elim
      | true =>
        simp only [hd, hk, if_true] at q
        obtain ⟨a, ov, h1, h2, h3⟩ := din_ok rp rx ry hd hk
        exact ⟨a, ov, h1, h2, by rw [h3]; exact q.now rp (.bl _)⟩
theorem o_dnotin (hu : X.A.units + 64 < cLine) : ROp X (compareOp .NotIn) dDNotIn := by
  refine ⟨fun y x H Q => ∃ a ov, x = .ref a ∧ DGet H a y ov ∧ Q (.bl (!ov.isSome)) H, fun pins s σ H y x v u Q I ry rx h => ?_, fun mp lh H y x vy vx Q E rp ry rx q => ?_⟩
  · obtain ⟨a, ov, rfl, g, q⟩ := h
    obtain rfl : u = Value.ref a := rx
    exact d_notIn (by omega) I g ry fun s3 I3 => ⟨.bl (!ov.isSome), H, I3, rfl, q⟩
  · unfold dDNotIn at q
    cases hd : dicR x lh with
    | none => simp only [hd] at q; exact q.elim
    | some p =>
      obtain ⟨t, kvs⟩ := p
      cases hk : keyOk t y with
      | false => simp only [hd, hk] at q; exact q.elim
      | true =>
        simp only [hd, hk, if_true] at q
        obtain ⟨a, ov, h1, h2, h3⟩ := din_ok rp rx ry hd hk
        exact ⟨a, ov, h1, h2, by rw [h3]; exact q.now rp (.bl _)⟩
/-! ### d[k] = v -/
def dSetD : D → D → D → LH → Option LH := fun o i x h => match o with
  | .ref n => (match dicW (.ref n) h with
    | some (t, kvs) => if (keyOk t i && Nat.blt kvs.length 16777216) = true then some (h.set n (.dic t (putD kvs i x))) else none
    | none => none)
  | _ => none
theorem dicW_at {n : Nat} {t : Bool} {kvs : List (D × D)} {h : LH} (e : dicW (.ref n) h = some (t, kvs)) : h[n]? = some (.dic t kvs) := by
  unfold dicW at e
  dsimp only at e
  split at e
  · rename_i q; cases e; exact q
  · cases e
theorem s_dict (hu : X.A.units + 64 < cLine) : RSt X dSetD := by
  refine ⟨fun o i x H Q => ∃ a H', o = .ref a ∧ DPut H a i x H' ∧ Q H', ?_, ?_⟩
  · intro pins s σ H o i x vo vi vx Q I ro ri rx h
    obtain ⟨a, H', rfl, g, q⟩ := h
    obtain rfl : vo = Value.ref a := ro
    exact d_setItem (by omega) I g ri rx fun s' I' => ⟨H', I', q⟩
  · intro mp lh lh' H o i x vo vi vx Q rp ro ri rx hf q
    unfold dSetD at hf
    cases ro with
    | @ref n a hn =>
      cases hd : dicW (.ref n) lh with
      | none => simp only [hd] at hf; cases hf
      | some p =>
        obtain ⟨t, kvs⟩ := p
        simp only [hd] at hf
        cases hk : (keyOk t i && Nat.blt kvs.length 16777216) with
        | false => simp only [hk] at hf; cases hf
        | true =>
          simp only [hk, if_true] at hf; cases hf
          rw [Bool.and_eq_true] at hk
          have ho := dicW_at hd
          have hl : kvs.length < 16777216 := Nat.le_of_ble_eq_true hk.2
          have hz : sizeLine = 16777216 := rfl
          cases t with
          | false =>
            obtain ⟨ks, h1, h2⟩ := rp.obj n _ a ho hn
            obtain ⟨key, rfl, rk⟩ := key_rel ri hk.1
            have ew : Ext X.K mp H mp (upd H a (.dK (putK ks key vx))) := .write rp hn ho rfl
            exact ⟨a, _, rfl, DPut.k h1 (by rw [hz, ← Paired.length h2]; exact hl), q _ ew (rp.write hn ho rfl ⟨_, upd_same, PGr.ext (put_pk rk rx h2) ew⟩)⟩
          | true =>
            obtain ⟨ks, h1, h2⟩ := rp.obj n _ a ho hn
            obtain ⟨b, key, rfl, hb, rk⟩ := keyT_rel ri hk.1
            have ew : Ext X.K mp H mp (upd H a (.dT (putK ks key vx))) := .write rp hn ho rfl
            exact ⟨a, _, rfl, DPut.t h1 hb (by rw [hz, ← Paired.length h2]; exact hl), q _ ew (rp.write hn ho rfl ⟨_, upd_same, PGr.ext (put_pk rk rx h2) ew⟩)⟩
    | _ => cases hf
/-! ### displays -/
def mDic0 : EM := fun _ h => .ok (.ref h.length) (h ++ [.dic false []])
theorem re_dic0 : RE X W (.Dict [] [] pos) mDic0 := ⟨_, pe_dnewK, fun mp lh ls σ H Q r rs q p hp => q (mp ++ [p]) _ _ (.alloc r hp) (r.alloc hp ⟨[], upd_same, .nil⟩) (.ref (by rw [← r.len]; simp))⟩
def mDicT : EM := fun _ h => .ok (.ref h.length) (h ++ [.dic true []])
theorem re_dicT : RE X W (.Dict [] [] pos) mDicT := ⟨_, pe_dnewT, fun mp lh ls σ H Q r rs q p hp => q (mp ++ [p]) _ _ (.alloc r hp) (r.alloc hp ⟨[], upd_same, .nil⟩) (.ref (by rw [← r.len]; simp))⟩
def mDic1 (mk mv : EM) : EM := fun ls h => (mk ls (h ++ [.dic false []])).bind fun k h1 => (mv ls h1).bind fun v h2 => match h2[h.length]? with
  | some (.dic false []) => if isK k = true then .ok (.ref h.length) (h2.set h.length (.dic false [(k, v)])) else .bad
  | _ => .bad
theorem re_dic1 {ek ev : Expr} {mk mv : EM} (hk : RE X W ek mk) (hv : RE X W ev mv) : RE X W (.Dict [some ek] [ev] pos) (mDic1 mk mv) := by
  obtain ⟨tk, k1, k2⟩ := hk
  obtain ⟨tv, v1, v2⟩ := hv
  refine ⟨_, pe_disp (pps_cons k1 v1 pps_nil) rfl rfl (by simp) (by simp), fun mp lh ls σ H Q r rs q p hp => ?_⟩
  have r0 : Rep X.K (mp ++ [p]) (lh ++ [.dic false []]) (upd H p (.dK [])) := r.alloc hp ⟨[], upd_same, .nil⟩
  have e0 : Ext X.K mp H (mp ++ [p]) (upd H p (.dK [])) := .alloc r hp
  have q : Post X.K (mp ++ [p]) (upd H p (.dK [])) (mDic1 mk mv ls lh) Q (WE W σ) := PostG.ext q e0
  unfold mDic1 at q
  refine k2 _ _ ls σ _ _ r0 (rs.ext e0) (q.bind fun mp1 H1 lh1 x vx e1 r1 rl1 q1 => v2 mp1 lh1 ls σ H1 _ r1 ((rs.ext e0).ext e1) (q1.bind fun mp2 H2 lh2 y vy e2 r2 rl2 q2 => ?_))
  have hpn : mp2[lh.length]? = some p := e2.get (e1.get (by rw [← r.len]; simp))
  cases ho : lh2[lh.length]? with
  | none => simp only [ho] at q2; exact q2.elim
  | some ob =>
    cases ob with
    | dic t kvs =>
      cases t with
      | true => simp only [ho] at q2; exact q2.elim
      | false =>
        cases kvs with
        | cons a b => simp only [ho] at q2; exact q2.elim
        | nil =>
          simp only [ho] at q2
          obtain ⟨ks, h1, h2⟩ := r2.obj _ _ p ho hpn
          cases h2
          cases hkk : isK x with
          | false => simp only [hkk] at q2; exact q2.elim
          | true =>
            simp only [hkk, if_true] at q2
            obtain ⟨key, rfl, rk⟩ := key_rel (rl1.ext e2) hkk
            have ew : Ext X.K mp2 H2 mp2 (upd H2 p (.dK (mergeK [] [(key, vy)]))) := .write r2 hpn ho rfl
            refine ⟨h1, [(key, vy)], rfl, by simp, q2 mp2 _ _ ew (r2.write hpn ho rfl ⟨_, upd_same, ?_⟩) (.ref hpn)⟩
            exact .cons ⟨rk, rl2.ext ew⟩ .nil
    | _ => simp only [ho] at q2; exact q2.elim
end
end Rf
set_option Elab.async false
set_option linter.all false
set_option maxRecDepth 100000
set_option maxHeartbeats 400000
set_option autoImplicit false
/-! posts: enumerate, dicts, try. -/
namespace Rf
open PySem PySem.Spec L2
section
variable {N : Ls → LH → Prop} {T : D → LH → Prop} {B C : Ls → LH → Prop} {X : Exn → Ls → LH → Prop} {Y : Exn → LH → Prop} {ls : Ls} {h : LH}
theorem okR_enum {a : AM} {Q : LI → LH → Prop} : @okR _ (imEnum a ls h) ⟨Q⟩ ⟨Y⟩ = @okR _ (a ls h) ⟨fun ds h => @okR _ (match ds with
  | [.str l] => .ok (liEnumS l) h
  | [.ref n] => (match h[n]? with
    | some (.lst _) => .ok (liEnumL n) h
    | _ => .bad)
  | _ => .bad) ⟨Q⟩ ⟨Y⟩⟩ ⟨Y⟩ := okR_bind
theorem okR_dic0 {Q : D → LH → Prop} : @okR _ (mDic0 ls h) ⟨Q⟩ ⟨Y⟩ = Q (.ref h.length) (h ++ [.dic false []]) := by cases h <;> rfl
theorem okR_dic1 {mk mv : EM} {Q : D → LH → Prop} : @okR _ (mDic1 mk mv ls h) ⟨Q⟩ ⟨Y⟩ = @okR _ (mk ls (h ++ [.dic false []])) ⟨fun k h1 => @okR _ (mv ls h1) ⟨fun v h2 => @okR _ (match h2[h.length]? with
  | some (.dic false []) => if isK k = true then .ok (.ref h.length) (h2.set h.length (.dic false [(k, v)])) else .bad
  | _ => .bad) ⟨Q⟩ ⟨Y⟩⟩ ⟨Y⟩⟩ ⟨Y⟩ := okR_bind.trans (okR_ext fun _ _ => okR_bind)
theorem okS_try {sub : Nat → Option Bool} {i : Nat} {b s : SM} : @okS (mTry sub i b s ls h) ⟨N, T, B, C, X⟩ = @okS (b ls h) ⟨N, T, B, C, fun x ls' h' => match sub x.cls with
  | some true => @okS (s (ls'.set i (some (.ref h'.length))) (h' ++ [.exc x.cls x.fs])) ⟨fun l h => N (l.set i none) h, T, fun l h => B (l.set i none) h, fun l h => C (l.set i none) h, fun _ _ _ => False⟩
  | some false => X x ls' h'
  | none => False⟩ := by
  unfold mTry
  cases hb : b ls h with
  | ex x l' h' =>
    cases hs : sub x.cls with
    | none => simp only [okS, hs]
    | some c => cases c with
      | false => simp only [okS, hs]
      | true =>
        simp only [okS, hs]
        cases s (l'.set i (some (.ref h'.length))) (h' ++ [.exc x.cls x.fs]) <;> rfl
  | _ => rfl
end
def enD (l : List Nat) : List D := (List.range l.length).map fun (i : Nat) => .tup [.int i, .str [l.getD i 0]]
theorem enD_len {l : List Nat} : (enD l).length = l.length := by unfold enD; simp
theorem enD_get {l : List Nat} {i c : Nat} (h : l[i]? = some c) : (enD l)[i]? = some (.tup [.int i, .str [c]]) := by
  have hi := (List.getElem?_eq_some_iff.mp h).1
  unfold enD
  rw [List.getElem?_map, List.getElem?_range hi]
  simp [List.getD_eq_getElem?_getD, h]
theorem itm_enumS {l : List Nat} {i : Nat} {h : LH} : liEnumS l i h = itm (enD l) i := by
  unfold liEnumS itm
  cases e : l[i]? with
  | none => rw [List.getElem?_eq_none (by rw [enD_len]; exact List.getElem?_eq_none_iff.mp e)]
  | some c => rw [enD_get e]
theorem cut_to {α : Type} (l : List α) (j : Nat) : cutL l none (some (j : Int)) = l.take j := by
  unfold cutL
  rw [HT.sIx_nat, HT.sIx_none]
  simp
theorem cut_mid {α : Type} (l : List α) {j c : Nat} (hc : c ≤ l.length) (hj : j ≤ c) : cutL l (some (j : Int)) (some (c : Int)) = (l.drop j).take (c - j) := by
  unfold cutL
  rw [HT.sIx_nat, HT.sIx_nat, Nat.min_eq_left hc, Nat.min_eq_left (by omega : j ≤ l.length)]
theorem cut_from {α : Type} (l : List α) {c : Nat} (hc : c ≤ l.length) : cutL l (some (c : Int)) none = l.drop c := by
  unfold cutL
  rw [HT.sIx_nat, HT.sIx_none, Nat.min_eq_left hc]
  rw [List.take_of_length_le (by simp)]
theorem app_set {h : LH} {o o' : LO} : (h ++ [o]).set h.length o' = h ++ [o'] := by
  rw [List.set_append_right _ _ (Nat.le_refl _)]; simp
theorem Fr.set_new {S : List Nat} {h h' : LH} {n : Nat} {o : LO} (f : Fr S h h') (hn : h.length ≤ n) : Fr S h (h'.set n o) := ((f.mono (S' := n :: S) (by simp +contextual)).trans (Fr.set (by simp))).cut hn
/-! ### a dict of numbers -/
def sdG (g : Nat → Nat) (n : Nat) : List (D × D) := (List.range n).map fun (k : Nat) => (.int (g k), .int k)
theorem eqY_nat (a b : Nat) : eqY (.int a) (.int b) = decide (a = b) := by
  show decide ((a : Int) = b) = decide (a = b)
  by_cases e : a = b
  · rw [decide_eq_true e, decide_eq_true (by omega)]
  · rw [decide_eq_false e, decide_eq_false (by omega)]
theorem getK_snoc {kvs : List (D × D)} {k v x : D} : getK (kvs ++ [(k, v)]) x = (getK kvs x).or (if eqY k x = true then some v else none) := by
  unfold getK
  rw [List.find?_append]
  cases h : kvs.find? fun p => eqY p.1 x with
  | some p => rfl
  | none =>
    simp only [Option.none_or, Option.map_none]
    rw [List.find?_cons]
    cases e : eqY k x with
    | true => rfl
    | false => rfl
theorem sdG_succ (g : Nat → Nat) (n : Nat) : sdG g (n + 1) = sdG g n ++ [(.int (g n), .int n)] := by
  unfold sdG
  rw [List.range_succ, List.map_append]; rfl
theorem sdG_none {g : Nat → Nat} {r : Nat} : ∀ {n : Nat}, (∀ k, k < n → g k ≠ r) → getK (sdG g n) (.int r) = none
  | 0, _ => rfl
  | n + 1, h => by
    rw [sdG_succ, getK_snoc, sdG_none (fun k hk => h k (by omega)), eqY_nat, decide_eq_false (h n (by omega))]; rfl
theorem sdG_some {g : Nat → Nat} {r j : Nat} (e : g j = r) (hn : ∀ k, k < j → g k ≠ r) : ∀ {n : Nat}, j < n → getK (sdG g n) (.int r) = some (.int j)
  | 0, h => by omega
  | n + 1, h => by
    rw [sdG_succ, getK_snoc]
    by_cases hj : j = n
    · subst hj
      rw [sdG_none hn, eqY_nat, decide_eq_true e]; rfl
    · rw [sdG_some e hn (by omega)]; rfl
theorem any_getK {kvs : List (D × D)} {k : D} : (kvs.any fun p => eqY p.1 k) = (getK kvs k).isSome := by
  unfold getK
  rw [Option.isSome_map]
  induction kvs with
  | nil => rfl
  | cons p r ih =>
    rw [List.any_cons, List.find?_cons]
    cases e : eqY p.1 k with
    | true => simp
    | false => simpa using ih
theorem putD_new {kvs : List (D × D)} {k v : D} (h : getK kvs k = none) : putD kvs k v = kvs ++ [(k, v)] := by
  unfold putD
  rw [any_getK, h]; rfl
theorem sdG_put {g : Nat → Nat} {n : Nat} (h : ∀ k, k < n → g k ≠ g n) : putD (sdG g n) (.int (g n)) (.int n) = sdG g (n + 1) := by
  rw [putD_new (sdG_none h), sdG_succ]
/-! ### a call with a caught exception alone -/
def excAt (d : D) (h : LH) : Option Nat := match d with
  | .ref n => (match h[n]? with
    | some (.exc c []) => some c
    | _ => none)
  | _ => none
def runE (m : FM) : FM := fun ds h => match ds with
  | [.ref n] => (match excAt (.ref n) h with
    | some c => (match m [.ref 0] [.exc c []] with
      | .ok d h' => if (pureD d && (excAt (.ref 0) h' == some c)) = true then .ok d h else m ds h
      | _ => m ds h)
    | none => m ds h)
  | _ => m ds h
theorem excAt_of {n c : Nat} {h : LH} (e : excAt (.ref n) h = some c) : h[n]? = some (.exc c []) := by
  unfold excAt at e
  cases ho : h[n]? with
  | none => simp only [ho] at e; cases e
  | some o =>
    cases o with
    | exc c' fs =>
      cases fs with
      | nil => simp only [ho] at e; cases e; rfl
      | cons a b => simp only [ho] at e; cases e
    | _ => simp only [ho] at e; cases e
theorem exc_cell {K : PySem.W.Frag} {mp : List Addr} {H : Hp} {c : Nat} {a : Addr} (h : RelO K mp H (.exc c []) a) : H a = some (ExcO a (.ref (clsA K c)) none) := by
  obtain ⟨d, h1, h2⟩ := h
  rcases h2.2 with ⟨_, z⟩ | ⟨_, _, ne, _⟩
  · rw [z] at h1; exact h1
  · exact absurd rfl ne
theorem FnRef.excs {P : Program} {w : World} {K : PySem.W.Frag} {mg : Str → Option Value} {base : Heap} {k : Nat} {f : Addr} {fd : FuncData} {ps : List Str} {m : FM} (F : FnRef P w K mg base k f fd ps m) : FnRef P w K mg base k f fd ps (runE m) := FnOk.imp F fun vs H Q E ⟨mp, lh, ds, rp, rd, hl, q⟩ => by
  have same : Post K mp H (m ds lh) Q E → spOf K ps.length m vs H Q E := fun q => ⟨mp, lh, ds, rp, rd, hl, q⟩
  unfold runE at q
  split at q
  · rename_i n
    cases hx : excAt (.ref n) lh with
    | none => simp only [hx] at q; exact same q
    | some c =>
      simp only [hx] at q
      cases hm : m [.ref 0] [.exc c []] with
      | bad => simp only [hm] at q; exact same q
      | ex x h' => simp only [hm] at q; exact same q
      | ok d h' =>
        simp only [hm] at q
        split at q
        · rename_i hc
          rw [Bool.and_eq_true] at hc
          have hn := excAt_of hx
          have h0 := excAt_of (eq_of_beq hc.2 : excAt (.ref 0) h' = some c)
          cases rd with
          | cons r1 r2 =>
            cases r2
            cases r1 with
            | @ref _ a ha =>
              have ce := exc_cell (rp.obj n _ a hn ha)
              have r1 : Rep K [a] [.exc c []] H := ⟨rfl, by simp, fun i o b h1 h2 => by
                cases i with
                | zero => cases h1; cases h2; exact ⟨none, ce, rfl, .inl ⟨rfl, rfl⟩⟩
                | succ i => simp at h1, rp.tab.less fun b hb => by
                  have : b = a := by simpa using hb
                  rw [this]; exact List.mem_of_getElem? ha⟩
              refine ⟨[a], [.exc c []], [.ref 0], r1, .cons (.ref rfl) .nil, hl, ?_⟩
              rw [hm]
              intro mp' H' v e r rl
              have am : a ∈ mp := List.mem_of_getElem? ha
              have e' : Ext K mp H mp H' := ⟨⟨[], by simp⟩, fun b o h1 h2 ht => e.frame b o h1 (fun z => h2 (by
                have : b = a := by simpa using z
                rw [this]; exact am)) ht, fun b h1 h2 => absurd h1 h2, e.tup, e.frz, fun b ps h1 h2 => e.tbl b ps h1 (fun z => h2 (by
                have : b = a := by simpa using z
                rw [this]; exact am))⟩
              have ce' : H' a = some (ExcO a (.ref (clsA K c)) none) := exc_cell (r.obj 0 _ a h0 (e.get rfl))
              refine q mp H' v e' (rp.same e' (fun b hb => ?_) (TabOk.back rp e r.tab)) (rl.pure hc.1)
              by_cases hba : b = a
              · rw [hba, ce', ce]
              · obtain ⟨i, o, _, _, ro⟩ := rp.at hb
                obtain ⟨u, hu⟩ := ro.some
                rw [hu]
                exact e.frame b u hu (by simpa using hba) (ro.nt hu).2
        · exact same q
  · exact same q
theorem Cal.excs {P : Program} {w : World} {K : PySem.W.Frag} {mg : Str → Option Value} {base : Heap} {k : Nat} {x : Str} {ps : List Str} {n : Nat} {ks : List Str} {gd : List D → List D → List D} {mf : FM} (h : Cal P w K mg base k x ps n ks gd mf) : Cal P w K mg base k x ps n ks gd (runE mf) := by
  obtain ⟨fd, F, r⟩ := h
  exact ⟨fd, F.excs, r⟩
end Rf
set_option Elab.async false
set_option linter.all false
set_option maxRecDepth 100000
set_option maxHeartbeats 400000
set_option autoImplicit false
/-! equal data, more. -/
namespace Rf
open PySem PySem.Spec L2
theorem okR_mono {α : Type} {r : R α} {Q Q' : α → LH → Prop} {Y Y' : Exn → LH → Prop} (h : @okR _ r ⟨Q⟩ ⟨Y⟩) (k : ∀ a h, Q a h → Q' a h) (e : ∀ x h, Y x h → Y' x h) : @okR _ r ⟨Q'⟩ ⟨Y'⟩ := by
  cases r with
  | ok a h' => exact k a h' h
  | ex x h' => exact e x h' h
  | bad => exact h.elim
theorem okR_alt2 {ls : Ls} {h : LH} {a b : EM} {Q : D → LH → Prop} {Y : Exn → LH → Prop} (h0 : a ls h = .bad) (h1 : @okR _ (b ls h) ⟨Q⟩ ⟨Y⟩) : @okR _ (mAlt a b ls h) ⟨Q⟩ ⟨Y⟩ := by
  unfold mAlt; rw [h0]; exact h1
theorem eqvI2 : ∀ ns ms : List Int, PyData.eqvAll (ns.map PyData.int) (ms.map PyData.int) = decide (ns = ms)
  | [], [] => by rw [List.map_nil, PyData.eqvAll]; rfl
  | [], m :: ms => by rw [List.map_nil, List.map_cons, PyData.eqvAll]; simp
  | n :: ns, [] => by rw [List.map_nil, List.map_cons, PyData.eqvAll]; simp
  | n :: ns, m :: ms => by
    rw [List.map_cons, List.map_cons, PyData.eqvAll, eqvI2 ns ms, PyData.eqv]
    by_cases e1 : n = m
    · subst e1
      by_cases e2 : ns = ms
      · subst e2; simp
      · simp [e2]
    · simp [e1]
theorem eqD_ints2 {h : LH} {a b : Nat} {ns ms : List Int} (ha : h[a]? = some (.lst (ns.map D.int))) (hb : h[b]? = some (.lst (ms.map D.int))) : eqD (.ref a) (.ref b) h = some (decide (ns = ms)) := by
  have ev : PyData.eqv (.list (ns.map PyData.int)) (.list (ms.map PyData.int)) = decide (ns = ms) := by rw [PyData.eqv, eqvI2]
  have es : eqS (.ref a) (.ref b) = none := rfl
  simp only [eqD, es, pd_ints (n := 64) ha, pd_ints (n := 64) hb, shaped_ints, ev, Bool.and_self, if_true]
theorem eq_ints2 {h : LH} {a b : Nat} {ns ms : List Int} (ha : h[a]? = some (.lst (ns.map D.int))) (hb : h[b]? = some (.lst (ms.map D.int))) : dEq (.ref a) (.ref b) h = .ok (.bl (decide (ns = ms))) h := by
  simp only [dEq, eqD_ints2 ha hb]
theorem pd_tupS {h : LH} {n : Nat} {ss : List (List Nat)} : pd h (n + 2) (.tup (ss.map D.str)) = some (.tuple (ss.map fun l => PyData.str ⟨l.toArray⟩)) := by
  rw [pd_tup, pdA_str (fun l => pd_str h n l)]; rfl
theorem shaped_tupS {ss : List (List Nat)} (ho : ss.all okT = true) : SeqAt.shaped (.tuple (ss.map fun l => PyData.str ⟨l.toArray⟩)) = true := by
  unfold SeqAt.shaped
  rw [PyData.canLay0, canLayS ss ho, PyData.depth, depthS]; rfl
theorem ne_tupS {h : LH} {ss : List (List Nat)} (ho : ss.all okT = true) : dNe (.tup (ss.map D.str)) (.tup (ss.map D.str)) h = .ok (.bl false) h := by
  have ev : PyData.eqv (.tuple (ss.map fun l => PyData.str ⟨l.toArray⟩)) (.tuple (ss.map fun l => PyData.str ⟨l.toArray⟩)) = true := by rw [PyData.eqv, eqvS]
  have es : eqS (.tup (ss.map D.str)) (.tup (ss.map D.str)) = none := rfl
  simp only [dNe, eqD, es, pd_tupS (n := 64), shaped_tupS ho, ev, Bool.and_self, if_true, Bool.not_true]
theorem ne_str {a : List Nat} {h : LH} : dNe (.str a) (.str a) h = .ok (.bl false) h := by
  show R.ok (D.bl (!decide (a = a))) h = _
  rw [decide_eq_true rfl]; rfl
theorem ne_int {i : Int} {h : LH} : dNe (.int i) (.int i) h = .ok (.bl false) h := by
  show R.ok (D.bl (!decide (i = i))) h = _
  rw [decide_eq_true rfl]; rfl
end Rf
set_option Elab.async false
set_option linter.all false
set_option maxRecDepth 100000
set_option maxHeartbeats 400000
set_option autoImplicit false
/-! what is not told. -/
namespace Rf
open PySem PySem.Spec L2
def mBad : EM := fun _ _ => .bad
def mBadT : TM := fun _ _ => .bad
def mBadS : SM := fun _ _ => .bad
def mBadI : IM := fun _ _ => .bad
section
variable {X : Cx} {W : WX} {e tg : Expr} {st : Stmt}
theorem re_bad : RE X W e mBad := ⟨fun _ _ _ => False, ⟨fun _ _ _ _ _ _ h => h.elim⟩, fun _ _ _ _ _ _ _ _ q => q.elim⟩
theorem rt_bad : RT X W e mBadT := ⟨fun _ _ _ => False, ⟨fun _ _ _ _ _ _ h => h.elim⟩, fun _ _ _ _ _ _ _ _ q => q.elim⟩
theorem rs_bad : RS X W st mBadS := ⟨fun _ _ _ => False, ⟨fun _ _ _ _ _ _ h => h.elim⟩, fun _ _ _ _ _ _ _ _ q => q.elim⟩
theorem ri_bad : RI X W tg e mBadI := ⟨fun _ _ _ => False, ⟨fun _ _ _ _ _ _ h => h.elim⟩, fun _ _ _ _ _ _ _ _ q => q.elim⟩
end
end Rf
set_option Elab.async false
set_option linter.all false
set_option maxRecDepth 100000
set_option maxHeartbeats 400000
set_option autoImplicit false
/-! range downwards, min, max, except without a name. -/
namespace Rf
open PySem PySem.Spec L2
def liDown (hi : Int) (n : Nat) : LI := fun i _ => if i < n then .item (.int (hi - i)) else .done
def imRange3 (a : AM) : IM := fun ls h => (a ls h).bind fun ds h1 => match ds with
  | [.int i, .int j, .int c] => if (rgOk i && (rgOk j && decide (c = -1))) = true then .ok (liDown i (i - j).toNat) h1 else .bad
  | _ => .bad
section
variable {X : Cx} {W : WX} {tg a b c : Expr} {ma : AM} {p pos : Pos}
theorem ri_range3 (hg : Gl X "range") (hm : X.mg "range" = none) (ha : RA X W [a, b, c] ma)
    (hs : starEach [a, b, c] X.env = (false, eval a X.env) :: starEach [b, c] X.env := by rfl) (hpl : (backTo pos (starEach [b, c] X.env)).any (·.1) = false := by rfl) : RI X W tg (.Call (.Name "range" p) [a, b, c] [] pos) (imRange3 ma) := by
  obtain ⟨t, a1, a2, _⟩ := ha
  refine ⟨_, pi_range3 hg hm a1 hs hpl, fun mp lh ls σ H Q r rs q => a2 mp lh ls σ H _ r rs (q.bind fun mp1 H1 lh1 ds vs e1 r1 rl1 q1 => ?_)⟩
  cases rl1 with
  | nil => exact q1.elim
  | @cons d1 v1 ds vs x1 y1 =>
    cases y1 with
    | nil => cases x1 <;> exact q1.elim
    | @cons d2 v2 ds vs x2 y2 =>
      cases y2 with
      | nil => cases x1 <;> cases x2 <;> exact q1.elim
      | @cons d3 v3 ds vs x3 y3 =>
        cases y3 with
        | cons _ _ => cases x1 <;> cases x2 <;> cases x3 <;> exact q1.elim
        | nil =>
          cases x1 with
          | int i =>
            cases x2 with
            | int j =>
              cases x3 with
              | int k =>
                cases hk : (rgOk i && (rgOk j && decide (k = -1))) with
                | false => simp only [hk] at q1; exact q1.elim
                | true =>
                  simp only [hk, if_true] at q1
                  rw [Bool.and_eq_true, Bool.and_eq_true] at hk
                  have h1 := rgOk_of hk.1
                  have h2 := rgOk_of hk.2.1
                  have h3 : k = -1 := of_decide_eq_true hk.2.2
                  subst h3
                  refine ⟨i, j, -1, (i - j).toNat, rfl, RgC.neg h1.1 h1.2 h2.1 h2.2, q1.now r1 fun n m lh2 H2 e2 r2 => ?_⟩
                  unfold liDown
                  by_cases hn : n < (i - j).toNat
                  · rw [if_pos hn]
                    refine ⟨hn, fun x H' y => ?_⟩
                    obtain ⟨rfl, rfl⟩ := y
                    refine ⟨.refl, r2, ?_⟩
                    have : i + ((n : Nat) : Int) * -1 = i - n := by omega
                    rw [this]; exact .int _
                  · rw [if_neg hn]
                    exact Nat.le_of_not_lt hn
              | _ => exact q1.elim
            | _ => cases x3 <;> exact q1.elim
          | _ => cases x2 <;> cases x3 <;> exact q1.elim
end
def dMin2 : List D → LH → R D := fun ds h => match ds with
  | [.int i, .int j] => .ok (.int (if j < i then j else i)) h
  | _ => .bad
def dMax2 : List D → LH → R D := fun ds h => match ds with
  | [.int i, .int j] => .ok (.int (if j > i then j else i)) h
  | _ => .bad
theorem refC2 {K : PySem.W.Frag} {g : Int → Int → Int} {f : List D → LH → R D} (h1 : ∀ ds h, (∀ i j, ds ≠ [.int i, .int j]) → f ds h = .bad) (h2 : ∀ i j h, f [.int i, .int j] h = .ok (.int (g i j)) h) :
    RefC K (fun xs H Q => ∃ i j, xs = [.int i, .int j] ∧ Q (.int (g i j)) H) f := fun mp lh H xs vs Q E rp rs q => by
  by_cases hx : ∃ i j, xs = [.int i, .int j]
  · obtain ⟨i, j, rfl⟩ := hx
    rw [h2] at q
    cases rs with
    | cons x1 y1 =>
      cases y1 with
      | cons x2 y2 =>
        cases y2
        cases x1
        cases x2
        exact ⟨i, j, rfl, q.now rp (.int _)⟩
  · rw [h1 xs lh (fun i j z => hx ⟨i, j, z⟩)] at q
    exact q.elim
theorem c_min2 {X : Cx} (hc : X.calm = true) : RC X (.builtin "min") dMin2 := ⟨_, call_min2 hc, refC2 (g := fun i j => if j < i then j else i) (fun ds h hn => by
  unfold dMin2
  split
  · rename_i i j; exact absurd rfl (hn i j)
  · rfl) (fun _ _ _ => rfl)⟩
theorem c_max2 {X : Cx} (hc : X.calm = true) : RC X (.builtin "max") dMax2 := ⟨_, call_max2 hc, refC2 (g := fun i j => if j > i then j else i) (fun ds h hn => by
  unfold dMax2
  split
  · rename_i i j; exact absurd rfl (hn i j)
  · rfl) (fun _ _ _ => rfl)⟩
/-! ### except without a name -/
def mTry1 (sub : Nat → Option Bool) (b s : SM) : SM := fun ls h => match b ls h with
  | .ex x ls' h' => (match sub x.cls with
    | some true => (match s ls' h' with
      | .ex _ _ _ => .bad
      | r => r)
    | some false => .ex x ls' h'
    | none => .bad)
  | r => r
section
variable {X : Cx} {x : Str} {c : Nat} {body suite : List Stmt} {b₀ : Stmt} {np pos pos' : Pos} {W : WX} {mb ms : SM} {sub : Nat → Option Bool}
theorem rs_try1 (hs : X.stack = X.env :: X.outer) (hf : X.env.frame = some X.env.locals) (hc : Names X x (.ref (clsA X.K c))) (tk : Takes X W)
    (hsub : ∀ c' b, sub c' = some b → PySem.W.exmOne X.K (.ref (clsA X.K c')) (.ref (clsA X.K c)) = some b)
    (hb : ∀ (W' : WX) (pn : List (Addr × Obj)) (xe : Value → Shared → Prop), Takes (X.tr pn xe) W' → PassesOwn (model X.prog X.w) X.A X.env xe → RSs (X.tr pn xe) W' body mb)
    (hsu : ∀ (a : Addr) (pn : List (Addr × Obj)), RSs (X.suite a pn) (fun _ _ _ _ => False) (b₀ :: suite) ms) :
    RS X W (.Try body [.ExceptHandler (some (.Name x np)) none (b₀ :: suite) pos'] [] [] pos) (mTry1 sub mb ms) := by
  refine ⟨_, ps_try_only (tb := fun W' => tsOf X.K W' mb) (ts := fun _ _ _ => tsOf X.K (fun _ _ _ _ => False) ms) hs hf hc tk (fun W' pn xe t p => (hb W' pn xe t p).can) (fun a oe cls d pn _ _ => (hsu a _).can), fun mp lh ls σ H De rp rs q => ⟨mp, lh, ls, rp, rs, ?_⟩⟩
  unfold mTry1 at q
  cases hm : mb ls lh with
  | nx ls' lh' => rw [hm] at q; exact q
  | rt d lh' => rw [hm] at q; exact q
  | bk ls' lh' => rw [hm] at q; exact q
  | ct ls' lh' => rw [hm] at q; exact q
  | bad => rw [hm] at q; exact q
  | ex x ls' lh' =>
    rw [hm] at q
    intro mp1 H1 σ1 cls dd e1 r1 rs1 rx
    have ec : cls = .ref (clsA X.K x.cls) := rx.1
    cases hb : sub x.cls with
    | none => simp only [hb] at q; exact q.elim
    | some b =>
      refine ⟨b, by rw [ec]; exact hsub _ _ hb, fun hb1 a ha => ?_, fun hb1 => ?_⟩
      · subst hb1
        simp only [hb] at q
        refine ⟨mp1, lh', ls', r1, rs1, ?_⟩
        cases hs2 : ms ls' lh' with
        | nx ls2 lh2 => rw [hs2] at q; exact fun m2 H2 σ2 e2 r2 rs2 => q m2 H2 _ (e1.trans e2) r2 rs2
        | bk ls2 lh2 => rw [hs2] at q; exact fun m2 H2 σ2 e2 r2 rs2 => q m2 H2 _ (e1.trans e2) r2 rs2
        | ct ls2 lh2 => rw [hs2] at q; exact fun m2 H2 σ2 e2 r2 rs2 => q m2 H2 _ (e1.trans e2) r2 rs2
        | rt d lh2 => rw [hs2] at q; exact fun m2 H2 v e2 r2 rd => q m2 H2 v (e1.trans e2) r2 rd
        | ex y ls2 lh2 => rw [hs2] at q; exact q.elim
        | bad => rw [hs2] at q; exact q.elim
      · subst hb1
        simp only [hb] at q
        exact q mp1 H1 σ1 cls dd e1 r1 rs1 rx
end
/-! ### posts -/
section
variable {N : Ls → LH → Prop} {T : D → LH → Prop} {B C : Ls → LH → Prop} {X : Exn → Ls → LH → Prop} {Y : Exn → LH → Prop} {ls : Ls} {h : LH}
def rngK3 (ds : List D) (h : LH) : R LI := match ds with
  | [.int i, .int j, .int c] => if (rgOk i && (rgOk j && decide (c = -1))) = true then .ok (liDown i (i - j).toNat) h else .bad
  | _ => .bad
theorem okR_rng3 {a : AM} {Q : LI → LH → Prop} : @okR _ (imRange3 a ls h) ⟨Q⟩ ⟨Y⟩ = @okR _ (a ls h) ⟨fun ds h => @okR _ (rngK3 ds h) ⟨Q⟩ ⟨Y⟩⟩ ⟨Y⟩ := okR_bind
theorem rngK3_int {i j : Int} (h1 : -1000000 ≤ j) (h2 : j ≤ 1000000) (h3 : -1000000 ≤ i) (h4 : i ≤ 1000000) : rngK3 [.int i, .int j, .int (-1)] h = .ok (liDown i (i - j).toNat) h := by
  unfold rngK3
  exact if_pos (by rw [rgOk_le h1 h2, rgOk_le h3 h4, decide_eq_true rfl]; rfl)
theorem okS_try1 {sub : Nat → Option Bool} {b s : SM} : @okS (mTry1 sub b s ls h) ⟨N, T, B, C, X⟩ = @okS (b ls h) ⟨N, T, B, C, fun x ls' h' => match sub x.cls with
  | some true => @okS (s ls' h') ⟨N, T, B, C, fun _ _ _ => False⟩
  | some false => X x ls' h'
  | none => False⟩ := by
  unfold mTry1
  cases hb : b ls h with
  | ex x l' h' =>
    cases hs : sub x.cls with
    | none => simp only [okS, hs]
    | some c => cases c with
      | false => simp only [okS, hs]
      | true =>
        simp only [okS, hs]
        cases s l' h' <;> rfl
  | _ => rfl
end
def dnD (hi : Int) (n : Nat) : List D := (List.range n).map fun (k : Nat) => .int (hi - (k : Int))
theorem dnD_get {hi : Int} {n k : Nat} (h : k < n) : (dnD hi n)[k]? = some (.int (hi - (k : Int))) := by
  unfold dnD; simp [h]
theorem dnD_len {hi : Int} {n : Nat} : (dnD hi n).length = n := by unfold dnD; simp
theorem itm_down {hi : Int} {n i : Nat} {h : LH} : liDown hi n i h = itm (dnD hi n) i := by
  unfold liDown itm
  by_cases e : i < n
  · rw [if_pos e, dnD_get e]
  · rw [if_neg e, List.getElem?_eq_none (by rw [dnD_len]; omega)]
end Rf
set_option Elab.async false
set_option linter.all false
set_option maxRecDepth 100000
set_option maxHeartbeats 400000
set_option autoImplicit false
/-! pairs of a number and a text, compared; posts of op=. -/
namespace Rf
open PySem PySem.Spec L2
theorem tup2 {its : List Value} {i : Int} {x : Str} (r : Vals [.int i, .str x] its) : ∃ t u, its = [.int i t, .str x u] := by
  cases r with
  | cons a r =>
    cases r with
    | cons b r =>
      cases r
      obtain ⟨t, rfl⟩ := a
      obtain ⟨u, rfl⟩ := b
      exact ⟨t, u, rfl⟩
theorem op_ltP {X : Cx} (hu : X.A.units < cLine) : OpR X (compareOp .Lt) (fun x y H Q => ∃ (a b : Addr) (i j : Int) (u v : List Nat), x = .ref a ∧ y = .ref b ∧ SqT X.K H a [.int i, .str ⟨u.toArray⟩] ∧ SqT X.K H b [.int j, .str ⟨v.toArray⟩] ∧ Q (.bl (if i = j then (if u = v then false else decide (u < v)) else decide (i < j))) H) := by
  intro pins s σ H x y vx vy Q I rx ry h
  obtain ⟨a, b, i, j, u, v, rfl, rfl, ha, hb, q⟩ := h
  cases rx
  cases ry
  obtain ⟨its, r1, p1, _⟩ := I.tuple ha
  obtain ⟨its2, r2, p2, _⟩ := I.tuple hb
  obtain ⟨t1, t2, rfl⟩ := tup2 r1
  obtain ⟨t3, t4, rfl⟩ := tup2 r2
  have R := Ob.RcOp.tuples_lt (A := X.A) (s := s) (e := fun k => if k = 0 then decide (i = j) else decide (u = v)) (r := fun k => if k = 0 then decide (i < j) else decide (u < v)) p1 p2 hu (fun k h1 h2 => by
    match k, h1, h2 with
    | 0, _, _ =>
      show SeqAt.EqAt X.A.in1 s (.int i t1) (.int j t3) (decide (i = j))
      have z : (i == j) = decide (i = j) := by
        by_cases q : i = j
        · rw [decide_eq_true q]; exact beq_iff_eq.mpr q
        · rw [decide_eq_false q]; exact beq_eq_false_iff_ne.mpr q
      rw [← z]
      exact SeqAt.EqAt.int_int _ _ _ _
    | 1, _, _ =>
      show SeqAt.EqAt X.A.in1 s (.str ⟨u.toArray⟩ t2) (.str ⟨v.toArray⟩ t4) (decide (u = v))
      have z : ((⟨u.toArray⟩ : Str) == ⟨v.toArray⟩) = decide (u = v) := by
        by_cases q : u = v
        · rw [decide_eq_true q, q]; exact beq_iff_eq.mpr rfl
        · rw [decide_eq_false q]; exact beq_eq_false_iff_ne.mpr fun z => q (str_inj.mp z)
      rw [← z]
      exact SeqAt.EqAt.str_str _ _ _ _
    | k + 2, h1, _ => simp at h1; omega) (fun k h1 h2 _ => by
    match k, h1, h2 with
    | 0, _, _ => exact Ob.RcOp.lt_int _ _ _ _
    | 1, _, _ =>
      show Ob.RcOp .Lt X.A.in1 s (.str ⟨u.toArray⟩ t2) (.str ⟨v.toArray⟩ t4) (decide (u < v))
      exact fun _ _ _ _ h => PyProof.Rows.lt_str h
    | k + 2, h1, _ => simp at h1; omega)
  have ev : (Ob.lexAt (fun k => if k = 0 then decide (i = j) else decide (u = v)) (fun k => if k = 0 then decide (i < j) else decide (u < v)) (decide (2 < 2)) 0 2) = (if i = j then (if u = v then false else decide (u < v)) else decide (i < j)) := by
    rw [Ob.lexAt_succ, Ob.lexAt_succ, Ob.lexAt_zero]
    by_cases h1 : i = j
    · by_cases h2 : u = v
      · simp [h1, h2]
      · simp [h1, h2]
    · simp [h1]
  have z : wpAny (model X.prog X.w) X.A (compareOp .Lt (.ref a) (.ref b)) (EP X pins σ Q) X.xe s := R X.prog X.w X.xe (EP X pins σ Q) ⟨.bl _, H, I, by
    show _ = _
    rfl, by
    have : (min (#[Value.int i t1, .str ⟨u.toArray⟩ t2]).size (#[Value.int j t3, .str ⟨v.toArray⟩ t4]).size) = 2 := rfl
    have e2 : decide ((#[Value.int i t1, .str ⟨u.toArray⟩ t2]).size < (#[Value.int j t3, .str ⟨v.toArray⟩ t4]).size) = decide (2 < 2) := rfl
    show Q (.bl (Ob.lexAt _ _ (decide (2 < 2)) 0 2)) H
    rw [ev]; exact q⟩
  exact z
/-- (n, text) < (m, text) -/
def dLtP : D → D → LH → R D := fun x y h => match x, y with
  | .tup [.int i, .str u], .tup [.int j, .str v] => .ok (.bl (if i = j then ltT u v else decide (i < j))) h
  | _, _ => .bad
theorem o_ltP {X : Cx} (hu : X.A.units + 64 < cLine) : ROp X (compareOp .Lt) dLtP := by
  refine ⟨_, op_ltP (by omega), fun mp lh H x y vx vy Q E rp rx ry q => ?_⟩
  unfold dLtP at q
  split at q
  · rename_i i u j v
    cases rx with
    | tup h1 r1 =>
      cases ry with
      | tup h2 r2 =>
        cases r1 with
        | cons a1 r1 =>
          cases r1 with
          | cons b1 r1 =>
            cases r1
            cases a1
            cases b1
            cases r2 with
            | cons a2 r2 =>
              cases r2 with
              | cons b2 r2 =>
                cases r2
                cases a2
                cases b2
                refine ⟨_, _, i, j, u, v, rfl, rfl, h1.sq, h2.sq, ?_⟩
                have e : (if i = j then (if u = v then false else decide (u < v)) else decide (i < j)) = (if i = j then ltT u v else decide (i < j)) := by
                  split
                  · by_cases h3 : u = v
                    · rw [if_pos h3, h3]
                      cases h4 : ltT v v with
                      | false => rfl
                      | true => rw [ltT_iff] at h4; exact absurd h4 (List.lt_irrefl v)
                    · rw [if_neg h3]
                      cases h4 : ltT u v with
                      | true => rw [ltT_iff] at h4; exact decide_eq_true h4
                      | false =>
                        refine decide_eq_false fun z => ?_
                        rw [← ltT_iff, h4] at z; cases z
                  · rfl
                rw [e]
                exact q.now rp (.bl _)
  · exact q.elim
/-! ### posts -/
section
variable {N : Ls → LH → Prop} {T : D → LH → Prop} {B C : Ls → LH → Prop} {X : Exn → Ls → LH → Prop} {ls : Ls} {h : LH}
theorem okS_augL {f : D → D → LH → R D} {i : Nat} {me : EM} : @okS (mAug f i me ls h) ⟨N, T, B, C, X⟩ = @okS (match ls[i]? with
  | some (some (.fn _ _)) => .bad
  | some (some x) => liftE ((me ls h).bind fun y h1 => f x y h1) ls fun z h2 => .nx (ls.set i (some z)) h2
  | _ => .bad) ⟨N, T, B, C, X⟩ := by cases h <;> rfl
end
end Rf
set_option Elab.async false
set_option linter.all false
set_option maxRecDepth 100000
set_option maxHeartbeats 400000
set_option autoImplicit false
/-! a call is run on what it can come to, alone. -/
namespace Rf
open PySem PySem.Spec L2
mutual
def refsD : D → List Nat
  | .tup xs => refsDs xs
  | .rol xs => refsDs xs
  | .ktp xs => refsDs xs
  | .fn _ xs => refsDs xs
  | .ref n => [n]
  | _ => []
def refsDs : List D → List Nat
  | [] => []
  | d :: ds => refsD d ++ refsDs ds
end
mutual
def D.ren (f : Nat → Nat) : D → D
  | .tup xs => .tup (renDs f xs)
  | .rol xs => .rol (renDs f xs)
  | .ktp xs => .ktp (renDs f xs)
  | .fn i xs => .fn i (renDs f xs)
  | .ref n => .ref (f n)
  | .non => .non
  | .bl b => .bl b
  | .int i => .int i
  | .str l => .str l
def renDs (f : Nat → Nat) : List D → List D
  | [] => []
  | d :: ds => D.ren f d :: renDs f ds
end
def refsF {α : Type} : List (α × D) → List Nat
  | [] => []
  | (_, d) :: r => refsD d ++ refsF r
def renF {α : Type} (f : Nat → Nat) : List (α × D) → List (α × D)
  | [] => []
  | (i, d) :: r => (i, D.ren f d) :: renF f r
def refsO : LO → List Nat
  | .lst xs => refsDs xs
  | .dic _ kvs => refsF kvs
  | .ins _ fs => refsF fs
  | .exc _ fs => refsF fs
  | .dlk _ kvs => refsF kvs
def LO.ren (f : Nat → Nat) : LO → LO
  | .lst xs => .lst (renDs f xs)
  | .dic t kvs => .dic t (renF f kvs)
  | .ins c fs => .ins c (renF f fs)
  | .exc c fs => .exc c (renF f fs)
  | .dlk t kvs => .dlk t (renF f kvs)
def plainO : LO → Prop
  | .exc _ fs => fs = []
  | .dlk _ _ => False
  | _ => True
section
variable {f g : Nat → Nat}
mutual
theorem ren_back : ∀ {d : D}, (∀ n ∈ refsD d, g (f n) = n) → (d.ren f).ren g = d
  | .tup xs, h => by
    rw [D.ren, D.ren, renDs_back (by simpa [refsD] using h)]
  | .rol xs, h => by
    rw [D.ren, D.ren, renDs_back (by simpa [refsD] using h)]
  | .ktp xs, h => by
    rw [D.ren, D.ren, renDs_back (by simpa [refsD] using h)]
  | .fn _ xs, h => by
    rw [D.ren, D.ren, renDs_back (by simpa [refsD] using h)]
  | .ref n, h => by
    rw [D.ren, D.ren, h n (by simp [refsD])]
  | .non, _ => rfl
  | .bl _, _ => rfl
  | .int _, _ => rfl
  | .str _, _ => rfl
theorem renDs_back : ∀ {ds : List D}, (∀ n ∈ refsDs ds, g (f n) = n) → renDs g (renDs f ds) = ds
  | [], _ => rfl
  | d :: ds, h => by
    rw [renDs, renDs, ren_back (fun n hn => h n (by simp [refsDs, hn])), renDs_back (fun n hn => h n (by simp [refsDs, hn]))]
end
theorem renF_back {α : Type} : ∀ {fs : List (α × D)}, (∀ n ∈ refsF fs, g (f n) = n) → renF g (renF f fs) = fs
  | [], _ => rfl
  | (i, d) :: r, h => by
    rw [renF, renF, ren_back (fun n hn => h n (by simp [refsF, hn])), renF_back (fun n hn => h n (by simp [refsF, hn]))]
theorem renO_back {o : LO} (h : ∀ n ∈ refsO o, g (f n) = n) : (o.ren f).ren g = o := by
  cases o with
  | lst xs => show LO.lst _ = _; rw [renDs_back h]
  | dic t kvs => show LO.dic t _ = _; rw [renF_back h]
  | ins c fs => show LO.ins c _ = _; rw [renF_back h]
  | exc c fs => show LO.exc c _ = _; rw [renF_back h]
  | dlk t kvs => show LO.dlk t _ = _; rw [renF_back h]
mutual
theorem refs_ren : ∀ (d : D), refsD (d.ren f) = (refsD d).map f
  | .tup xs => by rw [D.ren, refsD, refsD, refsDs_ren]
  | .rol xs => by rw [D.ren, refsD, refsD, refsDs_ren]
  | .ktp xs => by rw [D.ren, refsD, refsD, refsDs_ren]
  | .fn _ xs => by rw [D.ren, refsD, refsD, refsDs_ren]
  | .ref n => rfl
  | .non => rfl
  | .bl _ => rfl
  | .int _ => rfl
  | .str _ => rfl
theorem refsDs_ren : ∀ (ds : List D), refsDs (renDs f ds) = (refsDs ds).map f
  | [] => rfl
  | d :: ds => by rw [renDs, refsDs, refsDs, refs_ren, refsDs_ren, List.map_append]
end
theorem refsF_ren {α : Type} : ∀ (fs : List (α × D)), refsF (renF f fs) = (refsF fs).map f
  | [] => rfl
  | (i, d) :: r => by rw [renF, refsF, refsF, refs_ren, refsF_ren, List.map_append]
theorem refsO_ren (o : LO) : refsO (o.ren f) = (refsO o).map f := by
  cases o with
  | lst xs => exact refsDs_ren xs
  | dic t kvs => exact refsF_ren kvs
  | ins c fs => exact refsF_ren fs
  | exc c fs => exact refsF_ren fs
  | dlk t kvs => exact refsF_ren kvs
end
section
variable {K : PySem.W.Frag} {mp mp2 : List Addr} {H : Hp} {f : Nat → Nat}
mutual
theorem RelD.ren : ∀ {d : D} {v : V}, (∀ n ∈ refsD d, ∀ a, mp[n]? = some a → mp2[f n]? = some a) → RelD K mp H d v → RelD K mp2 H (d.ren f) v
  | _, _, _, .non => .non
  | _, _, _, .bl b => .bl b
  | _, _, _, .int i => .int i
  | _, _, _, .str l => .str l
  | _, _, h, .tup hs r => .tup (hs.map (kc_map (g := D.ren f) (gs := renDs f) rfl (fun _ _ => rfl) (fun _ => rfl) (fun _ => rfl))) (RelDs.ren (by simpa [refsD] using h) r)
  | _, _, h, .ktp hs r => .ktp hs (RelDs.ren (by simpa [refsD] using h) r)
  | _, _, h, .rol hs r => .rol hs (RelDs.ren (by simpa [refsD] using h) r)
  | _, _, h, .ref hn => .ref (h _ (by simp [refsD]) _ hn)
theorem RelDs.ren : ∀ {d : List D} {v : List V}, (∀ n ∈ refsDs d, ∀ a, mp[n]? = some a → mp2[f n]? = some a) → RelDs K mp H d v → RelDs K mp2 H (renDs f d) v
  | _, _, _, .nil => .nil
  | _, _, h, .cons a b => .cons (RelD.ren (fun n hn => h n (by simp [refsDs, hn])) a) (RelDs.ren (fun n hn => h n (by simp [refsDs, hn])) b)
end
theorem renF_rel : ∀ {fs : List (Nat × D)} {gs : List (Str × V)}, (∀ n ∈ refsF fs, ∀ a, mp[n]? = some a → mp2[f n]? = some a) → Paired (fun (p : Nat × D) (q : Str × V) => q.1 = nm p.1 ∧ RelD K mp H p.2 q.2) fs gs → Paired (fun (p : Nat × D) (q : Str × V) => q.1 = nm p.1 ∧ RelD K mp2 H p.2 q.2) (renF f fs) gs
  | _, _, _, .nil => .nil
  | (i, d) :: r, _ :: _, h, .cons a b => .cons ⟨a.1, a.2.ren (fun n hn => h n (by simp [refsF, hn]))⟩ (renF_rel (fun n hn => h n (by simp [refsF, hn])) b)
theorem renK_rel {κ : Type} {KR : D → κ → Prop} : ∀ {fs : List (D × D)} {gs : List (κ × V)}, (∀ n ∈ refsF fs, ∀ a, mp[n]? = some a → mp2[f n]? = some a) → Paired (fun (p : D × D) (q : κ × V) => KR p.1 q.1 ∧ RelD K mp H p.2 q.2) fs gs → Paired (fun (p : D × D) (q : κ × V) => KR p.1 q.1 ∧ RelD K mp2 H p.2 q.2) (renF f fs) gs
  | _, _, _, .nil => .nil
  | (i, d) :: r, _ :: _, h, .cons a b => .cons ⟨a.1, a.2.ren (fun n hn => h n (by simp [refsF, hn]))⟩ (renK_rel (fun n hn => h n (by simp [refsF, hn])) b)
theorem RelO.ren {o : LO} {a : Addr} (h : ∀ n ∈ refsO o, ∀ a, mp[n]? = Option.some a → mp2[f n]? = Option.some a) (pl : plainO o) (r : RelO K mp H o a) : RelO K mp2 H (o.ren f) a := by
  cases o with
  | lst ds => obtain ⟨vs, q, r⟩ := r; exact ⟨vs, q, r.ren h⟩
  | dic t kvs => cases t with
    | false => obtain ⟨ks, q, r⟩ := r; exact ⟨ks, q, renK_rel h r⟩
    | true => obtain ⟨ks, q, r⟩ := r; exact ⟨ks, q, renK_rel h r⟩
  | ins c fs => obtain ⟨dx, gs, q, r⟩ := r; exact ⟨dx, gs, q, renF_rel h r⟩
  | exc c fs =>
    have : fs = [] := pl
    subst this
    have := exc_cell r
    exact ⟨none, this, rfl, .inl ⟨rfl, rfl⟩⟩
  | dlk t kvs => exact pl.elim
end
/-- all that is reached, in the order of its first visit -/
def grow : Nat → LH → List Nat → List Nat → List Nat
  | 0, _, seen, _ => seen
  | _ + 1, _, seen, [] => seen
  | n + 1, h, seen, i :: todo => if i ∈ seen then grow n h seen todo else grow n h (seen ++ [i]) (todo ++ (match h[i]? with
    | some o => refsO o
    | none => []))
structure Valid (h : LH) (ds : List D) (rs : List Nat) : Prop where
  nd : rs.Nodup
  arg : ∀ i ∈ refsDs ds, i ∈ rs
  obj : ∀ i ∈ rs, ∃ o, h[i]? = some o ∧ plainO o ∧ ∀ j ∈ refsO o, j ∈ rs
def ixR (rs : List Nat) (i : Nat) : Nat := rs.idxOf i
def cmpH (rs : List Nat) (h : LH) : LH := rs.map fun i => ((h[i]?).getD (.lst [])).ren (ixR rs)
open Classical in
noncomputable def runC (m : FM) : FM := fun ds h =>
  if Valid h ds (grow 60 h [] (refsDs ds)) then (match m (renDs (ixR (grow 60 h [] (refsDs ds))) ds) (cmpH (grow 60 h [] (refsDs ds)) h) with
    | .ok d g' => if pureD d = true ∧ g'.take (grow 60 h [] (refsDs ds)).length = cmpH (grow 60 h [] (refsDs ds)) h then .ok d h else m ds h
    | .ex x g' => if x.fs = [] ∧ g'.take (grow 60 h [] (refsDs ds)).length = cmpH (grow 60 h [] (refsDs ds)) h then .ex x h else m ds h
    | .bad => m ds h) else m ds h
section
variable {K : PySem.W.Frag} {mp : List Addr} {H : Hp} {lh : LH} {ds : List D} {rs : List Nat}
theorem ixR_get {i : Nat} (hi : i ∈ rs) : rs[ixR rs i]? = some i := by
  unfold ixR
  have := List.idxOf_lt_length_of_mem hi
  rw [List.getElem?_eq_getElem this, List.getElem_idxOf]
theorem ixR_at {i k : Nat} (nd : rs.Nodup) (h : rs[k]? = some i) : ixR rs i = k := by
  have hk := (List.getElem?_eq_some_iff.mp h).1
  have he : rs[k] = i := by rw [List.getElem?_eq_getElem hk] at h; exact Option.some.inj h
  unfold ixR
  rw [← he]
  exact nd.idxOf_getElem k hk
/-- the map of the part -/
def mpR (rs : List Nat) (mp : List Addr) : List Addr := rs.map fun i => (mp[i]?).getD 0
theorem mpR_get (r : Rep K mp lh H) (V : Valid lh ds rs) {i : Nat} {a : Addr} (hi : i ∈ rs) (ha : mp[i]? = some a) : (mpR rs mp)[ixR rs i]? = some a := by
  unfold mpR
  rw [List.getElem?_map, ixR_get hi]
  simp [ha]
theorem mpR_mem (r : Rep K mp lh H) (V : Valid lh ds rs) {k : Nat} {a : Addr} (h : (mpR rs mp)[k]? = some a) : ∃ i, rs[k]? = some i ∧ mp[i]? = some a := by
  unfold mpR at h
  rw [List.getElem?_map] at h
  obtain ⟨i, h1, h2⟩ := Option.map_eq_some_iff.mp h
  refine ⟨i, h1, ?_⟩
  obtain ⟨o, ho, _⟩ := V.obj i (List.mem_of_getElem? h1)
  have hl : i < mp.length := by rw [r.len]; exact (List.getElem?_eq_some_iff.mp ho).1
  rw [List.getElem?_eq_getElem hl] at h2 ⊢
  rw [← h2]; rfl
theorem mpR_sub (r : Rep K mp lh H) (V : Valid lh ds rs) : ∀ a, a ∈ mpR rs mp → a ∈ mp := fun a ha => by
  obtain ⟨k, hk⟩ := List.getElem?_of_mem ha
  obtain ⟨i, _, h2⟩ := mpR_mem r V hk
  exact List.mem_of_getElem? h2
theorem CloA.less {mp' : List Addr} {id : Nat} {a : Addr} {vs : List V} (s : ∀ a, a ∈ mp' → a ∈ mp) (h : CloA K mp H id a vs) : CloA K mp' H id a vs := by
  obtain ⟨st, name, qual, cl, c, h1, h2, h3, h4, h5, C⟩ := h
  refine ⟨st, name, qual, cl, c, h1, h2, fun z => h3 (s _ z), h4, fun z => h5 (s _ z), C.len, C.all, C.inj, fun i y hi => ?_⟩
  obtain ⟨c, o, u, v, k1, k2, k3, k4, k5, k6⟩ := C.has i y hi
  exact ⟨c, o, u, v, k1, k2, fun z => k3 (s _ z), k4, k5, k6⟩
theorem rep_part (r : Rep K mp lh H) (V : Valid lh ds rs) : Rep K (mpR rs mp) (cmpH rs lh) H := by
  refine ⟨by simp [mpR, cmpH], ?_, fun k o a h1 h2 => ?_, r.tab.less (mpR_sub r V)⟩
  · refine List.pairwise_iff_getElem.mpr fun i j hi hj hij he0 => ?_
    have hjl : j < rs.length := by simpa [mpR] using hj
    obtain ⟨a, ha⟩ : ∃ a, (mpR rs mp)[j]? = some a := ⟨_, List.getElem?_eq_getElem hj⟩
    have he : (mpR rs mp)[i]? = some a := by rw [List.getElem?_eq_getElem hi, he0, ← List.getElem?_eq_getElem hj]; exact ha
    obtain ⟨x, hx1, hx2⟩ := mpR_mem r V he
    obtain ⟨y, hy1, hy2⟩ := mpR_mem r V ha
    have exy : x = y := by
      have hxl := (List.getElem?_eq_some_iff.mp hx2).1
      have hyl := (List.getElem?_eq_some_iff.mp hy2).1
      have e : mp[x] = mp[y] := by
        rw [List.getElem?_eq_getElem hxl] at hx2
        rw [List.getElem?_eq_getElem hyl] at hy2
        rw [Option.some.inj hx2, Option.some.inj hy2]
      exact (List.getElem_inj r.nd).mp e
    subst exy
    have := ixR_at V.nd hx1
    have := ixR_at V.nd hy1
    omega
  · obtain ⟨i, hi, ha⟩ := mpR_mem r V h2
    unfold cmpH at h1
    rw [List.getElem?_map, hi] at h1
    obtain ⟨o', ho', pl, hc⟩ := V.obj i (List.mem_of_getElem? hi)
    simp only [Option.map_some, ho', Option.getD_some, Option.some.injEq] at h1
    subst h1
    exact (r.obj i o' a ho' ha).ren (fun n hn b hb => mpR_get r V (hc n hn) hb) pl
/-- behind the part's run all stands as it was -/
theorem rep_back (r : Rep K mp lh H) (V : Valid lh ds rs) {mp' : List Addr} {H' : Hp} {g' : LH} (e : Ext K (mpR rs mp) H mp' H') (r' : Rep K mp' g' H') (hg : g'.take rs.length = cmpH rs lh) : Ext K mp H mp H' ∧ Rep K mp lh H' := by
  have sub : ∀ a, a ∈ mpR rs mp → a ∈ mp := fun a ha => by
    obtain ⟨k, hk⟩ := List.getElem?_of_mem ha
    obtain ⟨i, _, h2⟩ := mpR_mem r V hk
    exact List.mem_of_getElem? h2
  have ex : Ext K mp H mp H' := ⟨⟨[], by simp⟩, fun b o h1 h2 ht => e.frame b o h1 (fun z => h2 (sub b z)) ht, fun b h1 h2 => absurd h1 h2, e.tup, e.frz, fun b ps h1 h2 => e.tbl b ps h1 (fun z => h2 (sub b z))⟩
  refine ⟨ex, r.len, r.nd, fun i o a h1 h2 => ?_, TabOk.back r e r'.tab⟩
  by_cases hi : i ∈ rs
  · obtain ⟨o', ho', pl, hc⟩ := V.obj i hi
    rw [h1] at ho'
    cases ho'
    have ha' : mp'[ixR rs i]? = some a := e.get (mpR_get r V hi h2)
    have hgk : g'[ixR rs i]? = some (o.ren (ixR rs)) := by
      have hl : ixR rs i < rs.length := (List.getElem?_eq_some_iff.mp (ixR_get hi)).1
      have e1 : (g'.take rs.length)[ixR rs i]? = g'[ixR rs i]? := List.getElem?_take_of_lt hl
      rw [← e1, hg]
      unfold cmpH
      rw [List.getElem?_map, ixR_get hi]
      simp [h1]
    have ro := r'.obj _ _ a hgk ha'
    have pl' : plainO (o.ren (ixR rs)) := by
      cases o with
      | exc c fs => have : fs = [] := pl; subst this; exact rfl
      | dlk t kvs => exact pl.elim
      | _ => trivial
    have back := ro.ren (f := fun k => rs.getD k 0) (mp2 := mp) (fun n hn b hb => by
      rw [refsO_ren] at hn
      obtain ⟨j, hj, rfl⟩ := List.mem_map.mp hn
      have hjr := hc j hj
      have e1 : rs.getD (ixR rs j) 0 = j := by rw [List.getD_eq_getElem?_getD, ixR_get hjr]; rfl
      rw [e1]
      obtain ⟨oj, hoj, _⟩ := V.obj j hjr
      have hjl : j < mp.length := by rw [r.len]; exact (List.getElem?_eq_some_iff.mp hoj).1
      have e2 := e.get (mpR_get r V hjr (List.getElem?_eq_getElem hjl))
      rw [e2] at hb
      rw [List.getElem?_eq_getElem hjl, Option.some.inj hb]) pl'
    rw [renO_back (fun n hn => by
      show rs.getD (ixR rs n) 0 = n
      rw [List.getD_eq_getElem?_getD, ixR_get (hc n hn)]; rfl)] at back
    exact back
  · have ro := r.obj i o a h1 h2
    refine ro.ext ex ?_
    obtain ⟨u, hu⟩ := ro.some
    rw [hu]
    refine e.frame a u hu (fun z => ?_) (ro.nt hu).2
    obtain ⟨k, hk⟩ := List.getElem?_of_mem z
    obtain ⟨j, hj, hb⟩ := mpR_mem r V hk
    have hil := (List.getElem?_eq_some_iff.mp h2).1
    have hjl := (List.getElem?_eq_some_iff.mp hb).1
    have e1 : mp[i] = mp[j] := by
      rw [List.getElem?_eq_getElem hil] at h2
      rw [List.getElem?_eq_getElem hjl] at hb
      rw [Option.some.inj h2, Option.some.inj hb]
    have : i = j := (List.getElem_inj r.nd).mp e1
    exact hi (this ▸ List.mem_of_getElem? hj)
end
theorem FnRef.comp {P : Program} {w : World} {K : PySem.W.Frag} {mg : Str → Option Value} {base : Heap} {k : Nat} {f : Addr} {fd : FuncData} {ps : List Str} {m : FM} (F : FnRef P w K mg base k f fd ps m) : FnRef P w K mg base k f fd ps (runC m) := FnOk.imp F fun vs H Q E ⟨mp, lh, ds, rp, rd, hl, q⟩ => by
  have same : Post K mp H (m ds lh) Q E → spOf K ps.length m vs H Q E := fun q => ⟨mp, lh, ds, rp, rd, hl, q⟩
  unfold runC at q
  generalize grow 60 lh [] (refsDs ds) = rs at q
  split at q
  · rename_i V
    have rlen : ∀ l : List D, (renDs (ixR rs) l).length = l.length := fun l => by
      induction l with
      | nil => rfl
      | cons a l ih => rw [renDs, List.length_cons, List.length_cons, ih]
    have part : Post K (mpR rs mp) H (m (renDs (ixR rs) ds) (cmpH rs lh)) Q E → spOf K ps.length m vs H Q E := fun q => ⟨mpR rs mp, cmpH rs lh, renDs (ixR rs) ds, rep_part rp V, rd.ren (fun n hn a ha => mpR_get rp V (V.arg n hn) ha), by rw [rlen]; exact hl, q⟩
    cases hm : m (renDs (ixR rs) ds) (cmpH rs lh) with
    | bad => rw [hm] at q; exact same q
    | ok d g' =>
      simp only [hm] at q
      split at q
      · rename_i hc
        refine part ?_
        rw [hm]
        intro mp' H' v e r rl
        obtain ⟨ex, re⟩ := rep_back rp V e r hc.2
        exact q mp H' v ex re (rl.pure hc.1)
      · exact same q
    | ex x g' =>
      simp only [hm] at q
      split at q
      · rename_i hc
        refine part ?_
        rw [hm]
        intro mp' H' c dd e r rx
        obtain ⟨ex, re⟩ := rep_back rp V e r hc.2
        refine q mp H' c dd ex re ⟨rx.1, .inl ⟨hc.1, ?_⟩⟩
        rcases rx.2 with ⟨_, z⟩ | ⟨_, _, ne, _⟩
        · exact z
        · exact absurd hc.1 ne
      · exact same q
  · exact same q
theorem Cal.comp {P : Program} {w : World} {K : PySem.W.Frag} {mg : Str → Option Value} {base : Heap} {k : Nat} {x : Str} {ps : List Str} {n : Nat} {ks : List Str} {gd : List D → List D → List D} {mf : FM} (h : Cal P w K mg base k x ps n ks gd mf) : Cal P w K mg base k x ps n ks gd (runC mf) := by
  obtain ⟨fd, F, r⟩ := h
  exact ⟨fd, F.comp, r⟩
/-- to run it -/
theorem runC_ok {m : FM} {ds : List D} {h : LH} {rs : List Nat} {d : D} {g' : LH} (hg : grow 60 h [] (refsDs ds) = rs) (V : Valid h ds rs) (e : m (renDs (ixR rs) ds) (cmpH rs h) = .ok d g') (hd : pureD d = true) (ht : g'.take rs.length = cmpH rs h) : runC m ds h = .ok d h := by
  unfold runC
  rw [hg, if_pos V]
  simp only [e]
  rw [if_pos ⟨hd, ht⟩]
end Rf
set_option Elab.async false
set_option linter.all false
set_option maxRecDepth 100000
set_option maxHeartbeats 400000
set_option autoImplicit false
/-! {k: v for ..}; o.f += e; str(n); sorted(list of ints). -/
namespace Rf
open PySem PySem.Spec L2
section
variable {K : PySem.W.Frag} {mp mp1 : List Addr} {H H1 : Hp} {lh : LH} {p : Addr}
theorem sub_updD {ks : List (Key × V)} {o' : HO} (hp : H p = some (.dK ks)) : Sub K mp H mp (upd H p o') := by
  refine ⟨fun h => h, fun a vs h => ?_, fun a o u h => ?_⟩
  · rw [upd_ne (fun z => by subst z; rw [hp] at h; cases h)]; exact h
  · rw [upd_ne (fun z => by subst z; rw [hp] at h; cases h)]; exact h
theorem Ext.accD {ks : List (Key × V)} {o : HO} (e : Ext K mp1 H1 mp H) (h1 : H1 p = none) (hp : H p = some (.dK ks)) : Ext K mp1 H1 mp (upd H p o) :=
  ⟨e.pre, fun a u h hn ht => by rw [upd_ne (ne_of_none h h1)]; exact e.frame a u h hn ht, e.new, fun a vs h => (sub_updD (mp := mp) (K := K) hp).tup a vs (e.tup a vs h), fun a o u h => by rw [upd_ne (fun z => by subst z; have := e.frz _ _ _ h; rw [hp] at this; cases this)]; exact e.frz a o u h,
    fun a ps h hn => by rw [upd_ne (ne_of_none h h1)]; exact e.tbl a ps h hn⟩
theorem Rep.accD {ks : List (Key × V)} {o : HO} (r : Rep K mp lh H) (hm : p ∉ mp) (hp : H p = some (.dK ks)) : Rep K mp lh (upd H p o) :=
  ⟨r.len, r.nd, fun n u a h1 h2 => (r.obj n u a h1 h2).turn (sub_updD (K := K) hp).w (upd_ne fun z => hm (z ▸ List.mem_of_getElem? h2))
    fun dd fs h => (upd_ne (show dd ≠ p from fun z => by rw [z, hp] at h; cases h)).trans h, r.tab.put hp (fun _ z => by cases z) (fun _ z => by cases z)⟩
theorem Rep.adoptD {ks : List (Key × V)} {kvs : List (D × D)} (r : Rep K mp lh H) (hm : p ∉ mp) (hp : H p = some (.dK ks)) (rd : PK K mp H kvs ks) : Rep K (mp ++ [p]) (lh ++ [.dic false kvs]) H := by
  refine ⟨by simp [r.len], ?_, fun n u a h1 h2 => ?_, r.tab.wide hp (fun _ z => by cases z)⟩
  · refine List.nodup_append.mpr ⟨r.nd, (by simp), fun a ha b hb => ?_⟩
    rw [List.mem_singleton.mp hb]
    intro z; exact hm (z ▸ ha)
  · by_cases hl : n < mp.length
    · rw [List.getElem?_append_left hl] at h2
      rw [List.getElem?_append_left (by rw [← r.len]; exact hl)] at h1
      exact (r.obj n u a h1 h2).wide (fun fs z => by rw [hp] at z; cases z)
    · have h2l := (List.getElem?_eq_some_iff.mp h2).1
      have en : n = mp.length := by simp at h2l; omega
      subst en
      rw [List.getElem?_append_right (Nat.le_refl _)] at h2
      rw [List.getElem?_append_right (by rw [r.len]; exact Nat.le_refl _), r.len] at h1
      simp at h1 h2
      subst h1 h2
      exact ⟨ks, hp, Paired.imp (fun p q z => ⟨z.1, z.2.wide⟩) rd⟩
end
def mDcGo (g : GM) (tt : TM) (tk tv : EM) (L : LI) (ls0 : Ls) : Nat → Nat → List (D × D) → LH → R (List (D × D))
  | 0, _, _, _ => .bad
  | n + 1, i, acc, h => match L i h with
    | .done => .ok acc h
    | .bad => .bad
    | .item d => match g d ls0 with
      | none => .bad
      | some ls1 => match tt ls1 h with
        | .ok true h1 => (match tk ls1 h1 with
          | .ok k h2 => (match tv ls1 h2 with
            | .ok v h3 => if (isK k && Nat.blt acc.length 16777216) = true then mDcGo g tt tk tv L ls0 n (i + 1) (putD acc k v) h3 else .bad
            | _ => .bad)
          | _ => .bad)
        | .ok false h1 => mDcGo g tt tk tv L ls0 n (i + 1) acc h1
        | _ => .bad
def mkD (r : R (List (D × D))) : R D := r.bind fun acc h => .ok (.ref h.length) (h ++ [.dic false acc])
def mDc (n : Nat) (wi : IM) (g : GM) (tt : TM) (tk tv : EM) (vs : List Nat) : EM := fun ls h => (wi ls h).bind fun L h1 => mkD (mDcGo g tt tk tv L (wipeL ls vs) n 0 [] h1)
section
variable {X : Cx} {W : WX} {kx vx tg iter : Expr} {ifs : List Expr} {scope : Scope} {own : List (Str × Nat)} {pos : Pos} {wi : IM} {g : GM} {mt : TM} {mk mv : EM}
theorem dc_run {K : PySem.W.Frag} {vs : List Nat} (n : Nat) {tI : TI} (hi : RefI K W tI wi) : RefE K W (tDc tI (cG K g vs) (cT K WF mt) (cE K WF mk) (cE K WF mv) vs) (mDc n wi g mt mk mv vs) := by
  intro mp0 lh0 ls σ H0 Q r0 rs0 q0
  refine hi mp0 lh0 ls σ H0 _ r0 rs0 (q0.bind fun mp1 H1 lh1 L J e1 r1 rl1 q1 => ?_)
  intro Dd hD
  have rs1 := rs0.ext e1
  refine ⟨fun i k H => ∃ mp lh acc ks, Ext K mp1 H1 mp H ∧ Rep K mp lh H ∧ Dd ∉ mp ∧ H Dd = some (.dK ks) ∧ PK K mp H acc ks ∧ PostG K (RelD K) mp1 H1 (mkD (mDcGo g mt mk mv L (wipeL ls vs) k i acc lh)) Q (WE W σ), ⟨n, mp1, lh1, [], [], ?_, r1.free hD, r1.free_ne hD, upd_same, .nil, q1⟩, ?_⟩
  · exact .free hD
  rintro i k H ⟨mp, lh, acc, ks, ex, r, hm, hp, ra, q⟩
  cases k with
  | zero => exact q.elim
  | succ k =>
    unfold mDcGo at q
    have rii := (rl1.ext ex) i mp lh H .refl r
    cases hL : L i lh with
    | done =>
      rw [hL] at rii q
      exact .inl ⟨rii, q (mp ++ [Dd]) H _ (.adopt r ex hD) (r.adoptD hm hp ra) (.ref (by rw [← r.len]; simp))⟩
    | bad => rw [hL] at q; exact q.elim
    | item d =>
      rw [hL] at rii q
      refine .inr ⟨rii.1, fun H' => ∃ mp lh acc ks, Ext K mp1 H1 mp H' ∧ Rep K mp lh H' ∧ Dd ∉ mp ∧ H' Dd = some (.dK ks) ∧ PK K mp H' acc ks ∧ PostG K (RelD K) mp1 H1 (mkD (mDcGo g mt mk mv L (wipeL ls vs) k (i + 1) acc lh)) Q (WE W σ), fun H' z => ⟨k, Nat.lt_succ_self _, z⟩, fun x H' y => ?_⟩
      obtain ⟨e2, r2, rd⟩ := rii.2 x H' y
      obtain ⟨hp2, hm2⟩ := e2.out hp hm
      have ra2 := PK.ext ra e2
      have ex2 := ex.trans e2
      cases hg : g d (wipeL ls vs) with
      | none => simp only [hg] at q; exact q.elim
      | some ls1 =>
        simp only [hg] at q
        refine ⟨mp, lh, wipeL ls vs, ls1, d, r2, (rs1.wipe vs).ext ex2, rd, hg, fun σ2 rs2 w2 => ⟨w2.trans (wipe_idem vs), mp, lh, ls1, r2, rs2, ?_⟩⟩
        cases ht : mt ls1 lh with
        | bad => simp only [ht] at q; exact q.elim
        | ex x lh' => simp only [ht] at q; exact q.elim
        | ok b lh3 =>
          intro mp3 H3 b' e3 r3 eb
          cases eb
          obtain ⟨hp3, hm3⟩ := e3.out hp2 hm2
          cases b with
          | false =>
            simp only [ht] at q
            exact iteF ⟨mp3, lh3, acc, ks, ex2.trans e3, r3, hm3, hp3, PK.ext ra2 e3, q⟩
          | true =>
            simp only [ht] at q
            refine iteT ⟨mp3, lh3, ls1, r3, rs2.ext e3, ?_⟩
            cases hy : mk ls1 lh3 with
            | bad => simp only [hy] at q; exact q.elim
            | ex x lh' => simp only [hy] at q; exact q.elim
            | ok y lh4 =>
              simp only [hy] at q
              intro mp4 H4 vy e4 r4 ry
              obtain ⟨hp4, hm4⟩ := e4.out hp3 hm3
              refine ⟨mp4, lh4, ls1, r4, (rs2.ext e3).ext e4, ?_⟩
              cases hz : mv ls1 lh4 with
              | bad => simp only [hz] at q; exact q.elim
              | ex x lh' => simp only [hz] at q; exact q.elim
              | ok z lh5 =>
                simp only [hz] at q
                intro mp5 H5 vz e5 r5 rz
                obtain ⟨hp5, hm5⟩ := e5.out hp4 hm4
                have ra5 := PK.ext (PK.ext (PK.ext ra2 e3) e4) e5
                cases hk : (isK y && Nat.blt acc.length 16777216) with
                | false => simp only [hk] at q; exact q.elim
                | true =>
                  simp only [hk, if_true] at q
                  rw [Bool.and_eq_true] at hk
                  obtain ⟨key, rfl, rk⟩ := key_rel (ry.ext e5) hk.1
                  have hl : ks.length < sizeLine := by
                    have h1 : acc.length < 16777216 := Nat.le_of_ble_eq_true hk.2
                    have h2 := ra5.length
                    have : sizeLine = 16777216 := rfl
                    omega
                  refine ⟨ks, key, rfl, hp5, hl, mp5, lh5, putD acc y z, putK ks key vz, (((ex2.trans e3).trans e4).trans e5).accD hD hp5, r5.accD hm5 hp5, hm5, upd_same, ?_, q⟩
                  exact Paired.imp (fun p q w => ⟨w.1, w.2.sub (sub_updD hp5)⟩) (put_pk rk rz ra5)
theorem re_dc (n : Nat) (hc : X.calm = true) (hN : X.N.Nodup) (ok : BlkOk X.N X.env.scope scope own) (hi : RI X W tg iter wi)
    (hg : ∀ (s : Shared) (H : Hp) (C : Addr) (cl : List (Str × Addr)) (fp : List Addr), RGw (X.blk s H scope (compEnvC scope cl C X.env) fp) tg g (own.map (·.2))) (ht : ∀ (s : Shared) (H : Hp) (C : Addr) (cl : List (Str × Addr)) (fp : List Addr), RTs (X.blk s H scope (compEnvC scope cl C X.env) fp) WF ifs mt)
    (hk : ∀ (s : Shared) (H : Hp) (C : Addr) (cl : List (Str × Addr)) (fp : List Addr), RE (X.blk s H scope (compEnvC scope cl C X.env) fp) WF kx mk)
    (he : ∀ (s : Shared) (H : Hp) (C : Addr) (cl : List (Str × Addr)) (fp : List Addr), RE (X.blk s H scope (compEnvC scope cl C X.env) fp) WF vx mv) (hs : ∀ x, foldedSetIterable iter X.env x = pure x := by intro _; rfl) :
    RE X W (.DictComp kx vx [⟨tg, iter, ifs, 0⟩] scope pos) (mDc n wi g mt mk mv (own.map (·.2))) := by
  obtain ⟨t, i1, i2⟩ := hi
  exact ⟨_, pe_dc hc hN i1 ok (fun s H C cl fp => show PG _ _ (cG X.K g (own.map (·.2))) from (hg s H C cl fp).pg) (fun s H C cl fp => show PTs _ _ (cT X.K WF mt) from ht s H C cl fp) (fun s H C cl fp => show PE _ _ (cE X.K WF mk) from (hk s H C cl fp).pe) (fun s H C cl fp => show PE _ _ (cE X.K WF mv) from (he s H C cl fp).pe) hs, dc_run n i2⟩
end
/-! ### str(n), n from 0 to 9; sorted(list of ints) -/
def dStr1 : D → LH → R D := fun d h => match d with
  | .int i => if (decide (0 ≤ i) && decide (i < 10)) = true then .ok (.str [48 + i.toNat]) h else .bad
  | _ => .bad
theorem str_digit {i : Int} (h0 : 0 ≤ i) (h1 : i < 10) : (toString i : Str) = ⟨[48 + i.toNat].toArray⟩ := by
  have : i = 0 ∨ i = 1 ∨ i = 2 ∨ i = 3 ∨ i = 4 ∨ i = 5 ∨ i = 6 ∨ i = 7 ∨ i = 8 ∨ i = 9 := by omega
  rcases this with e | e | e | e | e | e | e | e | e | e <;> subst e <;> kernel_rfl
theorem c_str {X : Cx} : RC X (.type "str") (f1 dStr1) := by
  refine ⟨_, call_str_int, refC1 fun mp lh H x v Q E rp rx q => ?_⟩
  cases rx with
  | int i =>
    cases hz : (decide (0 ≤ i) && decide (i < 10)) with
    | false => simp only [dStr1, hz] at q; exact q.elim
    | true =>
      simp only [dStr1, hz, if_true] at q
      rw [Bool.and_eq_true] at hz
      have h0 := of_decide_eq_true hz.1
      have h1 := of_decide_eq_true hz.2
      refine ⟨i, rfl, ?_, by rw [str_digit h0 h1]; exact q.now rp (.str _)⟩
      have : i.natAbs < 10 := by omega
      have h2 : i.natAbs.log2 ≤ i.natAbs := Nat.log2_le_self _
      omega
  | _ => exact q.elim
def insLe (x : Int) : List Int → List Int
  | [] => [x]
  | y :: r => if x ≤ y then x :: y :: r else y :: insLe x r
def srtI : List Int → List Int
  | [] => []
  | x :: r => insLe x (srtI r)
theorem insLe_perm (x : Int) : ∀ l : List Int, (insLe x l).Perm (x :: l)
  | [] => .refl _
  | y :: r => by
    unfold insLe
    split
    · exact .refl _
    · exact ((insLe_perm x r).cons y).trans (.swap x y r)
theorem insLe_mem {x z : Int} {l : List Int} : z ∈ insLe x l ↔ z = x ∨ z ∈ l := by
  rw [(insLe_perm x l).mem_iff, List.mem_cons]
theorem insLe_ris {x : Int} : ∀ {l : List Int}, l.Pairwise (· ≤ ·) → (insLe x l).Pairwise (· ≤ ·)
  | [], _ => by simp [insLe]
  | y :: r, h => by
    obtain ⟨h1, h2⟩ := List.pairwise_cons.mp h
    unfold insLe
    split
    · rename_i hle
      refine List.pairwise_cons.mpr ⟨fun z hz => ?_, h⟩
      rcases List.mem_cons.mp hz with e | e
      · rw [e]; exact hle
      · exact Int.le_trans hle (h1 z e)
    · rename_i n1
      refine List.pairwise_cons.mpr ⟨fun z hz => ?_, insLe_ris h2⟩
      rcases insLe_mem.mp hz with e | e
      · rw [e]; omega
      · exact h1 z e
theorem srtI_perm : ∀ l : List Int, (srtI l).Perm l
  | [] => .refl _
  | x :: r => (insLe_perm x _).trans ((srtI_perm r).cons x)
theorem srtI_ris : ∀ l : List Int, (srtI l).Pairwise (· ≤ ·)
  | [] => by simp [srtI]
  | x :: r => insLe_ris (srtI_ris r)
theorem sorted_uniq : ∀ {a b : List Int}, a.Perm b → a.Pairwise (· ≤ ·) → b.Pairwise (· ≤ ·) → a = b := fun p ha hb =>
  p.eq_of_pairwise (fun x y _ _ h1 h2 => Int.le_antisymm h1 h2) ha hb
def dSorted : D → LH → R D := fun d h => match asRd d h with
  | some xs => (match allI xs with
    | some ns => .ok (.ref h.length) (h ++ [.lst ((srtI ns).map .int)])
    | none => .bad)
  | none => .bad
theorem c_sorted {X : Cx} : RC X (.builtin "sorted") (f1 dSorted) := by
  refine ⟨_, cr_sortedI, refC1 fun mp lh H x v Q E rp rx q => ?_⟩
  unfold dSorted at q
  cases e1 : asRd x lh with
  | none => simp only [e1] at q; exact q.elim
  | some xs =>
    simp only [e1] at q
    cases e2 : allI xs with
    | none => simp only [e2] at q; exact q.elim
    | some ns =>
      simp only [e2] at q
      obtain ⟨n, a, us, rfl, rfl, _, h2, h3⟩ := asRd_of rp rx e1
      have hu : us = ns.map V.int := allI_rel h3 e2
      subst hu
      refine ⟨a, ns, rfl, h2, fun ns' p hpm hs hp => ?_⟩
      have : ns' = srtI ns := sorted_uniq (hpm.trans (srtI_perm ns).symm) hs (srtI_ris ns)
      subst this
      exact q (mp ++ [p]) _ _ (.alloc rp hp) (rp.alloc hp ⟨_, upd_same, relDs_ints _⟩) (.ref (by rw [← rp.len]; simp))
end Rf
set_option Elab.async false
set_option linter.all false
set_option maxRecDepth 100000
set_option maxHeartbeats 400000
set_option autoImplicit false
/-! o.f op= e. -/
namespace Rf
open PySem PySem.Spec L2
def mAugFld (f : D → D → LH → R D) (c i : Nat) (mo me : EM) : SM := fun ls h => liftE (mo ls h) ls fun o h1 => match o with
  | .ref n => (match fldOf [c] i n h1 with
    | some x => liftE ((me ls h1).bind fun y h2 => f x y h2) ls fun z h3 => (match setFld [c] i n z h3 with
      | some h4 => .nx ls h4
      | none => .bad)
    | none => .bad)
  | _ => .bad
section
variable {X : Cx} {W : WX} {o value : Expr} {fn : Str} {mo me : EM} {pos tpos : Pos} {c i : Nat} {op : Operator} {f : D → D → LH → R D}
theorem rs_augFld (ho : RE X W o mo) (hop : ROp X (inplaceOp op) f) (hv : RE X W value me) (hf : nm i = fn) (hc : ∀ c' ∈ [c], Cls X.K (clsA X.K c') ∧ NoAttr X.K (clsA X.K c') fn) :
    RS X W (.AugAssign (.Attribute o fn tpos) op value pos) (mAugFld f c i mo me) := by
  obtain ⟨t, a1, a2⟩ := ho
  obtain ⟨u, b1, b2⟩ := hv
  obtain ⟨r, o1, o2⟩ := hop
  refine ⟨_, ps_fldaug a1 b1 (rd := r) (fun pins s σ H x y u v Q I r1 r2 hh => o1 pins s σ H x y u v Q I r1 r2 hh), fun mp lh ls σ H De rp rs q => a2 mp lh ls σ H _ rp rs (q.lift rs fun mp1 H1 lh1 d v e1 r1 rl1 q1 => ?_)⟩
  cases rl1 with
  | @ref n a hna =>
    cases hx : fldOf [c] i n lh1 with
    | none => simp only [hx] at q1; exact q1.elim
    | some x =>
      simp only [hx] at q1
      unfold fldOf at hx
      split at hx
      · rename_i c' fs hn
        split at hx
        · rename_i hcs
          have ec : c' = c := by simpa using hcs
          subst ec
          obtain ⟨dx, gs, ha, pg⟩ := r1.obj n _ a hn hna
          obtain ⟨vx, hv2, rv⟩ := lookup_fld pg hx
          obtain ⟨h1, h2⟩ := hc c' (by simp)
          refine ⟨a, _, dx, gs, vx, rfl, ha, h1, h2, by rw [← hf]; exact hv2, ?_⟩
          have rs1 := rs.ext e1
          cases hm : me ls lh1 with
          | bad => rw [hm] at q1; exact q1.elim
          | ex y h2 => rw [hm] at q1; exact b2 mp1 lh1 ls σ H1 _ r1 rs1 (by rw [hm]; exact fun mp' H' c dd e2 r2 rx => q1 mp' H' σ c dd e2 r2 (rs1.ext e2) rx)
          | ok y lh2 =>
            rw [hm] at q1
            refine b2 mp1 lh1 ls σ H1 _ r1 rs1 ?_
            rw [hm]
            intro mp2 H2 vy e2 r2 ry
            refine o2 mp2 lh2 H2 x y vx vy _ (WE W σ) r2 (rv.ext e2) ry ?_
            have q2 : PostS X.K mp1 H1 (liftE (f x y lh2) ls fun z h3 => (match setFld [c'] i n z h3 with
              | some h4 => .nx ls h4
              | none => .bad)) De W := q1
            cases hf3 : f x y lh2 with
            | bad => rw [hf3] at q2; exact q2.elim
            | ex z h3 => rw [hf3] at q2; exact fun mp' H' c dd e3 r3 rx => q2 mp' H' σ c dd (e2.trans e3) r3 ((rs1.ext e2).ext e3) rx
            | ok z lh3 =>
              rw [hf3] at q2
              intro mp3 H3 vz e3 r3 rz
              have q3 : PostS X.K mp1 H1 (match setFld [c'] i n z lh3 with
                | some h4 => .nx ls h4
                | none => .bad) De W := q2
              cases hs : setFld [c'] i n z lh3 with
              | none => simp only [hs] at q3; exact q3.elim
              | some lh4 =>
                simp only [hs] at q3
                obtain ⟨c2, dx', gs', hcs2, ha', hl, ew, rw'⟩ := ref_setFld r3 (e3.get (e2.get hna)) rz hs
                have ec2 : c2 = c' := by simpa using hcs2
                subst ec2
                exact ⟨dx', gs', ha', hl, by rw [← hf]; exact q3 mp3 _ σ ((e2.trans e3).trans ew) rw' (((rs1.ext e2).ext e3).ext ew)⟩
        · cases hx
      · cases hx
  | _ => exact q1.elim
end
end Rf
set_option Elab.async false
set_option linter.all false
set_option maxRecDepth 100000
set_option maxHeartbeats 400000
set_option autoImplicit false
/-! statements are run on what their names can come to, alone. -/
namespace Rf
open PySem PySem.Spec L2
def dsOf : Ls → List D
  | [] => []
  | some d :: r => d :: dsOf r
  | none :: r => dsOf r
def renL (f : Nat → Nat) (ls : Ls) : Ls := ls.map fun o => o.map (D.ren f)
theorem dsOf_mem {ls : Ls} {i : Nat} {d : D} (h : ls[i]? = some (some d)) : ∀ n ∈ refsD d, n ∈ refsDs (dsOf ls) := by
  intro n hn
  induction ls generalizing i with
  | nil => simp at h
  | cons o r ih =>
    cases i with
    | zero =>
      simp at h
      subst h
      show n ∈ refsD d ++ refsDs (dsOf r)
      exact List.mem_append.mpr (.inl hn)
    | succ i =>
      have := ih (i := i) (by simpa using h)
      cases o with
      | none => exact this
      | some d' => exact List.mem_append.mpr (.inr this)
section
variable {K : PySem.W.Frag} {W : WX} {t : TS} {m : SM}
theorem relS_ren {mp : List Addr} {lh : LH} {H : Hp} {ls : Ls} {σ : L2.St} {rs : List Nat} (r : Rep K mp lh H) (V : Valid lh (dsOf ls) rs) (h : RelS K mp H ls σ) : RelS K (mpR rs mp) H (renL (ixR rs) ls) σ := by
  refine ⟨by rw [renL, List.length_map]; exact h.1, fun i d hd => ?_⟩
  unfold renL at hd
  rw [List.getElem?_map] at hd
  cases ho : ls[i]? with
  | none => rw [ho] at hd; cases hd
  | some o =>
    rw [ho] at hd
    cases o with
    | none => simp at hd
    | some d0 =>
      have : d = d0.ren (ixR rs) := by simpa using hd.symm
      subst this
      obtain ⟨v, h1, h2⟩ := h.2 i d0 ho
      refine ⟨v, h1, ?_⟩
      cases d0 with
      | fn id caps =>
        obtain ⟨a, vs, k1, k2, k3⟩ := h2
        exact ⟨a, vs, k1, k2.less (mpR_sub r V), RelDs.ren (fun n hn a ha => mpR_get r V (V.arg n (dsOf_mem ho n (by simpa [refsD] using hn))) ha) k3⟩
      | _ => exact (RelD.ren (fun n hn a ha => mpR_get r V (V.arg n (dsOf_mem ho n hn)) ha) h2).f
end
end Rf
set_option Elab.async false
set_option linter.all false
set_option maxRecDepth 100000
set_option maxHeartbeats 400000
set_option autoImplicit false
/-! the rest of a law run on the part of the heap that its names come to, if it comes to True there. -/
namespace Rf
open PySem PySem.Spec L2
/-- what is left as it was, if the answer is True -/
def chkT (k : Nat) : SR → Option LH
  | .rt (.bl true) g => some (g.take k)
  | _ => none
def GoodT (m : SM) (ls : Ls) (h : LH) : Prop := ∃ rs : List Nat, Valid h (dsOf ls) rs ∧ chkT rs.length (m (renL (ixR rs) ls) (cmpH rs h)) = some (cmpH rs h)
open Classical in
noncomputable def mTrue (m : SM) : SM := fun ls h => if GoodT m ls h then .rt (.bl true) h else m ls h
theorem chkT_some {k : Nat} {r : SR} {g : LH} (h : chkT k r = some g) : ∃ g', r = .rt (.bl true) g' ∧ g'.take k = g := by
  unfold chkT at h
  split at h
  · rename_i g'
    exact ⟨g', rfl, Option.some.inj h⟩
  · cases h
theorem ref_true {K : PySem.W.Frag} {W : WX} {t : TS} {m : SM} (hR : RefS K W t m) : RefS K W t (mTrue m) := by
  intro mp lh ls σ H De rp rs0 q
  unfold mTrue at q
  split at q
  · rename_i hg
    obtain ⟨rs, V, hc⟩ := hg
    obtain ⟨g', hm, hg'⟩ := chkT_some hc
    refine hR _ _ _ σ H De (rep_part rp V) (relS_ren rp V rs0) ?_
    rw [hm]
    intro mp' H' v e r rl
    obtain ⟨ex, re⟩ := rep_back rp V e r hg'
    exact q mp H' v ex re (rl.pure rfl)
  · exact hR mp lh ls σ H De rp rs0 q
theorem rss_true {X : Cx} {W : WX} {sts : List Stmt} {m : SM} (h : RSs X W sts m) : RSs X W sts (mTrue m) := let ⟨t, a, b⟩ := h; ⟨t, a, ref_true b⟩
theorem true_ok {m : SM} {ls : Ls} {h : LH} (g : GoodT m ls h) : mTrue m ls h = .rt (.bl true) h := by
  unfold mTrue
  rw [if_pos g]
/-- the numbers of a row of unlike ones -/
theorem ixR_nd {rs : List Nat} (nd : rs.Nodup) {k i : Nat} (h : rs[k]? = some i) : ixR rs i = k := ixR_at nd h
theorem goodT_of {m : SM} {ls : Ls} {h : LH} (os : List (Nat × LO)) (ls' : Ls) (h' : LH) (at_ : ∀ p ∈ os, h[p.1]? = some p.2) (nd : (os.map (·.1)).Nodup) (pl : ∀ p ∈ os, plainO p.2) (arg : ∀ i ∈ refsDs (dsOf ls), i ∈ os.map (·.1)) (cl : ∀ p ∈ os, ∀ j ∈ refsO p.2, j ∈ os.map (·.1))
    (e1 : ∀ f : Nat → Nat, (∀ k i, (os.map (·.1))[k]? = some i → f i = k) → renL f ls = ls' ∧ os.map (fun p => p.2.ren f) = h') (e2 : chkT os.length (m ls' h') = some h') : GoodT m ls h := by
  obtain ⟨h1, h2⟩ := e1 (ixR (os.map (·.1))) (fun k i e => ixR_at nd e)
  have hc : cmpH (os.map (·.1)) h = h' := by
    rw [← h2]
    unfold cmpH
    rw [List.map_map]
    refine List.map_congr_left fun p hp => ?_
    show ((h[p.1]?).getD (.lst [])).ren _ = _
    rw [at_ p hp]; rfl
  refine ⟨os.map (·.1), ⟨nd, arg, fun i hi => ?_⟩, ?_⟩
  · obtain ⟨p, hp, rfl⟩ := List.mem_map.mp hi
    exact ⟨p.2, at_ p hp, pl p hp, fun j hj => cl p hp j hj⟩
  · rw [h1, hc, List.length_map]; exact e2
mutual
theorem ren_pure {f : Nat → Nat} : ∀ {d : D}, pureD d = true → d.ren f = d
  | .non, _ => rfl
  | .bl _, _ => rfl
  | .int _, _ => rfl
  | .str _, _ => rfl
  | .tup xs, h => by
    have h : pureDs xs = true := by simpa [pureD] using h
    show D.tup (renDs f xs) = _
    rw [rens_pure h]
  | .ktp xs, h => by
    have h : pureDs xs = true := by simpa [pureD] using h
    show D.ktp (renDs f xs) = _
    rw [rens_pure h]
  | .fn _ _, h => by simp [pureD] at h
  | .rol _, h => by simp [pureD] at h
  | .ref _, h => by simp [pureD] at h
theorem rens_pure {f : Nat → Nat} : ∀ {ds : List D}, pureDs ds = true → renDs f ds = ds
  | [], _ => rfl
  | d :: ds, h => by
    rw [pureDs, Bool.and_eq_true] at h
    show d.ren f :: renDs f ds = _
    rw [ren_pure h.1, rens_pure h.2]
end
mutual
theorem refs_pure : ∀ {d : D}, pureD d = true → refsD d = []
  | .non, _ => rfl
  | .bl _, _ => rfl
  | .int _, _ => rfl
  | .str _, _ => rfl
  | .tup xs, h => refss_pure (by simpa [pureD] using h)
  | .ktp xs, h => refss_pure (by simpa [pureD] using h)
  | .fn _ _, h => by simp [pureD] at h
  | .rol _, h => by simp [pureD] at h
  | .ref _, h => by simp [pureD] at h
theorem refss_pure : ∀ {ds : List D}, pureDs ds = true → refsDs ds = []
  | [], _ => rfl
  | d :: ds, h => by
    rw [pureDs, Bool.and_eq_true] at h
    show refsD d ++ refsDs ds = _
    rw [refs_pure h.1, refss_pure h.2]; rfl
end
theorem pureDs_all {ds : List D} (h : ∀ d ∈ ds, pureD d = true) : pureDs ds = true := by
  induction ds with
  | nil => rfl
  | cons d r ih =>
    rw [pureDs, Bool.and_eq_true]
    exact ⟨h d (by simp), ih fun x hx => h x (by simp [hx])⟩
theorem pureDs_map {α : Type} {g : α → D} (h : ∀ x, pureD (g x) = true) (l : List α) : pureDs (l.map g) = true := pureDs_all fun d hd => by
  obtain ⟨x, _, rfl⟩ := List.mem_map.mp hd
  exact h x
end Rf
set_option Elab.async false
set_option linter.all false
set_option maxRecDepth 100000
set_option maxHeartbeats 400000
set_option autoImplicit false
/-! the head with tables of code objects; the law's end over it. -/
namespace Rf
open PySem PySem.Spec L2
/-- all defs that hold defs are told; their tables are unlike -/
def exT (tf : List He.Defn) (K : PySem.W.Frag) : Bool := (ndL.all fun x => decide ((Str.ofString x, none) ∈ tf) || (fdOf K x).isNone) && decide (((tabsOf K).map (·.1)).Nodup)
def obsT (n : Nat) (fx : List Fx) (fa : List He.Fa) (fn : List He.DefD) (tf : List He.Defn) (g : Addr → Option Obj) : AlX :=
  (fxAll fx (He.frT g (He.asD g n)) && (exT tf (He.frT g (He.asD g n)) && He.tabsB g tf (He.frT g (He.asD g n))), He.obsD fa fn (He.frT g (He.asD g n)))
structure SaysT (fx : List Fx) (fa : List He.Fa) (fn : List He.DefD) (tf : List He.Defn) (h : Heap) (K : PySem.W.Frag) : Prop where
  x : fxAll fx K = true
  c : He.SaysD fa fn K
  ex : exT tf K = true
  hd : ∀ p ∈ tf, PySem.W.codeHdIn K (He.cT K p).1 (He.cT K p).2 = true
  out : ∀ p ∈ tf, K.lookup (He.cT K p).2 = none
  empty : ∀ p ∈ tf, h.get? (He.cT K p).2 = some { cls := .none, data := .fields #[] }
theorem saysT_of {n : Nat} {fx : List Fx} {fa : List He.Fa} {fn : List He.DefD} {tf : List He.Defn} {h : Heap} (e : obsT n fx fa fn tf h.get? = (true, He.valD fn)) : SaysT fx fa fn tf h (He.frT h.get? (He.asD h.get? n)) := by
  have e1 := congrArg Prod.fst e
  have e2 := congrArg Prod.snd e
  simp only [obsT, Bool.and_eq_true] at e1
  obtain ⟨h1, h2, h3⟩ := e1
  have key : ∀ p ∈ tf, PySem.W.codeHdIn (He.frT h.get? (He.asD h.get? n)) (He.cT (He.frT h.get? (He.asD h.get? n)) p).1 (He.cT (He.frT h.get? (He.asD h.get? n)) p).2 = true ∧ ∃ o, h.get? (He.cT (He.frT h.get? (He.asD h.get? n)) p).2 = some o ∧ He.emptyTab o = true := fun p hp => by
    have z := List.all_eq_true.mp h3 p hp
    rw [Bool.and_eq_true] at z
    refine ⟨z.1, ?_⟩
    have z2 := z.2
    split at z2
    · rename_i o q; exact ⟨o, q, z2⟩
    · cases z2
  refine ⟨h1, e2, h2, fun p hp => (key p hp).1, fun p hp => ?_, fun p hp => ?_⟩
  · obtain ⟨_, o, q, z⟩ := key p hp
    exact He.frT_none q z
  · obtain ⟨_, o, q, z⟩ := key p hp
    rw [q, He.emptyTab_eq z]
def hookT (n : Nat) (fx : List Fx) (fa : List He.Fa) (fn : List He.DefD) (tf : List He.Defn) : PySem.W.Hook where
  α := AlX
  obs := fun s => obsT n fx fa fn tf s.heap.get?
  val := fun _ => (true, He.valD fn)
  says := fun _ h => ∃ K : PySem.W.Frag, K.In h ∧ SaysT fx fa fn tf h K
  of := fun _ _ e => ⟨_, He.frT_in, saysT_of e⟩
  keeps := fun _ _ _ ⟨K, hK, c⟩ k => ⟨K, PySem.W.Frag.In.keeps hK k, ⟨c.x, c.c, c.ex, c.hd, c.out, fun p hp => k _ _ (c.empty p hp)⟩⟩
theorem obsT_eq {n : Nat} {fx : List Fx} {fa : List He.Fa} {fn : List He.DefD} {tf : List He.Defn} {g : Addr → Option Obj} {s : Shared} (h : ∀ a, g a = s.heap.get? a) : obsT n fx fa fn tf g = (hookT n fx fa fn tf).obs s := by
  have e : g = s.heap.get? := funext h
  rw [e] <;> rfl
section
variable {fx : List Fx} {fa : List He.Fa} {fn : List He.DefD} {tf : List He.Defn} {h : Heap} {K : PySem.W.Frag} {mg : Str → Option Value} {base : Heap}
theorem ct_of {x : String} {fd : FuncData} {c P : Addr} (h1 : fdOf K x = some fd) (h2 : fd.code = .ref c) (h3 : tabA K fd = some P) : He.cT K (Str.ofString x, none) = (c, P) := by
  unfold fdOf at h1
  split at h1
  · rename_i oc od fd' osl lk
    cases h1
    have e1 : He.codeOf K (Str.ofString x, none) = c := He.codeOf_eq lk h2
    have e2 : He.tabOf K c = P := by
      unfold tabA at h3
      rw [h2] at h3
      dsimp only at h3
      unfold He.tabOf
      split at h3
      · rename_i lk2
        rw [lk2]
        dsimp only
        split at h3
        · rename_i e; rw [e]; exact Option.some.inj h3
        · cases h3
      · cases h3
    unfold He.cT
    rw [e1, e2]
  · cases h1
theorem ex_mem (e : exT tf K = true) {x : String} {fd : FuncData} (hx : x ∈ ndL) (h1 : fdOf K x = some fd) : (Str.ofString x, none) ∈ tf := by
  unfold exT at e
  rw [Bool.and_eq_true] at e
  have z := List.all_eq_true.mp e.1 x hx
  rw [Bool.or_eq_true] at z
  rcases z with z | z
  · exact of_decide_eq_true z
  · rw [h1] at z; cases z
theorem tab_start (e : exT tf K = true) {H : Hp} (hH : ∀ p ∈ tf.map (He.cT K), H p.2 = some (.tbl #[])) : TabOk K [] H := ⟨fun q hq => by
  unfold tabsOf at hq
  obtain ⟨x, hx, hq⟩ := List.mem_filterMap.mp hq
  cases h1 : fdOf K x with
  | none => rw [h1] at hq; cases hq
  | some fd =>
    rw [h1] at hq
    dsimp only at hq
    cases h3 : tabA K fd with
    | none => rw [h3] at hq; cases hq
    | some P =>
      rw [h3] at hq
      cases hq
      have h2 : ∃ c, fd.code = .ref c := by
        unfold tabA at h3
        split at h3
        · rename_i c e; exact ⟨c, e⟩
        · cases h3
      obtain ⟨c, h2⟩ := h2
      have := hH _ (List.mem_map.mpr ⟨_, ex_mem e hx h1, rfl⟩)
      rw [ct_of h1 h2 h3] at this
      exact ⟨#[], this, True.intro, fun pos cv z => by
        have z : codeAmong pos [] = some cv := z
        simp [codeAmong] at z⟩⟩
theorem fc_of (S : SaysT fx fa fn tf h K) (X : K.In h) (G : h.Ns mainGlobals mg) (TB : ∀ p ∈ tf.map (He.cT K), LamX.TabB base mg p.1 p.2) : Fc fx fa fn K mg base := by
  refine ⟨S.x, S.c, ⟨h, X, G⟩, fun x fd c P hx h1 h2 h3 => ?_, ?_⟩
  · have := TB _ (List.mem_map.mpr ⟨_, ex_mem S.ex hx h1, rfl⟩)
    rw [ct_of h1 h2 h3] at this
    exact this
  · have e := S.ex
    unfold exT at e
    rw [Bool.and_eq_true] at e
    exact of_decide_eq_true e.2
/-- the law's end -/
theorem law_at {l : PySem.W.OpenLaw} {w : World} {k n : Nat} {x : Str} {f : Addr} {m : FM} {fd : FuncData} (X : K.In h) (S : SaysT fx fa fn tf h K) (hb : ∀ (s : Shared) (v : Value), BindsTo s fd ⟨[v], []⟩ [(x, v)])
    (F : ∀ base : Heap, (∀ p ∈ tf.map (He.cT K), LamX.TabB base mg p.1 p.2) → FnRef l.prog w K mg base k f fd [x] m) (hm : ∀ ns : List Int, ∃ h', m [.rol (ns.map D.int)] [] = .ok (.bl true) h') : LamX.LawAtS l w K CXn k n x mg f h := by
  refine ⟨fd, tf.map (He.cT K), spLaw K, fun p hp => ?_, fun p hp => ?_, fun p hp => ?_, hb, fun H a ns _ _ hH hS => ⟨a, ns, rfl, tab_start S.ex hH, hS, fun _ => rfl⟩, fun base _ _ TB => fn_law (F base TB) hm⟩
  · obtain ⟨q, hq, rfl⟩ := List.mem_map.mp hp
    exact S.empty q hq
  · obtain ⟨q, hq, rfl⟩ := List.mem_map.mp hp
    exact S.out q hq
  · obtain ⟨q, hq, rfl⟩ := List.mem_map.mp hp
    exact PySem.W.codeHd_of_K X (S.hd q hq)
end
end Rf
set_option Elab.async false
set_option linter.all false
set_option maxRecDepth 100000
set_option maxHeartbeats 400000
set_option autoImplicit false
/-! dicts: get, copies, walks over keys; min, max of a list of ints. -/
namespace Rf
open PySem PySem.Spec PyProof.Rows L2
/-! ### d.get(k), d.get(k, x) -/
def gotD (d : D) (k x : D) (h : LH) : R D := match dicR d h with
  | some (t, kvs) => if keyOk t k = true then .ok ((getK kvs k).getD x) h else .bad
  | none => .bad
def isDic (d : D) (h : LH) : Bool := (dicR d h).isSome
def mGet1 (mo mk : EM) : EM := fun ls h => (mo ls h).bind fun d h1 => if isDic d h1 = true then (mk ls h1).bind fun k h2 => gotD d k .non h2 else .bad
def mGet2 (mo mk mx : EM) : EM := fun ls h => (mo ls h).bind fun d h1 => if isDic d h1 = true then (mk ls h1).bind fun k h2 => (mx ls h2).bind fun x h3 => gotD d k x h3 else .bad
section
variable {X : Cx} {W : WX} {o e f : Expr} {mo mk mx me : EM} {apos cpos : Pos}
theorem isDic_ok {K : PySem.W.Frag} {mp : List Addr} {H : Hp} {lh : LH} {d : D} {v : V} (r : Rep K mp lh H) (rd : RelD K mp H d v) (h : isDic d lh = true) : ∃ a, v = .ref a ∧ IsD H a := by
  unfold isDic at h
  cases e : dicR d lh with
  | none => rw [e] at h; cases h
  | some p =>
    obtain ⟨t, kvs⟩ := p
    obtain ⟨n, a, rfl, rfl, hn, hD⟩ := dicR_ok r rd e
    exact ⟨a, rfl, dicR_isD hD⟩
theorem gotD_ok {K : PySem.W.Frag} {mp : List Addr} {H : Hp} {lh : LH} {a : Addr} {d k x : D} {vk vx : V} {Q : VK} {E : XK} (r : Rep K mp lh H) (rd : RelD K mp H d (.ref a)) (rk : RelD K mp H k vk) (rx : RelD K mp H x vx) (q : Post K mp H (gotD d k x lh) Q E) : ∃ ov, DGet H a vk ov ∧ Q (ov.getD vx) H := by
  unfold gotD at q
  cases hd : dicR d lh with
  | none => simp only [hd] at q; exact q.elim
  | some p =>
    obtain ⟨t, kvs⟩ := p
    simp only [hd] at q
    cases hk : keyOk t k with
    | false => simp only [hk] at q; exact q.elim
    | true =>
      simp only [hk, if_true] at q
      obtain ⟨n, a', rfl, ea, hn, hD⟩ := dicR_ok r rd hd
      cases ea
      obtain ⟨ov, g, gg⟩ := dget_ok hD rk hk
      refine ⟨ov, g, ?_⟩
      cases hg : getK kvs k with
      | none =>
        simp only [hg] at gg q
        rw [gg]
        exact PostG.now (show PostG K (RelD K) mp H (.ok x lh) Q E from q) r rx
      | some d' =>
        simp only [hg] at gg q
        obtain ⟨v, rfl, rv⟩ := gg
        exact PostG.now (show PostG K (RelD K) mp H (.ok d' lh) Q E from q) r rv
theorem re_get1 (hu : X.A.units + 64 < cLine) (ho : RE X W o mo) (he : RE X W e mk) (m : M1 X o "get" apos e cpos) : RE X W (.Call (.Attribute o "get" apos) [e] [] cpos) (mGet1 mo mk) := by
  obtain ⟨to, o1, o2⟩ := ho
  obtain ⟨te, e1, e2⟩ := he
  refine ⟨_, pe_dget1 (by omega) o1 e1 m, fun mp lh ls σ H Q r rs q => o2 mp lh ls σ H _ r rs (q.bind fun mp1 H1 lh1 d v x1 r1 rl1 q1 => ?_)⟩
  cases hd : isDic d lh1 with
  | false => simp only [hd] at q1; exact q1.elim
  | true =>
    simp only [hd, if_true] at q1
    obtain ⟨a, rfl, iD⟩ := isDic_ok r1 rl1 hd
    refine ⟨a, rfl, iD, e2 mp1 lh1 ls σ H1 _ r1 (rs.ext x1) (q1.bind fun mp2 H2 lh2 k vk x2 r2 rl2 q2 => ?_)⟩
    exact gotD_ok r2 (rl1.ext x2) rl2 .non q2
theorem re_get2 (hu : X.A.units + 64 < cLine) (ho : RE X W o mo) (he : RE X W e mk) (hf : RE X W f mx) (m : M2 X o "get" apos e f cpos) : RE X W (.Call (.Attribute o "get" apos) [e, f] [] cpos) (mGet2 mo mk mx) := by
  obtain ⟨to, o1, o2⟩ := ho
  obtain ⟨te, e1, e2⟩ := he
  obtain ⟨tf, f1, f2⟩ := hf
  refine ⟨_, pe_dget2 (by omega) o1 e1 f1 m, fun mp lh ls σ H Q r rs q => o2 mp lh ls σ H _ r rs (q.bind fun mp1 H1 lh1 d v x1 r1 rl1 q1 => ?_)⟩
  cases hd : isDic d lh1 with
  | false => simp only [hd] at q1; exact q1.elim
  | true =>
    simp only [hd, if_true] at q1
    obtain ⟨a, rfl, iD⟩ := isDic_ok r1 rl1 hd
    refine ⟨a, rfl, iD, e2 mp1 lh1 ls σ H1 _ r1 (rs.ext x1) (q1.bind fun mp2 H2 lh2 k vk x2 r2 rl2 q2 => f2 mp2 lh2 ls σ H2 _ r2 ((rs.ext x1).ext x2) (q2.bind fun mp3 H3 lh3 x vx x3 r3 rl3 q3 => ?_))⟩
    exact gotD_ok r3 ((rl1.ext x2).ext x3) (rl2.ext x3) rl3 q3
/-! ### dict(d) -/
def dDict : D → LH → R D := fun d h => match dicR d h with
  | some (false, kvs) => .ok (.ref h.length) (h ++ [.dic false kvs])
  | _ => .bad
theorem c_dict : RC X (.type "dict") (f1 dDict) := by
  refine ⟨fun vs H Q => ∃ a kvs, vs = [.ref a] ∧ Rd H a (.dK kvs) ∧ ∀ p, H p = none → Q (.ref p) (upd H p (.dK kvs)), fun pins s σ H vs us Q I r h => ?_, refC1 fun mp lh H x v Q E rp rx q => ?_⟩
  · obtain ⟨a, kvs, rfl, e, h⟩ := h
    cases r with
    | cons ra rb =>
      cases rb
      obtain rfl := ra
      exact d_copyOf I e fun p s' hp I' => ⟨.ref p, _, I', rfl, h p hp⟩
  · unfold dDict at q
    cases hd : dicR x lh with
    | none => simp only [hd] at q; exact q.elim
    | some p =>
      obtain ⟨t, kvs⟩ := p
      simp only [hd] at q
      cases t with
      | true => exact q.elim
      | false =>
        obtain ⟨n, a, rfl, rfl, hn, ks, h1, h2⟩ := dicR_ok rp rx hd
        exact ⟨a, ks, rfl, h1, fun p hp => q (mp ++ [p]) _ _ (.alloc rp hp) (rp.alloc hp ⟨ks, upd_same, PGr.ext h2 (.alloc rp hp)⟩) (.ref (by rw [← rp.len]; simp))⟩
end
end Rf
set_option Elab.async false
set_option linter.all false
set_option maxRecDepth 100000
set_option maxHeartbeats 400000
set_option autoImplicit false
/-! dicts walked: locked meanwhile. -/
namespace Rf
open PySem PySem.Spec PyProof.Rows L2
/-- the dict is locked, unlocked -/
def lkH (n : Nat) (h : LH) : Option LH := match h[n]? with
  | some (.dic t kvs) => some (h.set n (.dlk t kvs))
  | _ => none
def ulH (n : Nat) (h : LH) : Option LH := match h[n]? with
  | some (.dlk t kvs) => some (h.set n (.dic t kvs))
  | _ => none
def mLock (me m : EM) : EM := fun ls h => match me ls h with
  | .ok (.ref n) _ => (match lkH n h with
    | some h1 => (match m ls h1 with
      | .ok d h2 => (match ulH n h2 with
        | some h3 => .ok d h3
        | none => .bad)
      | _ => .bad)
    | none => .bad)
  | _ => .bad
def mLockS (me : EM) (m : SM) : SM := fun ls h => match me ls h with
  | .ok (.ref n) _ => (match lkH n h with
    | some h1 => (match m ls h1 with
      | .nx l h2 => (match ulH n h2 with
        | some h3 => .nx l h3
        | none => .bad)
      | .rt d h2 => (match ulH n h2 with
        | some h3 => .rt d h3
        | none => .bad)
      | _ => .bad)
    | none => .bad)
  | _ => .bad
section
variable {K : PySem.W.Frag} {mp mp' : List Addr} {H H' : Hp} {lh lh1 lh2 lh3 : LH} {n : Nat}
theorem lk_ok (r : Rep K mp lh H) (e : lkH n lh = some lh1) : ∃ a u, mp[n]? = some a ∧ H a = some u ∧ Mut (some u) ∧ (∀ xs, u ≠ .lst xs) ∧ (∀ φ, u ≠ .ext φ) ∧ ∀ od, Ext K mp H mp (upd H a (.frz od u)) ∧ Rep K mp lh1 (upd H a (.frz od u)) := by
  unfold lkH at e
  cases ho : lh[n]? with
  | none => rw [ho] at e; cases e
  | some o =>
    rw [ho] at e
    cases o with
    | dic t kvs =>
      cases e
      obtain ⟨a, ha, ro⟩ := r.get ho
      cases t with
      | false =>
        obtain ⟨ks, h1, h2⟩ := ro
        refine ⟨a, .dK ks, ha, h1, trivial, (fun _ z => by cases z), (fun _ z => by cases z), fun od => ?_⟩
        have ew : Ext K mp H mp (upd H a (.frz od (.dK ks))) := .write r ha ho rfl
        exact ⟨ew, r.write ha ho rfl ⟨od, ks, upd_same, PGr.ext h2 ew⟩⟩
      | true =>
        obtain ⟨ks, h1, h2⟩ := ro
        refine ⟨a, .dT ks, ha, h1, trivial, (fun _ z => by cases z), (fun _ z => by cases z), fun od => ?_⟩
        have ew : Ext K mp H mp (upd H a (.frz od (.dT ks))) := .write r ha ho rfl
        exact ⟨ew, r.write ha ho rfl ⟨od, ks, upd_same, PGr.ext h2 ew⟩⟩
    | _ => cases e
/-- behind the walk -/
theorem ul_ok {a : Addr} {u : HO} {od : Obj} (r : Rep K mp lh H) (hu : H a = some u) (ha : mp[n]? = some a) (hl : ∀ xs, u ≠ .lst xs) (hm : Mut (some u)) (e : Ext K mp (upd H a (.frz od u)) mp' H') (r' : Rep K mp' lh2 H') (eu : ulH n lh2 = some lh3) :
    H' a = some (.frz od u) ∧ SubW mp' H' mp' (upd H' a u) ∧ Ext K mp H mp' (upd H' a u) ∧ Rep K mp' lh3 (upd H' a u) := by
  have hf : H' a = some (.frz od u) := e.frz a od u upd_same
  have sw : SubW mp' H' mp' (upd H' a u) := ⟨fun h => h, fun b vs h => by rw [upd_ne (fun z => by rw [z, hf] at h; cases h)]; exact h, fun b o xs h => by
    rw [upd_ne (fun z => by rw [z, hf] at h; cases h; exact hl xs rfl)]; exact h⟩
  have am : a ∈ mp := List.mem_of_getElem? ha
  have nT : ∀ vs, u ≠ .tup vs := fun vs z => by subst z; exact hm
  have nF : ∀ o x, u ≠ .frz o x := fun o x z => by subst z; exact hm
  have nB : ∀ ps, u ≠ .tbl ps := fun ps z => by subst z; exact hm
  have ex : Ext K mp H mp' (upd H' a u) := by
    refine ⟨e.pre, fun b o h hb ht => ?_, fun b h1 h2 => ?_, fun b vs h => ?_, fun b o x h => ?_, fun b ps h hb => ?_⟩
    · have ne : b ≠ a := fun z => hb (by rw [z]; exact am)
      rw [upd_ne ne]
      exact e.frame b o (by rw [upd_ne ne]; exact h) hb ht
    · have ne : b ≠ a := fun z => h2 (by rw [z]; exact am)
      have := e.new b h1 h2
      rw [upd_ne ne] at this; exact this
    · have ne : b ≠ a := fun z => by rw [z, hu] at h; exact nT vs (Option.some.inj h)
      rw [upd_ne ne]
      exact e.tup b vs (by rw [upd_ne ne]; exact h)
    · have ne : b ≠ a := fun z => by rw [z, hu] at h; exact nF o x (Option.some.inj h)
      rw [upd_ne ne]
      exact e.frz b o x (by rw [upd_ne ne]; exact h)
    · have ne : b ≠ a := fun z => hb (by rw [z]; exact am)
      rw [upd_ne ne]
      exact e.tbl b ps (by rw [upd_ne ne]; exact h) hb
  have ha' : mp'[n]? = some a := ex.get ha
  refine ⟨hf, sw, ex, ?_⟩
  unfold ulH at eu
  cases ho : lh2[n]? with
  | none => rw [ho] at eu; cases eu
  | some o =>
    rw [ho] at eu
    cases o with
    | dlk t kvs =>
      cases eu
      have ro := r'.obj n _ a ho ha'
      have new : RelO K mp' (upd H' a u) (.dic t kvs) a := by
        cases t with
        | false =>
          obtain ⟨o, ks, h1, h2⟩ := ro
          rw [hf] at h1
          cases h1
          exact ⟨ks, upd_same, Paired.imp (fun _ _ z => ⟨z.1, z.2.subw sw⟩) h2⟩
        | true =>
          obtain ⟨o, ks, h1, h2⟩ := ro
          rw [hf] at h1
          cases h1
          exact ⟨ks, upd_same, Paired.imp (fun _ _ z => ⟨z.1, z.2.subw sw⟩) h2⟩
      refine ⟨by simp [r'.len], r'.nd, fun k o b h1 h2 => ?_, r'.tab.write (List.mem_of_getElem? ha') hf (fun _ z => by cases z)⟩
      by_cases hk : k = n
      · subst hk
        rw [ha'] at h2; cases h2
        have hl : k < lh2.length := (List.getElem?_eq_some_iff.mp ho).1
        rw [List.getElem?_set_self hl] at h1; cases h1; exact new
      · rw [List.getElem?_set_ne (Ne.symm hk)] at h1
        have hba : b ≠ a := fun z => by
          subst z
          exact hk (nodup_get r'.nd h2 ha')
        refine (r'.obj k o b h1 h2).turn sw (upd_ne hba) fun dd fs h => ?_
        rw [upd_ne (fun z => by rw [z, hf] at h; cases h)]; exact h
    | _ => cases eu
end
section
variable {X : Cx} {W : WX} {e : Expr} {st : Stmt} {me m : EM} {ms : SM}
theorem re_lock (h : RE X W e m) : RE X W e (mLock me m) := by
  obtain ⟨t, a1, a2⟩ := h
  refine ⟨_, pe_lock a1, fun mp lh ls σ H Q r rs q => ?_⟩
  unfold mLock at q
  split at q
  · rename_i n h' he
    cases hl : lkH n lh with
    | none => simp only [hl] at q; exact q.elim
    | some lh1 =>
      simp only [hl] at q
      obtain ⟨a, u, ha, hu, hm, nl, nx, ok⟩ := lk_ok r hl
      refine ⟨a, u, hu, hm, fun od => ?_⟩
      obtain ⟨ew, rw1⟩ := ok od
      refine a2 mp lh1 ls σ _ _ rw1 (rs.ext ew) ?_
      cases hr : m ls lh1 with
      | ok d lh2 =>
        simp only [hr] at q
        intro mp' H' v e' r' rd
        cases hul : ulH n lh2 with
        | none => simp only [hul] at q; exact q.elim
        | some lh3 =>
          simp only [hul] at q
          obtain ⟨k1, k2, k3, k4⟩ := ul_ok r hu ha nl hm e' r' hul
          exact ⟨k1, q mp' _ v k3 k4 (rd.subw k2)⟩
      | ex x g => simp only [hr] at q; exact q.elim
      | bad => simp only [hr] at q; exact q.elim
  · exact q.elim
theorem relF_w {K : PySem.W.Frag} {mp : List Addr} {H : Hp} {a : Addr} {u o : HO} {d : D} {v : V} (hu : H a = some o) (hn : ∀ φ, o ≠ .ext φ) (w : SubW mp H mp (upd H a u)) (h : RelF K mp H d v) : RelF K mp (upd H a u) d v := by
  cases d with
  | fn id caps =>
    obtain ⟨b, vs, h1, h2, h3⟩ := h
    exact ⟨b, vs, h1, h2.put hu hn, RelDs.subw w h3⟩
  | _ => exact (RelD.subw w h).f
theorem rs_lock (h : RS X W st ms) : RS X W st (mLockS me ms) := by
  obtain ⟨t, a1, a2⟩ := h
  refine ⟨_, ps_lock a1, fun mp lh ls σ H De r rs q => ?_⟩
  unfold mLockS at q
  split at q
  · rename_i n h' he
    cases hl : lkH n lh with
    | none => simp only [hl] at q; exact q.elim
    | some lh1 =>
      simp only [hl] at q
      obtain ⟨a, u, ha, hu, hm, nl, nx, ok⟩ := lk_ok r hl
      refine ⟨a, u, hu, hm, fun od => ?_⟩
      obtain ⟨ew, rw1⟩ := ok od
      refine a2 mp lh1 ls σ _ _ rw1 (rs.ext ew) ?_
      cases hr : ms ls lh1 with
      | nx l lh2 =>
        simp only [hr] at q
        intro mp' H' σ' e' r' rs'
        cases hul : ulH n lh2 with
        | none => simp only [hul] at q; exact q.elim
        | some lh3 =>
          simp only [hul] at q
          obtain ⟨k1, k2, k3, k4⟩ := ul_ok r hu ha nl hm e' r' hul
          refine ⟨k1, q mp' _ σ' k3 k4 ⟨rs'.1, fun i d hd => ?_⟩⟩
          obtain ⟨v, h1, h2⟩ := rs'.2 i d hd
          exact ⟨v, h1, relF_w k1 (fun _ z => by cases z) k2 h2⟩
      | rt d lh2 =>
        simp only [hr] at q
        intro mp' H' v e' r' rd
        cases hul : ulH n lh2 with
        | none => simp only [hul] at q; exact q.elim
        | some lh3 =>
          simp only [hul] at q
          obtain ⟨k1, k2, k3, k4⟩ := ul_ok r hu ha nl hm e' r' hul
          exact ⟨k1, q mp' _ v k3 k4 (rd.subw k2)⟩
      | _ => simp only [hr] at q; exact q.elim
  · exact q.elim
/-- the keys, in their order -/
def imKeys (me : EM) : IM := fun ls h => (me ls h).bind fun d h1 => match d with
  | .ref n => (match h1[n]? with
    | some (.dlk _ kvs) => .ok (liSeq (kvs.map (·.1))) h1
    | _ => .bad)
  | _ => .bad
theorem keyT_back {K : PySem.W.Frag} {mp : List Addr} {H : Hp} : ∀ {ds : List D} {ks : List Key}, Paired KeyR ds ks → RelDs K mp H ds (ks.map kV)
  | _, _, .nil => .nil
  | d :: ds, k :: ks, .cons a b => by
    refine .cons ?_ (keyT_back b)
    cases d with
    | int i => cases k with
      | inl j => have : i = j := a; subst this; exact .int i
      | inr y => exact a.elim
    | str l => cases k with
      | inl j => exact a.elim
      | inr y => have : y = ⟨l.toArray⟩ := a; subst this; exact .str l
    | _ => cases k <;> exact a.elim
theorem ri_keys {tg : Expr} (he : RE X W e me) : RI X W tg e (imKeys me) := by
  obtain ⟨t, a1, a2⟩ := he
  refine ⟨_, pi_keys a1, fun mp lh ls σ H Q r rs q => a2 mp lh ls σ H _ r rs (q.bind fun mp1 H1 lh1 d v e1 r1 rl1 q1 => ?_)⟩
  cases rl1 with
  | @ref n a ha =>
    cases ho : lh1[n]? with
    | none => simp only [ho] at q1; exact q1.elim
    | some o =>
      have ro := r1.obj n o a ho ha
      cases o with
      | dlk t kvs =>
        simp only [ho] at q1
        cases t with
        | false =>
          obtain ⟨od, ks, h1, h2⟩ := ro
          refine ⟨a, od, rfl, .inl ⟨ks, h1, q1.now r1 fun i m lh H2 s2 r2 => ?_⟩⟩
          have hl := Paired.length h2
          unfold liSeq
          rw [List.getElem?_map]
          cases hi : kvs[i]? with
          | none =>
            have := List.getElem?_eq_none_iff.mp hi
            exact ⟨s2.frz _ _ _ h1, by rw [← hl]; exact this⟩
          | some p =>
            have hlt := (List.getElem?_eq_some_iff.mp hi).1
            refine ⟨⟨s2.frz _ _ _ h1, by rw [← hl]; exact hlt⟩, fun x H' y => ?_⟩
            obtain ⟨rfl, k, w, hk, rfl⟩ := y
            obtain ⟨q, hq, rq⟩ := paired_get h2 hi
            rw [hk] at hq
            cases hq
            refine ⟨.refl, r2, ?_⟩
            have := keyT_back (K := X.K) (mp := m) (H := H') (Paired.cons rq.1 .nil)
            cases this with
            | cons z _ => exact z
        | true =>
          obtain ⟨od, ks, h1, h2⟩ := ro
          refine ⟨a, od, rfl, .inr ⟨ks, h1, q1.now r1 fun i m lh H2 s2 r2 => ?_⟩⟩
          have hl := Paired.length h2
          unfold liSeq
          rw [List.getElem?_map]
          cases hi : kvs[i]? with
          | none =>
            have := List.getElem?_eq_none_iff.mp hi
            exact ⟨s2.frz _ _ _ h1, by rw [← hl]; exact this⟩
          | some p =>
            have hlt := (List.getElem?_eq_some_iff.mp hi).1
            refine ⟨⟨s2.frz _ _ _ h1, by rw [← hl]; exact hlt⟩, fun x H' y => ?_⟩
            obtain ⟨rfl, k, w, b, hk, rfl, hb⟩ := y
            obtain ⟨q, hq, rq⟩ := paired_get h2 hi
            rw [hk] at hq
            cases hq
            refine ⟨.refl, r2, ?_⟩
            obtain ⟨d0, v0⟩ := p
            have rk : KeyT d0 k := rq.1
            show RelD X.K m H' d0 (.ref b)
            cases d0 with
            | tup ds => exact .tup (.inl hb) (keyT_back rk)
            | _ => exact rk.elim
      | _ => simp only [ho] at q1; exact q1.elim
  | _ => exact q1.elim
/-! ### min, max of a list of ints -/
def lowI : Int → List Int → Int
  | m, [] => m
  | m, x :: r => lowI (if x < m then x else m) r
def topI : Int → List Int → Int
  | m, [] => m
  | m, x :: r => topI (if m < x then x else m) r
theorem lowI_ok : ∀ (l : List Int) (m : Int), (lowI m l = m ∨ lowI m l ∈ l) ∧ lowI m l ≤ m ∧ ∀ x ∈ l, lowI m l ≤ x
  | [], m => ⟨.inl rfl, Int.le_refl _, by simp⟩
  | x :: r, m => by
    obtain ⟨h1, h2, h3⟩ := lowI_ok r (if x < m then x else m)
    unfold lowI
    refine ⟨?_, ?_, fun y hy => ?_⟩
    · rcases h1 with h1 | h1
      · rw [h1]; split
        · exact .inr (by simp)
        · exact .inl rfl
      · exact .inr (by simp [h1])
    · exact Int.le_trans h2 (by split <;> omega)
    · rcases List.mem_cons.mp hy with z | z
      · rw [z]; exact Int.le_trans h2 (by split <;> omega)
      · exact h3 y z
theorem topI_ok : ∀ (l : List Int) (m : Int), (topI m l = m ∨ topI m l ∈ l) ∧ m ≤ topI m l ∧ ∀ x ∈ l, x ≤ topI m l
  | [], m => ⟨.inl rfl, Int.le_refl _, by simp⟩
  | x :: r, m => by
    obtain ⟨h1, h2, h3⟩ := topI_ok r (if m < x then x else m)
    unfold topI
    refine ⟨?_, ?_, fun y hy => ?_⟩
    · rcases h1 with h1 | h1
      · rw [h1]; split
        · exact .inr (by simp)
        · exact .inl rfl
      · exact .inr (by simp [h1])
    · exact Int.le_trans (by split <;> omega) h2
    · rcases List.mem_cons.mp hy with z | z
      · rw [z]; exact Int.le_trans (by split <;> omega) h2
      · exact h3 y z
def dMinL : D → LH → R D := fun d h => match asRd d h with
  | some xs => (match allI xs with
    | some (x :: r) => .ok (.int (lowI x r)) h
    | _ => .bad)
  | none => .bad
def dMaxL : D → LH → R D := fun d h => match asRd d h with
  | some xs => (match allI xs with
    | some (x :: r) => .ok (.int (topI x r)) h
    | _ => .bad)
  | none => .bad
theorem c_minL (hc : X.calm = true) : RC X (.builtin "min") (f1 dMinL) := by
  refine ⟨_, cr_min hc, refC1 fun mp lh H x v Q E rp rx q => ?_⟩
  unfold dMinL at q
  cases e1 : asRd x lh with
  | none => simp only [e1] at q; exact q.elim
  | some xs =>
    simp only [e1] at q
    obtain ⟨n, a, vs, rfl, rfl, _, h2, h3⟩ := asRd_of rp rx e1
    cases e2 : allI xs with
    | none => simp only [e2] at q; exact q.elim
    | some is =>
      simp only [e2] at q
      have ev := allI_rel h3 e2
      cases is with
      | nil => exact q.elim
      | cons y r =>
        obtain ⟨k1, k2, k3⟩ := lowI_ok r y
        refine ⟨a, y :: r, rfl, by rw [← ev]; exact h2, by simp, fun m hm hle => ?_⟩
        have : m = lowI y r := by
          have h1 : lowI y r ∈ y :: r := by
            rcases k1 with k1 | k1
            · rw [k1]; simp
            · simp [k1]
          have a1 := hle _ h1
          have a2 : lowI y r ≤ m := by
            rcases List.mem_cons.mp hm with z | z
            · rw [z]; exact k2
            · exact k3 m z
          omega
        subst this
        exact q.now rp (.int _)
theorem c_maxL (hc : X.calm = true) : RC X (.builtin "max") (f1 dMaxL) := by
  refine ⟨_, cr_max hc, refC1 fun mp lh H x v Q E rp rx q => ?_⟩
  unfold dMaxL at q
  cases e1 : asRd x lh with
  | none => simp only [e1] at q; exact q.elim
  | some xs =>
    simp only [e1] at q
    obtain ⟨n, a, vs, rfl, rfl, _, h2, h3⟩ := asRd_of rp rx e1
    cases e2 : allI xs with
    | none => simp only [e2] at q; exact q.elim
    | some is =>
      simp only [e2] at q
      have ev := allI_rel h3 e2
      cases is with
      | nil => exact q.elim
      | cons y r =>
        obtain ⟨k1, k2, k3⟩ := topI_ok r y
        refine ⟨a, y :: r, rfl, by rw [← ev]; exact h2, by simp, fun m hm hle => ?_⟩
        have : m = topI y r := by
          have h1 : topI y r ∈ y :: r := by
            rcases k1 with k1 | k1
            · rw [k1]; simp
            · simp [k1]
          have a1 := hle _ h1
          have a2 : m ≤ topI y r := by
            rcases List.mem_cons.mp hm with z | z
            · rw [z]; exact k2
            · exact k3 m z
          omega
        subst this
        exact q.now rp (.int _)
end
end Rf
set_option Elab.async false
set_option linter.all false
set_option maxRecDepth 100000
set_option maxHeartbeats 400000
set_option autoImplicit false
/-! posts for dicts that are walked, looks with a default. -/
namespace Rf
open PySem PySem.Spec L2
section
variable {N : Ls → LH → Prop} {T : D → LH → Prop} {B C : Ls → LH → Prop} {X : Exn → Ls → LH → Prop} {Y : Exn → LH → Prop} {ls : Ls} {h : LH}
theorem okR_get1 {mo mk : EM} {Q : D → LH → Prop} : @okR _ (mGet1 mo mk ls h) ⟨Q⟩ ⟨Y⟩ = @okR _ (mo ls h) ⟨fun d h => @okR _ (if isDic d h = true then (mk ls h).bind fun k h2 => gotD d k .non h2 else .bad) ⟨Q⟩ ⟨Y⟩⟩ ⟨Y⟩ := okR_bind
theorem okR_get2 {mo mk mx : EM} {Q : D → LH → Prop} : @okR _ (mGet2 mo mk mx ls h) ⟨Q⟩ ⟨Y⟩ = @okR _ (mo ls h) ⟨fun d h => @okR _ (if isDic d h = true then (mk ls h).bind fun k h2 => (mx ls h2).bind fun x h3 => gotD d k x h3 else .bad) ⟨Q⟩ ⟨Y⟩⟩ ⟨Y⟩ := okR_bind
theorem okR_keys {me : EM} {Q : LI → LH → Prop} : @okR _ (imKeys me ls h) ⟨Q⟩ ⟨Y⟩ = @okR _ (me ls h) ⟨fun d h => @okR _ (match d with
  | .ref n => (match h[n]? with
    | some (.dlk _ kvs) => .ok (liSeq (kvs.map (·.1))) h
    | _ => .bad)
  | _ => .bad) ⟨Q⟩ ⟨Y⟩⟩ ⟨Y⟩ := okR_bind
theorem okS_augFld {f : D → D → LH → R D} {c i : Nat} {mo me : EM} : @okS (mAugFld f c i mo me ls h) ⟨N, T, B, C, X⟩ = @okR _ (mo ls h) ⟨fun o h => @okS (match o with
  | .ref n => (match fldOf [c] i n h with
    | some x => liftE ((me ls h).bind fun y h2 => f x y h2) ls fun z h3 => (match setFld [c] i n z h3 with
      | some h4 => .nx ls h4
      | none => .bad)
    | none => .bad)
  | _ => .bad) ⟨N, T, B, C, X⟩⟩ ⟨fun x h => X x ls h⟩ := okS_lift
theorem ok_lockS {me : EM} {m : SM} {n : Nat} {t : Bool} {kvs : List (D × D)} {h0 : LH} (e1 : me ls h = .ok (.ref n) h0) (e2 : h[n]? = some (.dic t kvs))
    (H : @okS (m ls (h.set n (.dlk t kvs))) ⟨(fun l h2 => h2[n]? = some (.dlk t kvs) ∧ N l (h2.set n (.dic t kvs))), (fun d h2 => h2[n]? = some (.dlk t kvs) ∧ T d (h2.set n (.dic t kvs))), (fun _ _ => False), (fun _ _ => False), (fun _ _ _ => False)⟩) : @okS (mLockS me m ls h) ⟨N, T, B, C, X⟩ := by
  have e3 : lkH n h = some (h.set n (.dlk t kvs)) := by unfold lkH; rw [e2]
  unfold mLockS
  simp only [e1, e3]
  cases hr : m ls (h.set n (.dlk t kvs)) with
  | nx l h2 =>
    rw [hr] at H
    obtain ⟨k1, k2⟩ := H
    have e4 : ulH n h2 = some (h2.set n (.dic t kvs)) := by unfold ulH; rw [k1]
    simp only [e4]; exact k2
  | rt d h2 =>
    rw [hr] at H
    obtain ⟨k1, k2⟩ := H
    have e4 : ulH n h2 = some (h2.set n (.dic t kvs)) := by unfold ulH; rw [k1]
    simp only [e4]; exact k2
  | bk l h2 => rw [hr] at H; exact H.elim
  | ct l h2 => rw [hr] at H; exact H.elim
  | ex x l h2 => rw [hr] at H; exact H.elim
  | bad => rw [hr] at H; exact H.elim
theorem ok_lock {me m : EM} {n : Nat} {t : Bool} {kvs : List (D × D)} {h0 : LH} {Q : D → LH → Prop} (e1 : me ls h = .ok (.ref n) h0) (e2 : h[n]? = some (.dic t kvs))
    (H : @okR _ (m ls (h.set n (.dlk t kvs))) ⟨fun d h2 => h2[n]? = some (.dlk t kvs) ∧ Q d (h2.set n (.dic t kvs))⟩ ⟨fun _ _ => False⟩) : @okR _ (mLock me m ls h) ⟨Q⟩ ⟨Y⟩ := by
  have e3 : lkH n h = some (h.set n (.dlk t kvs)) := by unfold lkH; rw [e2]
  unfold mLock
  simp only [e1, e3]
  cases hr : m ls (h.set n (.dlk t kvs)) with
  | ok d h2 =>
    rw [hr] at H
    obtain ⟨k1, k2⟩ := H
    have e4 : ulH n h2 = some (h2.set n (.dic t kvs)) := by unfold ulH; rw [k1]
    simp only [e4]; exact k2
  | ex x h2 => rw [hr] at H; exact H.elim
  | bad => rw [hr] at H; exact H.elim
end
theorem set_self {h : LH} {n : Nat} {o : LO} (e : h[n]? = some o) : h.set n o = h := by
  refine List.ext_getElem? fun i => ?_
  by_cases hi : i = n
  · subst hi; rw [List.getElem?_set_self (List.getElem?_eq_some_iff.mp e).1, e]
  · rw [List.getElem?_set_ne (Ne.symm hi)]
theorem set_set {h : LH} {n : Nat} {o o' : LO} : (h.set n o).set n o' = h.set n o' := by simp
end Rf
set_option Elab.async false
set_option linter.all false
set_option maxRecDepth 100000
set_option maxHeartbeats 0
set_option autoImplicit false
namespace Lw
open PySem PySem.Spec PyProof.Rows L2 Rf
def top (i : Nat) : Stmt := PySem.Challenge.pw_signworks_k40_whole_finder.main.body.getD i (.Pass ⟨0, 0, 0, 0⟩)
abbrev st_look_machine : Stmt := top 18
def N_look_machine : List Str := [(Str.ofString "thing")]
def b_look_machine : SM := mIfS (mNot (mTest (mIsi (luk [(.non, false), (.bool, false), (.int, false), (.str, false), (.list, false), (.tuple, false), (.dict, false), (.ins 13, true), (.ins 19, false)]) (mV 0)))) (mRaise 5) (mNext)
def m_look_machine : FM := runA (fm 1 b_look_machine)
def d_look_machine : He.DefD := ⟨("look_machine", none), "look_machine", "look_machine", defArgs st_look_machine, defBody st_look_machine, defScope st_look_machine, [], []⟩
abbrev st_Finder___init__ : Stmt := (C8.clsBody (top 20)).getD 0 (.Pass ⟨0, 0, 0, 0⟩)
def N_Finder___init__ : List Str := [(Str.ofString "self"), (Str.ofString "machine")]
def b_Finder___init__ : SM := mSeq (mDrop (mCallK gd0 m_look_machine (mCons (mV 1) (mNil)) (mNil))) (mSeq (mSetFld [19] 32 (mV 0) (mV 1)) (mSeq (mSetFld [19] 41 (mV 0) (mDic0)) (mSeq (mSetFld [19] 42 (mV 0) (mDic0)) (mSeq (mSetFld [19] 43 (mV 0) (mC (.int 0))) (mSetFld [19] 44 (mV 0) (mC (.int 0)))))))
def m_Finder___init__ : FM := runA (fm 2 b_Finder___init__)
def d_Finder___init__ : He.DefD := ⟨("Finder", some "__init__"), "__init__", "Finder.__init__", defArgs st_Finder___init__, defBody st_Finder___init__, defScope st_Finder___init__, [], []⟩
abbrev st__law_town : Stmt := top 22
def N__law_town : List Str := [(Str.ofString "script")]
def b__law_town : SM := mRet (mLst (mCons (mIf (mTest (mBin dNe (mV 0) (mLst (mNil)))) (mCall (f1 dList) (mCons (mV 0) (mNil))) (mLst (mCons (mC (.int 0)) (mNil)))) (mCons (mC (.int 0)) (mNil))))
def m__law_town : FM := runA (fm 1 b__law_town)
def d__law_town : He.DefD := ⟨("_law_town", none), "_law_town", "_law_town", defArgs st__law_town, defBody st__law_town, defScope st__law_town, [], []⟩
abbrev st__law_draw : Stmt := top 23
def N__law_draw : List Str := [(Str.ofString "town"), (Str.ofString "count_of"), (Str.ofString "row"), (Str.ofString "at"), (Str.ofString "cell"), (Str.ofString "mixed")]
def b__law_draw : SM := mSeq (mSet 2 (mBin dIx (mV 0) (mC (.int 0)))) (mSeq (mSetSub dSetL (mBin dAdd (mBin dIx (mV 0) (mC (.int 1))) (mC (.int 1))) (mV 0) (mC (.int 1))) (mSeq (mSet 3 (mBin fMod (mBin dIx (mV 0) (mC (.int 1))) (mCall (f1 dLen) (mCons (mV 2) (mNil))))) (mSeq (mSet 4 (mBin dIx (mV 2) (mV 3))) (mSeq (mIfS (mTest (mBin fGe (mV 4) (mC (.int 1000000000000000000)))) (mSeq (mSetSub dSetL (mBin fDiv (mV 4) (mV 1)) (mV 2) (mV 3)) (mRet (mBin fMod (mV 4) (mV 1)))) (mNext)) (mSeq (mSet 5 (mBin fMod (mBin dAdd (mV 4) (mBin dMul (mC (.int 104729)) (mBin dIx (mV 0) (mC (.int 1))))) (mC (.int 4294967291)))) (mSeq (mSet 5 (mBin fMod (mBin fPow (mV 5) (mC (.int 5))) (mC (.int 4294967279)))) (mRet (mBin fMod (mBin fDiv (mBin fMod (mBin dAdd (mBin dMul (mBin fDiv (mV 5) (mC (.int 64))) (mC (.int 69621))) (mV 5)) (mC (.int 4294967231))) (mC (.int 8))) (mV 1)))))))))
def m__law_draw : FM := runA (fm 6 b__law_draw)
def d__law_draw : He.DefD := ⟨("_law_draw", none), "_law_draw", "_law_draw", defArgs st__law_draw, defBody st__law_draw, defScope st__law_draw, [], []⟩
abbrev st__law_pick : Stmt := top 24
def N__law_pick : List Str := [(Str.ofString "town"), (Str.ofString "some")]
def b__law_pick : SM := mRet (mBin dIx (mV 1) (mCallK gd0 m__law_draw (mCons (mV 0) (mCons (mCall (f1 dLen) (mCons (mV 1) (mNil))) (mNil))) (mNil)))
def m__law_pick : FM := runA (fm 2 b__law_pick)
def d__law_pick : He.DefD := ⟨("_law_pick", none), "_law_pick", "_law_pick", defArgs st__law_pick, defBody st__law_pick, defScope st__law_pick, [], []⟩
abbrev st__law_alphabet : Stmt := top 26
def N__law_alphabet : List Str := [(Str.ofString "town")]
def b__law_alphabet : SM := mRet (mCallK gd0 m__law_pick (mCons (mV 0) (mCons (mLst (mCons (mC (.str [97])) (mCons (mC (.str [97, 98])) (mCons (mC (.str [97, 98])) (mCons (mC (.str [97, 98])) (mCons (mC (.str [97, 98, 99])) (mCons (mC (.str [120, 122])) (mNil)))))))) (mNil))) (mNil))
def m__law_alphabet : FM := runA (fm 1 b__law_alphabet)
def d__law_alphabet : He.DefD := ⟨("_law_alphabet", none), "_law_alphabet", "_law_alphabet", defArgs st__law_alphabet, defBody st__law_alphabet, defScope st__law_alphabet, [], []⟩
abbrev st__law_raw : Stmt := top 27
def N__law_raw : List Str := [(Str.ofString "town"), (Str.ofString "alphabet"), (Str.ofString "most"), (Str.ofString "count_of"), (Str.ofString "rows"), (Str.ofString "share"), (Str.ofString "stops"), (Str.ofString "k"), (Str.ofString "sign")]
def b__law_raw : SM := mSeq (mSet 3 (mBin dAdd (mC (.int 1)) (mCallK gd0 m__law_draw (mCons (mV 0) (mCons (mV 2) (mNil))) (mNil)))) (mSeq (mSet 4 (mLc 100000 (imRange1 (mCons (mV 3) (mNil))) (gmName 7) (mYes) (mCall (f1 dTuple) (mCons (mLc 100000 (imAny (mV 1)) (gmName 8) (mYes) (mCallK gd0 m__law_draw (mCons (mV 0) (mCons (mV 3) (mNil))) (mNil)) [8]) (mNil))) [7])) (mSeq (mSet 5 (mCallK gd0 m__law_pick (mCons (mV 0) (mCons (mLst (mCons (mC (.int 2)) (mCons (mC (.int 3)) (mCons (mC (.int 4)) (mNil))))) (mNil))) (mNil))) (mSeq (mSet 6 (mLc 100000 (imRange1 (mCons (mV 3) (mNil))) (gmName 7) (mTest (mBin dEq (mCallK gd0 m__law_draw (mCons (mV 0) (mCons (mV 5) (mNil))) (mNil)) (mC (.int 0)))) (mV 7) [7])) (mRet (mTup (mCons (mV 1) (mCons (mV 4) (mCons (mCallK gd0 m__law_draw (mCons (mV 0) (mCons (mV 3) (mNil))) (mNil)) (mCons (mV 6) (mNil))))))))))
def m__law_raw : FM := runA (fm 9 b__law_raw)
def d__law_raw : He.DefD := ⟨("_law_raw", none), "_law_raw", "_law_raw", defArgs st__law_raw, defBody st__law_raw, defScope st__law_raw, [], []⟩
abbrev st_Machine_led : Stmt := (C8.clsBody (top 17)).getD 2 (.Pass ⟨0, 0, 0, 0⟩)
def N_Machine_led : List Str := [(Str.ofString "self"), (Str.ofString "room"), (Str.ofString "word"), (Str.ofString "sign")]
def b_Machine_led : SM := mSeq (mFor 100000 (imAny (mV 2)) (gmName 3) (mSet 1 (mBin dIx (mBin dIx (mFld [13] 24 (mV 0)) (mV 1)) (mAlt (mBM isStr dSIndex (mFld [13] 23 (mV 0)) (mCons (mV 3) (mNil))) (mBM isLst dLIndex (mFld [13] 23 (mV 0)) (mCons (mV 3) (mNil))))))) (mRet (mV 1))
def m_Machine_led : FM := runA (fm 4 b_Machine_led)
def d_Machine_led : He.DefD := ⟨("Machine", some "led"), "led", "Machine.led", defArgs st_Machine_led, defBody st_Machine_led, defScope st_Machine_led, [], []⟩
abbrev st_Finder_push : Stmt := (C8.clsBody (top 20)).getD 1 (.Pass ⟨0, 0, 0, 0⟩)
def N_Finder_push : List Str := [(Str.ofString "self"), (Str.ofString "sign"), (Str.ofString "machine"), (Str.ofString "counts"), (Str.ofString "first_at"), (Str.ofString "room"), (Str.ofString "goal"), (Str.ofString "ending")]
def b_Finder_push : SM := mSeq (mSet 2 (mFld [19] 32 (mV 0))) (mSeq (mIfS (mOr (mNot (mTest (mIsi (luk [(.non, false), (.bool, false), (.int, false), (.str, true), (.list, false), (.tuple, false), (.dict, false), (.ins 13, false), (.ins 19, false)]) (mV 1)))) (mOr (mTest (mBin dNe (mCall (f1 dLen) (mCons (mV 1) (mNil))) (mC (.int 1)))) (mTest (mBin dNotIn (mV 1) (mFld [13] 23 (mV 2)))))) (mRaise 3) (mNext)) (mSeq (mSet 3 (mCall (f1 dDict) (mCons (mFld [19] 41 (mV 0)) (mNil)))) (mSeq (mSetSub dSetD (mBin dAdd (mGet2 (mV 3) (mFld [13] 25 (mV 2)) (mC (.int 0))) (mC (.int 1))) (mV 3) (mFld [13] 25 (mV 2))) (mSeq (mSet 4 (mCall (f1 dDict) (mCons (mFld [19] 42 (mV 0)) (mNil)))) (mSeq (mSetSub dSetD (mCall dMin2 (mCons (mGet2 (mV 4) (mFld [13] 25 (mV 2)) (mFld [19] 43 (mV 0))) (mCons (mFld [19] 43 (mV 0)) (mNil)))) (mV 4) (mFld [13] 25 (mV 2))) (mSeq (mSetFld [19] 41 (mV 0) (mDic0)) (mSeq (mSetFld [19] 42 (mV 0) (mDic0)) (mSeq (mLockS (mV 3) (mFor 100000 (imKeys (mV 3)) (gmName 5) (mSeq (mSet 6 (mMeth 13 m_Machine_led (mV 2) (mCons (mV 5) (mCons (mV 1) (mNil))))) (mSeq (mSetSub dSetD (mBin dAdd (mGet2 (mFld [19] 41 (mV 0)) (mV 6) (mC (.int 0))) (mBin dDGet (mV 3) (mV 5))) (mFld [19] 41 (mV 0)) (mV 6)) (mSetSub dSetD (mCall dMin2 (mCons (mGet2 (mFld [19] 42 (mV 0)) (mV 6) (mFld [19] 43 (mV 0))) (mCons (mBin dDGet (mV 4) (mV 5)) (mNil)))) (mFld [19] 42 (mV 0)) (mV 6)))))) (mSeq (mAugFld fIAdd 19 43 (mV 0) (mC (.int 1))) (mSeq (mSet 7 (mCall (f1 dSum) (mCons (mLock (mFld [19] 41 (mV 0)) (mLc 100000 (imKeys (mFld [19] 41 (mV 0))) (gmName 5) (mTest (mBin dIx (mFld [13] 26 (mV 2)) (mV 5))) (mBin dDGet (mFld [19] 41 (mV 0)) (mV 5)) [5])) (mNil)))) (mSeq (mAugFld fIAdd 19 44 (mV 0) (mV 7)) (mRet (mV 7)))))))))))))
def m_Finder_push : FM := runA (fm 8 b_Finder_push)
def d_Finder_push : He.DefD := ⟨("Finder", some "push"), "push", "Finder.push", defArgs st_Finder_push, defBody st_Finder_push, defScope st_Finder_push, [], []⟩
abbrev st_Finder_signs_came : Stmt := (C8.clsBody (top 20)).getD 4 (.Pass ⟨0, 0, 0, 0⟩)
def N_Finder_signs_came : List Str := [(Str.ofString "self")]
def b_Finder_signs_came : SM := mRet (mFld [19] 43 (mV 0))
def m_Finder_signs_came : FM := runA (fm 1 b_Finder_signs_came)
def d_Finder_signs_came : He.DefD := ⟨("Finder", some "signs_came"), "signs_came", "Finder.signs_came", defArgs st_Finder_signs_came, defBody st_Finder_signs_came, defScope st_Finder_signs_came, [], []⟩
abbrev st_is_signs : Stmt := top 11
def N_is_signs : List Str := [(Str.ofString "thing"), (Str.ofString "sign")]
def b_is_signs : SM := mSeq (mIfS (mOr (mNot (mTest (mIsi (luk [(.non, false), (.bool, false), (.int, false), (.str, true), (.list, false), (.tuple, false), (.dict, false), (.ins 13, false), (.ins 19, false)]) (mV 0)))) (mNot (mTest (mChain fLe fLe (mC (.int 1)) (mCall (f1 dLen) (mCons (mV 0) (mNil))) (mC (.int 4)))))) (mRet (mC (.bl false))) (mNext)) (mRet (mAndV (mCall (f1 dAll) (mCons (mLc 100000 (imAny (mV 0)) (gmName 1) (mYes) (mBin dIn (mV 1) (mC (.str [97, 98, 99, 100, 101, 102, 103, 104, 105, 106, 107, 108, 109, 110, 111, 112, 113, 114, 115, 116, 117, 118, 119, 120, 121, 122]))) [1]) (mNil))) (mBin dEq (mBM isStr dJoin (mC (.str [])) (mCons (mSortSet (mV 0)) (mNil))) (mV 0))))
def m_is_signs : FM := runA (fm 2 b_is_signs)
def d_is_signs : He.DefD := ⟨("is_signs", none), "is_signs", "is_signs", defArgs st_is_signs, defBody st_is_signs, defScope st_is_signs, [], []⟩
abbrev st_look_signs : Stmt := top 12
def N_look_signs : List Str := [(Str.ofString "thing")]
def b_look_signs : SM := mIfS (mNot (mTest (mCallK gd0 m_is_signs (mCons (mV 0) (mNil)) (mNil)))) (mRaise 2) (mNext)
def m_look_signs : FM := runA (fm 1 b_look_signs)
def d_look_signs : He.DefD := ⟨("look_signs", none), "look_signs", "look_signs", defArgs st_look_signs, defBody st_look_signs, defScope st_look_signs, [], []⟩
abbrev st_is_whole : Stmt := top 6
def N_is_whole : List Str := [(Str.ofString "thing"), (Str.ofString "low"), (Str.ofString "high")]
def b_is_whole : SM := mRet (mAndV (mIsi (luk [(.non, false), (.bool, true), (.int, true), (.str, false), (.list, false), (.tuple, false), (.dict, false), (.ins 13, false), (.ins 19, false)]) (mV 0)) (mAndV (mNotV (mIsi (luk [(.non, false), (.bool, true), (.int, false), (.str, false), (.list, false), (.tuple, false), (.dict, false), (.ins 13, false), (.ins 19, false)]) (mV 0))) (mChain fLe fLe (mV 1) (mV 0) (mV 2))))
def m_is_whole : FM := runA (fm 3 b_is_whole)
def d_is_whole : He.DefD := ⟨("is_whole", none), "is_whole", "is_whole", defArgs st_is_whole, defBody st_is_whole, defScope st_is_whole, [], []⟩
abbrev st_Machine___init__ : Stmt := (C8.clsBody (top 17)).getD 0 (.Pass ⟨0, 0, 0, 0⟩)
def N_Machine___init__ : List Str := [(Str.ofString "self"), (Str.ofString "signs"), (Str.ofString "rows"), (Str.ofString "first"), (Str.ofString "ends"), (Str.ofString "row"), (Str.ofString "fine"), (Str.ofString "one"), (Str.ofString "room")]
def b_Machine___init__ : SM := mSeq (mDrop (mCallK gd0 m_look_signs (mCons (mV 1) (mNil)) (mNil))) (mSeq (mIfS (mOr (mNot (mTest (mIsi (luk [(.non, false), (.bool, false), (.int, false), (.str, false), (.list, true), (.tuple, false), (.dict, false), (.ins 13, false), (.ins 19, false)]) (mV 2)))) (mNot (mTest (mChain fLe fLe (mC (.int 1)) (mCall (f1 dLen) (mCons (mV 2) (mNil))) (mC (.int 300)))))) (mRaise 5) (mNext)) (mSeq (mFor 100000 (imAny (mV 2)) (gmName 5) (mSeq (mIfS (mOr (mNot (mTest (mIsi (luk [(.non, false), (.bool, false), (.int, false), (.str, false), (.list, false), (.tuple, true), (.dict, false), (.ins 13, false), (.ins 19, false)]) (mV 5)))) (mTest (mBin dNe (mCall (f1 dLen) (mCons (mV 5) (mNil))) (mCall (f1 dLen) (mCons (mV 1) (mNil)))))) (mRaise 5) (mNext)) (mIfS (mNot (mTest (mCall (f1 dAll) (mCons (mLc 100000 (imAny (mV 5)) (gmName 7) (mYes) (mCallK gd0 m_is_whole (mCons (mV 7) (mCons (mC (.int 0)) (mCons (mBin fSub (mCall (f1 dLen) (mCons (mV 2) (mNil))) (mC (.int 1))) (mNil)))) (mNil)) [7]) (mNil))))) (mRaise 5) (mNext)))) (mSeq (mIfS (mNot (mTest (mCallK gd0 m_is_whole (mCons (mV 3) (mCons (mC (.int 0)) (mCons (mBin fSub (mCall (f1 dLen) (mCons (mV 2) (mNil))) (mC (.int 1))) (mNil)))) (mNil)))) (mRaise 5) (mNext)) (mSeq (mSet 6 (mAndV (mIsi (luk [(.non, false), (.bool, false), (.int, false), (.str, false), (.list, true), (.tuple, true), (.dict, false), (.ins 13, false), (.ins 19, false)]) (mV 4)) (mCall (f1 dAll) (mCons (mLc 100000 (imAny (mV 4)) (gmName 7) (mYes) (mCallK gd0 m_is_whole (mCons (mV 7) (mCons (mC (.int 0)) (mCons (mBin fSub (mCall (f1 dLen) (mCons (mV 2) (mNil))) (mC (.int 1))) (mNil)))) (mNil)) [7]) (mNil))))) (mSeq (mIfS (mOr (mNot (mTest (mV 6))) (mTest (mBin dNe (mSortSet (mV 4)) (mCall (f1 dList) (mCons (mV 4) (mNil)))))) (mRaise 5) (mNext)) (mSeq (mSetFld [13] 23 (mV 0) (mV 1)) (mSeq (mSetFld [13] 24 (mV 0) (mCall (f1 dList) (mCons (mV 2) (mNil)))) (mSeq (mSetFld [13] 25 (mV 0) (mV 3)) (mSetFld [13] 26 (mV 0) (mLc 100000 (imRange1 (mCons (mCall (f1 dLen) (mCons (mV 2) (mNil))) (mNil))) (gmName 8) (mYes) (mBin dIn (mV 8) (mV 4)) [8]))))))))))
def m_Machine___init__ : FM := runA (fm 9 b_Machine___init__)
def d_Machine___init__ : He.DefD := ⟨("Machine", some "__init__"), "__init__", "Machine.__init__", defArgs st_Machine___init__, defBody st_Machine___init__, defScope st_Machine___init__, [], [((Str.ofString "first"), .int 0), ((Str.ofString "ends"), .adr (adOf (kwval "Machine" "__init__" "ends")))]⟩
abbrev st__law_build : Stmt := top 28
def N__law_build : List Str := [(Str.ofString "raw"), (Str.ofString "alphabet"), (Str.ofString "rows"), (Str.ofString "start"), (Str.ofString "stops")]
def b__law_build : SM := mSeq (mAsg (mV 0) (gmTup 4 (gmCons (gmName 1) (gmCons (gmName 2) (gmCons (gmName 3) (gmCons (gmName 4) (gmNil))))))) (mRet (mMake 13 (fun ds es => ds ++ (es.take 2 ++ ([] ++ es.drop 2))) m_Machine___init__ (mCons (mV 1) (mCons (mCall (f1 dList) (mCons (mV 2) (mNil))) (mNil))) (mCons (mV 3) (mCons (mV 4) (mNil)))))
def m__law_build : FM := runA (fm 5 b__law_build)
def d__law_build : He.DefD := ⟨("_law_build", none), "_law_build", "_law_build", defArgs st__law_build, defBody st__law_build, defScope st__law_build, [], []⟩
abbrev st_Finder_longest : Stmt := (C8.clsBody (top 20)).getD 2 (.Pass ⟨0, 0, 0, 0⟩)
def N_Finder_longest : List Str := [(Str.ofString "self"), (Str.ofString "begins"), (Str.ofString "room")]
def b_Finder_longest : SM := mSeq (mLockS (mFld [19] 42 (mV 0)) (mSet 1 (mLc 100000 (imKeys (mFld [19] 42 (mV 0))) (gmName 2) (mTest (mBin dIx (mFld [13] 26 (mFld [19] 32 (mV 0))) (mV 2))) (mBin dDGet (mFld [19] 42 (mV 0)) (mV 2)) [2]))) (mRet (mIf (mTest (mBin dNe (mV 1) (mLst (mNil)))) (mCall (f1 dMinL) (mCons (mV 1) (mNil))) (mC .non)))
def m_Finder_longest : FM := runA (fm 3 b_Finder_longest)
def d_Finder_longest : He.DefD := ⟨("Finder", some "longest"), "longest", "Finder.longest", defArgs st_Finder_longest, defBody st_Finder_longest, defScope st_Finder_longest, [], []⟩
abbrev st_Finder_all_found : Stmt := (C8.clsBody (top 20)).getD 3 (.Pass ⟨0, 0, 0, 0⟩)
def N_Finder_all_found : List Str := [(Str.ofString "self")]
def b_Finder_all_found : SM := mRet (mFld [19] 44 (mV 0))
def m_Finder_all_found : FM := runA (fm 1 b_Finder_all_found)
def d_Finder_all_found : He.DefD := ⟨("Finder", some "all_found"), "all_found", "Finder.all_found", defArgs st_Finder_all_found, defBody st_Finder_all_found, defScope st_Finder_all_found, [], []⟩
abbrev st__law_room : Stmt := top 29
def N__law_room : List Str := [(Str.ofString "raw"), (Str.ofString "word"), (Str.ofString "room"), (Str.ofString "sign")]
def b__law_room : SM := mSeq (mSet 2 (mBin dIx (mV 0) (mC (.int 2)))) (mSeq (mFor 100000 (imAny (mV 1)) (gmName 3) (mSet 2 (mBin dIx (mBin dIx (mBin dIx (mV 0) (mC (.int 1))) (mV 2)) (mAlt (mBM isStr dSIndex (mBin dIx (mV 0) (mC (.int 0))) (mCons (mV 3) (mNil))) (mBM isLst dLIndex (mBin dIx (mV 0) (mC (.int 0))) (mCons (mV 3) (mNil))))))) (mRet (mV 2)))
def m__law_room : FM := runA (fm 4 b__law_room)
def d__law_room : He.DefD := ⟨("_law_room", none), "_law_room", "_law_room", defArgs st__law_room, defBody st__law_room, defScope st__law_room, [], []⟩
abbrev st__law_lets : Stmt := top 30
def N__law_lets : List Str := [(Str.ofString "raw"), (Str.ofString "word")]
def b__law_lets : SM := mRet (mBin dIn (mCallK gd0 m__law_room (mCons (mV 0) (mCons (mV 1) (mNil))) (mNil)) (mBin dIx (mV 0) (mC (.int 3))))
def m__law_lets : FM := runA (fm 2 b__law_lets)
def d__law_lets : He.DefD := ⟨("_law_lets", none), "_law_lets", "_law_lets", defArgs st__law_lets, defBody st__law_lets, defScope st__law_lets, [], []⟩
abbrev st__law_whole : Stmt := top 25
def N__law_whole : List Str := [(Str.ofString "thing")]
def b__law_whole : SM := mRet (mAndV (mIsi (luk [(.non, false), (.bool, true), (.int, true), (.str, false), (.list, false), (.tuple, false), (.dict, false), (.ins 13, false), (.ins 19, false)]) (mV 0)) (mNotV (mIsi (luk [(.non, false), (.bool, true), (.int, false), (.str, false), (.list, false), (.tuple, false), (.dict, false), (.ins 13, false), (.ins 19, false)]) (mV 0))))
def m__law_whole : FM := runA (fm 1 b__law_whole)
def d__law_whole : He.DefD := ⟨("_law_whole", none), "_law_whole", "_law_whole", defArgs st__law_whole, defBody st__law_whole, defScope st__law_whole, [], []⟩
def s_law_0 : SM := mSet 1 (mCallK gd0 m__law_town (mCons (mV 0) (mNil)) (mNil))
def s_law_1 : SM := mSet 2 (mCallK gd0 m__law_alphabet (mCons (mV 1) (mNil)) (mNil))
def s_law_2 : SM := mSet 3 (mCallK gd0 m__law_raw (mCons (mV 1) (mCons (mV 2) (mCons (mC (.int 5)) (mNil)))) (mNil))
def s_law_3 : SM := mSet 4 (mMake 19 gd0 m_Finder___init__ (mCons (mCallK gd0 m__law_build (mCons (mV 3) (mNil)) (mNil)) (mNil)) (mNil))
def s_law_4 : SM := mSet 5 (mMake 19 gd0 m_Finder___init__ (mCons (mCallK gd0 m__law_build (mCons (mV 3) (mNil)) (mNil)) (mNil)) (mNil))
def s_law_5 : SM := mSet 6 (mC (.str []))
def s_law_6 : SM := mSet 7 (mC (.int 0))
def s_law_7 : SM := mIfS (mOr (mTest (mBin dNotN (mMeth 19 m_Finder_longest (mV 4) (mNil)) (mC .non))) (mOr (mTest (mBin dNe (mMeth 19 m_Finder_all_found (mV 4) (mNil)) (mC (.int 0)))) (mTest (mBin dNe (mMeth 19 m_Finder_signs_came (mV 4) (mNil)) (mC (.int 0)))))) (mRet (mC (.bl false))) (mNext)
def s_law_8_b : SM := mSeq (mSet 9 (mCallK gd0 m__law_pick (mCons (mV 1) (mCons (mV 2) (mNil))) (mNil))) (mSeq (mSet 6 (mBin dAdd (mV 6) (mV 9))) (mSeq (mSet 10 (mLc 100000 (imRange1 (mCons (mCall (f1 dLen) (mCons (mV 6) (mNil))) (mNil))) (gmName 12) (mTest (mCallK gd0 m__law_lets (mCons (mV 3) (mCons (mSl (mV 6) (mPart (mV 12)) mNoPart) (mNil))) (mNil))) (mV 12) [12])) (mSeq (mSet 11 (mMeth 19 m_Finder_push (mV 4) (mCons (mV 9) (mNil)))) (mSeq (mSet 7 (mBin dAdd (mV 7) (mCall (f1 dLen) (mCons (mV 10) (mNil))))) (mSeq (mIfS (mOr (mTest (mBin dNe (mV 11) (mCall (f1 dLen) (mCons (mV 10) (mNil))))) (mOr (mNot (mTest (mCallK gd0 m__law_whole (mCons (mV 11) (mNil)) (mNil)))) (mOr (mTest (mBin dNe (mMeth 19 m_Finder_all_found (mV 4) (mNil)) (mV 7))) (mTest (mBin dNe (mMeth 19 m_Finder_signs_came (mV 4) (mNil)) (mCall (f1 dLen) (mCons (mV 6) (mNil)))))))) (mRet (mC (.bl false))) (mNext)) (mSeq (mIfS (mTest (mBin dNe (mMeth 19 m_Finder_longest (mV 4) (mNil)) (mIf (mTest (mBin dNe (mV 10) (mLst (mNil)))) (mBin dIx (mV 10) (mC (.int 0))) (mC .non)))) (mRet (mC (.bl false))) (mNext)) (mIfS (mTest (mBin dEq (mCallK gd0 m__law_draw (mCons (mV 1) (mCons (mC (.int 3)) (mNil))) (mNil)) (mC (.int 0)))) (mDrop (mMeth 19 m_Finder_push (mV 5) (mCons (mV 9) (mNil)))) (mNext))))))))
def s_law_8 : SM := mFor 100000 (imRange1 (mCons (mC (.int 14)) (mNil))) (gmName 8) s_law_8_b
def s_law_9 : SM := mRet (mBin fLe (mMeth 19 m_Finder_signs_came (mV 5) (mNil)) (mCall (f1 dLen) (mCons (mV 6) (mNil))))
abbrev st_law : Stmt := top 31
def N_law : List Str := [(Str.ofString "script"), (Str.ofString "town"), (Str.ofString "alphabet"), (Str.ofString "raw"), (Str.ofString "finder"), (Str.ofString "other"), (Str.ofString "text"), (Str.ofString "total_found"), (Str.ofString "turn"), (Str.ofString "sign"), (Str.ofString "begins"), (Str.ofString "told"), (Str.ofString "k")]
def b_law : SM := mSeq s_law_0 (mSeq s_law_1 (mSeq s_law_2 (mSeq s_law_3 (mSeq s_law_4 (mSeq s_law_5 (mSeq s_law_6 (mSeq s_law_7 (mSeq s_law_8 (s_law_9)))))))))
def m_law : FM := runA (fm 13 b_law)
def d_law : He.DefD := ⟨("law", none), "law", "law", defArgs st_law, defBody st_law, defScope st_law, [], []⟩
def fn : List He.DefD := [d_look_machine, d_Finder___init__, d__law_town, d__law_draw, d__law_pick, d__law_alphabet, d__law_raw, d_Machine_led, d_Finder_push, d_Finder_signs_came, d_is_signs, d_look_signs, d_is_whole, d_Machine___init__, d__law_build, d_Finder_longest, d_Finder_all_found, d__law_room, d__law_lets, d__law_whole, d_law]
def fa : List He.Fa := [.free "isinstance", .cls "Machine", .cls "Finder", .glo "Machine", .exc "BadMachine", .glo "BadMachine", .glo "look_machine", .noat "Finder" "machine", .noat "Finder" "counts", .noat "Finder" "first_at", .noat "Finder" "came", .noat "Finder" "found", .free "list", .glo "_law_town", .free "len", .glo "_law_draw", .glo "_law_pick", .glo "_law_alphabet", .free "range", .free "tuple", .glo "_law_raw", .noat "Machine" "rows", .noat "Machine" "signs", .meth "Machine" "led", .free "str", .exc "BadWord", .glo "BadWord", .free "dict", .noat "Machine" "first", .free "min", .noat "Machine" "stops", .free "sum", .meth "Finder" "push", .meth "Finder" "signs_came", .int "MOST_SIGNS" 4, .str "LETTERS" "abcdefghijklmnopqrstuvwxyz", .free "all", .free "sorted", .free "set", .glo "is_signs", .exc "BadSigns", .glo "BadSigns", .glo "look_signs", .free "int", .free "bool", .glo "is_whole", .int "MOST_ROOMS" 300, .glo "_law_build", .meth "Finder" "longest", .meth "Finder" "all_found", .glo "_law_room", .glo "_law_lets", .glo "_law_whole", .glo "law", .mkr "Finder", .glo "Finder", .mkr "Machine"]
def fx : List Fx := [.insC 13, .insC 19, .kit (.cl 13) [(.non, false), (.bool, false), (.int, false), (.str, false), (.list, false), (.tuple, false), (.dict, false), (.ins 13, true), (.ins 19, false)], .kit (.ty "str") [(.non, false), (.bool, false), (.int, false), (.str, true), (.list, false), (.tuple, false), (.dict, false), (.ins 13, false), (.ins 19, false)], .kit (.ty "int") [(.non, false), (.bool, true), (.int, true), (.str, false), (.list, false), (.tuple, false), (.dict, false), (.ins 13, false), (.ins 19, false)], .kit (.ty "bool") [(.non, false), (.bool, true), (.int, false), (.str, false), (.list, false), (.tuple, false), (.dict, false), (.ins 13, false), (.ins 19, false)], .kit (.ty "list") [(.non, false), (.bool, false), (.int, false), (.str, false), (.list, true), (.tuple, false), (.dict, false), (.ins 13, false), (.ins 19, false)], .kit (.ty "tuple") [(.non, false), (.bool, false), (.int, false), (.str, false), (.list, false), (.tuple, true), (.dict, false), (.ins 13, false), (.ins 19, false)], .kit2 "list" "tuple" [(.non, false), (.bool, false), (.int, false), (.str, false), (.list, true), (.tuple, true), (.dict, false), (.ins 13, false), (.ins 19, false)], .dat (kwval "Machine" "__init__" "ends") (.ktp [])]
section
variable {P : Program} {w : World} {K : PySem.W.Frag} {mg : Str → Option Value} {base : Heap}
theorem h_ins (h : Fc fx fa fn K mg base) : ∀ c ∈ [13, 19], InsOk K (clsA K c) := (inss_cons (He.cls_ok (h.c.fact 1 (f := .cls "Machine") rfl)) (h.fx_ 0) (inss_cons (He.cls_ok (h.c.fact 2 (f := .cls "Finder") rfl)) (h.fx_ 1) inss_nil))
theorem sc_look_machine : FnScope N_look_machine [(Str.ofString "thing")] (defScope st_look_machine) := C8.fnScope_by (by kernel_rfl)
theorem ok_look_machine (h : Fc fx fa fn K mg base) : Cal P w K mg base 1 (Str.ofString "look_machine") [(Str.ofString "thing")] 1 [] gd0 m_look_machine := by
  obtain ⟨fd, F⟩ := h.c.def_ 0 (d := d_look_machine) rfl
  have F : FunD K (Str.ofString "look_machine") (Str.ofString "look_machine") (defArgs st_look_machine) (defBody st_look_machine) (defScope st_look_machine) [] [] (He.ga K (Str.ofString "look_machine")) fd := F
  exact cal_of (k := 0) (b := b_look_machine) (N := N_look_machine) F (h.glo 6) sc_look_machine (bindD_no (ps := [(Str.ofString "thing")]) F fun _ _ _ _ _ _ us hl => match us, hl with | [_], _ => rfl) fun cdv A outer s H E hr =>
    (rss_one (rs_if (rt_not (rt_val (re_isiC (c := 13) (tab := [(.non, false), (.bool, false), (.int, false), (.str, false), (.list, false), (.tuple, false), (.dict, false), (.ins 13, true), (.ins 19, false)]) (re_sv 0) rfl (h.free 0) rfl (h.gloC 3 13) (h.fx_ 2) (ins_tab (h_ins h) (by rfl)) (exc_tab excs_nil (by rfl))))) (rss_one (rs_raiseF (c := 5) rfl takesC (h.exc 4 5) (h.gloC 5 5) rfl)) rss_nil))
theorem sc_Finder___init__ : FnScope N_Finder___init__ [(Str.ofString "self"), (Str.ofString "machine")] (defScope st_Finder___init__) := C8.fnScope_by (by kernel_rfl)
theorem fr_Finder___init__ (h : Fc fx fa fn K mg base) {fd : FuncData} (F : FunD K (Str.ofString "__init__") (Str.ofString "Finder.__init__") (defArgs st_Finder___init__) (defBody st_Finder___init__) (defScope st_Finder___init__) [] [] (He.ma K (clsA K 19) (Str.ofString "__init__")) fd) : FnRef P w K mg base 2 (He.ma K (clsA K 19) (Str.ofString "__init__")) fd [(Str.ofString "self"), (Str.ofString "machine")] m_Finder___init__ :=
  FnRef.pure (fnref (k := 1) (b := b_Finder___init__) (N := N_Finder___init__) F sc_Finder___init__ fun cdv A outer s H E hr =>
    (rss_cons (rs_expr (re_cal (ok_look_machine h) (Room.mono hr (by decide)) rfl takesC (ra_cons (re_sv 1) ra_nil) rk_nil))
    (rss_cons (rs_setFld (i := 32) (re_sv 0) (re_sv 1) rfl (flds_cons (He.cls_ok (h.c.fact 2 (f := .cls "Finder") rfl)) (He.noat_ok (h.c.fact 7 (f := .noat "Finder" "machine") rfl)) flds_nil))
    (rss_cons (rs_setFld (i := 41) (re_sv 0) re_dic0 rfl (flds_cons (He.cls_ok (h.c.fact 2 (f := .cls "Finder") rfl)) (He.noat_ok (h.c.fact 8 (f := .noat "Finder" "counts") rfl)) flds_nil))
    (rss_cons (rs_setFld (i := 42) (re_sv 0) re_dic0 rfl (flds_cons (He.cls_ok (h.c.fact 2 (f := .cls "Finder") rfl)) (He.noat_ok (h.c.fact 9 (f := .noat "Finder" "first_at") rfl)) flds_nil))
    (rss_cons (rs_setFld (i := 43) (re_sv 0) re_int rfl (flds_cons (He.cls_ok (h.c.fact 2 (f := .cls "Finder") rfl)) (He.noat_ok (h.c.fact 10 (f := .noat "Finder" "came") rfl)) flds_nil))
    (rss_one (rs_setFld (i := 44) (re_sv 0) re_int rfl (flds_cons (He.cls_ok (h.c.fact 2 (f := .cls "Finder") rfl)) (He.noat_ok (h.c.fact 11 (f := .noat "Finder" "found") rfl)) flds_nil)))))))))
theorem okN_Finder_0 (h : Fc fx fa fn K mg base) : CalN P w K mg base 2 19 (Str.ofString "Finder") [(Str.ofString "self"), (Str.ofString "machine")] 1 [] gd0 m_Finder___init__ := by
  obtain ⟨fd, F⟩ := h.c.def_ 1 (d := d_Finder___init__) rfl
  have F : FunD K (Str.ofString "__init__") (Str.ofString "Finder.__init__") (defArgs st_Finder___init__) (defBody st_Finder___init__) (defScope st_Finder___init__) [] [] (He.ma K (clsA K 19) (Str.ofString "__init__")) fd := F
  exact ⟨fd, fr_Finder___init__ h F, (bindD_no (ps := [(Str.ofString "self"), (Str.ofString "machine")]) F fun _ _ _ _ _ _ us hl => match us, hl with | [_, _], _ => rfl), He.mkr_ok (h.c.fact 54 (f := .mkr "Finder") rfl), h.gloC 55 19⟩
theorem sc__law_town : FnScope N__law_town [(Str.ofString "script")] (defScope st__law_town) := C8.fnScope_by (by kernel_rfl)
theorem ok__law_town (h : Fc fx fa fn K mg base) : Cal P w K mg base 1 (Str.ofString "_law_town") [(Str.ofString "script")] 1 [] gd0 m__law_town := by
  obtain ⟨fd, F⟩ := h.c.def_ 2 (d := d__law_town) rfl
  have F : FunD K (Str.ofString "_law_town") (Str.ofString "_law_town") (defArgs st__law_town) (defBody st__law_town) (defScope st__law_town) [] [] (He.ga K (Str.ofString "_law_town")) fd := F
  exact cal_of (k := 0) (b := b__law_town) (N := N__law_town) F (h.glo 13) sc__law_town (bindD_no (ps := [(Str.ofString "script")]) F fun _ _ _ _ _ _ us hl => match us, hl with | [_], _ => rfl) fun cdv A outer s H E hr =>
    (rss_one (rs_ret (re_lst (ra_cons (re_if (rt_cmp (o_ne (Room.u64 hr)) (re_sv 0) (re_lst ra_nil)) (re_callTy (T := "list") c_list rfl (h.free 12) (by decide +kernel) (ra_cons (re_sv 0) ra_nil)) (re_lst (ra_cons re_int ra_nil))) (ra_cons re_int ra_nil)))))
theorem sc__law_draw : FnScope N__law_draw [(Str.ofString "town"), (Str.ofString "count_of")] (defScope st__law_draw) := C8.fnScope_by (by kernel_rfl)
theorem ok__law_draw (h : Fc fx fa fn K mg base) : Cal P w K mg base 1 (Str.ofString "_law_draw") [(Str.ofString "town"), (Str.ofString "count_of")] 2 [] gd0 m__law_draw := by
  obtain ⟨fd, F⟩ := h.c.def_ 3 (d := d__law_draw) rfl
  have F : FunD K (Str.ofString "_law_draw") (Str.ofString "_law_draw") (defArgs st__law_draw) (defBody st__law_draw) (defScope st__law_draw) [] [] (He.ga K (Str.ofString "_law_draw")) fd := F
  exact cal_of (k := 0) (b := b__law_draw) (N := N__law_draw) F (h.glo 15) sc__law_draw (bindD_no (ps := [(Str.ofString "town"), (Str.ofString "count_of")]) F fun _ _ _ _ _ _ us hl => match us, hl with | [_, _], _ => rfl) fun cdv A outer s H E hr =>
    (rss_cons (rs_set (i := 2) sc__law_draw.nd rfl (by first | exact .inl rfl | exact .inr rfl) (re_ix (re_sv 0) re_int))
    (rss_cons (rs_setSub s_list (re_bin o_add (re_ix (re_sv 0) re_int) re_int) (re_sv 0) re_int)
    (rss_cons (rs_set (i := 3) sc__law_draw.nd rfl (by first | exact .inl rfl | exact .inr rfl) (re_bin o_mod (re_ix (re_sv 0) re_int) (re_callB (id := "len") c_len rfl (h.free 14) (by decide +kernel) (ra_cons (re_sv 2) ra_nil))))
    (rss_cons (rs_set (i := 4) sc__law_draw.nd rfl (by first | exact .inl rfl | exact .inr rfl) (re_ix (re_sv 2) (re_sv 3)))
    (rss_cons (rs_if (rt_cmp o_geI (re_sv 4) re_int) (rss_cons (rs_setSub s_list (re_bin o_div (re_sv 4) (re_sv 1)) (re_sv 2) (re_sv 3))
    (rss_one (rs_ret (re_bin o_mod (re_sv 4) (re_sv 1))))) rss_nil)
    (rss_cons (rs_set (i := 5) sc__law_draw.nd rfl (by first | exact .inl rfl | exact .inr rfl) (re_bin o_mod (re_bin o_add (re_sv 4) (re_bin o_mul re_int (re_ix (re_sv 0) re_int))) re_int))
    (rss_cons (rs_set (i := 5) sc__law_draw.nd rfl (by first | exact .inl rfl | exact .inr rfl) (re_bin o_mod (re_bin o_pow (re_sv 5) re_int) re_int))
    (rss_one (rs_ret (re_bin o_mod (re_bin o_div (re_bin o_mod (re_bin o_add (re_bin o_mul (re_bin o_div (re_sv 5) re_int) re_int) (re_sv 5)) re_int) re_int) (re_sv 1)))))))))))
theorem sc__law_pick : FnScope N__law_pick [(Str.ofString "town"), (Str.ofString "some")] (defScope st__law_pick) := C8.fnScope_by (by kernel_rfl)
theorem ok__law_pick (h : Fc fx fa fn K mg base) : Cal P w K mg base 2 (Str.ofString "_law_pick") [(Str.ofString "town"), (Str.ofString "some")] 2 [] gd0 m__law_pick := by
  obtain ⟨fd, F⟩ := h.c.def_ 4 (d := d__law_pick) rfl
  have F : FunD K (Str.ofString "_law_pick") (Str.ofString "_law_pick") (defArgs st__law_pick) (defBody st__law_pick) (defScope st__law_pick) [] [] (He.ga K (Str.ofString "_law_pick")) fd := F
  exact cal_of (k := 1) (b := b__law_pick) (N := N__law_pick) F (h.glo 16) sc__law_pick (bindD_no (ps := [(Str.ofString "town"), (Str.ofString "some")]) F fun _ _ _ _ _ _ us hl => match us, hl with | [_, _], _ => rfl) fun cdv A outer s H E hr =>
    (rss_one (rs_ret (re_ix (re_sv 1) (re_cal (ok__law_draw h) (Room.mono hr (by decide)) rfl takesC (ra_cons (re_sv 0) (ra_cons (re_callB (id := "len") c_len rfl (h.free 14) (by decide +kernel) (ra_cons (re_sv 1) ra_nil)) ra_nil)) rk_nil))))
theorem sc__law_alphabet : FnScope N__law_alphabet [(Str.ofString "town")] (defScope st__law_alphabet) := C8.fnScope_by (by kernel_rfl)
theorem ok__law_alphabet (h : Fc fx fa fn K mg base) : Cal P w K mg base 3 (Str.ofString "_law_alphabet") [(Str.ofString "town")] 1 [] gd0 m__law_alphabet := by
  obtain ⟨fd, F⟩ := h.c.def_ 5 (d := d__law_alphabet) rfl
  have F : FunD K (Str.ofString "_law_alphabet") (Str.ofString "_law_alphabet") (defArgs st__law_alphabet) (defBody st__law_alphabet) (defScope st__law_alphabet) [] [] (He.ga K (Str.ofString "_law_alphabet")) fd := F
  exact cal_of (k := 2) (b := b__law_alphabet) (N := N__law_alphabet) F (h.glo 17) sc__law_alphabet (bindD_no (ps := [(Str.ofString "town")]) F fun _ _ _ _ _ _ us hl => match us, hl with | [_], _ => rfl) fun cdv A outer s H E hr =>
    (rss_one (rs_ret (re_cal (ok__law_pick h) (Room.mono hr (by decide)) rfl takesC (ra_cons (re_sv 0) (ra_cons (re_lst (ra_cons (re_str [97] (by kernel_rfl)) (ra_cons (re_str [97, 98] (by kernel_rfl)) (ra_cons (re_str [97, 98] (by kernel_rfl)) (ra_cons (re_str [97, 98] (by kernel_rfl)) (ra_cons (re_str [97, 98, 99] (by kernel_rfl)) (ra_cons (re_str [120, 122] (by kernel_rfl)) ra_nil))))))) ra_nil)) rk_nil)))
theorem sc__law_raw : FnScope N__law_raw [(Str.ofString "town"), (Str.ofString "alphabet"), (Str.ofString "most")] (defScope st__law_raw) := C8.fnScope_by (by kernel_rfl)
theorem ok__law_raw (h : Fc fx fa fn K mg base) : Cal P w K mg base 3 (Str.ofString "_law_raw") [(Str.ofString "town"), (Str.ofString "alphabet"), (Str.ofString "most")] 3 [] gd0 m__law_raw := by
  obtain ⟨fd, F⟩ := h.c.def_ 6 (d := d__law_raw) rfl
  have F : FunD K (Str.ofString "_law_raw") (Str.ofString "_law_raw") (defArgs st__law_raw) (defBody st__law_raw) (defScope st__law_raw) [] [] (He.ga K (Str.ofString "_law_raw")) fd := F
  exact cal_of (k := 2) (b := b__law_raw) (N := N__law_raw) F (h.glo 20) sc__law_raw (bindD_no (ps := [(Str.ofString "town"), (Str.ofString "alphabet"), (Str.ofString "most")]) F fun _ _ _ _ _ _ us hl => match us, hl with | [_, _, _], _ => rfl) fun cdv A outer s H E hr =>
    (rss_cons (rs_set (i := 3) sc__law_raw.nd rfl (by first | exact .inl rfl | exact .inr rfl) (re_bin o_add re_int (re_cal (ok__law_draw h) (Room.mono hr (by decide)) rfl takesC (ra_cons (re_sv 0) (ra_cons (re_sv 2) ra_nil)) rk_nil)))
    (rss_cons (rs_setLc 100000 (i := 4) (own := [("k", 7)]) rfl sc__law_raw.nd rfl rfl (sw_true rfl rfl rfl rfl) (blkOk_by (by kernel_rfl)) (ri_range1 rfl (h.free 18) (ra_cons (re_sv 3) ra_nil)) (fun _ _ _ _ _ => (rgw_name sc__law_raw.nd rfl (by first | exact .inl rfl | exact .inr rfl) (by decide))) (fun _ _ _ _ _ => rts_nil) (fun _ _ _ _ _ => (re_callTy (T := "tuple") c_tuple rfl (h.free 19) (by decide +kernel) (ra_cons (re_lc 100000 (own := [("sign", 8)]) rfl sc__law_raw.nd (blkOk_by (by kernel_rfl)) (ri_any (re_sv 1)) (fun _ _ _ _ _ => (rgw_name sc__law_raw.nd rfl (by first | exact .inl rfl | exact .inr rfl) (by decide))) (fun _ _ _ _ _ => rts_nil) (fun _ _ _ _ _ => (re_cal (ok__law_draw h) (Room.mono hr (by decide)) rfl (takesF rfl) (ra_cons (re_sv 0) (ra_cons (re_sv 3) ra_nil)) rk_nil))) ra_nil))))
    (rss_cons (rs_set (i := 5) sc__law_raw.nd rfl (by first | exact .inl rfl | exact .inr rfl) (re_cal (ok__law_pick h) (Room.mono hr (by decide)) rfl takesC (ra_cons (re_sv 0) (ra_cons (re_lst (ra_cons re_int (ra_cons re_int (ra_cons re_int ra_nil)))) ra_nil)) rk_nil))
    (rss_cons (rs_setLc 100000 (i := 6) (own := [("k", 7)]) rfl sc__law_raw.nd rfl rfl (sw_true rfl rfl rfl rfl) (blkOk_by (by kernel_rfl)) (ri_range1 rfl (h.free 18) (ra_cons (re_sv 3) ra_nil)) (fun _ _ _ _ _ => (rgw_name sc__law_raw.nd rfl (by first | exact .inl rfl | exact .inr rfl) (by decide))) (fun _ _ _ _ _ => (rts_one (rt_cmp (o_eq (Room.u64 hr)) (re_cal (ok__law_draw h) (Room.mono hr (by decide)) rfl (takesF rfl) (ra_cons (re_sv 0) (ra_cons (re_sv 5) ra_nil)) rk_nil) re_int))) (fun _ _ _ _ _ => (re_sv 7)))
    (rss_one (rs_ret (re_tup (ra_cons (re_sv 1) (ra_cons (re_sv 4) (ra_cons (re_cal (ok__law_draw h) (Room.mono hr (by decide)) rfl takesC (ra_cons (re_sv 0) (ra_cons (re_sv 3) ra_nil)) rk_nil) (ra_cons (re_sv 6) ra_nil)))))))))))
theorem sc_Machine_led : FnScope N_Machine_led [(Str.ofString "self"), (Str.ofString "room"), (Str.ofString "word")] (defScope st_Machine_led) := C8.fnScope_by (by kernel_rfl)
theorem fr_Machine_led (h : Fc fx fa fn K mg base) {fd : FuncData} (F : FunD K (Str.ofString "led") (Str.ofString "Machine.led") (defArgs st_Machine_led) (defBody st_Machine_led) (defScope st_Machine_led) [] [] (He.ma K (clsA K 13) (Str.ofString "led")) fd) : FnRef P w K mg base 1 (He.ma K (clsA K 13) (Str.ofString "led")) fd [(Str.ofString "self"), (Str.ofString "room"), (Str.ofString "word")] m_Machine_led :=
  FnRef.pure (fnref (k := 0) (b := b_Machine_led) (N := N_Machine_led) F sc_Machine_led fun cdv A outer s H E hr =>
    (rss_cons (rs_for 100000 passC rfl (ri_any (re_sv 2)) (rg_name sc_Machine_led.nd rfl (by first | exact .inl rfl | exact .inr rfl)) (rss_one (rs_set (i := 1) sc_Machine_led.nd rfl (by first | exact .inl rfl | exact .inr rfl) (re_ix (re_ix (re_fld (i := 24) (re_sv 0) rfl (flds_cons (He.cls_ok (h.c.fact 1 (f := .cls "Machine") rfl)) (He.noat_ok (h.c.fact 21 (f := .noat "Machine" "rows") rfl)) flds_nil)) (re_sv 1)) (re_alt (re_bmR (T := "str") (id := "str.index") m_sindex PySem.F.plainAttrs_str PySem.F.slot_str_index (re_fld (i := 23) (re_sv 0) rfl (flds_cons (He.cls_ok (h.c.fact 1 (f := .cls "Machine") rfl)) (He.noat_ok (h.c.fact 22 (f := .noat "Machine" "signs") rfl)) flds_nil)) (ra_cons (re_sv 3) ra_nil)) (re_bmR (T := "list") (id := "list.index") m_lindex PySem.F.plainAttrs_list PySem.F.slot_list_index (re_fld (i := 23) (re_sv 0) rfl (flds_cons (He.cls_ok (h.c.fact 1 (f := .cls "Machine") rfl)) (He.noat_ok (h.c.fact 22 (f := .noat "Machine" "signs") rfl)) flds_nil)) (ra_cons (re_sv 3) ra_nil)))))))
    (rss_one (rs_ret (re_sv 1)))))
theorem ok_Machine_led (h : Fc fx fa fn K mg base) : CalM P w K mg base 1 13 (Str.ofString "led") [(Str.ofString "self"), (Str.ofString "room"), (Str.ofString "word")] m_Machine_led := by
  obtain ⟨fd, F⟩ := h.c.def_ 7 (d := d_Machine_led) rfl
  have F : FunD K (Str.ofString "led") (Str.ofString "Machine.led") (defArgs st_Machine_led) (defBody st_Machine_led) (defScope st_Machine_led) [] [] (He.ma K (clsA K 13) (Str.ofString "led")) fd := F
  exact ⟨fd, fr_Machine_led h F, F.bindsN (fun _ _ _ _ _ _ us hl => match us, hl with | [_, _, _], _ => rfl), He.cls_ok (h.c.fact 1 (f := .cls "Machine") rfl), He.meth_ok (h.c.fact 23 (f := .meth "Machine" "led") rfl)⟩
theorem sc_Finder_push : FnScope N_Finder_push [(Str.ofString "self"), (Str.ofString "sign")] (defScope st_Finder_push) := C8.fnScope_by (by kernel_rfl)
theorem fr_Finder_push (h : Fc fx fa fn K mg base) {fd : FuncData} (F : FunD K (Str.ofString "push") (Str.ofString "Finder.push") (defArgs st_Finder_push) (defBody st_Finder_push) (defScope st_Finder_push) [] [] (He.ma K (clsA K 19) (Str.ofString "push")) fd) : FnRef P w K mg base 2 (He.ma K (clsA K 19) (Str.ofString "push")) fd [(Str.ofString "self"), (Str.ofString "sign")] m_Finder_push :=
  FnRef.pure (fnref (k := 1) (b := b_Finder_push) (N := N_Finder_push) F sc_Finder_push fun cdv A outer s H E hr =>
    (rss_cons (rs_set (i := 2) sc_Finder_push.nd rfl (by first | exact .inl rfl | exact .inr rfl) (re_fld (i := 32) (re_sv 0) rfl (flds_cons (He.cls_ok (h.c.fact 2 (f := .cls "Finder") rfl)) (He.noat_ok (h.c.fact 7 (f := .noat "Finder" "machine") rfl)) flds_nil)))
    (rss_cons (rs_if (RW.rt (rw_or (rt_not (rt_val (re_isiT (T := "str") (tab := [(.non, false), (.bool, false), (.int, false), (.str, true), (.list, false), (.tuple, false), (.dict, false), (.ins 13, false), (.ins 19, false)]) (re_sv 1) rfl (h.free 0) rfl (h.free 24) (by decide +kernel) (h.fx_ 3) (ins_tab (h_ins h) (by rfl)) (exc_tab excs_nil (by rfl))))) (rw_or (rt_cmp (o_ne (Room.u64 hr)) (re_callB (id := "len") c_len rfl (h.free 14) (by decide +kernel) (ra_cons (re_sv 1) ra_nil)) re_int) (rw_or1 (rt_cmp (o_notIn (Room.u65 hr)) (re_sv 1) (re_fld (i := 23) (re_sv 2) rfl (flds_cons (He.cls_ok (h.c.fact 1 (f := .cls "Machine") rfl)) (He.noat_ok (h.c.fact 22 (f := .noat "Machine" "signs") rfl)) flds_nil))))))) (rss_one (rs_raiseF (c := 3) rfl takesC (h.exc 25 3) (h.gloC 26 3) rfl)) rss_nil)
    (rss_cons (rs_set (i := 3) sc_Finder_push.nd rfl (by first | exact .inl rfl | exact .inr rfl) (re_callTy (T := "dict") c_dict rfl (h.free 27) (by decide +kernel) (ra_cons (re_fld (i := 41) (re_sv 0) rfl (flds_cons (He.cls_ok (h.c.fact 2 (f := .cls "Finder") rfl)) (He.noat_ok (h.c.fact 8 (f := .noat "Finder" "counts") rfl)) flds_nil)) ra_nil)))
    (rss_cons (rs_setSub (s_dict (Room.u64 hr)) (re_bin o_add (re_get2 (Room.u64 hr) (re_sv 3) (re_fld (i := 25) (re_sv 2) rfl (flds_cons (He.cls_ok (h.c.fact 1 (f := .cls "Machine") rfl)) (He.noat_ok (h.c.fact 28 (f := .noat "Machine" "first") rfl)) flds_nil)) re_int ⟨rfl, rfl, rfl, rfl⟩) re_int) (re_sv 3) (re_fld (i := 25) (re_sv 2) rfl (flds_cons (He.cls_ok (h.c.fact 1 (f := .cls "Machine") rfl)) (He.noat_ok (h.c.fact 28 (f := .noat "Machine" "first") rfl)) flds_nil)))
    (rss_cons (rs_set (i := 4) sc_Finder_push.nd rfl (by first | exact .inl rfl | exact .inr rfl) (re_callTy (T := "dict") c_dict rfl (h.free 27) (by decide +kernel) (ra_cons (re_fld (i := 42) (re_sv 0) rfl (flds_cons (He.cls_ok (h.c.fact 2 (f := .cls "Finder") rfl)) (He.noat_ok (h.c.fact 9 (f := .noat "Finder" "first_at") rfl)) flds_nil)) ra_nil)))
    (rss_cons (rs_setSub (s_dict (Room.u64 hr)) (re_callB (id := "min") (c_min2 rfl) rfl (h.free 29) (by decide +kernel) (ra_cons (re_get2 (Room.u64 hr) (re_sv 4) (re_fld (i := 25) (re_sv 2) rfl (flds_cons (He.cls_ok (h.c.fact 1 (f := .cls "Machine") rfl)) (He.noat_ok (h.c.fact 28 (f := .noat "Machine" "first") rfl)) flds_nil)) (re_fld (i := 43) (re_sv 0) rfl (flds_cons (He.cls_ok (h.c.fact 2 (f := .cls "Finder") rfl)) (He.noat_ok (h.c.fact 10 (f := .noat "Finder" "came") rfl)) flds_nil)) ⟨rfl, rfl, rfl, rfl⟩) (ra_cons (re_fld (i := 43) (re_sv 0) rfl (flds_cons (He.cls_ok (h.c.fact 2 (f := .cls "Finder") rfl)) (He.noat_ok (h.c.fact 10 (f := .noat "Finder" "came") rfl)) flds_nil)) ra_nil))) (re_sv 4) (re_fld (i := 25) (re_sv 2) rfl (flds_cons (He.cls_ok (h.c.fact 1 (f := .cls "Machine") rfl)) (He.noat_ok (h.c.fact 28 (f := .noat "Machine" "first") rfl)) flds_nil)))
    (rss_cons (rs_setFld (i := 41) (re_sv 0) re_dic0 rfl (flds_cons (He.cls_ok (h.c.fact 2 (f := .cls "Finder") rfl)) (He.noat_ok (h.c.fact 8 (f := .noat "Finder" "counts") rfl)) flds_nil))
    (rss_cons (rs_setFld (i := 42) (re_sv 0) re_dic0 rfl (flds_cons (He.cls_ok (h.c.fact 2 (f := .cls "Finder") rfl)) (He.noat_ok (h.c.fact 9 (f := .noat "Finder" "first_at") rfl)) flds_nil))
    (rss_cons (rs_lock (rs_for 100000 passC rfl (ri_keys (re_sv 3)) (rg_name sc_Finder_push.nd rfl (by first | exact .inl rfl | exact .inr rfl)) (rss_cons (rs_set (i := 6) sc_Finder_push.nd rfl (by first | exact .inl rfl | exact .inr rfl) (re_methC (ok_Machine_led h) (Room.mono hr (by decide)) takesC (nm_ne (by rfl) (by decide)) (re_sv 2) (ra_cons (re_sv 5) (ra_cons (re_sv 1) ra_nil))))
    (rss_cons (rs_setSub (s_dict (Room.u64 hr)) (re_bin o_add (re_get2 (Room.u64 hr) (re_fld (i := 41) (re_sv 0) rfl (flds_cons (He.cls_ok (h.c.fact 2 (f := .cls "Finder") rfl)) (He.noat_ok (h.c.fact 8 (f := .noat "Finder" "counts") rfl)) flds_nil)) (re_sv 6) re_int ⟨rfl, rfl, rfl, rfl⟩) (re_dget (Room.u64 hr) (re_sv 3) (re_sv 5))) (re_fld (i := 41) (re_sv 0) rfl (flds_cons (He.cls_ok (h.c.fact 2 (f := .cls "Finder") rfl)) (He.noat_ok (h.c.fact 8 (f := .noat "Finder" "counts") rfl)) flds_nil)) (re_sv 6))
    (rss_one (rs_setSub (s_dict (Room.u64 hr)) (re_callB (id := "min") (c_min2 rfl) rfl (h.free 29) (by decide +kernel) (ra_cons (re_get2 (Room.u64 hr) (re_fld (i := 42) (re_sv 0) rfl (flds_cons (He.cls_ok (h.c.fact 2 (f := .cls "Finder") rfl)) (He.noat_ok (h.c.fact 9 (f := .noat "Finder" "first_at") rfl)) flds_nil)) (re_sv 6) (re_fld (i := 43) (re_sv 0) rfl (flds_cons (He.cls_ok (h.c.fact 2 (f := .cls "Finder") rfl)) (He.noat_ok (h.c.fact 10 (f := .noat "Finder" "came") rfl)) flds_nil)) ⟨rfl, rfl, rfl, rfl⟩) (ra_cons (re_dget (Room.u64 hr) (re_sv 4) (re_sv 5)) ra_nil))) (re_fld (i := 42) (re_sv 0) rfl (flds_cons (He.cls_ok (h.c.fact 2 (f := .cls "Finder") rfl)) (He.noat_ok (h.c.fact 9 (f := .noat "Finder" "first_at") rfl)) flds_nil)) (re_sv 6)))))))
    (rss_cons (rs_augFld (c := 19) (i := 43) (re_sv 0) oi_add re_int rfl (flds_cons (He.cls_ok (h.c.fact 2 (f := .cls "Finder") rfl)) (He.noat_ok (h.c.fact 10 (f := .noat "Finder" "came") rfl)) flds_nil))
    (rss_cons (rs_set (i := 7) sc_Finder_push.nd rfl (by first | exact .inl rfl | exact .inr rfl) (re_callB (id := "sum") (c_sum rfl) rfl (h.free 31) (by decide +kernel) (ra_cons (re_lock (re_lc 100000 (own := [("room", 5)]) rfl sc_Finder_push.nd (blkOk_by (by kernel_rfl)) (ri_keys (re_fld (i := 41) (re_sv 0) rfl (flds_cons (He.cls_ok (h.c.fact 2 (f := .cls "Finder") rfl)) (He.noat_ok (h.c.fact 8 (f := .noat "Finder" "counts") rfl)) flds_nil))) (fun _ _ _ _ _ => (rgw_name sc_Finder_push.nd rfl (by first | exact .inl rfl | exact .inr rfl) (by decide))) (fun _ _ _ _ _ => (rts_one (rt_val (re_ix (re_fld (i := 26) (re_sv 2) rfl (flds_cons (He.cls_ok (h.c.fact 1 (f := .cls "Machine") rfl)) (He.noat_ok (h.c.fact 30 (f := .noat "Machine" "stops") rfl)) flds_nil)) (re_sv 5))))) (fun _ _ _ _ _ => (re_dget (Room.u64 hr) (re_fld (i := 41) (re_sv 0) rfl (flds_cons (He.cls_ok (h.c.fact 2 (f := .cls "Finder") rfl)) (He.noat_ok (h.c.fact 8 (f := .noat "Finder" "counts") rfl)) flds_nil)) (re_sv 5))))) ra_nil)))
    (rss_cons (rs_augFld (c := 19) (i := 44) (re_sv 0) oi_add (re_sv 7) rfl (flds_cons (He.cls_ok (h.c.fact 2 (f := .cls "Finder") rfl)) (He.noat_ok (h.c.fact 11 (f := .noat "Finder" "found") rfl)) flds_nil))
    (rss_one (rs_ret (re_sv 7))))))))))))))))
theorem ok_Finder_push (h : Fc fx fa fn K mg base) : CalM P w K mg base 2 19 (Str.ofString "push") [(Str.ofString "self"), (Str.ofString "sign")] m_Finder_push := by
  obtain ⟨fd, F⟩ := h.c.def_ 8 (d := d_Finder_push) rfl
  have F : FunD K (Str.ofString "push") (Str.ofString "Finder.push") (defArgs st_Finder_push) (defBody st_Finder_push) (defScope st_Finder_push) [] [] (He.ma K (clsA K 19) (Str.ofString "push")) fd := F
  exact ⟨fd, fr_Finder_push h F, F.bindsN (fun _ _ _ _ _ _ us hl => match us, hl with | [_, _], _ => rfl), He.cls_ok (h.c.fact 2 (f := .cls "Finder") rfl), He.meth_ok (h.c.fact 32 (f := .meth "Finder" "push") rfl)⟩
theorem sc_Finder_signs_came : FnScope N_Finder_signs_came [(Str.ofString "self")] (defScope st_Finder_signs_came) := C8.fnScope_by (by kernel_rfl)
theorem fr_Finder_signs_came (h : Fc fx fa fn K mg base) {fd : FuncData} (F : FunD K (Str.ofString "signs_came") (Str.ofString "Finder.signs_came") (defArgs st_Finder_signs_came) (defBody st_Finder_signs_came) (defScope st_Finder_signs_came) [] [] (He.ma K (clsA K 19) (Str.ofString "signs_came")) fd) : FnRef P w K mg base 1 (He.ma K (clsA K 19) (Str.ofString "signs_came")) fd [(Str.ofString "self")] m_Finder_signs_came :=
  FnRef.pure (fnref (k := 0) (b := b_Finder_signs_came) (N := N_Finder_signs_came) F sc_Finder_signs_came fun cdv A outer s H E hr =>
    (rss_one (rs_ret (re_fld (i := 43) (re_sv 0) rfl (flds_cons (He.cls_ok (h.c.fact 2 (f := .cls "Finder") rfl)) (He.noat_ok (h.c.fact 10 (f := .noat "Finder" "came") rfl)) flds_nil)))))
theorem ok_Finder_signs_came (h : Fc fx fa fn K mg base) : CalM P w K mg base 1 19 (Str.ofString "signs_came") [(Str.ofString "self")] m_Finder_signs_came := by
  obtain ⟨fd, F⟩ := h.c.def_ 9 (d := d_Finder_signs_came) rfl
  have F : FunD K (Str.ofString "signs_came") (Str.ofString "Finder.signs_came") (defArgs st_Finder_signs_came) (defBody st_Finder_signs_came) (defScope st_Finder_signs_came) [] [] (He.ma K (clsA K 19) (Str.ofString "signs_came")) fd := F
  exact ⟨fd, fr_Finder_signs_came h F, F.bindsN (fun _ _ _ _ _ _ us hl => match us, hl with | [_], _ => rfl), He.cls_ok (h.c.fact 2 (f := .cls "Finder") rfl), He.meth_ok (h.c.fact 33 (f := .meth "Finder" "signs_came") rfl)⟩
theorem sc_is_signs : FnScope N_is_signs [(Str.ofString "thing")] (defScope st_is_signs) := C8.fnScope_by (by kernel_rfl)
theorem ok_is_signs (h : Fc fx fa fn K mg base) : Cal P w K mg base 1 (Str.ofString "is_signs") [(Str.ofString "thing")] 1 [] gd0 m_is_signs := by
  obtain ⟨fd, F⟩ := h.c.def_ 10 (d := d_is_signs) rfl
  have F : FunD K (Str.ofString "is_signs") (Str.ofString "is_signs") (defArgs st_is_signs) (defBody st_is_signs) (defScope st_is_signs) [] [] (He.ga K (Str.ofString "is_signs")) fd := F
  exact cal_of (k := 0) (b := b_is_signs) (N := N_is_signs) F (h.glo 39) sc_is_signs (bindD_no (ps := [(Str.ofString "thing")]) F fun _ _ _ _ _ _ us hl => match us, hl with | [_], _ => rfl) fun cdv A outer s H E hr =>
    (rss_cons (rs_if (RW.rt (rw_or (rt_not (rt_val (re_isiT (T := "str") (tab := [(.non, false), (.bool, false), (.int, false), (.str, true), (.list, false), (.tuple, false), (.dict, false), (.ins 13, false), (.ins 19, false)]) (re_sv 0) rfl (h.free 0) rfl (h.free 24) (by decide +kernel) (h.fx_ 3) (ins_tab (h_ins h) (by rfl)) (exc_tab excs_nil (by rfl))))) (rw_or1 (rt_not (rt_chain o_leI o_leI re_int (re_callB (id := "len") c_len rfl (h.free 14) (by decide +kernel) (ra_cons (re_sv 0) ra_nil)) (re_gint rfl (h.int 34))))))) (rss_one (rs_ret re_bl)) rss_nil)
    (rss_one (rs_ret (re_and (re_callB (id := "all") (c_all rfl) rfl (h.free 36) (by decide +kernel) (ra_cons (re_lc 100000 (own := [("sign", 1)]) rfl sc_is_signs.nd (blkOk_by (by kernel_rfl)) (ri_any (re_sv 0)) (fun _ _ _ _ _ => (rgw_name sc_is_signs.nd rfl (by first | exact .inl rfl | exact .inr rfl) (by decide))) (fun _ _ _ _ _ => rts_nil) (fun _ _ _ _ _ => (re_cmp (o_in (Room.u65 hr)) (re_sv 1) (re_gstr [97, 98, 99, 100, 101, 102, 103, 104, 105, 106, 107, 108, 109, 110, 111, 112, 113, 114, 115, 116, 117, 118, 119, 120, 121, 122] rfl (h.str 35) (by kernel_rfl))))) ra_nil)) (re_one (re_cmp (o_eq (Room.u64 hr)) (re_bmR (T := "str") (id := "str.join") m_join PySem.F.plainAttrs_str PySem.F.slot_str_join (re_str [] (by kernel_rfl)) (ra_cons (re_sortSet rfl (re_sv 0) rfl (h.free 37) rfl (h.free 38)) ra_nil)) (re_sv 0)))))))
theorem sc_look_signs : FnScope N_look_signs [(Str.ofString "thing")] (defScope st_look_signs) := C8.fnScope_by (by kernel_rfl)
theorem ok_look_signs (h : Fc fx fa fn K mg base) : Cal P w K mg base 2 (Str.ofString "look_signs") [(Str.ofString "thing")] 1 [] gd0 m_look_signs := by
  obtain ⟨fd, F⟩ := h.c.def_ 11 (d := d_look_signs) rfl
  have F : FunD K (Str.ofString "look_signs") (Str.ofString "look_signs") (defArgs st_look_signs) (defBody st_look_signs) (defScope st_look_signs) [] [] (He.ga K (Str.ofString "look_signs")) fd := F
  exact cal_of (k := 1) (b := b_look_signs) (N := N_look_signs) F (h.glo 42) sc_look_signs (bindD_no (ps := [(Str.ofString "thing")]) F fun _ _ _ _ _ _ us hl => match us, hl with | [_], _ => rfl) fun cdv A outer s H E hr =>
    (rss_one (rs_if (rt_not (rt_val (re_cal (ok_is_signs h) (Room.mono hr (by decide)) rfl takesC (ra_cons (re_sv 0) ra_nil) rk_nil))) (rss_one (rs_raiseF (c := 2) rfl takesC (h.exc 40 2) (h.gloC 41 2) rfl)) rss_nil))
theorem sc_is_whole : FnScope N_is_whole [(Str.ofString "thing"), (Str.ofString "low"), (Str.ofString "high")] (defScope st_is_whole) := C8.fnScope_by (by kernel_rfl)
theorem ok_is_whole (h : Fc fx fa fn K mg base) : Cal P w K mg base 1 (Str.ofString "is_whole") [(Str.ofString "thing"), (Str.ofString "low"), (Str.ofString "high")] 3 [] gd0 m_is_whole := by
  obtain ⟨fd, F⟩ := h.c.def_ 12 (d := d_is_whole) rfl
  have F : FunD K (Str.ofString "is_whole") (Str.ofString "is_whole") (defArgs st_is_whole) (defBody st_is_whole) (defScope st_is_whole) [] [] (He.ga K (Str.ofString "is_whole")) fd := F
  exact cal_of (k := 0) (b := b_is_whole) (N := N_is_whole) F (h.glo 45) sc_is_whole (bindD_no (ps := [(Str.ofString "thing"), (Str.ofString "low"), (Str.ofString "high")]) F fun _ _ _ _ _ _ us hl => match us, hl with | [_, _, _], _ => rfl) fun cdv A outer s H E hr =>
    (rss_one (rs_ret (re_and (re_isiT (T := "int") (tab := [(.non, false), (.bool, true), (.int, true), (.str, false), (.list, false), (.tuple, false), (.dict, false), (.ins 13, false), (.ins 19, false)]) (re_sv 0) rfl (h.free 0) rfl (h.free 43) (by decide +kernel) (h.fx_ 4) (ins_tab (h_ins h) (by rfl)) (exc_tab excs_nil (by rfl))) (re_and (re_not (re_isiT (T := "bool") (tab := [(.non, false), (.bool, true), (.int, false), (.str, false), (.list, false), (.tuple, false), (.dict, false), (.ins 13, false), (.ins 19, false)]) (re_sv 0) rfl (h.free 0) rfl (h.free 44) (by decide +kernel) (h.fx_ 5) (ins_tab (h_ins h) (by rfl)) (exc_tab excs_nil (by rfl)))) (re_one (re_chain o_leI o_leI (re_sv 1) (re_sv 0) (re_sv 2)))))))
theorem sc_Machine___init__ : FnScope N_Machine___init__ [(Str.ofString "self"), (Str.ofString "signs"), (Str.ofString "rows"), (Str.ofString "first"), (Str.ofString "ends")] (defScope st_Machine___init__) := C8.fnScope_by (by kernel_rfl)
theorem fr_Machine___init__ (h : Fc fx fa fn K mg base) {fd : FuncData} (F : FunD K (Str.ofString "__init__") (Str.ofString "Machine.__init__") (defArgs st_Machine___init__) (defBody st_Machine___init__) (defScope st_Machine___init__) [] [((Str.ofString "first"), .int 0), ((Str.ofString "ends"), .ref (adOf (kwval "Machine" "__init__" "ends") K))] (He.ma K (clsA K 13) (Str.ofString "__init__")) fd) : FnRef P w K mg base 3 (He.ma K (clsA K 13) (Str.ofString "__init__")) fd [(Str.ofString "self"), (Str.ofString "signs"), (Str.ofString "rows"), (Str.ofString "first"), (Str.ofString "ends")] m_Machine___init__ :=
  FnRef.pure (fnref (k := 2) (b := b_Machine___init__) (N := N_Machine___init__) F sc_Machine___init__ fun cdv A outer s H E hr =>
    (rss_cons (rs_expr (re_cal (ok_look_signs h) (Room.mono hr (by decide)) rfl takesC (ra_cons (re_sv 1) ra_nil) rk_nil))
    (rss_cons (rs_if (RW.rt (rw_or (rt_not (rt_val (re_isiT (T := "list") (tab := [(.non, false), (.bool, false), (.int, false), (.str, false), (.list, true), (.tuple, false), (.dict, false), (.ins 13, false), (.ins 19, false)]) (re_sv 2) rfl (h.free 0) rfl (h.free 12) (by decide +kernel) (h.fx_ 6) (ins_tab (h_ins h) (by rfl)) (exc_tab excs_nil (by rfl))))) (rw_or1 (rt_not (rt_chain o_leI o_leI re_int (re_callB (id := "len") c_len rfl (h.free 14) (by decide +kernel) (ra_cons (re_sv 2) ra_nil)) (re_gint rfl (h.int 46))))))) (rss_one (rs_raiseF (c := 5) rfl takesC (h.exc 4 5) (h.gloC 5 5) rfl)) rss_nil)
    (rss_cons (rs_for 100000 passC rfl (ri_any (re_sv 2)) (rg_name sc_Machine___init__.nd rfl (by first | exact .inl rfl | exact .inr rfl)) (rss_cons (rs_if (RW.rt (rw_or (rt_not (rt_val (re_isiT (T := "tuple") (tab := [(.non, false), (.bool, false), (.int, false), (.str, false), (.list, false), (.tuple, true), (.dict, false), (.ins 13, false), (.ins 19, false)]) (re_sv 5) rfl (h.free 0) rfl (h.free 19) (by decide +kernel) (h.fx_ 7) (ins_tab (h_ins h) (by rfl)) (exc_tab excs_nil (by rfl))))) (rw_or1 (rt_cmp (o_ne (Room.u64 hr)) (re_callB (id := "len") c_len rfl (h.free 14) (by decide +kernel) (ra_cons (re_sv 5) ra_nil)) (re_callB (id := "len") c_len rfl (h.free 14) (by decide +kernel) (ra_cons (re_sv 1) ra_nil)))))) (rss_one (rs_raiseF (c := 5) rfl takesC (h.exc 4 5) (h.gloC 5 5) rfl)) rss_nil)
    (rss_one (rs_if (rt_not (rt_val (re_callB (id := "all") (c_all rfl) rfl (h.free 36) (by decide +kernel) (ra_cons (re_lc 100000 (own := [("one", 7)]) rfl sc_Machine___init__.nd (blkOk_by (by kernel_rfl)) (ri_any (re_sv 5)) (fun _ _ _ _ _ => (rgw_name sc_Machine___init__.nd rfl (by first | exact .inl rfl | exact .inr rfl) (by decide))) (fun _ _ _ _ _ => rts_nil) (fun _ _ _ _ _ => (re_cal (ok_is_whole h) (Room.mono hr (by decide)) rfl (takesF rfl) (ra_cons (re_sv 7) (ra_cons re_int (ra_cons (re_bin o_sub (re_callB (id := "len") c_len rfl (h.free 14) (by decide +kernel) (ra_cons (re_sv 2) ra_nil)) re_int) ra_nil))) rk_nil))) ra_nil)))) (rss_one (rs_raiseF (c := 5) rfl takesC (h.exc 4 5) (h.gloC 5 5) rfl)) rss_nil))))
    (rss_cons (rs_if (rt_not (rt_val (re_cal (ok_is_whole h) (Room.mono hr (by decide)) rfl takesC (ra_cons (re_sv 3) (ra_cons re_int (ra_cons (re_bin o_sub (re_callB (id := "len") c_len rfl (h.free 14) (by decide +kernel) (ra_cons (re_sv 2) ra_nil)) re_int) ra_nil))) rk_nil))) (rss_one (rs_raiseF (c := 5) rfl takesC (h.exc 4 5) (h.gloC 5 5) rfl)) rss_nil)
    (rss_cons (rs_set (i := 6) sc_Machine___init__.nd rfl (by first | exact .inl rfl | exact .inr rfl) (re_and (re_isiTT (n1 := "list") (n2 := "tuple") (tab := [(.non, false), (.bool, false), (.int, false), (.str, false), (.list, true), (.tuple, true), (.dict, false), (.ins 13, false), (.ins 19, false)]) (re_sv 4) rfl (h.free 0) rfl (h.free 12) (by decide +kernel) rfl (h.free 19) (by decide +kernel) (h.fx_ 8) (ins_tab (h_ins h) (by rfl)) (fun _ => by rfl)) (re_one (re_callB (id := "all") (c_all rfl) rfl (h.free 36) (by decide +kernel) (ra_cons (re_lc 100000 (own := [("one", 7)]) rfl sc_Machine___init__.nd (blkOk_by (by kernel_rfl)) (ri_any (re_sv 4)) (fun _ _ _ _ _ => (rgw_name sc_Machine___init__.nd rfl (by first | exact .inl rfl | exact .inr rfl) (by decide))) (fun _ _ _ _ _ => rts_nil) (fun _ _ _ _ _ => (re_cal (ok_is_whole h) (Room.mono hr (by decide)) rfl (takesF rfl) (ra_cons (re_sv 7) (ra_cons re_int (ra_cons (re_bin o_sub (re_callB (id := "len") c_len rfl (h.free 14) (by decide +kernel) (ra_cons (re_sv 2) ra_nil)) re_int) ra_nil))) rk_nil))) ra_nil)))))
    (rss_cons (rs_if (RW.rt (rw_or (rt_not (rt_val (re_sv 6))) (rw_or1 (rt_cmp (o_ne (Room.u64 hr)) (re_sortSet rfl (re_sv 4) rfl (h.free 37) rfl (h.free 38)) (re_callTy (T := "list") c_list rfl (h.free 12) (by decide +kernel) (ra_cons (re_sv 4) ra_nil)))))) (rss_one (rs_raiseF (c := 5) rfl takesC (h.exc 4 5) (h.gloC 5 5) rfl)) rss_nil)
    (rss_cons (rs_setFld (i := 23) (re_sv 0) (re_sv 1) rfl (flds_cons (He.cls_ok (h.c.fact 1 (f := .cls "Machine") rfl)) (He.noat_ok (h.c.fact 22 (f := .noat "Machine" "signs") rfl)) flds_nil))
    (rss_cons (rs_setFld (i := 24) (re_sv 0) (re_callTy (T := "list") c_list rfl (h.free 12) (by decide +kernel) (ra_cons (re_sv 2) ra_nil)) rfl (flds_cons (He.cls_ok (h.c.fact 1 (f := .cls "Machine") rfl)) (He.noat_ok (h.c.fact 21 (f := .noat "Machine" "rows") rfl)) flds_nil))
    (rss_cons (rs_setFld (i := 25) (re_sv 0) (re_sv 3) rfl (flds_cons (He.cls_ok (h.c.fact 1 (f := .cls "Machine") rfl)) (He.noat_ok (h.c.fact 28 (f := .noat "Machine" "first") rfl)) flds_nil))
    (rss_one (rs_setFld (i := 26) (re_sv 0) (re_lc 100000 (own := [("room", 8)]) rfl sc_Machine___init__.nd (blkOk_by (by kernel_rfl)) (ri_range1 rfl (h.free 18) (ra_cons (re_callB (id := "len") c_len rfl (h.free 14) (by decide +kernel) (ra_cons (re_sv 2) ra_nil)) ra_nil)) (fun _ _ _ _ _ => (rgw_name sc_Machine___init__.nd rfl (by first | exact .inl rfl | exact .inr rfl) (by decide))) (fun _ _ _ _ _ => rts_nil) (fun _ _ _ _ _ => (re_cmp (o_in (Room.u65 hr)) (re_sv 8) (re_sv 4)))) rfl (flds_cons (He.cls_ok (h.c.fact 1 (f := .cls "Machine") rfl)) (He.noat_ok (h.c.fact 30 (f := .noat "Machine" "stops") rfl)) flds_nil)))))))))))))
theorem okN_Machine_0 (h : Fc fx fa fn K mg base) : CalN P w K mg base 3 13 (Str.ofString "Machine") [(Str.ofString "self"), (Str.ofString "signs"), (Str.ofString "rows"), (Str.ofString "first"), (Str.ofString "ends")] 2 [(Str.ofString "first"), (Str.ofString "ends")] (fun ds es => ds ++ (es.take 2 ++ ([] ++ es.drop 2))) m_Machine___init__ := by
  obtain ⟨fd, F⟩ := h.c.def_ 13 (d := d_Machine___init__) rfl
  have F : FunD K (Str.ofString "__init__") (Str.ofString "Machine.__init__") (defArgs st_Machine___init__) (defBody st_Machine___init__) (defScope st_Machine___init__) [] [((Str.ofString "first"), .int 0), ((Str.ofString "ends"), .ref (adOf (kwval "Machine" "__init__" "ends") K))] (He.ma K (clsA K 13) (Str.ofString "__init__")) fd := F
  exact ⟨fd, fr_Machine___init__ h F, (bindD_kd (ps := [(Str.ofString "self"), (Str.ofString "signs"), (Str.ofString "rows"), (Str.ofString "first"), (Str.ofString "ends")]) (ks := [(Str.ofString "first"), (Str.ofString "ends")]) 3 2 [] [] F (by simp) (by simp) (fun mp H => .nil) rfl (fun _ _ _ _ _ _ us mv ws h1 h2 h3 => match us, mv, ws, h1, h2, h3 with | [_, _, _], [], [_, _], _, _, _ => rfl)), He.mkr_ok (h.c.fact 56 (f := .mkr "Machine") rfl), h.gloC 3 13⟩
theorem sc__law_build : FnScope N__law_build [(Str.ofString "raw")] (defScope st__law_build) := C8.fnScope_by (by kernel_rfl)
theorem ok__law_build (h : Fc fx fa fn K mg base) : Cal P w K mg base 5 (Str.ofString "_law_build") [(Str.ofString "raw")] 1 [] gd0 m__law_build := by
  obtain ⟨fd, F⟩ := h.c.def_ 14 (d := d__law_build) rfl
  have F : FunD K (Str.ofString "_law_build") (Str.ofString "_law_build") (defArgs st__law_build) (defBody st__law_build) (defScope st__law_build) [] [] (He.ga K (Str.ofString "_law_build")) fd := F
  exact cal_of (k := 4) (b := b__law_build) (N := N__law_build) F (h.glo 47) sc__law_build (bindD_no (ps := [(Str.ofString "raw")]) F fun _ _ _ _ _ _ us hl => match us, hl with | [_], _ => rfl) fun cdv A outer s H E hr =>
    (rss_cons (rs_asg (re_sv 0) (rg_tup rfl (rgs_cons (rg_name sc__law_build.nd rfl (by first | exact .inl rfl | exact .inr rfl)) (rgs_cons (rg_name sc__law_build.nd rfl (by first | exact .inl rfl | exact .inr rfl)) (rgs_cons (rg_name sc__law_build.nd rfl (by first | exact .inl rfl | exact .inr rfl)) (rgs_cons (rg_name sc__law_build.nd rfl (by first | exact .inl rfl | exact .inr rfl)) rgs_nil))))))
    (rss_one (rs_ret (re_makeC (okN_Machine_0 h) (Room.mono hr (by decide)) rfl takesC (ra_cons (re_sv 1) (ra_cons (re_callTy (T := "list") c_list rfl (h.free 12) (by decide +kernel) (ra_cons (re_sv 2) ra_nil)) ra_nil)) (rk_cons (re_sv 3) (rk_cons (re_sv 4) rk_nil))))))
theorem sc_Finder_longest : FnScope N_Finder_longest [(Str.ofString "self")] (defScope st_Finder_longest) := C8.fnScope_by (by kernel_rfl)
theorem fr_Finder_longest (h : Fc fx fa fn K mg base) {fd : FuncData} (F : FunD K (Str.ofString "longest") (Str.ofString "Finder.longest") (defArgs st_Finder_longest) (defBody st_Finder_longest) (defScope st_Finder_longest) [] [] (He.ma K (clsA K 19) (Str.ofString "longest")) fd) : FnRef P w K mg base 1 (He.ma K (clsA K 19) (Str.ofString "longest")) fd [(Str.ofString "self")] m_Finder_longest :=
  FnRef.pure (fnref (k := 0) (b := b_Finder_longest) (N := N_Finder_longest) F sc_Finder_longest fun cdv A outer s H E hr =>
    (rss_cons (rs_lock (rs_setLc 100000 (i := 1) (own := [("room", 2)]) rfl sc_Finder_longest.nd rfl rfl (sw_true rfl rfl rfl rfl) (blkOk_by (by kernel_rfl)) (ri_keys (re_fld (i := 42) (re_sv 0) rfl (flds_cons (He.cls_ok (h.c.fact 2 (f := .cls "Finder") rfl)) (He.noat_ok (h.c.fact 9 (f := .noat "Finder" "first_at") rfl)) flds_nil))) (fun _ _ _ _ _ => (rgw_name sc_Finder_longest.nd rfl (by first | exact .inl rfl | exact .inr rfl) (by decide))) (fun _ _ _ _ _ => (rts_one (rt_val (re_ix (re_fld (i := 26) (re_fld (i := 32) (re_sv 0) rfl (flds_cons (He.cls_ok (h.c.fact 2 (f := .cls "Finder") rfl)) (He.noat_ok (h.c.fact 7 (f := .noat "Finder" "machine") rfl)) flds_nil)) rfl (flds_cons (He.cls_ok (h.c.fact 1 (f := .cls "Machine") rfl)) (He.noat_ok (h.c.fact 30 (f := .noat "Machine" "stops") rfl)) flds_nil)) (re_sv 2))))) (fun _ _ _ _ _ => (re_dget (Room.u64 hr) (re_fld (i := 42) (re_sv 0) rfl (flds_cons (He.cls_ok (h.c.fact 2 (f := .cls "Finder") rfl)) (He.noat_ok (h.c.fact 9 (f := .noat "Finder" "first_at") rfl)) flds_nil)) (re_sv 2)))))
    (rss_one (rs_ret (re_if (rt_cmp (o_ne (Room.u64 hr)) (re_sv 1) (re_lst ra_nil)) (re_callB (id := "min") (c_minL rfl) rfl (h.free 29) (by decide +kernel) (ra_cons (re_sv 1) ra_nil)) re_non)))))
theorem ok_Finder_longest (h : Fc fx fa fn K mg base) : CalM P w K mg base 1 19 (Str.ofString "longest") [(Str.ofString "self")] m_Finder_longest := by
  obtain ⟨fd, F⟩ := h.c.def_ 15 (d := d_Finder_longest) rfl
  have F : FunD K (Str.ofString "longest") (Str.ofString "Finder.longest") (defArgs st_Finder_longest) (defBody st_Finder_longest) (defScope st_Finder_longest) [] [] (He.ma K (clsA K 19) (Str.ofString "longest")) fd := F
  exact ⟨fd, fr_Finder_longest h F, F.bindsN (fun _ _ _ _ _ _ us hl => match us, hl with | [_], _ => rfl), He.cls_ok (h.c.fact 2 (f := .cls "Finder") rfl), He.meth_ok (h.c.fact 48 (f := .meth "Finder" "longest") rfl)⟩
theorem sc_Finder_all_found : FnScope N_Finder_all_found [(Str.ofString "self")] (defScope st_Finder_all_found) := C8.fnScope_by (by kernel_rfl)
theorem fr_Finder_all_found (h : Fc fx fa fn K mg base) {fd : FuncData} (F : FunD K (Str.ofString "all_found") (Str.ofString "Finder.all_found") (defArgs st_Finder_all_found) (defBody st_Finder_all_found) (defScope st_Finder_all_found) [] [] (He.ma K (clsA K 19) (Str.ofString "all_found")) fd) : FnRef P w K mg base 1 (He.ma K (clsA K 19) (Str.ofString "all_found")) fd [(Str.ofString "self")] m_Finder_all_found :=
  FnRef.pure (fnref (k := 0) (b := b_Finder_all_found) (N := N_Finder_all_found) F sc_Finder_all_found fun cdv A outer s H E hr =>
    (rss_one (rs_ret (re_fld (i := 44) (re_sv 0) rfl (flds_cons (He.cls_ok (h.c.fact 2 (f := .cls "Finder") rfl)) (He.noat_ok (h.c.fact 11 (f := .noat "Finder" "found") rfl)) flds_nil)))))
theorem ok_Finder_all_found (h : Fc fx fa fn K mg base) : CalM P w K mg base 1 19 (Str.ofString "all_found") [(Str.ofString "self")] m_Finder_all_found := by
  obtain ⟨fd, F⟩ := h.c.def_ 16 (d := d_Finder_all_found) rfl
  have F : FunD K (Str.ofString "all_found") (Str.ofString "Finder.all_found") (defArgs st_Finder_all_found) (defBody st_Finder_all_found) (defScope st_Finder_all_found) [] [] (He.ma K (clsA K 19) (Str.ofString "all_found")) fd := F
  exact ⟨fd, fr_Finder_all_found h F, F.bindsN (fun _ _ _ _ _ _ us hl => match us, hl with | [_], _ => rfl), He.cls_ok (h.c.fact 2 (f := .cls "Finder") rfl), He.meth_ok (h.c.fact 49 (f := .meth "Finder" "all_found") rfl)⟩
theorem sc__law_room : FnScope N__law_room [(Str.ofString "raw"), (Str.ofString "word")] (defScope st__law_room) := C8.fnScope_by (by kernel_rfl)
theorem ok__law_room (h : Fc fx fa fn K mg base) : Cal P w K mg base 1 (Str.ofString "_law_room") [(Str.ofString "raw"), (Str.ofString "word")] 2 [] gd0 m__law_room := by
  obtain ⟨fd, F⟩ := h.c.def_ 17 (d := d__law_room) rfl
  have F : FunD K (Str.ofString "_law_room") (Str.ofString "_law_room") (defArgs st__law_room) (defBody st__law_room) (defScope st__law_room) [] [] (He.ga K (Str.ofString "_law_room")) fd := F
  exact cal_of (k := 0) (b := b__law_room) (N := N__law_room) F (h.glo 50) sc__law_room (bindD_no (ps := [(Str.ofString "raw"), (Str.ofString "word")]) F fun _ _ _ _ _ _ us hl => match us, hl with | [_, _], _ => rfl) fun cdv A outer s H E hr =>
    (rss_cons (rs_set (i := 2) sc__law_room.nd rfl (by first | exact .inl rfl | exact .inr rfl) (re_ix (re_sv 0) re_int))
    (rss_cons (rs_for 100000 passC rfl (ri_any (re_sv 1)) (rg_name sc__law_room.nd rfl (by first | exact .inl rfl | exact .inr rfl)) (rss_one (rs_set (i := 2) sc__law_room.nd rfl (by first | exact .inl rfl | exact .inr rfl) (re_ix (re_ix (re_ix (re_sv 0) re_int) (re_sv 2)) (re_alt (re_bmR (T := "str") (id := "str.index") m_sindex PySem.F.plainAttrs_str PySem.F.slot_str_index (re_ix (re_sv 0) re_int) (ra_cons (re_sv 3) ra_nil)) (re_bmR (T := "list") (id := "list.index") m_lindex PySem.F.plainAttrs_list PySem.F.slot_list_index (re_ix (re_sv 0) re_int) (ra_cons (re_sv 3) ra_nil)))))))
    (rss_one (rs_ret (re_sv 2)))))
theorem sc__law_lets : FnScope N__law_lets [(Str.ofString "raw"), (Str.ofString "word")] (defScope st__law_lets) := C8.fnScope_by (by kernel_rfl)
theorem ok__law_lets (h : Fc fx fa fn K mg base) : Cal P w K mg base 2 (Str.ofString "_law_lets") [(Str.ofString "raw"), (Str.ofString "word")] 2 [] gd0 m__law_lets := by
  obtain ⟨fd, F⟩ := h.c.def_ 18 (d := d__law_lets) rfl
  have F : FunD K (Str.ofString "_law_lets") (Str.ofString "_law_lets") (defArgs st__law_lets) (defBody st__law_lets) (defScope st__law_lets) [] [] (He.ga K (Str.ofString "_law_lets")) fd := F
  exact cal_of (k := 1) (b := b__law_lets) (N := N__law_lets) F (h.glo 51) sc__law_lets (bindD_no (ps := [(Str.ofString "raw"), (Str.ofString "word")]) F fun _ _ _ _ _ _ us hl => match us, hl with | [_, _], _ => rfl) fun cdv A outer s H E hr =>
    (rss_one (rs_ret (re_cmp (o_in (Room.u65 hr)) (re_cal (ok__law_room h) (Room.mono hr (by decide)) rfl takesC (ra_cons (re_sv 0) (ra_cons (re_sv 1) ra_nil)) rk_nil) (re_ix (re_sv 0) re_int))))
theorem sc__law_whole : FnScope N__law_whole [(Str.ofString "thing")] (defScope st__law_whole) := C8.fnScope_by (by kernel_rfl)
theorem ok__law_whole (h : Fc fx fa fn K mg base) : Cal P w K mg base 1 (Str.ofString "_law_whole") [(Str.ofString "thing")] 1 [] gd0 m__law_whole := by
  obtain ⟨fd, F⟩ := h.c.def_ 19 (d := d__law_whole) rfl
  have F : FunD K (Str.ofString "_law_whole") (Str.ofString "_law_whole") (defArgs st__law_whole) (defBody st__law_whole) (defScope st__law_whole) [] [] (He.ga K (Str.ofString "_law_whole")) fd := F
  exact cal_of (k := 0) (b := b__law_whole) (N := N__law_whole) F (h.glo 52) sc__law_whole (bindD_no (ps := [(Str.ofString "thing")]) F fun _ _ _ _ _ _ us hl => match us, hl with | [_], _ => rfl) fun cdv A outer s H E hr =>
    (rss_one (rs_ret (re_and (re_isiT (T := "int") (tab := [(.non, false), (.bool, true), (.int, true), (.str, false), (.list, false), (.tuple, false), (.dict, false), (.ins 13, false), (.ins 19, false)]) (re_sv 0) rfl (h.free 0) rfl (h.free 43) (by decide +kernel) (h.fx_ 4) (ins_tab (h_ins h) (by rfl)) (exc_tab excs_nil (by rfl))) (re_one (re_not (re_isiT (T := "bool") (tab := [(.non, false), (.bool, true), (.int, false), (.str, false), (.list, false), (.tuple, false), (.dict, false), (.ins 13, false), (.ins 19, false)]) (re_sv 0) rfl (h.free 0) rfl (h.free 44) (by decide +kernel) (h.fx_ 5) (ins_tab (h_ins h) (by rfl)) (exc_tab excs_nil (by rfl))))))))
theorem sc_law : FnScope N_law [(Str.ofString "script")] (defScope st_law) := C8.fnScope_by (by kernel_rfl)
theorem fr_law (h : Fc fx fa fn K mg base) {fd : FuncData} (F : FunD K (Str.ofString "law") (Str.ofString "law") (defArgs st_law) (defBody st_law) (defScope st_law) [] [] (He.ga K (Str.ofString "law")) fd) : FnRef P w K mg base 6 (He.ga K (Str.ofString "law")) fd [(Str.ofString "script")] m_law :=
  FnRef.pure (fnref (k := 5) (b := b_law) (N := N_law) F sc_law fun cdv A outer s H E hr =>
    (rss_cons (rs_set (i := 1) sc_law.nd rfl (by first | exact .inl rfl | exact .inr rfl) (re_cal (ok__law_town h) (Room.mono hr (by decide)) rfl takesC (ra_cons (re_sv 0) ra_nil) rk_nil))
    (rss_cons (rs_set (i := 2) sc_law.nd rfl (by first | exact .inl rfl | exact .inr rfl) (re_cal (ok__law_alphabet h) (Room.mono hr (by decide)) rfl takesC (ra_cons (re_sv 1) ra_nil) rk_nil))
    (rss_cons (rs_set (i := 3) sc_law.nd rfl (by first | exact .inl rfl | exact .inr rfl) (re_cal (ok__law_raw h) (Room.mono hr (by decide)) rfl takesC (ra_cons (re_sv 1) (ra_cons (re_sv 2) (ra_cons re_int ra_nil))) rk_nil))
    (rss_cons (rs_set (i := 4) sc_law.nd rfl (by first | exact .inl rfl | exact .inr rfl) (re_makeC (okN_Finder_0 h) (Room.mono hr (by decide)) rfl takesC (ra_cons (re_cal (ok__law_build h) (Room.mono hr (by decide)) rfl takesC (ra_cons (re_sv 3) ra_nil) rk_nil) ra_nil) rk_nil))
    (rss_cons (rs_set (i := 5) sc_law.nd rfl (by first | exact .inl rfl | exact .inr rfl) (re_makeC (okN_Finder_0 h) (Room.mono hr (by decide)) rfl takesC (ra_cons (re_cal (ok__law_build h) (Room.mono hr (by decide)) rfl takesC (ra_cons (re_sv 3) ra_nil) rk_nil) ra_nil) rk_nil))
    (rss_cons (rs_set (i := 6) sc_law.nd rfl (by first | exact .inl rfl | exact .inr rfl) (re_str [] (by kernel_rfl)))
    (rss_cons (rs_set (i := 7) sc_law.nd rfl (by first | exact .inl rfl | exact .inr rfl) re_int)
    (rss_cons (rs_if (RW.rt (rw_or (rt_cmp o_isNot (re_methC0 (ok_Finder_longest h) (Room.mono hr (by decide)) takesC (nm_ne (by rfl) (by decide)) (re_sv 4)) re_non) (rw_or (rt_cmp (o_ne (Room.u64 hr)) (re_methC0 (ok_Finder_all_found h) (Room.mono hr (by decide)) takesC (nm_ne (by rfl) (by decide)) (re_sv 4)) re_int) (rw_or1 (rt_cmp (o_ne (Room.u64 hr)) (re_methC0 (ok_Finder_signs_came h) (Room.mono hr (by decide)) takesC (nm_ne (by rfl) (by decide)) (re_sv 4)) re_int))))) (rss_one (rs_ret re_bl)) rss_nil)
    (rss_cons (rs_for 100000 passC rfl (ri_range1 rfl (h.free 18) (ra_cons re_int ra_nil)) (rg_name sc_law.nd rfl (by first | exact .inl rfl | exact .inr rfl)) (rss_cons (rs_set (i := 9) sc_law.nd rfl (by first | exact .inl rfl | exact .inr rfl) (re_cal (ok__law_pick h) (Room.mono hr (by decide)) rfl takesC (ra_cons (re_sv 1) (ra_cons (re_sv 2) ra_nil)) rk_nil))
    (rss_cons (rs_set (i := 6) sc_law.nd rfl (by first | exact .inl rfl | exact .inr rfl) (re_bin o_add (re_sv 6) (re_sv 9)))
    (rss_cons (rs_setLc 100000 (i := 10) (own := [("k", 12)]) rfl sc_law.nd rfl rfl (sw_true rfl rfl rfl rfl) (blkOk_by (by kernel_rfl)) (ri_range1 rfl (h.free 18) (ra_cons (re_callB (id := "len") c_len rfl (h.free 14) (by decide +kernel) (ra_cons (re_sv 6) ra_nil)) ra_nil)) (fun _ _ _ _ _ => (rgw_name sc_law.nd rfl (by first | exact .inl rfl | exact .inr rfl) (by decide))) (fun _ _ _ _ _ => (rts_one (rt_val (re_cal (ok__law_lets h) (Room.mono hr (by decide)) rfl (takesF rfl) (ra_cons (re_sv 3) (ra_cons (re_slice (re_sv 6) (ro_some (re_sv 12)) ro_none) ra_nil)) rk_nil)))) (fun _ _ _ _ _ => (re_sv 12)))
    (rss_cons (rs_set (i := 11) sc_law.nd rfl (by first | exact .inl rfl | exact .inr rfl) (re_methC (ok_Finder_push h) (Room.mono hr (by decide)) takesC (nm_ne (by rfl) (by decide)) (re_sv 4) (ra_cons (re_sv 9) ra_nil)))
    (rss_cons (rs_set (i := 7) sc_law.nd rfl (by first | exact .inl rfl | exact .inr rfl) (re_bin o_add (re_sv 7) (re_callB (id := "len") c_len rfl (h.free 14) (by decide +kernel) (ra_cons (re_sv 10) ra_nil))))
    (rss_cons (rs_if (RW.rt (rw_or (rt_cmp (o_ne (Room.u64 hr)) (re_sv 11) (re_callB (id := "len") c_len rfl (h.free 14) (by decide +kernel) (ra_cons (re_sv 10) ra_nil))) (rw_or (rt_not (rt_val (re_cal (ok__law_whole h) (Room.mono hr (by decide)) rfl takesC (ra_cons (re_sv 11) ra_nil) rk_nil))) (rw_or (rt_cmp (o_ne (Room.u64 hr)) (re_methC0 (ok_Finder_all_found h) (Room.mono hr (by decide)) takesC (nm_ne (by rfl) (by decide)) (re_sv 4)) (re_sv 7)) (rw_or1 (rt_cmp (o_ne (Room.u64 hr)) (re_methC0 (ok_Finder_signs_came h) (Room.mono hr (by decide)) takesC (nm_ne (by rfl) (by decide)) (re_sv 4)) (re_callB (id := "len") c_len rfl (h.free 14) (by decide +kernel) (ra_cons (re_sv 6) ra_nil)))))))) (rss_one (rs_ret re_bl)) rss_nil)
    (rss_cons (rs_if (rt_cmp (o_ne (Room.u64 hr)) (re_methC0 (ok_Finder_longest h) (Room.mono hr (by decide)) takesC (nm_ne (by rfl) (by decide)) (re_sv 4)) (re_if (rt_cmp (o_ne (Room.u64 hr)) (re_sv 10) (re_lst ra_nil)) (re_ix (re_sv 10) re_int) re_non)) (rss_one (rs_ret re_bl)) rss_nil)
    (rss_one (rs_if (rt_cmp (o_eq (Room.u64 hr)) (re_cal (ok__law_draw h) (Room.mono hr (by decide)) rfl takesC (ra_cons (re_sv 1) (ra_cons re_int ra_nil)) rk_nil) re_int) (rss_one (rs_expr (re_methC (ok_Finder_push h) (Room.mono hr (by decide)) takesC (nm_ne (by rfl) (by decide)) (re_sv 5) (ra_cons (re_sv 9) ra_nil)))) rss_nil))))))))))
    (rss_one (rs_ret (re_cmp o_leI (re_methC0 (ok_Finder_signs_came h) (Room.mono hr (by decide)) takesC (nm_ne (by rfl) (by decide)) (re_sv 5)) (re_callB (id := "len") c_len rfl (h.free 14) (by decide +kernel) (ra_cons (re_sv 6) ra_nil)))))))))))))))
end
end Lw
set_option Elab.async false
set_option linter.all false
set_option maxRecDepth 100000
set_option maxHeartbeats 400000
set_option autoImplicit false
/-! dicts of numbers: counts, first places. -/
namespace Rf
open PySem PySem.Spec L2
abbrev KVs := List (Nat × Nat)
def cD (kv : KVs) : List (D × D) := kv.map fun p => (.int p.1, .int p.2)
def lk (kv : KVs) (r : Nat) : Option Nat := (kv.find? fun p => decide (p.1 = r)).map (·.2)
def pt (kv : KVs) (r v : Nat) : KVs := if (kv.any fun p => decide (p.1 = r)) = true then kv.map (fun p => if p.1 = r then (p.1, v) else p) else kv ++ [(r, v)]
theorem cD_get (kv : KVs) (r : Nat) : getK (cD kv) (.int r) = (lk kv r).map fun (v : Nat) => .int v := by
  unfold getK cD lk
  induction kv with
  | nil => rfl
  | cons p t ih =>
    rw [List.map_cons, List.find?_cons, List.find?_cons, eqY_nat]
    by_cases h : p.1 = r
    · simp [h]
    · simp only [h, decide_false]
      exact ih
theorem cD_any (kv : KVs) (r : Nat) : ((cD kv).any fun p => eqY p.1 (.int r)) = kv.any fun p => decide (p.1 = r) := by
  unfold cD
  rw [List.any_map]
  congr 1
  funext p
  exact eqY_nat _ _
theorem cD_put (kv : KVs) (r v : Nat) : putD (cD kv) (.int r) (.int v) = cD (pt kv r v) := by
  unfold putD pt
  rw [cD_any]
  split
  · unfold cD
    rw [List.map_map, List.map_map]
    refine List.map_congr_left fun p _ => ?_
    simp only [Function.comp, eqY_nat, decide_eq_true_eq]
    split <;> rfl
  · unfold cD; simp
theorem lk_any {kv : KVs} {r : Nat} : (kv.any fun p => decide (p.1 = r)) = (lk kv r).isSome := by
  unfold lk
  rw [Option.isSome_map]
  induction kv with
  | nil => rfl
  | cons p t ih =>
    rw [List.any_cons, List.find?_cons]
    by_cases h : p.1 = r <;> simp [h]
    simpa using ih
theorem lk_pt (kv : KVs) (r v x : Nat) : lk (pt kv r v) x = if x = r then some v else lk kv x := by
  unfold pt
  split
  · rename_i h
    induction kv with
    | nil => simp at h
    | cons p t ih =>
      unfold lk at *
      rw [List.map_cons, List.find?_cons, List.find?_cons]
      by_cases hp : p.1 = r
      · by_cases hx : x = r
        · simp [hp, hx]
        · have : ¬ p.1 = x := fun z => hx (by omega)
          simp only [hp, if_true]
          have hx' : ¬ r = x := fun z => hx z.symm
          simp only [hx', decide_false, hx, if_false]
          by_cases ht : (t.any fun p => decide (p.1 = r)) = true
          · have := ih ht
            simp only [hx, if_false] at this
            exact this
          · congr 1
            have e : t.map (fun p => if p.1 = r then (p.1, v) else p) = t := by
              conv => rhs; rw [← List.map_id t]
              refine List.map_congr_left fun q hq => ?_
              have : ¬ q.1 = r := fun z => ht (List.any_eq_true.mpr ⟨q, hq, decide_eq_true z⟩)
              simp [this]
            rw [e]
      · rw [List.any_cons] at h
        have ht : (t.any fun p => decide (p.1 = r)) = true := by simpa [hp] using h
        have := ih ht
        simp only [hp, if_false]
        by_cases hx : p.1 = x
        · have : ¬ x = r := fun z => hp (by omega)
          simp [hx, this]
        · simp only [hx, decide_false]
          exact this
  · rename_i h
    have hn : lk kv r = none := by
      have := lk_any (kv := kv) (r := r)
      rw [Bool.not_eq_true] at h
      rw [h] at this
      cases e : lk kv r with
      | none => rfl
      | some _ => rw [e] at this; cases this
    unfold lk at *
    rw [List.find?_append]
    by_cases hx : x = r
    · subst hx
      cases e : kv.find? fun p => decide (p.1 = x) with
      | none => simp
      | some p => rw [e] at hn; cases hn
    · have : ¬ r = x := fun z => hx z.symm
      cases e : kv.find? fun p => decide (p.1 = x) with
      | none => simp [this, hx]
      | some p => simp [hx]
def keysN (kv : KVs) : List Nat := kv.map (·.1)
theorem lk_none {kv : KVs} {r : Nat} : lk kv r = none ↔ r ∉ keysN kv := by
  have := lk_any (kv := kv) (r := r)
  constructor
  · intro h z
    rw [h] at this
    obtain ⟨p, hp, rfl⟩ := List.mem_map.mp z
    have : (kv.any fun q => decide (q.1 = p.1)) = true := List.any_eq_true.mpr ⟨p, hp, by simp⟩
    simp_all
  · intro h
    cases e : lk kv r with
    | none => rfl
    | some v =>
      rw [e] at this
      obtain ⟨p, hp, hq⟩ := List.any_eq_true.mp this
      exact absurd (List.mem_map.mpr ⟨p, hp, of_decide_eq_true hq⟩) h
theorem keys_pt (kv : KVs) (r v : Nat) : keysN (pt kv r v) = if r ∈ keysN kv then keysN kv else keysN kv ++ [r] := by
  unfold pt keysN
  split
  · rename_i h
    obtain ⟨p, hp, hq⟩ := List.any_eq_true.mp h
    rw [if_pos (List.mem_map.mpr ⟨p, hp, of_decide_eq_true hq⟩), List.map_map]
    refine List.map_congr_left fun q _ => ?_
    simp only [Function.comp]
    split <;> rfl
  · rename_i h
    rw [if_neg (fun z => by
      obtain ⟨p, hp, hq⟩ := List.mem_map.mp z
      exact h (List.any_eq_true.mpr ⟨p, hp, decide_eq_true hq⟩))]
    simp
theorem nd_pt {kv : KVs} {r v : Nat} (h : (keysN kv).Nodup) : (keysN (pt kv r v)).Nodup := by
  rw [keys_pt]
  split
  · exact h
  · rename_i hr
    refine List.nodup_append.mpr ⟨h, by simp, fun a ha b hb z => ?_⟩
    have : b = r := by simpa using hb
    subst this; subst z; exact hr ha
theorem lk_mem {kv : KVs} (nd : (keysN kv).Nodup) {p : Nat × Nat} (hp : p ∈ kv) : lk kv p.1 = some p.2 := by
  induction kv with
  | nil => simp at hp
  | cons q t ih =>
    unfold keysN at nd
    rw [List.map_cons, List.nodup_cons] at nd
    unfold lk
    rw [List.find?_cons]
    rcases List.mem_cons.mp hp with z | z
    · subst z; simp
    · have : ¬ q.1 = p.1 := fun e => nd.1 (List.mem_map.mpr ⟨p, z, e.symm⟩)
      simp only [this, decide_false]
      exact ih nd.2 z
/-! ### all that is counted -/
def Ex (kv : KVs) : List Nat := kv.flatMap fun p => List.replicate p.2 p.1
theorem ex_pt {kv : KVs} (nd : (keysN kv).Nodup) (r n : Nat) : (Ex (pt kv r ((lk kv r).getD 0 + n))).Perm (Ex kv ++ List.replicate n r) := by
  by_cases h : r ∈ keysN kv
  · obtain ⟨p, hp, hr⟩ := List.mem_map.mp h
    have hl := lk_mem nd hp
    rw [hr] at hl
    rw [hl]
    have ha : (kv.any fun p => decide (p.1 = r)) = true := List.any_eq_true.mpr ⟨p, hp, decide_eq_true hr⟩
    unfold pt
    rw [if_pos ha]
    simp only [Option.getD_some]
    clear ha hl h
    induction kv with
    | nil => simp at hp
    | cons q t ih =>
      unfold keysN at nd
      rw [List.map_cons, List.nodup_cons] at nd
      unfold Ex at *
      rw [List.map_cons, List.flatMap_cons, List.flatMap_cons]
      rcases List.mem_cons.mp hp with z | z
      · subst z
        have e : t.map (fun s => if s.1 = r then (s.1, p.2 + n) else s) = t := by
          conv => rhs; rw [← List.map_id t]
          refine List.map_congr_left fun s hs => ?_
          have : ¬ s.1 = r := fun w => nd.1 (List.mem_map.mpr ⟨s, hs, by rw [w, hr]⟩)
          simp [this]
        rw [e, if_pos hr]
        simp only [hr]
        rw [← List.replicate_append_replicate, List.append_assoc, List.append_assoc]
        exact List.Perm.append_left _ List.perm_append_comm
      · have : ¬ q.1 = r := fun w => nd.1 (List.mem_map.mpr ⟨p, z, by rw [hr, w]⟩)
        rw [if_neg this, List.append_assoc]
        exact List.Perm.append_left _ (ih nd.2 z)
  · have hl := lk_none.mpr h
    rw [hl]
    unfold pt
    rw [if_neg (by rw [lk_any, hl]; simp)]
    unfold Ex
    rw [List.flatMap_append]
    simp
theorem ex_filter (kv : KVs) (b : Nat → Bool) : ((kv.filter fun p => b p.1).map (·.2)).sum = ((Ex kv).filter b).length := by
  unfold Ex
  induction kv with
  | nil => rfl
  | cons p t ih =>
    rw [List.flatMap_cons, List.filter_append, List.length_append, List.filter_cons]
    cases h : b p.1 with
    | true =>
      rw [if_pos rfl, List.map_cons, List.sum_cons, ih, List.filter_replicate, if_pos h, List.length_replicate]
    | false =>
      rw [if_neg (by simp), ih, List.filter_replicate, if_neg (by simp [h])]
      simp
/-- each entry led on -/
def ledC (g : Nat → Nat) (kv acc : KVs) : KVs := kv.foldl (fun acc p => pt acc (g p.1) ((lk acc (g p.1)).getD 0 + p.2)) acc
theorem ledC_ok (g : Nat → Nat) : ∀ (kv acc : KVs), (keysN acc).Nodup → (keysN (ledC g kv acc)).Nodup ∧ (Ex (ledC g kv acc)).Perm (Ex acc ++ (Ex kv).map g)
  | [], acc, nd => ⟨nd, by simp [ledC, Ex]⟩
  | p :: t, acc, nd => by
    obtain ⟨h1, h2⟩ := ledC_ok g t (pt acc (g p.1) ((lk acc (g p.1)).getD 0 + p.2)) (nd_pt nd)
    refine ⟨h1, h2.trans ?_⟩
    have e : (Ex (p :: t)).map g = List.replicate p.2 (g p.1) ++ (Ex t).map g := by
      unfold Ex
      rw [List.flatMap_cons, List.map_append, List.map_replicate]
    rw [e, ← List.append_assoc]
    exact List.Perm.append_right _ (ex_pt nd _ _)
/-! ### first places -/
def IsFst (l : List Nat) (r v : Nat) : Prop := l[v]? = some r ∧ ∀ j, j < v → l[j]? ≠ some r
theorem isFst_of {l : List Nat} {r : Nat} (h : r ∈ l) : ∃ v, v < l.length ∧ IsFst l r v := by
  obtain ⟨j, hj⟩ := List.getElem?_of_mem h
  have key : ∀ (n j : Nat), j ≤ n → l[j]? = some r → ∃ v, IsFst l r v := by
    intro n
    induction n with
    | zero => intro j hj e; have : j = 0 := by omega
              subst this; exact ⟨0, e, fun j hj => by omega⟩
    | succ n ih =>
      intro j hj e
      by_cases hx : ∃ i, i < j ∧ l[i]? = some r
      · obtain ⟨i, hi, e2⟩ := hx
        exact ih i (by omega) e2
      · exact ⟨j, e, fun i hi e2 => hx ⟨i, hi, e2⟩⟩
  obtain ⟨v, hv⟩ := key j j (Nat.le_refl _) hj
  exact ⟨v, (List.getElem?_eq_some_iff.mp hv.1).1, hv⟩
theorem isFst_uniq {l : List Nat} {r v w : Nat} (h1 : IsFst l r v) (h2 : IsFst l r w) : v = w := by
  rcases Nat.lt_trichotomy v w with h | h | h
  · exact absurd h1.1 (h2.2 v h)
  · exact h
  · exact absurd h2.1 (h1.2 w h)
structure Fst (kv : KVs) (l : List Nat) : Prop where
  yes : ∀ r, r ∈ l → ∃ v, lk kv r = some v ∧ IsFst l r v
  no : ∀ r, r ∉ l → lk kv r = none
def mn2 (a b : Nat) : Nat := if b < a then b else a
/-- one more begins -/
theorem fst_snoc {kv : KVs} {l : List Nat} {f : Nat} (F : Fst kv l) : Fst (pt kv f (mn2 ((lk kv f).getD l.length) l.length)) (l ++ [f]) := by
  have old : ∀ {r v}, IsFst l r v → IsFst (l ++ [f]) r v := fun {r v} h => by
    have hv := (List.getElem?_eq_some_iff.mp h.1).1
    exact ⟨by rw [List.getElem?_append_left hv]; exact h.1, fun j hj => by rw [List.getElem?_append_left (by omega)]; exact h.2 j hj⟩
  refine ⟨fun r hr => ?_, fun r hr => ?_⟩
  · rw [lk_pt]
    by_cases hf : r = f
    · subst hf
      rw [if_pos rfl]
      refine ⟨_, rfl, ?_⟩
      by_cases hm : r ∈ l
      · obtain ⟨v, h1, h2⟩ := F.yes r hm
        have hv := (List.getElem?_eq_some_iff.mp h2.1).1
        rw [h1]
        have : mn2 ((some v).getD l.length) l.length = v := by unfold mn2; simp; omega
        rw [this]; exact old h2
      · rw [F.no r hm]
        have : mn2 ((none : Option Nat).getD l.length) l.length = l.length := by unfold mn2; simp
        rw [this]
        exact ⟨by simp, fun j hj => by
          rw [List.getElem?_append_left hj]
          intro z; exact hm (List.mem_of_getElem? z)⟩
    · rw [if_neg hf]
      have hm : r ∈ l := by
        rcases List.mem_append.mp hr with z | z
        · exact z
        · exact absurd (by simpa using z) hf
      obtain ⟨v, h1, h2⟩ := F.yes r hm
      exact ⟨v, h1, old h2⟩
  · rw [lk_pt, if_neg (fun z => hr (by simp [z]))]
    exact F.no r (fun z => hr (by simp [z]))
def ledA (g : Nat → Nat) (came : Nat) (F : Nat → Nat) (kv acc : KVs) : KVs := kv.foldl (fun acc p => pt acc (g p.1) (mn2 ((lk acc (g p.1)).getD came) (F p.1))) acc
theorem ledA_ok (g F : Nat → Nat) (came : Nat) : ∀ (kv acc : KVs) (S : List Nat), (∀ p ∈ kv, F p.1 ≤ came) → (∀ r, (∀ v, lk acc r = some v → (∃ x ∈ S, g x = r ∧ F x = v) ∧ ∀ x ∈ S, g x = r → v ≤ F x) ∧ (lk acc r = none → ∀ x ∈ S, g x ≠ r)) →
    ∀ r, (∀ v, lk (ledA g came F kv acc) r = some v → (∃ x ∈ S ++ keysN kv, g x = r ∧ F x = v) ∧ ∀ x ∈ S ++ keysN kv, g x = r → v ≤ F x) ∧ (lk (ledA g came F kv acc) r = none → ∀ x ∈ S ++ keysN kv, g x ≠ r)
  | [], acc, S, _, h => by simpa [ledA, keysN] using h
  | p :: t, acc, S, hF, h => by
    have step := ledA_ok g F came t (pt acc (g p.1) (mn2 ((lk acc (g p.1)).getD came) (F p.1))) (S ++ [p.1]) (fun q hq => hF q (by simp [hq])) (fun r => ?_)
    · intro r
      have := step r
      have e : S ++ [p.1] ++ keysN t = S ++ keysN (p :: t) := by simp [keysN]
      rw [e] at this
      exact this
    · have hp := hF p (by simp)
      rw [lk_pt]
      by_cases hr : r = g p.1
      · rw [if_pos hr]
        refine ⟨fun v hv => ?_, fun z => by cases z⟩
        cases hv
        cases ha : lk acc (g p.1) with
        | none =>
          have hn := (h (g p.1)).2 ha
          have e : mn2 ((none : Option Nat).getD came) (F p.1) = F p.1 := by unfold mn2; simp; omega
          rw [e]
          refine ⟨⟨p.1, by simp, hr.symm, rfl⟩, fun x hx hg => ?_⟩
          rcases List.mem_append.mp hx with z | z
          · exact absurd (hg.trans hr) (hn x z)
          · have : x = p.1 := by simpa using z
            rw [this]; exact Nat.le_refl _
        | some w =>
          obtain ⟨⟨y, hy, e1, e2⟩, h2⟩ := (h (g p.1)).1 w ha
          simp only [Option.getD_some]
          unfold mn2
          split
          · refine ⟨⟨p.1, by simp, hr.symm, rfl⟩, fun x hx hg => ?_⟩
            rcases List.mem_append.mp hx with z | z
            · have := h2 x z (hg.trans hr); omega
            · have : x = p.1 := by simpa using z
              rw [this]; exact Nat.le_refl _
          · refine ⟨⟨y, by simp [hy], e1.trans hr.symm, e2⟩, fun x hx hg => ?_⟩
            rcases List.mem_append.mp hx with z | z
            · exact h2 x z (hg.trans hr)
            · have : x = p.1 := by simpa using z
              rw [this]; omega
      · rw [if_neg hr]
        refine ⟨fun v hv => ?_, fun hn x hx => ?_⟩
        · obtain ⟨⟨y, hy, e1, e2⟩, h2⟩ := (h r).1 v hv
          refine ⟨⟨y, by simp [hy], e1, e2⟩, fun x hx hg => ?_⟩
          rcases List.mem_append.mp hx with z | z
          · exact h2 x z hg
          · have : x = p.1 := by simpa using z
            subst this
            exact absurd hg.symm hr
        · rcases List.mem_append.mp hx with z | z
          · exact (h r).2 hn x z
          · have : x = p.1 := by simpa using z
            subst this
            exact fun e => hr e.symm
theorem ledA_fst {g : Nat → Nat} {kvC kvA : KVs} {l : List Nat} {came : Nat} (FA : Fst kvA l) (hk : ∀ r, r ∈ keysN kvC ↔ r ∈ l) (hc : l.length ≤ came + 1) : Fst (ledA g came (fun r => (lk kvA r).getD 0) kvC []) (l.map g) := by
  have hF : ∀ r ∈ l, ∃ v, (lk kvA r).getD 0 = v ∧ IsFst l r v ∧ v < l.length := fun r hr => by
    obtain ⟨v, h1, h2⟩ := FA.yes r hr
    exact ⟨v, by rw [h1]; rfl, h2, (List.getElem?_eq_some_iff.mp h2.1).1⟩
  have key := ledA_ok g (fun r => (lk kvA r).getD 0) came kvC [] [] (fun p hp => by
    obtain ⟨v, h1, h2, h3⟩ := hF p.1 ((hk p.1).mp (List.mem_map.mpr ⟨p, hp, rfl⟩))
    show (lk kvA p.1).getD 0 ≤ came
    omega) (fun r => ⟨fun v z => by simp [lk] at z, fun _ x hx => by simp at hx⟩)
  simp only [List.nil_append] at key
  refine ⟨fun r hr => ?_, fun r hr => ?_⟩
  · obtain ⟨x, hx, e⟩ := List.mem_map.mp hr
    cases hl : lk (ledA g came (fun r => (lk kvA r).getD 0) kvC []) r with
    | none => exact absurd e ((key r).2 hl x ((hk x).mpr hx))
    | some v =>
      obtain ⟨⟨y, hy, e1, e2⟩, h2⟩ := (key r).1 v hl
      obtain ⟨v', f1, f2, f3⟩ := hF y ((hk y).mp hy)
      have : v' = v := f1.symm.trans e2
      subst this
      refine ⟨v', rfl, by rw [List.getElem?_map, f2.1, ← e1]; rfl, fun j hj z => ?_⟩
      rw [List.getElem?_map] at z
      cases hz : l[j]? with
      | none => rw [hz] at z; cases z
      | some u =>
        rw [hz] at z
        have hu : u ∈ l := List.mem_of_getElem? hz
        have gu : g u = r := by simpa using z
        have := h2 u ((hk u).mpr hu) gu
        obtain ⟨w, k1, k2, k3⟩ := hF u hu
        have : w ≤ j := by
          rcases Nat.lt_or_ge j w with q | q
          · exact absurd hz (k2.2 j q)
          · exact q
        omega
  · cases hl : lk (ledA g came (fun r => (lk kvA r).getD 0) kvC []) r with
    | none => rfl
    | some v =>
      obtain ⟨⟨y, hy, e1, e2⟩, h2⟩ := (key r).1 v hl
      exact absurd (List.mem_map.mpr ⟨y, (hk y).mp hy, e1⟩) hr
theorem exC_mem {kv : KVs} (hp : ∀ p ∈ kv, 0 < p.2) {r : Nat} : r ∈ keysN kv ↔ r ∈ Ex kv := by
  unfold keysN Ex
  rw [List.mem_map, List.mem_flatMap]
  constructor
  · rintro ⟨p, h1, rfl⟩
    exact ⟨p, h1, List.mem_replicate.mpr ⟨by have := hp p h1; omega, rfl⟩⟩
  · rintro ⟨p, h1, h2⟩
    exact ⟨p, h1, (List.mem_replicate.mp h2).2.symm⟩
theorem pos_pt {kv : KVs} {r v : Nat} (hp : ∀ p ∈ kv, 0 < p.2) (hv : 0 < v) : ∀ p ∈ pt kv r v, 0 < p.2 := by
  unfold pt
  split
  · intro p h
    obtain ⟨q, hq, rfl⟩ := List.mem_map.mp h
    split
    · exact hv
    · exact hp q hq
  · intro p h
    rcases List.mem_append.mp h with z | z
    · exact hp p z
    · have : p = (r, v) := by simpa using z
      subst this; exact hv
theorem pos_ledC {g : Nat → Nat} : ∀ {kv acc : KVs}, (∀ p ∈ kv, 0 < p.2) → (∀ p ∈ acc, 0 < p.2) → ∀ p ∈ ledC g kv acc, 0 < p.2
  | [], acc, _, h => h
  | q :: t, acc, h1, h2 => pos_ledC (kv := t) (fun p hp => h1 p (by simp [hp])) (pos_pt h2 (by have := h1 q (by simp); omega))
/-! ### the dicts on the heap -/
theorem dicR_at {h : LH} {n : Nat} {t : Bool} {kvs : List (D × D)} (e : h[n]? = some (.dic t kvs) ∨ h[n]? = some (.dlk t kvs)) : dicR (.ref n) h = some (t, kvs) := by
  unfold dicR
  rcases e with e | e <;> simp only [e]
theorem got_cD {h : LH} {n r x : Nat} {kv : KVs} (e : h[n]? = some (.dic false (cD kv)) ∨ h[n]? = some (.dlk false (cD kv))) : gotD (.ref n) (.int r) (.int x) h = .ok (.int ((lk kv r).getD x : Nat)) h := by
  unfold gotD
  rw [dicR_at e]
  show (if isK (.int r) = true then _ else _) = _
  rw [cD_get]
  cases lk kv r <;> rfl
theorem isDic_at {h : LH} {n : Nat} {t : Bool} {kvs : List (D × D)} (e : h[n]? = some (.dic t kvs) ∨ h[n]? = some (.dlk t kvs)) : isDic (.ref n) h = true := by
  unfold isDic; rw [dicR_at e]; rfl
theorem get_cD {h : LH} {n r v : Nat} {kv : KVs} (e : h[n]? = some (.dic false (cD kv)) ∨ h[n]? = some (.dlk false (cD kv))) (hv : lk kv r = some v) : dDGet (.ref n) (.int r) h = .ok (.int v) h := by
  unfold dDGet
  rw [dicR_at e]
  show (if isK (.int r) = true then _ else _) = _
  rw [cD_get, hv]; rfl
theorem set_cD {h : LH} {n r v : Nat} {kv : KVs} (e : h[n]? = some (.dic false (cD kv))) (hl : kv.length < 1000) : dSetD (.ref n) (.int r) (.int v) h = some (h.set n (.dic false (cD (pt kv r v)))) := by
  unfold dSetD
  have e1 : dicW (.ref n) h = some (false, cD kv) := by unfold dicW; simp only [e]
  have e2 : Nat.blt (cD kv).length 16777216 = true := Nat.ble_eq_true_of_le (by unfold cD; simp; omega)
  simp only [e1]
  show (if (isK (.int r) && Nat.blt (cD kv).length 16777216) = true then some (h.set n (.dic false (putD (cD kv) (.int r) (.int v)))) else none) = _
  rw [e2, cD_put]; rfl
theorem dict_cD {h : LH} {n : Nat} {kv : KVs} (e : h[n]? = some (.dic false (cD kv))) : dDict (.ref n) h = .ok (.ref h.length) (h ++ [.dic false (cD kv)]) := by
  unfold dDict
  rw [dicR_at (.inl e)]
theorem len_pt (kv : KVs) (r v : Nat) : (pt kv r v).length ≤ kv.length + 1 := by
  unfold pt; split <;> simp
theorem len_ex {kv : KVs} (hp : ∀ p ∈ kv, 0 < p.2) : kv.length ≤ (Ex kv).length := by
  induction kv with
  | nil => simp
  | cons p t ih =>
    unfold Ex at *
    rw [List.flatMap_cons, List.length_append, List.length_replicate, List.length_cons]
    have := ih fun q hq => hp q (by simp [hq])
    have := hp p (by simp)
    omega
theorem keys_cD (kv : KVs) : (cD kv).map (·.1) = (keysN kv).map fun (k : Nat) => D.int k := by
  unfold cD keysN
  rw [List.map_map, List.map_map]; rfl
theorem min_cD (a b : Nat) (h : LH) : dMin2 [.int a, .int b] h = .ok (.int (mn2 a b : Nat)) h := by
  show R.ok (D.int (if (b : Int) < a then b else a)) h = _
  unfold mn2
  by_cases e : b < a
  · rw [if_pos e, if_pos (by omega)]
  · rw [if_neg e, if_neg (by omega)]
theorem ledC_take (g : Nat → Nat) (kv : KVs) (i : Nat) {p : Nat × Nat} (h : kv[i]? = some p) : ledC g (kv.take (i + 1)) [] = pt (ledC g (kv.take i) []) (g p.1) ((lk (ledC g (kv.take i) []) (g p.1)).getD 0 + p.2) := by
  unfold ledC
  rw [List.take_add_one, h]
  simp
theorem ledA_take (g F : Nat → Nat) (c : Nat) (kv : KVs) (i : Nat) {p : Nat × Nat} (h : kv[i]? = some p) : ledA g c F (kv.take (i + 1)) [] = pt (ledA g c F (kv.take i) []) (g p.1) (mn2 ((lk (ledA g c F (kv.take i) []) (g p.1)).getD c) (F p.1)) := by
  unfold ledA
  rw [List.take_add_one, h]
  simp
theorem len_ledC (g : Nat → Nat) : ∀ (kv acc : KVs), (ledC g kv acc).length ≤ acc.length + kv.length
  | [], acc => by simp [ledC]
  | p :: t, acc => by
    have h1 := len_ledC g t (pt acc (g p.1) ((lk acc (g p.1)).getD 0 + p.2))
    have h2 := len_pt acc (g p.1) ((lk acc (g p.1)).getD 0 + p.2)
    unfold ledC at *
    rw [List.foldl_cons, List.length_cons]
    omega
theorem len_ledA (g F : Nat → Nat) (c : Nat) : ∀ (kv acc : KVs), (ledA g c F kv acc).length ≤ acc.length + kv.length
  | [], acc => by simp [ledA]
  | p :: t, acc => by
    have h1 := len_ledA g F c t (pt acc (g p.1) (mn2 ((lk acc (g p.1)).getD c) (F p.1)))
    have h2 := len_pt acc (g p.1) (mn2 ((lk acc (g p.1)).getD c) (F p.1))
    unfold ledA at *
    rw [List.foldl_cons, List.length_cons]
    omega
end Rf
set_option Elab.async false
set_option linter.all false
set_option maxRecDepth 100000
set_option maxHeartbeats 1000000
set_option autoImplicit false
namespace Lw
open PySem PySem.Spec L2 Rf
/-- signs -/
structure Al (al : List Nat) : Prop where
  look : ∀ h, m_look_signs [.str al] h = .ok .non h
  srt : al.Pairwise (· < ·)
  ne : al ≠ []
  len : al.length ≤ 4
def nI (l : List Nat) : List Int := l.map fun (k : Nat) => (k : Int)
def rowD (l : List Nat) : D := .tup ((nI l).map .int)
structure Good (al : List Nat) (rows : List (List Nat)) (f : Nat) (st : List Nat) : Prop where
  n1 : 1 ≤ rows.length
  n2 : rows.length ≤ 300
  row : ∀ r ∈ rows, r.length = al.length ∧ ∀ x ∈ r, x < rows.length
  first : f < rows.length
  stop : ∃ b : Nat → Bool, st = (List.range rows.length).filter b
structure Mach (h : LH) (m r s : Nat) (al : List Nat) (rows : List (List Nat)) (f : Nat) (st : List Nat) : Prop where
  obj : h[m]? = some (.ins 13 [(23, .str al), (24, .ref r), (25, .int f), (26, .ref s)])
  rws : h[r]? = some (.lst (rows.map rowD))
  stp : h[s]? = some (.lst ((List.range rows.length).map fun k => .bl (decide (k ∈ st))))
theorem Mach.fr {h h' : LH} {m r s : Nat} {al : List Nat} {rows : List (List Nat)} {f : Nat} {st : List Nat} {S : List Nat} (M : Mach h m r s al rows f st) (e : Fr S h h') (h1 : m ∉ S) (h2 : r ∉ S) (h3 : s ∉ S) : Mach h' m r s al rows f st := ⟨e.get _ _ M.obj h1, e.get _ _ M.rws h2, e.get _ _ M.stp h3⟩
theorem okR_is {α : Type} {r : R α} {v : α} {h : LH} (e : @okR _ r ⟨fun d h' => d = v ∧ h' = h⟩ ⟨fun _ _ => False⟩) : r = .ok v h := by
  cases r with
  | ok d h' => obtain ⟨rfl, rfl⟩ := e; rfl
  | ex x h' => exact e.elim
  | bad => exact e.elim
theorem runA_is {m : FM} {ds : List D} {v : D} (h : LH) (hp : pureDs ds = true) (e : @okR _ (m ds []) ⟨fun d _ => d = v⟩ ⟨fun _ _ => False⟩) (hd : pureD v = true) : runA m ds h = .ok v h := by
  obtain ⟨d, h', e1, rfl⟩ := okR_eq e
  exact runA_pure hp e1 hd
theorem is_whole_ok {k n : Nat} (hk : k < n) (h : LH) : m_is_whole [.int k, .int 0, .int ((n : Int) - 1)] h = .ok (.bl true) h := by
  refine runA_is h rfl ?_ rfl
  have d1 : decide ((0 : Int) ≤ k) = true := decide_eq_true (by omega)
  have d2 : decide ((k : Int) ≤ n - 1) = true := decide_eq_true (by omega)
  show @okR _ (fin (b_is_whole [some (.int k), some (.int 0), some (.int ((n : Int) - 1))] [])) ⟨_⟩ ⟨_⟩
  simp only [Rf.okR_ok, Rf.okR_ex, Rf.okS_nx, Rf.okS_rt, Rf.okS_bk, Rf.okS_ct, Rf.okS_ex, Rf.okR_bind, Rf.okS_lift, Rf.okS_seq, Rf.okS_if, Rf.okS_ret, Rf.okS_drop, Rf.okS_set, Rf.okS_next, Rf.okS_retN, Rf.okS_brk, Rf.okS_cont, Rf.okS_raise, Rf.okR_fin, Rf.okR_bin, Rf.okR_test, Rf.okR_not, Rf.okR_and, Rf.okR_or, Rf.okR_andV, Rf.okR_orV, Rf.okR_notV, Rf.okR_mif, Rf.okR_C, Rf.okR_nil, Rf.okR_yes, Rf.okR_cons, Rf.okR_call, Rf.okR_callK, Rf.okR_tup, Rf.okR_lst, Rf.okR_fld, Rf.okR_meth, Rf.okR_make, Rf.okR_bm, Rf.okR_isi, Rf.okS_for, Rf.okR_lc, Rf.okR_any, Rf.okS_asg, Rf.okS_setFld, Rf.okR_V, Rf.okR_chain, Rf.okR_rng1, Rf.okR_rng2, Rf.okR_neg, Rf.okR_sl, Rf.okR_noPart, Rf.okR_part, Rf.okS_sub, Rf.okS_par, List.getElem?_cons_zero, List.getElem?_cons_succ, List.set_cons_zero, List.set_cons_succ, if_true, if_false, Bool.false_eq_true, reduceIte, reduceCtorEq, Rf.tgOf, Rf.luk_c, Rf.f1, Rf.gV_non, Rf.gV_bl, Rf.gV_int, Rf.gV_str, Rf.gV_tup, Rf.gV_ktp, Rf.gV_rol, Rf.gV_ref, Rf.gd0, Rf.gdA, List.cons_append, List.nil_append, List.append_nil, List.take_succ_cons, List.take_zero, List.take_nil, List.drop_succ_cons, List.drop_zero, List.drop_nil, Rf.oI0, Rf.oI, Bool.not_true, Bool.not_false, b_is_whole, d1, d2]
/-! ### where a word leads -/
def ix (al : List Nat) (c : Nat) : Nat := (ixT c al).getD 0
theorem ixT_mem {c : Nat} : ∀ {l : List Nat}, c ∈ l → ∃ i, ixT c l = some i ∧ i < l.length
  | x :: r, h => by
    unfold ixT
    by_cases e : x = c
    · rw [if_pos e]; exact ⟨0, rfl, by simp⟩
    · rw [if_neg e]
      obtain ⟨i, h1, h2⟩ := ixT_mem (l := r) (by
        rcases List.mem_cons.mp h with z | z
        · exact absurd z.symm e
        · exact z)
      exact ⟨i + 1, by rw [h1]; rfl, by simp; omega⟩
theorem ix_eq {al : List Nat} {c : Nat} (h : c ∈ al) : ixT c al = some (ix al c) ∧ ix al c < al.length := by
  obtain ⟨i, h1, h2⟩ := ixT_mem h
  unfold ix
  rw [h1]; exact ⟨rfl, h2⟩
def step1 (al : List Nat) (rows : List (List Nat)) (room c : Nat) : Nat := (rows.getD room []).getD (ix al c) 0
def ledN (al : List Nat) (rows : List (List Nat)) (room : Nat) (w : List Nat) : Nat := w.foldl (step1 al rows) room
section
variable {al : List Nat} {rows : List (List Nat)} {f : Nat} {st : List Nat}
theorem Good.step (G : Good al rows f st) {room c : Nat} (hr : room < rows.length) (hc : c ∈ al) : atI (rows.map rowD) (room : Int) = some (rowD (rows.getD room [])) ∧ atI ((nI (rows.getD room [])).map D.int) (ix al c : Int) = some (.int (step1 al rows room c)) ∧ step1 al rows room c < rows.length := by
  have e1 : rows[room]? = some rows[room] := List.getElem?_eq_getElem hr
  have e2 : rows.getD room [] = rows[room] := by rw [List.getD_eq_getElem?_getD, e1]; rfl
  obtain ⟨g1, g2⟩ := G.row rows[room] (List.getElem_mem hr)
  have hi := (ix_eq hc).2
  have e3 : rows[room][ix al c]? = some (rows[room][ix al c]'(by omega)) := List.getElem?_eq_getElem (by omega)
  have e4 : step1 al rows room c = rows[room][ix al c]'(by omega) := by unfold step1; rw [e2, List.getD_eq_getElem?_getD, e3]; rfl
  refine ⟨?_, ?_, ?_⟩
  · refine atI_lt ?_
    rw [List.getElem?_map, e1, e2]; rfl
  · refine atI_lt ?_
    rw [e2, nI, List.map_map, List.getElem?_map, e3, e4]; rfl
  · rw [e4]; exact g2 _ (List.getElem_mem _)
theorem Good.led (G : Good al rows f st) : ∀ {w : List Nat} {room : Nat}, room < rows.length → (∀ c ∈ w, c ∈ al) → ledN al rows room w < rows.length
  | [], room, h, _ => h
  | c :: w, room, h, hw => Good.led G (w := w) (room := step1 al rows room c) (G.step h (hw c (by simp))).2.2 (fun c hc => hw c (by simp [hc]))
theorem ledN_snoc {room : Nat} {w : List Nat} {i c : Nat} (h : w[i]? = some c) : ledN al rows room (w.take (i + 1)) = step1 al rows (ledN al rows room (w.take i)) c := by
  unfold ledN
  rw [List.take_add_one, h]; simp
theorem led_ok (G : Good al rows f st) {h : LH} {m r s : Nat} (M : Mach h m r s al rows f st) {w : List Nat} {room : Nat} (hw : ∀ c ∈ w, c ∈ al) (hl : w.length ≤ 1000) (hr : room < rows.length) : m_Machine_led [.ref m, .int room, .str w] h = .ok (.int (ledN al rows room w)) h := by
  refine okR_is ?_
  show @okR _ (fin (b_Machine_led [some (.ref m), some (.int room), some (.str w), none] h)) ⟨_⟩ ⟨_⟩
  simp only [Rf.okR_ok, Rf.okR_ex, Rf.okS_nx, Rf.okS_rt, Rf.okS_bk, Rf.okS_ct, Rf.okS_ex, Rf.okR_bind, Rf.okS_lift, Rf.okS_seq, Rf.okS_if, Rf.okS_ret, Rf.okS_drop, Rf.okS_set, Rf.okS_next, Rf.okS_retN, Rf.okS_brk, Rf.okS_cont, Rf.okS_raise, Rf.okR_fin, Rf.okR_bin, Rf.okR_test, Rf.okR_not, Rf.okR_and, Rf.okR_or, Rf.okR_andV, Rf.okR_orV, Rf.okR_notV, Rf.okR_mif, Rf.okR_C, Rf.okR_nil, Rf.okR_yes, Rf.okR_cons, Rf.okR_call, Rf.okR_callK, Rf.okR_tup, Rf.okR_lst, Rf.okR_fld, Rf.okR_meth, Rf.okR_make, Rf.okR_bm, Rf.okR_isi, Rf.okS_for, Rf.okR_lc, Rf.okR_any, Rf.okS_asg, Rf.okS_setFld, Rf.okR_V, Rf.okR_chain, Rf.okR_rng1, Rf.okR_rng2, Rf.okR_neg, Rf.okR_sl, Rf.okR_noPart, Rf.okR_part, Rf.okS_sub, Rf.okS_par, List.getElem?_cons_zero, List.getElem?_cons_succ, List.set_cons_zero, List.set_cons_succ, if_true, if_false, Bool.false_eq_true, reduceIte, reduceCtorEq, Rf.tgOf, Rf.luk_c, Rf.f1, Rf.gV_non, Rf.gV_bl, Rf.gV_int, Rf.gV_str, Rf.gV_tup, Rf.gV_ktp, Rf.gV_rol, Rf.gV_ref, Rf.gd0, Rf.gdA, List.cons_append, List.nil_append, List.append_nil, List.take_succ_cons, List.take_zero, List.take_nil, List.drop_succ_cons, List.drop_zero, List.drop_nil, Rf.oI0, Rf.oI, Bool.not_true, Bool.not_false, b_Machine_led]
  refine ok_for (w.map fun c => .str [c]) (fun i ls h' => h' = h ∧ ∃ x, ls = [some (.ref m), some (.int (ledN al rows room (w.take i))), some (.str w), x]) ⟨rfl, none, rfl⟩ (by simp; omega) (fun i ls h' _ => itm_str) (fun i d ls h' hd p => ?_) (fun ls h' p => ?_)
  · obtain ⟨rfl, x, rfl⟩ := p
    rw [List.getElem?_map] at hd
    obtain ⟨c, hc, rfl⟩ := Option.map_eq_some_iff.mp hd
    have cm : c ∈ al := hw c (List.mem_of_getElem? hc)
    obtain ⟨g1, g2, g3⟩ := G.step (room := ledN al rows room (w.take i)) (G.led hr (fun c hc => hw c (List.mem_of_mem_take hc))) cm
    refine ⟨_, rfl, ?_⟩
    have fl : ∀ i, fldOf [13] i m h' = ([(23, D.str al), (24, .ref r), (25, .int f), (26, .ref s)] : List (Nat × D)).lookup i := fun i => by unfold fldOf; rw [M.obj]; rfl
    have f23 : fldOf [13] 23 m h' = some (.str al) := by rw [fl]; rfl
    have f24 : fldOf [13] 24 m h' = some (.ref r) := by rw [fl]; rfl
    simp only [Rf.okR_ok, Rf.okR_ex, Rf.okS_nx, Rf.okS_rt, Rf.okS_bk, Rf.okS_ct, Rf.okS_ex, Rf.okR_bind, Rf.okS_lift, Rf.okS_seq, Rf.okS_if, Rf.okS_ret, Rf.okS_drop, Rf.okS_set, Rf.okS_next, Rf.okS_retN, Rf.okS_brk, Rf.okS_cont, Rf.okS_raise, Rf.okR_fin, Rf.okR_bin, Rf.okR_test, Rf.okR_not, Rf.okR_and, Rf.okR_or, Rf.okR_andV, Rf.okR_orV, Rf.okR_notV, Rf.okR_mif, Rf.okR_C, Rf.okR_nil, Rf.okR_yes, Rf.okR_cons, Rf.okR_call, Rf.okR_callK, Rf.okR_tup, Rf.okR_lst, Rf.okR_fld, Rf.okR_meth, Rf.okR_make, Rf.okR_bm, Rf.okR_isi, Rf.okS_for, Rf.okR_lc, Rf.okR_any, Rf.okS_asg, Rf.okS_setFld, Rf.okR_V, Rf.okR_chain, Rf.okR_rng1, Rf.okR_rng2, Rf.okR_neg, Rf.okR_sl, Rf.okR_noPart, Rf.okR_part, Rf.okS_sub, Rf.okS_par, List.getElem?_cons_zero, List.getElem?_cons_succ, List.set_cons_zero, List.set_cons_succ, if_true, if_false, Bool.false_eq_true, reduceIte, reduceCtorEq, Rf.tgOf, Rf.luk_c, Rf.f1, Rf.gV_non, Rf.gV_bl, Rf.gV_int, Rf.gV_str, Rf.gV_tup, Rf.gV_ktp, Rf.gV_rol, Rf.gV_ref, Rf.gd0, Rf.gdA, List.cons_append, List.nil_append, List.append_nil, List.take_succ_cons, List.take_zero, List.take_nil, List.drop_succ_cons, List.drop_zero, List.drop_nil, Rf.oI0, Rf.oI, Bool.not_true, Bool.not_false, f24, dIx, asRd, M.rws, g1]
    refine okR_alt ?_
    simp only [Rf.okR_ok, Rf.okR_ex, Rf.okS_nx, Rf.okS_rt, Rf.okS_bk, Rf.okS_ct, Rf.okS_ex, Rf.okR_bind, Rf.okS_lift, Rf.okS_seq, Rf.okS_if, Rf.okS_ret, Rf.okS_drop, Rf.okS_set, Rf.okS_next, Rf.okS_retN, Rf.okS_brk, Rf.okS_cont, Rf.okS_raise, Rf.okR_fin, Rf.okR_bin, Rf.okR_test, Rf.okR_not, Rf.okR_and, Rf.okR_or, Rf.okR_andV, Rf.okR_orV, Rf.okR_notV, Rf.okR_mif, Rf.okR_C, Rf.okR_nil, Rf.okR_yes, Rf.okR_cons, Rf.okR_call, Rf.okR_callK, Rf.okR_tup, Rf.okR_lst, Rf.okR_fld, Rf.okR_meth, Rf.okR_make, Rf.okR_bm, Rf.okR_isi, Rf.okS_for, Rf.okR_lc, Rf.okR_any, Rf.okS_asg, Rf.okS_setFld, Rf.okR_V, Rf.okR_chain, Rf.okR_rng1, Rf.okR_rng2, Rf.okR_neg, Rf.okR_sl, Rf.okR_noPart, Rf.okR_part, Rf.okS_sub, Rf.okS_par, List.getElem?_cons_zero, List.getElem?_cons_succ, List.set_cons_zero, List.set_cons_succ, if_true, if_false, Bool.false_eq_true, reduceIte, reduceCtorEq, Rf.tgOf, Rf.luk_c, Rf.f1, Rf.gV_non, Rf.gV_bl, Rf.gV_int, Rf.gV_str, Rf.gV_tup, Rf.gV_ktp, Rf.gV_rol, Rf.gV_ref, Rf.gd0, Rf.gdA, List.cons_append, List.nil_append, List.append_nil, List.take_succ_cons, List.take_zero, List.take_nil, List.drop_succ_cons, List.drop_zero, List.drop_nil, Rf.oI0, Rf.oI, Bool.not_true, Bool.not_false, f23, isStr, dSIndex, (ix_eq cm).1, dIx, rowD, g2]
    exact ⟨trivial, _, by rw [ledN_snoc hc]⟩
  · obtain ⟨rfl, x, rfl⟩ := p
    simp only [Rf.okR_ok, Rf.okR_ex, Rf.okS_nx, Rf.okS_rt, Rf.okS_bk, Rf.okS_ct, Rf.okS_ex, Rf.okR_bind, Rf.okS_lift, Rf.okS_seq, Rf.okS_if, Rf.okS_ret, Rf.okS_drop, Rf.okS_set, Rf.okS_next, Rf.okS_retN, Rf.okS_brk, Rf.okS_cont, Rf.okS_raise, Rf.okR_fin, Rf.okR_bin, Rf.okR_test, Rf.okR_not, Rf.okR_and, Rf.okR_or, Rf.okR_andV, Rf.okR_orV, Rf.okR_notV, Rf.okR_mif, Rf.okR_C, Rf.okR_nil, Rf.okR_yes, Rf.okR_cons, Rf.okR_call, Rf.okR_callK, Rf.okR_tup, Rf.okR_lst, Rf.okR_fld, Rf.okR_meth, Rf.okR_make, Rf.okR_bm, Rf.okR_isi, Rf.okS_for, Rf.okR_lc, Rf.okR_any, Rf.okS_asg, Rf.okS_setFld, Rf.okR_V, Rf.okR_chain, Rf.okR_rng1, Rf.okR_rng2, Rf.okR_neg, Rf.okR_sl, Rf.okR_noPart, Rf.okR_part, Rf.okS_sub, Rf.okS_par, List.getElem?_cons_zero, List.getElem?_cons_succ, List.set_cons_zero, List.set_cons_succ, if_true, if_false, Bool.false_eq_true, reduceIte, reduceCtorEq, Rf.tgOf, Rf.luk_c, Rf.f1, Rf.gV_non, Rf.gV_bl, Rf.gV_int, Rf.gV_str, Rf.gV_tup, Rf.gV_ktp, Rf.gV_rol, Rf.gV_ref, Rf.gd0, Rf.gdA, List.cons_append, List.nil_append, List.append_nil, List.take_succ_cons, List.take_zero, List.take_nil, List.drop_succ_cons, List.drop_zero, List.drop_nil, Rf.oI0, Rf.oI, Bool.not_true, Bool.not_false]
    simp
theorem Mach.fld {h : LH} {m r s : Nat} (M : Mach h m r s al rows f st) (i : Nat) : fldOf [13] i m h = ([(23, D.str al), (24, .ref r), (25, .int f), (26, .ref s)] : List (Nat × D)).lookup i := by unfold fldOf; rw [M.obj]; rfl
theorem Mach.f23 {h : LH} {m r s : Nat} (M : Mach h m r s al rows f st) : fldOf [13] 23 m h = some (.str al) := by rw [M.fld]; rfl
theorem Mach.f24 {h : LH} {m r s : Nat} (M : Mach h m r s al rows f st) : fldOf [13] 24 m h = some (.ref r) := by rw [M.fld]; rfl
theorem Mach.f25 {h : LH} {m r s : Nat} (M : Mach h m r s al rows f st) : fldOf [13] 25 m h = some (.int f) := by rw [M.fld]; rfl
theorem Mach.f26 {h : LH} {m r s : Nat} (M : Mach h m r s al rows f st) : fldOf [13] 26 m h = some (.ref s) := by rw [M.fld]; rfl
theorem Mach.ins {h : LH} {m r s : Nat} (M : Mach h m r s al rows f st) : insOf 13 m h = true := by unfold insOf; rw [M.obj]; rfl
theorem stop_at {h : LH} {m r s : Nat} (M : Mach h m r s al rows f st) {k : Nat} (hk : k < rows.length) : atI ((List.range rows.length).map fun (k : Nat) => D.bl (decide (k ∈ st))) (k : Int) = some (.bl (decide (k ∈ st))) := by
  refine atI_lt ?_
  simp [hk]
/-! ### the law's own -/
structure Raw (h : LH) (p q : Nat) (rows : List (List Nat)) (st : List Nat) : Prop where
  rws : h[p]? = some (.lst (rows.map rowD))
  stp : h[q]? = some (.lst ((nI st).map .int))
theorem Raw.fr {h h' : LH} {p q : Nat} {S : List Nat} (M : Raw h p q rows st) (e : Fr S h h') (h1 : p ∉ S) (h2 : q ∉ S) : Raw h' p q rows st := ⟨e.get _ _ M.rws h1, e.get _ _ M.stp h2⟩
theorem law_room_ok (G : Good al rows f st) {h : LH} {p q : Nat} (M : Raw h p q rows st) {w : List Nat} (hw : ∀ c ∈ w, c ∈ al) (hl : w.length ≤ 1000) : m__law_room [.tup [.str al, .ref p, .int f, .ref q], .str w] h = .ok (.int (ledN al rows f w)) h := by
  refine okR_is ?_
  show @okR _ (fin (b__law_room [some (.tup [.str al, .ref p, .int f, .ref q]), some (.str w), none, none] h)) ⟨_⟩ ⟨_⟩
  have z0 : atI [D.str al, .ref p, .int f, .ref q] 0 = some (.str al) := rfl
  have z1 : atI [D.str al, .ref p, .int f, .ref q] 1 = some (.ref p) := rfl
  have z2 : atI [D.str al, .ref p, .int f, .ref q] 2 = some (.int f) := rfl
  simp only [Rf.okR_ok, Rf.okR_ex, Rf.okS_nx, Rf.okS_rt, Rf.okS_bk, Rf.okS_ct, Rf.okS_ex, Rf.okR_bind, Rf.okS_lift, Rf.okS_seq, Rf.okS_if, Rf.okS_ret, Rf.okS_drop, Rf.okS_set, Rf.okS_next, Rf.okS_retN, Rf.okS_brk, Rf.okS_cont, Rf.okS_raise, Rf.okR_fin, Rf.okR_bin, Rf.okR_test, Rf.okR_not, Rf.okR_and, Rf.okR_or, Rf.okR_andV, Rf.okR_orV, Rf.okR_notV, Rf.okR_mif, Rf.okR_C, Rf.okR_nil, Rf.okR_yes, Rf.okR_cons, Rf.okR_call, Rf.okR_callK, Rf.okR_tup, Rf.okR_lst, Rf.okR_fld, Rf.okR_meth, Rf.okR_make, Rf.okR_bm, Rf.okR_isi, Rf.okS_for, Rf.okR_lc, Rf.okR_any, Rf.okS_asg, Rf.okS_setFld, Rf.okR_V, Rf.okR_chain, Rf.okR_rng1, Rf.okR_rng2, Rf.okR_neg, Rf.okR_sl, Rf.okR_noPart, Rf.okR_part, Rf.okS_sub, Rf.okS_par, List.getElem?_cons_zero, List.getElem?_cons_succ, List.set_cons_zero, List.set_cons_succ, if_true, if_false, Bool.false_eq_true, reduceIte, reduceCtorEq, Rf.tgOf, Rf.luk_c, Rf.f1, Rf.gV_non, Rf.gV_bl, Rf.gV_int, Rf.gV_str, Rf.gV_tup, Rf.gV_ktp, Rf.gV_rol, Rf.gV_ref, Rf.gd0, Rf.gdA, List.cons_append, List.nil_append, List.append_nil, List.take_succ_cons, List.take_zero, List.take_nil, List.drop_succ_cons, List.drop_zero, List.drop_nil, Rf.oI0, Rf.oI, Bool.not_true, Bool.not_false, b__law_room, dIx, z2]
  refine ok_for (w.map fun c => .str [c]) (fun i ls h' => h' = h ∧ ∃ x, ls = [some (.tup [.str al, .ref p, .int f, .ref q]), some (.str w), some (.int (ledN al rows f (w.take i))), x]) ⟨rfl, none, rfl⟩ (by simp; omega) (fun i ls h' _ => itm_str) (fun i d ls h' hd p => ?_) (fun ls h' p => ?_)
  · obtain ⟨rfl, x, rfl⟩ := p
    rw [List.getElem?_map] at hd
    obtain ⟨c, hc, rfl⟩ := Option.map_eq_some_iff.mp hd
    have cm : c ∈ al := hw c (List.mem_of_getElem? hc)
    obtain ⟨g1, g2, g3⟩ := G.step (room := ledN al rows f (w.take i)) (G.led G.first (fun c hc => hw c (List.mem_of_mem_take hc))) cm
    refine ⟨_, rfl, ?_⟩
    simp only [Rf.okR_ok, Rf.okR_ex, Rf.okS_nx, Rf.okS_rt, Rf.okS_bk, Rf.okS_ct, Rf.okS_ex, Rf.okR_bind, Rf.okS_lift, Rf.okS_seq, Rf.okS_if, Rf.okS_ret, Rf.okS_drop, Rf.okS_set, Rf.okS_next, Rf.okS_retN, Rf.okS_brk, Rf.okS_cont, Rf.okS_raise, Rf.okR_fin, Rf.okR_bin, Rf.okR_test, Rf.okR_not, Rf.okR_and, Rf.okR_or, Rf.okR_andV, Rf.okR_orV, Rf.okR_notV, Rf.okR_mif, Rf.okR_C, Rf.okR_nil, Rf.okR_yes, Rf.okR_cons, Rf.okR_call, Rf.okR_callK, Rf.okR_tup, Rf.okR_lst, Rf.okR_fld, Rf.okR_meth, Rf.okR_make, Rf.okR_bm, Rf.okR_isi, Rf.okS_for, Rf.okR_lc, Rf.okR_any, Rf.okS_asg, Rf.okS_setFld, Rf.okR_V, Rf.okR_chain, Rf.okR_rng1, Rf.okR_rng2, Rf.okR_neg, Rf.okR_sl, Rf.okR_noPart, Rf.okR_part, Rf.okS_sub, Rf.okS_par, List.getElem?_cons_zero, List.getElem?_cons_succ, List.set_cons_zero, List.set_cons_succ, if_true, if_false, Bool.false_eq_true, reduceIte, reduceCtorEq, Rf.tgOf, Rf.luk_c, Rf.f1, Rf.gV_non, Rf.gV_bl, Rf.gV_int, Rf.gV_str, Rf.gV_tup, Rf.gV_ktp, Rf.gV_rol, Rf.gV_ref, Rf.gd0, Rf.gdA, List.cons_append, List.nil_append, List.append_nil, List.take_succ_cons, List.take_zero, List.take_nil, List.drop_succ_cons, List.drop_zero, List.drop_nil, Rf.oI0, Rf.oI, Bool.not_true, Bool.not_false, dIx, asRd, z1, M.rws, g1]
    refine okR_alt ?_
    simp only [Rf.okR_ok, Rf.okR_ex, Rf.okS_nx, Rf.okS_rt, Rf.okS_bk, Rf.okS_ct, Rf.okS_ex, Rf.okR_bind, Rf.okS_lift, Rf.okS_seq, Rf.okS_if, Rf.okS_ret, Rf.okS_drop, Rf.okS_set, Rf.okS_next, Rf.okS_retN, Rf.okS_brk, Rf.okS_cont, Rf.okS_raise, Rf.okR_fin, Rf.okR_bin, Rf.okR_test, Rf.okR_not, Rf.okR_and, Rf.okR_or, Rf.okR_andV, Rf.okR_orV, Rf.okR_notV, Rf.okR_mif, Rf.okR_C, Rf.okR_nil, Rf.okR_yes, Rf.okR_cons, Rf.okR_call, Rf.okR_callK, Rf.okR_tup, Rf.okR_lst, Rf.okR_fld, Rf.okR_meth, Rf.okR_make, Rf.okR_bm, Rf.okR_isi, Rf.okS_for, Rf.okR_lc, Rf.okR_any, Rf.okS_asg, Rf.okS_setFld, Rf.okR_V, Rf.okR_chain, Rf.okR_rng1, Rf.okR_rng2, Rf.okR_neg, Rf.okR_sl, Rf.okR_noPart, Rf.okR_part, Rf.okS_sub, Rf.okS_par, List.getElem?_cons_zero, List.getElem?_cons_succ, List.set_cons_zero, List.set_cons_succ, if_true, if_false, Bool.false_eq_true, reduceIte, reduceCtorEq, Rf.tgOf, Rf.luk_c, Rf.f1, Rf.gV_non, Rf.gV_bl, Rf.gV_int, Rf.gV_str, Rf.gV_tup, Rf.gV_ktp, Rf.gV_rol, Rf.gV_ref, Rf.gd0, Rf.gdA, List.cons_append, List.nil_append, List.append_nil, List.take_succ_cons, List.take_zero, List.take_nil, List.drop_succ_cons, List.drop_zero, List.drop_nil, Rf.oI0, Rf.oI, Bool.not_true, Bool.not_false, dIx, z0, isStr, dSIndex, (ix_eq cm).1, rowD, g2]
    exact ⟨trivial, _, by rw [ledN_snoc hc]⟩
  · obtain ⟨rfl, x, rfl⟩ := p
    simp only [Rf.okR_ok, Rf.okR_ex, Rf.okS_nx, Rf.okS_rt, Rf.okS_bk, Rf.okS_ct, Rf.okS_ex, Rf.okR_bind, Rf.okS_lift, Rf.okS_seq, Rf.okS_if, Rf.okS_ret, Rf.okS_drop, Rf.okS_set, Rf.okS_next, Rf.okS_retN, Rf.okS_brk, Rf.okS_cont, Rf.okS_raise, Rf.okR_fin, Rf.okR_bin, Rf.okR_test, Rf.okR_not, Rf.okR_and, Rf.okR_or, Rf.okR_andV, Rf.okR_orV, Rf.okR_notV, Rf.okR_mif, Rf.okR_C, Rf.okR_nil, Rf.okR_yes, Rf.okR_cons, Rf.okR_call, Rf.okR_callK, Rf.okR_tup, Rf.okR_lst, Rf.okR_fld, Rf.okR_meth, Rf.okR_make, Rf.okR_bm, Rf.okR_isi, Rf.okS_for, Rf.okR_lc, Rf.okR_any, Rf.okS_asg, Rf.okS_setFld, Rf.okR_V, Rf.okR_chain, Rf.okR_rng1, Rf.okR_rng2, Rf.okR_neg, Rf.okR_sl, Rf.okR_noPart, Rf.okR_part, Rf.okS_sub, Rf.okS_par, List.getElem?_cons_zero, List.getElem?_cons_succ, List.set_cons_zero, List.set_cons_succ, if_true, if_false, Bool.false_eq_true, reduceIte, reduceCtorEq, Rf.tgOf, Rf.luk_c, Rf.f1, Rf.gV_non, Rf.gV_bl, Rf.gV_int, Rf.gV_str, Rf.gV_tup, Rf.gV_ktp, Rf.gV_rol, Rf.gV_ref, Rf.gd0, Rf.gdA, List.cons_append, List.nil_append, List.append_nil, List.take_succ_cons, List.take_zero, List.take_nil, List.drop_succ_cons, List.drop_zero, List.drop_nil, Rf.oI0, Rf.oI, Bool.not_true, Bool.not_false]
    simp
theorem in_ints {st : List Nat} {k : Nat} {h : LH} {q : Nat} (hq : h[q]? = some (.lst ((nI st).map .int))) : dIn (.int k) (.ref q) h = .ok (.bl (decide (k ∈ st))) h := by
  have fl : (((nI st).map D.int).all isFlat && isFlat (.int k)) = true := by
    simp [isFlat]
  have e : (((nI st).map D.int).any fun z => eqF z (.int k)) = decide (k ∈ st) := by
    unfold nI
    rw [List.map_map, List.any_map]
    by_cases hk : k ∈ st
    · rw [decide_eq_true hk, List.any_eq_true]
      exact ⟨k, hk, by simp [eqF]⟩
    · rw [decide_eq_false hk, List.any_eq_false]
      intro x hx
      simp only [Function.comp, eqF]
      intro z
      have : (x : Int) = k := by simpa using z
      exact hk (by have : x = k := by omega
                   rw [← this]; exact hx)
  simp only [dIn, inD, asRd, hq, inSq, fl, if_true, e]
theorem law_lets_ok (G : Good al rows f st) {h : LH} {p q : Nat} (M : Raw h p q rows st) {w : List Nat} (hw : ∀ c ∈ w, c ∈ al) (hl : w.length ≤ 1000) : m__law_lets [.tup [.str al, .ref p, .int f, .ref q], .str w] h = .ok (.bl (decide (ledN al rows f w ∈ st))) h := by
  refine okR_is ?_
  show @okR _ (fin (b__law_lets [some (.tup [.str al, .ref p, .int f, .ref q]), some (.str w)] h)) ⟨_⟩ ⟨_⟩
  have z3 : atI [D.str al, .ref p, .int f, .ref q] 3 = some (.ref q) := rfl
  simp only [Rf.okR_ok, Rf.okR_ex, Rf.okS_nx, Rf.okS_rt, Rf.okS_bk, Rf.okS_ct, Rf.okS_ex, Rf.okR_bind, Rf.okS_lift, Rf.okS_seq, Rf.okS_if, Rf.okS_ret, Rf.okS_drop, Rf.okS_set, Rf.okS_next, Rf.okS_retN, Rf.okS_brk, Rf.okS_cont, Rf.okS_raise, Rf.okR_fin, Rf.okR_bin, Rf.okR_test, Rf.okR_not, Rf.okR_and, Rf.okR_or, Rf.okR_andV, Rf.okR_orV, Rf.okR_notV, Rf.okR_mif, Rf.okR_C, Rf.okR_nil, Rf.okR_yes, Rf.okR_cons, Rf.okR_call, Rf.okR_callK, Rf.okR_tup, Rf.okR_lst, Rf.okR_fld, Rf.okR_meth, Rf.okR_make, Rf.okR_bm, Rf.okR_isi, Rf.okS_for, Rf.okR_lc, Rf.okR_any, Rf.okS_asg, Rf.okS_setFld, Rf.okR_V, Rf.okR_chain, Rf.okR_rng1, Rf.okR_rng2, Rf.okR_neg, Rf.okR_sl, Rf.okR_noPart, Rf.okR_part, Rf.okS_sub, Rf.okS_par, List.getElem?_cons_zero, List.getElem?_cons_succ, List.set_cons_zero, List.set_cons_succ, if_true, if_false, Bool.false_eq_true, reduceIte, reduceCtorEq, Rf.tgOf, Rf.luk_c, Rf.f1, Rf.gV_non, Rf.gV_bl, Rf.gV_int, Rf.gV_str, Rf.gV_tup, Rf.gV_ktp, Rf.gV_rol, Rf.gV_ref, Rf.gd0, Rf.gdA, List.cons_append, List.nil_append, List.append_nil, List.take_succ_cons, List.take_zero, List.take_nil, List.drop_succ_cons, List.drop_zero, List.drop_nil, Rf.oI0, Rf.oI, Bool.not_true, Bool.not_false, b__law_lets, law_room_ok G M hw hl, dIx, z3, in_ints M.stp, and_self]
end
end Lw
set_option Elab.async false
set_option linter.all false
set_option maxRecDepth 100000
set_option maxHeartbeats 1000000
set_option autoImplicit false
namespace Lw
open PySem PySem.Spec L2 Rf
section
variable {al : List Nat} {rows : List (List Nat)} {f : Nat} {st : List Nat}
/-- what lets by, as handed in -/
def Ends (ends : D) (st : List Nat) (h : LH) : Prop := (ends = .tup ((nI st).map .int) ∨ ends = .ktp ((nI st).map .int)) ∨ ∃ q, ends = .ref q ∧ h[q]? = some (.lst ((nI st).map .int))
theorem Ends.fr {ends : D} {h h' : LH} {S : List Nat} (E : Ends ends st h) (e : Fr S h h') (hn : ∀ q, ends = .ref q → q ∉ S) : Ends ends st h' := by
  rcases E with E | ⟨q, E, hq⟩
  · exact .inl E
  · exact .inr ⟨q, E, e.get _ _ hq (hn q E)⟩
theorem wholes_ok {xs : List Nat} {n : Nat} {h : LH} (hx : ∀ x ∈ xs, x < n) {L : LI} {ls0 : Ls} {me : EM} (hL : ∀ i, L i h = itm ((nI xs).map .int) i) (hl : xs.length ≤ 1000) (he : ∀ k : Nat, k < n → ∀ ls1, gmName 7 (.int k) ls0 = some ls1 → me ls1 h = .ok (.bl true) h) :
    mLcGo (gmName 7) mYes me L ls0 100000 0 [] h = .ok (xs.map fun _ => .bl true) h := by
  rw [lc_map ((nI xs).map .int) (fun _ => .bl true) hL (by simp [nI]; omega) (by simp [nI]; omega) (fun d hd => ?_)]
  · congr 1
    simp [nI, List.map_map, Function.comp_def]
  · unfold nI at hd
    rw [List.map_map] at hd
    obtain ⟨k, hk, rfl⟩ := List.mem_map.mp hd
    exact ⟨_, rfl, he k (hx k hk) _ rfl⟩
theorem all_yes {α : Type} {h : LH} (xs : List α) : dAll (.ref h.length) (h ++ [.lst (xs.map fun _ => .bl true)]) = .ok (.bl true) (h ++ [.lst (xs.map fun _ => .bl true)]) := by
  simp only [dAll, asRd, app_at, all_true]
  have : ((xs.map fun _ => true).all id) = true := by simp
  rw [this]
theorem stops_ris (G : Good al rows f st) : RisI (nI st) ∧ (∀ k ∈ st, k < rows.length) ∧ st.length ≤ 300 := by
  obtain ⟨b, hb⟩ := G.stop
  refine ⟨?_, fun k hk => ?_, ?_⟩
  · unfold nI RisI
    rw [List.pairwise_map, hb]
    refine List.Pairwise.filter _ ?_
    refine List.Pairwise.imp (fun {a b} h => by omega) List.pairwise_lt_range
  · rw [hb] at hk
    have := (List.mem_filter.mp hk).1
    simpa using this
  · rw [hb]
    have := List.length_filter_le b (List.range rows.length)
    rw [List.length_range] at this
    have := G.n2
    omega
theorem Ends.sort1 {h : LH} (hsd : sdI (nI st) = nI st) (hln : Nat.blt ((nI st).map D.int).length 4000 = true) (ends : D) (d1 : dList ends h = .ok (.ref h.length) (h ++ [.lst ((nI st).map .int)])) (hi : ∀ x : D, inD x ends h = inSq x ((nI st).map .int) h) (d2 : tgOf ends h = some .tuple) (d3 : itemsOf ends h = some ((nI st).map .int)) (d4 : ∀ l, ends ≠ .str l)
    (d5 : ∀ l : Nat, True) (d7 : isFn ends = false) (d6 : ∀ (ls : Ls) (Y : Exn → LH → Prop) (Q : LI → LH → Prop) (_ : True), ls[4]? = some (some ends) → @okR _ (imAny (mV 4) ls h) ⟨Q⟩ ⟨Y⟩ = Q (liSeq ((nI st).map .int)) h) :
    ∃ b, dList ends h = .ok (.ref h.length) (h ++ [.lst ((nI st).map .int)]) ∧ tgOf ends h = some b ∧ (b = .list ∨ b = .tuple) ∧ itemsOf ends h = some ((nI st).map .int) ∧ (∀ l, ends ≠ .str l) ∧ (∀ k : Nat, dIn (.int k) ends h = .ok (.bl (decide (k ∈ st))) h) ∧ (∀ ls : Ls, ls[4]? = some (some ends) → mSortSet (mV 4) ls h = .ok (.ref h.length) (h ++ [.lst ((nI st).map .int)])) ∧ ∃ L, (∀ (ls : Ls) (Y : Exn → LH → Prop) (Q : LI → LH → Prop), ls[4]? = some (some ends) → @okR _ (imAny (mV 4) ls h) ⟨Q⟩ ⟨Y⟩ = Q L h) ∧ ∀ i, L i h = itm ((nI st).map .int) i := by
  refine ⟨.tuple, d1, d2, .inr rfl, d3, d4, fun k => ?_, fun ls e => ?_, liSeq ((nI st).map .int), fun ls Y Q e => d6 ls Y Q trivial e, fun i => rfl⟩
  · have := in_ints (st := st) (k := k) (h := [.lst ((nI st).map .int)]) (q := 0) rfl
    unfold dIn
    rw [hi]
    simp only [dIn, inD, asRd, List.getElem?_cons_zero] at this ⊢
    have fl : (((nI st).map D.int).all isFlat && isFlat (.int k)) = true := by
      simp [isFlat]
    simp only [inSq, fl, if_true] at this ⊢
    cases this' : (((nI st).map D.int).any fun z => eqF z (.int k)) with
    | true => rw [this'] at this; simpa using this
    | false => rw [this'] at this; simpa using this
  · unfold mSortSet
    rw [mV_ok e d7]
    cases ends with
    | str l => exact absurd rfl (d4 l)
    | _ => simp only [R.bind, d3, hln, if_true, allI_map, hsd]
theorem Ends.sort {ends : D} {h : LH} (G : Good al rows f st) (E : Ends ends st h) : ∃ b, dList ends h = .ok (.ref h.length) (h ++ [.lst ((nI st).map .int)]) ∧ tgOf ends h = some b ∧ (b = .list ∨ b = .tuple) ∧ itemsOf ends h = some ((nI st).map .int) ∧ (∀ l, ends ≠ .str l) ∧ (∀ k : Nat, dIn (.int k) ends h = .ok (.bl (decide (k ∈ st))) h) ∧ (∀ ls : Ls, ls[4]? = some (some ends) → mSortSet (mV 4) ls h = .ok (.ref h.length) (h ++ [.lst ((nI st).map .int)])) ∧ ∃ L, (∀ (ls : Ls) (Y : Exn → LH → Prop) (Q : LI → LH → Prop), ls[4]? = some (some ends) → @okR _ (imAny (mV 4) ls h) ⟨Q⟩ ⟨Y⟩ = Q L h) ∧ ∀ i, L i h = itm ((nI st).map .int) i := by
  have hsd := sdI_id (stops_ris G).1
  have hln : Nat.blt ((nI st).map D.int).length 4000 = true := Nat.ble_eq_true_of_le (by have := (stops_ris G).2.2; simp [nI]; omega)
  rcases E with (rfl | rfl) | ⟨q, rfl, hq⟩
  · exact Ends.sort1 hsd hln _ rfl (fun _ => rfl) rfl rfl (fun l z => by cases z) (fun _ => trivial) rfl fun _ _ _ _ e => by simp only [Rf.okR_ok, Rf.okR_ex, Rf.okS_nx, Rf.okS_rt, Rf.okS_bk, Rf.okS_ct, Rf.okS_ex, Rf.okR_bind, Rf.okS_lift, Rf.okS_seq, Rf.okS_if, Rf.okS_ret, Rf.okS_drop, Rf.okS_set, Rf.okS_next, Rf.okS_retN, Rf.okS_brk, Rf.okS_cont, Rf.okS_raise, Rf.okR_fin, Rf.okR_bin, Rf.okR_test, Rf.okR_not, Rf.okR_and, Rf.okR_or, Rf.okR_andV, Rf.okR_orV, Rf.okR_notV, Rf.okR_mif, Rf.okR_C, Rf.okR_nil, Rf.okR_yes, Rf.okR_cons, Rf.okR_call, Rf.okR_callK, Rf.okR_tup, Rf.okR_lst, Rf.okR_fld, Rf.okR_meth, Rf.okR_make, Rf.okR_bm, Rf.okR_isi, Rf.okS_for, Rf.okR_lc, Rf.okR_any, Rf.okS_asg, Rf.okS_setFld, Rf.okR_V, Rf.okR_chain, Rf.okR_rng1, Rf.okR_rng2, Rf.okR_neg, Rf.okR_sl, Rf.okR_noPart, Rf.okR_part, Rf.okS_sub, Rf.okS_par, List.getElem?_cons_zero, List.getElem?_cons_succ, List.set_cons_zero, List.set_cons_succ, if_true, if_false, Bool.false_eq_true, reduceIte, reduceCtorEq, Rf.tgOf, Rf.luk_c, Rf.f1, Rf.gV_non, Rf.gV_bl, Rf.gV_int, Rf.gV_str, Rf.gV_tup, Rf.gV_ktp, Rf.gV_rol, Rf.gV_ref, Rf.gd0, Rf.gdA, List.cons_append, List.nil_append, List.append_nil, List.take_succ_cons, List.take_zero, List.take_nil, List.drop_succ_cons, List.drop_zero, List.drop_nil, Rf.oI0, Rf.oI, Bool.not_true, Bool.not_false, e]
  · exact Ends.sort1 hsd hln _ rfl (fun _ => rfl) rfl rfl (fun l z => by cases z) (fun _ => trivial) rfl fun _ _ _ _ e => by simp only [Rf.okR_ok, Rf.okR_ex, Rf.okS_nx, Rf.okS_rt, Rf.okS_bk, Rf.okS_ct, Rf.okS_ex, Rf.okR_bind, Rf.okS_lift, Rf.okS_seq, Rf.okS_if, Rf.okS_ret, Rf.okS_drop, Rf.okS_set, Rf.okS_next, Rf.okS_retN, Rf.okS_brk, Rf.okS_cont, Rf.okS_raise, Rf.okR_fin, Rf.okR_bin, Rf.okR_test, Rf.okR_not, Rf.okR_and, Rf.okR_or, Rf.okR_andV, Rf.okR_orV, Rf.okR_notV, Rf.okR_mif, Rf.okR_C, Rf.okR_nil, Rf.okR_yes, Rf.okR_cons, Rf.okR_call, Rf.okR_callK, Rf.okR_tup, Rf.okR_lst, Rf.okR_fld, Rf.okR_meth, Rf.okR_make, Rf.okR_bm, Rf.okR_isi, Rf.okS_for, Rf.okR_lc, Rf.okR_any, Rf.okS_asg, Rf.okS_setFld, Rf.okR_V, Rf.okR_chain, Rf.okR_rng1, Rf.okR_rng2, Rf.okR_neg, Rf.okR_sl, Rf.okR_noPart, Rf.okR_part, Rf.okS_sub, Rf.okS_par, List.getElem?_cons_zero, List.getElem?_cons_succ, List.set_cons_zero, List.set_cons_succ, if_true, if_false, Bool.false_eq_true, reduceIte, reduceCtorEq, Rf.tgOf, Rf.luk_c, Rf.f1, Rf.gV_non, Rf.gV_bl, Rf.gV_int, Rf.gV_str, Rf.gV_tup, Rf.gV_ktp, Rf.gV_rol, Rf.gV_ref, Rf.gd0, Rf.gdA, List.cons_append, List.nil_append, List.append_nil, List.take_succ_cons, List.take_zero, List.take_nil, List.drop_succ_cons, List.drop_zero, List.drop_nil, Rf.oI0, Rf.oI, Bool.not_true, Bool.not_false, e]
  · refine ⟨.list, ?_, ?_, .inl rfl, ?_, (fun l z => by cases z), fun k => in_ints hq, fun ls e => by simp only [mSortSet, mV, e, R.bind, itemsOf, asRd, hq, hln, if_true, allI_map, hsd], liList q, fun ls Y Q e => ?_, fun i => itm_list hq⟩
    · simp only [dList, asRd, hq]
    · simp only [tgOf, hq]
    · simp only [itemsOf, asRd, hq]
    · simp only [Rf.okR_ok, Rf.okR_ex, Rf.okS_nx, Rf.okS_rt, Rf.okS_bk, Rf.okS_ct, Rf.okS_ex, Rf.okR_bind, Rf.okS_lift, Rf.okS_seq, Rf.okS_if, Rf.okS_ret, Rf.okS_drop, Rf.okS_set, Rf.okS_next, Rf.okS_retN, Rf.okS_brk, Rf.okS_cont, Rf.okS_raise, Rf.okR_fin, Rf.okR_bin, Rf.okR_test, Rf.okR_not, Rf.okR_and, Rf.okR_or, Rf.okR_andV, Rf.okR_orV, Rf.okR_notV, Rf.okR_mif, Rf.okR_C, Rf.okR_nil, Rf.okR_yes, Rf.okR_cons, Rf.okR_call, Rf.okR_callK, Rf.okR_tup, Rf.okR_lst, Rf.okR_fld, Rf.okR_meth, Rf.okR_make, Rf.okR_bm, Rf.okR_isi, Rf.okS_for, Rf.okR_lc, Rf.okR_any, Rf.okS_asg, Rf.okS_setFld, Rf.okR_V, Rf.okR_chain, Rf.okR_rng1, Rf.okR_rng2, Rf.okR_neg, Rf.okR_sl, Rf.okR_noPart, Rf.okR_part, Rf.okS_sub, Rf.okS_par, List.getElem?_cons_zero, List.getElem?_cons_succ, List.set_cons_zero, List.set_cons_succ, if_true, if_false, Bool.false_eq_true, reduceIte, reduceCtorEq, Rf.tgOf, Rf.luk_c, Rf.f1, Rf.gV_non, Rf.gV_bl, Rf.gV_int, Rf.gV_str, Rf.gV_tup, Rf.gV_ktp, Rf.gV_rol, Rf.gV_ref, Rf.gd0, Rf.gdA, List.cons_append, List.nil_append, List.append_nil, List.take_succ_cons, List.take_zero, List.take_nil, List.drop_succ_cons, List.drop_zero, List.drop_nil, Rf.oI0, Rf.oI, Bool.not_true, Bool.not_false, e, hq]
theorem init_ok (A : Al al) (G : Good al rows f st) {h : LH} {m p : Nat} {ends : D} (hm : h[m]? = some (.ins 13 [])) (hp : h[p]? = some (.lst (rows.map rowD))) (E : Ends ends st h) (hE : ∀ q, ends = .ref q → q ≠ m) :
    ∃ (h' : LH) (r s : Nat), m_Machine___init__ [.ref m, .str al, .ref p, .int f, ends] h = .ok .non h' ∧ Mach h' m r s al rows f st ∧ Fr [m] h h' ∧ h.length ≤ r ∧ h.length ≤ s := by
  have n1 := G.n1
  have n2 := G.n2
  have a4 := A.len
  obtain ⟨ris, hst, stl⟩ := stops_ris G
  have main : @okR _ (m_Machine___init__ [.ref m, .str al, .ref p, .int f, ends] h) ⟨fun d h' => d = .non ∧ ∃ r s, Mach h' m r s al rows f st ∧ Fr [m] h h' ∧ h.length ≤ r ∧ h.length ≤ s⟩ ⟨fun _ _ => False⟩ := by
    show @okR _ (fin (b_Machine___init__ [some (.ref m), some (.str al), some (.ref p), some (.int f), some ends, none, none, none, none] h)) ⟨_⟩ ⟨_⟩
    have nf : isFn ends = false := by
      rcases E with (e | e) | ⟨q, e, _⟩ <;> rw [e] <;> rfl
    have d1 : decide ((1 : Int) ≤ (rows.length : Int)) = true := decide_eq_true (by omega)
    have d2 : decide ((rows.length : Int) ≤ 300) = true := decide_eq_true (by omega)
    unfold b_Machine___init__
    simp only [Rf.okR_ok, Rf.okR_ex, Rf.okS_nx, Rf.okS_rt, Rf.okS_bk, Rf.okS_ct, Rf.okS_ex, Rf.okR_bind, Rf.okS_lift, Rf.okS_seq, Rf.okS_if, Rf.okS_ret, Rf.okS_drop, Rf.okS_set, Rf.okS_next, Rf.okS_retN, Rf.okS_brk, Rf.okS_cont, Rf.okS_raise, Rf.okR_fin, Rf.okR_bin, Rf.okR_test, Rf.okR_not, Rf.okR_and, Rf.okR_or, Rf.okR_andV, Rf.okR_orV, Rf.okR_notV, Rf.okR_mif, Rf.okR_C, Rf.okR_nil, Rf.okR_yes, Rf.okR_cons, Rf.okR_call, Rf.okR_callK, Rf.okR_tup, Rf.okR_lst, Rf.okR_fld, Rf.okR_meth, Rf.okR_make, Rf.okR_bm, Rf.okR_isi, Rf.okS_for, Rf.okR_lc, Rf.okR_any, Rf.okS_asg, Rf.okS_setFld, Rf.okR_V, Rf.okR_chain, Rf.okR_rng1, Rf.okR_rng2, Rf.okR_neg, Rf.okR_sl, Rf.okR_noPart, Rf.okR_part, Rf.okS_sub, Rf.okS_par, List.getElem?_cons_zero, List.getElem?_cons_succ, List.set_cons_zero, List.set_cons_succ, if_true, if_false, Bool.false_eq_true, reduceIte, reduceCtorEq, Rf.tgOf, Rf.luk_c, Rf.f1, Rf.gV_non, Rf.gV_bl, Rf.gV_int, Rf.gV_str, Rf.gV_tup, Rf.gV_ktp, Rf.gV_rol, Rf.gV_ref, Rf.gd0, Rf.gdA, List.cons_append, List.nil_append, List.append_nil, List.take_succ_cons, List.take_zero, List.take_nil, List.drop_succ_cons, List.drop_zero, List.drop_nil, Rf.oI0, Rf.oI, Bool.not_true, Bool.not_false, A.look, hp, dLen, List.length_map, d1, d2]
    refine ok_for (rows.map rowD) (fun i ls h' => Fr [] h h' ∧ ∃ x, ls = [some (.ref m), some (.str al), some (.ref p), some (.int f), some ends, x, none, none, none]) ⟨.refl, none, rfl⟩ (by simp; omega) (fun i ls h' q => itm_list (q.1.get _ _ hp (by simp))) (fun i d ls h' hd q => ?_) (fun ls h' q => ?_)
    · obtain ⟨fr, x, rfl⟩ := q
      rw [List.getElem?_map] at hd
      obtain ⟨row, hrow, rfl⟩ := Option.map_eq_some_iff.mp hd
      obtain ⟨r1, r2⟩ := G.row row (List.mem_of_getElem? hrow)
      have hp' := fr.get _ _ hp (by simp)
      refine ⟨_, rfl, ?_⟩
      have za : szOk al.length = true := Nat.ble_eq_true_of_le (by omega)
      have ne : dNe (.int ((row.length : Nat) : Int)) (.int (al.length : Int)) h' = .ok (.bl false) h' := by
        show R.ok (D.bl (!decide ((row.length : Int) = al.length))) h' = _
        rw [decide_eq_true (by omega)]; rfl
      simp only [Rf.okR_ok, Rf.okR_ex, Rf.okS_nx, Rf.okS_rt, Rf.okS_bk, Rf.okS_ct, Rf.okS_ex, Rf.okR_bind, Rf.okS_lift, Rf.okS_seq, Rf.okS_if, Rf.okS_ret, Rf.okS_drop, Rf.okS_set, Rf.okS_next, Rf.okS_retN, Rf.okS_brk, Rf.okS_cont, Rf.okS_raise, Rf.okR_fin, Rf.okR_bin, Rf.okR_test, Rf.okR_not, Rf.okR_and, Rf.okR_or, Rf.okR_andV, Rf.okR_orV, Rf.okR_notV, Rf.okR_mif, Rf.okR_C, Rf.okR_nil, Rf.okR_yes, Rf.okR_cons, Rf.okR_call, Rf.okR_callK, Rf.okR_tup, Rf.okR_lst, Rf.okR_fld, Rf.okR_meth, Rf.okR_make, Rf.okR_bm, Rf.okR_isi, Rf.okS_for, Rf.okR_lc, Rf.okR_any, Rf.okS_asg, Rf.okS_setFld, Rf.okR_V, Rf.okR_chain, Rf.okR_rng1, Rf.okR_rng2, Rf.okR_neg, Rf.okR_sl, Rf.okR_noPart, Rf.okR_part, Rf.okS_sub, Rf.okS_par, List.getElem?_cons_zero, List.getElem?_cons_succ, List.set_cons_zero, List.set_cons_succ, if_true, if_false, Bool.false_eq_true, reduceIte, reduceCtorEq, Rf.tgOf, Rf.luk_c, Rf.f1, Rf.gV_non, Rf.gV_bl, Rf.gV_int, Rf.gV_str, Rf.gV_tup, Rf.gV_ktp, Rf.gV_rol, Rf.gV_ref, Rf.gd0, Rf.gdA, List.cons_append, List.nil_append, List.append_nil, List.take_succ_cons, List.take_zero, List.take_nil, List.drop_succ_cons, List.drop_zero, List.drop_nil, Rf.oI0, Rf.oI, Bool.not_true, Bool.not_false, rowD, dLen, za, List.length_map, nI, ne, wipeL]
      rw [wholes_ok (xs := row) r2 (fun i => rfl) (by omega) (fun k hk ls1 e => ?_)]
      · simp only [Rf.okR_ok, Rf.okR_ex, Rf.okS_nx, Rf.okS_rt, Rf.okS_bk, Rf.okS_ct, Rf.okS_ex, Rf.okR_bind, Rf.okS_lift, Rf.okS_seq, Rf.okS_if, Rf.okS_ret, Rf.okS_drop, Rf.okS_set, Rf.okS_next, Rf.okS_retN, Rf.okS_brk, Rf.okS_cont, Rf.okS_raise, Rf.okR_fin, Rf.okR_bin, Rf.okR_test, Rf.okR_not, Rf.okR_and, Rf.okR_or, Rf.okR_andV, Rf.okR_orV, Rf.okR_notV, Rf.okR_mif, Rf.okR_C, Rf.okR_nil, Rf.okR_yes, Rf.okR_cons, Rf.okR_call, Rf.okR_callK, Rf.okR_tup, Rf.okR_lst, Rf.okR_fld, Rf.okR_meth, Rf.okR_make, Rf.okR_bm, Rf.okR_isi, Rf.okS_for, Rf.okR_lc, Rf.okR_any, Rf.okS_asg, Rf.okS_setFld, Rf.okR_V, Rf.okR_chain, Rf.okR_rng1, Rf.okR_rng2, Rf.okR_neg, Rf.okR_sl, Rf.okR_noPart, Rf.okR_part, Rf.okS_sub, Rf.okS_par, List.getElem?_cons_zero, List.getElem?_cons_succ, List.set_cons_zero, List.set_cons_succ, if_true, if_false, Bool.false_eq_true, reduceIte, reduceCtorEq, Rf.tgOf, Rf.luk_c, Rf.f1, Rf.gV_non, Rf.gV_bl, Rf.gV_int, Rf.gV_str, Rf.gV_tup, Rf.gV_ktp, Rf.gV_rol, Rf.gV_ref, Rf.gd0, Rf.gdA, List.cons_append, List.nil_append, List.append_nil, List.take_succ_cons, List.take_zero, List.take_nil, List.drop_succ_cons, List.drop_zero, List.drop_nil, Rf.oI0, Rf.oI, Bool.not_true, Bool.not_false, all_yes]
        exact ⟨fr.trans .app, _, rfl⟩
      · cases e
        refine okR_is ?_
        simp only [Rf.okR_ok, Rf.okR_ex, Rf.okS_nx, Rf.okS_rt, Rf.okS_bk, Rf.okS_ct, Rf.okS_ex, Rf.okR_bind, Rf.okS_lift, Rf.okS_seq, Rf.okS_if, Rf.okS_ret, Rf.okS_drop, Rf.okS_set, Rf.okS_next, Rf.okS_retN, Rf.okS_brk, Rf.okS_cont, Rf.okS_raise, Rf.okR_fin, Rf.okR_bin, Rf.okR_test, Rf.okR_not, Rf.okR_and, Rf.okR_or, Rf.okR_andV, Rf.okR_orV, Rf.okR_notV, Rf.okR_mif, Rf.okR_C, Rf.okR_nil, Rf.okR_yes, Rf.okR_cons, Rf.okR_call, Rf.okR_callK, Rf.okR_tup, Rf.okR_lst, Rf.okR_fld, Rf.okR_meth, Rf.okR_make, Rf.okR_bm, Rf.okR_isi, Rf.okS_for, Rf.okR_lc, Rf.okR_any, Rf.okS_asg, Rf.okS_setFld, Rf.okR_V, Rf.okR_chain, Rf.okR_rng1, Rf.okR_rng2, Rf.okR_neg, Rf.okR_sl, Rf.okR_noPart, Rf.okR_part, Rf.okS_sub, Rf.okS_par, List.getElem?_cons_zero, List.getElem?_cons_succ, List.set_cons_zero, List.set_cons_succ, if_true, if_false, Bool.false_eq_true, reduceIte, reduceCtorEq, Rf.tgOf, Rf.luk_c, Rf.f1, Rf.gV_non, Rf.gV_bl, Rf.gV_int, Rf.gV_str, Rf.gV_tup, Rf.gV_ktp, Rf.gV_rol, Rf.gV_ref, Rf.gd0, Rf.gdA, List.cons_append, List.nil_append, List.append_nil, List.take_succ_cons, List.take_zero, List.take_nil, List.drop_succ_cons, List.drop_zero, List.drop_nil, Rf.oI0, Rf.oI, Bool.not_true, Bool.not_false, dLen, hp', List.length_map, is_whole_ok hk, and_self]
    · obtain ⟨fr, x, rfl⟩ := q
      have hp' := fr.get _ _ hp (by simp)
      have E' := E.fr fr (by simp)
      obtain ⟨b, s1, s2, s3, s4, s5, s6, s9, L, s7, s8⟩ := E'.sort G
      have lk : luk [(Tg.non, false), (Tg.bool, false), (Tg.int, false), (Tg.str, false), (Tg.list, true), (Tg.tuple, true), (Tg.dict, false), (Tg.ins 13, false), (Tg.ins 19, false)] b = some true := by rcases s3 with rfl | rfl <;> rfl
      simp only [Rf.okR_ok, Rf.okR_ex, Rf.okS_nx, Rf.okS_rt, Rf.okS_bk, Rf.okS_ct, Rf.okS_ex, Rf.okR_bind, Rf.okS_lift, Rf.okS_seq, Rf.okS_if, Rf.okS_ret, Rf.okS_drop, Rf.okS_set, Rf.okS_next, Rf.okS_retN, Rf.okS_brk, Rf.okS_cont, Rf.okS_raise, Rf.okR_fin, Rf.okR_bin, Rf.okR_test, Rf.okR_not, Rf.okR_and, Rf.okR_or, Rf.okR_andV, Rf.okR_orV, Rf.okR_notV, Rf.okR_mif, Rf.okR_C, Rf.okR_nil, Rf.okR_yes, Rf.okR_cons, Rf.okR_call, Rf.okR_callK, Rf.okR_tup, Rf.okR_lst, Rf.okR_fld, Rf.okR_meth, Rf.okR_make, Rf.okR_bm, Rf.okR_isi, Rf.okS_for, Rf.okR_lc, Rf.okS_asg, Rf.okS_setFld, Rf.okR_V, Rf.okR_chain, Rf.okR_rng1, Rf.okR_rng2, Rf.okR_neg, Rf.okR_sl, Rf.okR_noPart, Rf.okR_part, Rf.okS_sub, Rf.okS_par, List.getElem?_cons_zero, List.getElem?_cons_succ, List.set_cons_zero, List.set_cons_succ, if_true, if_false, Bool.false_eq_true, reduceIte, reduceCtorEq, Rf.f1, Rf.gV_non, Rf.gV_bl, Rf.gV_int, Rf.gV_str, Rf.gV_tup, Rf.gV_ktp, Rf.gV_rol, Rf.gV_ref, Rf.gd0, Rf.gdA, List.cons_append, List.nil_append, List.append_nil, List.take_succ_cons, List.take_zero, List.take_nil, List.drop_succ_cons, List.drop_zero, List.drop_nil, Rf.oI0, Rf.oI, Bool.not_true, Bool.not_false, gV_nf nf, dLen, hp', List.length_map, is_whole_ok G.first, s2, lk, wipeL]
      rw [s7 _ _ _ rfl, wholes_ok (xs := st) hst s8 (by omega) (fun k hk ls1 e => ?_)]
      · simp only [Rf.okR_ok, Rf.okR_ex, Rf.okS_nx, Rf.okS_rt, Rf.okS_bk, Rf.okS_ct, Rf.okS_ex, Rf.okR_bind, Rf.okS_lift, Rf.okS_seq, Rf.okS_if, Rf.okS_ret, Rf.okS_drop, Rf.okS_set, Rf.okS_next, Rf.okS_retN, Rf.okS_brk, Rf.okS_cont, Rf.okS_raise, Rf.okR_fin, Rf.okR_bin, Rf.okR_test, Rf.okR_not, Rf.okR_and, Rf.okR_or, Rf.okR_andV, Rf.okR_orV, Rf.okR_notV, Rf.okR_mif, Rf.okR_C, Rf.okR_nil, Rf.okR_yes, Rf.okR_cons, Rf.okR_call, Rf.okR_callK, Rf.okR_tup, Rf.okR_lst, Rf.okR_fld, Rf.okR_meth, Rf.okR_make, Rf.okR_bm, Rf.okR_isi, Rf.okS_for, Rf.okR_lc, Rf.okS_asg, Rf.okS_setFld, Rf.okR_V, Rf.okR_chain, Rf.okR_rng1, Rf.okR_rng2, Rf.okR_neg, Rf.okR_sl, Rf.okR_noPart, Rf.okR_part, Rf.okS_sub, Rf.okS_par, List.getElem?_cons_zero, List.getElem?_cons_succ, List.set_cons_zero, List.set_cons_succ, if_true, if_false, Bool.false_eq_true, reduceIte, reduceCtorEq, Rf.f1, Rf.gV_non, Rf.gV_bl, Rf.gV_int, Rf.gV_str, Rf.gV_tup, Rf.gV_ktp, Rf.gV_rol, Rf.gV_ref, Rf.gd0, Rf.gdA, List.cons_append, List.nil_append, List.append_nil, List.take_succ_cons, List.take_zero, List.take_nil, List.drop_succ_cons, List.drop_zero, List.drop_nil, Rf.oI0, Rf.oI, Bool.not_true, Bool.not_false, gV_nf nf, all_yes, dMul]
        generalize eh1 : h' ++ [LO.lst (st.map fun _ => D.bl true)] = h1
        have fr1 : Fr [] h h1 := by rw [← eh1]; exact fr.trans .app
        have hp1 := fr1.get _ _ hp (by simp)
        obtain ⟨b1, u1, u2, u3, u4, u5, u6, u9, L1, u7, u8⟩ := (E.fr fr1 (by simp)).sort G
        rw [u9 _ rfl]
        simp only [Rf.okR_ok, Rf.okR_ex, Rf.okS_nx, Rf.okS_rt, Rf.okS_bk, Rf.okS_ct, Rf.okS_ex, Rf.okR_bind, Rf.okS_lift, Rf.okS_seq, Rf.okS_if, Rf.okS_ret, Rf.okS_drop, Rf.okS_set, Rf.okS_next, Rf.okS_retN, Rf.okS_brk, Rf.okS_cont, Rf.okS_raise, Rf.okR_fin, Rf.okR_bin, Rf.okR_test, Rf.okR_not, Rf.okR_and, Rf.okR_or, Rf.okR_andV, Rf.okR_orV, Rf.okR_notV, Rf.okR_mif, Rf.okR_C, Rf.okR_nil, Rf.okR_yes, Rf.okR_cons, Rf.okR_call, Rf.okR_callK, Rf.okR_tup, Rf.okR_lst, Rf.okR_fld, Rf.okR_meth, Rf.okR_make, Rf.okR_bm, Rf.okR_isi, Rf.okS_for, Rf.okR_lc, Rf.okS_asg, Rf.okS_setFld, Rf.okR_V, Rf.okR_chain, Rf.okR_rng1, Rf.okR_rng2, Rf.okR_neg, Rf.okR_sl, Rf.okR_noPart, Rf.okR_part, Rf.okS_sub, Rf.okS_par, List.getElem?_cons_zero, List.getElem?_cons_succ, List.set_cons_zero, List.set_cons_succ, if_true, if_false, Bool.false_eq_true, reduceIte, reduceCtorEq, Rf.f1, Rf.gV_non, Rf.gV_bl, Rf.gV_int, Rf.gV_str, Rf.gV_tup, Rf.gV_ktp, Rf.gV_rol, Rf.gV_ref, Rf.gd0, Rf.gdA, List.cons_append, List.nil_append, List.append_nil, List.take_succ_cons, List.take_zero, List.take_nil, List.drop_succ_cons, List.drop_zero, List.drop_nil, Rf.oI0, Rf.oI, Bool.not_true, Bool.not_false, gV_nf nf]
        generalize eh2 : h1 ++ [LO.lst ((nI st).map D.int)] = h2
        have g2 : h2[h1.length]? = some (.lst ((nI st).map .int)) := by rw [← eh2]; exact app_at
        have fr2 : Fr [] h h2 := by rw [← eh2]; exact fr1.trans .app
        obtain ⟨b2, v1, v2, v3, v4, v5, v6, v9, L2, v7, v8⟩ := (E.fr fr2 (by simp)).sort G
        simp only [Rf.okR_ok, Rf.okR_ex, Rf.okS_nx, Rf.okS_rt, Rf.okS_bk, Rf.okS_ct, Rf.okS_ex, Rf.okR_bind, Rf.okS_lift, Rf.okS_seq, Rf.okS_if, Rf.okS_ret, Rf.okS_drop, Rf.okS_set, Rf.okS_next, Rf.okS_retN, Rf.okS_brk, Rf.okS_cont, Rf.okS_raise, Rf.okR_fin, Rf.okR_bin, Rf.okR_test, Rf.okR_not, Rf.okR_and, Rf.okR_or, Rf.okR_andV, Rf.okR_orV, Rf.okR_notV, Rf.okR_mif, Rf.okR_C, Rf.okR_nil, Rf.okR_yes, Rf.okR_cons, Rf.okR_call, Rf.okR_callK, Rf.okR_tup, Rf.okR_lst, Rf.okR_fld, Rf.okR_meth, Rf.okR_make, Rf.okR_bm, Rf.okR_isi, Rf.okS_for, Rf.okR_lc, Rf.okS_asg, Rf.okS_setFld, Rf.okR_V, Rf.okR_chain, Rf.okR_rng1, Rf.okR_rng2, Rf.okR_neg, Rf.okR_sl, Rf.okR_noPart, Rf.okR_part, Rf.okS_sub, Rf.okS_par, List.getElem?_cons_zero, List.getElem?_cons_succ, List.set_cons_zero, List.set_cons_succ, if_true, if_false, Bool.false_eq_true, reduceIte, reduceCtorEq, Rf.f1, Rf.gV_non, Rf.gV_bl, Rf.gV_int, Rf.gV_str, Rf.gV_tup, Rf.gV_ktp, Rf.gV_rol, Rf.gV_ref, Rf.gd0, Rf.gdA, List.cons_append, List.nil_append, List.append_nil, List.take_succ_cons, List.take_zero, List.take_nil, List.drop_succ_cons, List.drop_zero, List.drop_nil, Rf.oI0, Rf.oI, Bool.not_true, Bool.not_false, gV_nf nf, v1, ne_ints (app_lt g2) app_at]
        generalize eh3 : h2 ++ [LO.lst ((nI st).map D.int)] = h3
        have fr3 : Fr [] h h3 := by rw [← eh3]; exact fr2.trans .app
        have hm3 := fr3.get _ _ hm (by simp)
        have sf : ∀ (i : Nat) (d : D) (fs : List (Nat × D)) (hh : LH), fs.length < 10 → hh[m]? = some (.ins 13 fs) → setFld [13] i m d hh = some (hh.set m (.ins 13 (putN i d fs))) := fun i d fs hh hl e => by
          have : Nat.blt fs.length 900 = true := Nat.ble_eq_true_of_le (by omega)
          simp only [setFld, e, this]; rfl
        have lm : ∀ {hh : LH} {o : LO}, hh[m]? = some o → m < hh.length := fun e => (List.getElem?_eq_some_iff.mp e).1
        simp only [Rf.okR_ok, Rf.okR_ex, Rf.okS_nx, Rf.okS_rt, Rf.okS_bk, Rf.okS_ct, Rf.okS_ex, Rf.okR_bind, Rf.okS_lift, Rf.okS_seq, Rf.okS_if, Rf.okS_ret, Rf.okS_drop, Rf.okS_set, Rf.okS_next, Rf.okS_retN, Rf.okS_brk, Rf.okS_cont, Rf.okS_raise, Rf.okR_fin, Rf.okR_bin, Rf.okR_test, Rf.okR_not, Rf.okR_and, Rf.okR_or, Rf.okR_andV, Rf.okR_orV, Rf.okR_notV, Rf.okR_mif, Rf.okR_C, Rf.okR_nil, Rf.okR_yes, Rf.okR_cons, Rf.okR_call, Rf.okR_callK, Rf.okR_tup, Rf.okR_lst, Rf.okR_fld, Rf.okR_meth, Rf.okR_make, Rf.okR_bm, Rf.okR_isi, Rf.okS_for, Rf.okR_lc, Rf.okS_asg, Rf.okS_setFld, Rf.okR_V, Rf.okR_chain, Rf.okR_rng1, Rf.okR_rng2, Rf.okR_neg, Rf.okR_sl, Rf.okR_noPart, Rf.okR_part, Rf.okS_sub, Rf.okS_par, List.getElem?_cons_zero, List.getElem?_cons_succ, List.set_cons_zero, List.set_cons_succ, if_true, if_false, Bool.false_eq_true, reduceIte, reduceCtorEq, Rf.f1, Rf.gV_non, Rf.gV_bl, Rf.gV_int, Rf.gV_str, Rf.gV_tup, Rf.gV_ktp, Rf.gV_rol, Rf.gV_ref, Rf.gd0, Rf.gdA, List.cons_append, List.nil_append, List.append_nil, List.take_succ_cons, List.take_zero, List.take_nil, List.drop_succ_cons, List.drop_zero, List.drop_nil, Rf.oI0, Rf.oI, Bool.not_true, Bool.not_false, gV_nf nf, sf 23 _ _ _ (by simp) hm3]
        generalize eh4 : h3.set m (.ins 13 (putN 23 (.str al) [])) = h4
        have hm4 : h4[m]? = some (.ins 13 [(23, .str al)]) := by rw [← eh4, List.getElem?_set_self (lm hm3)]; rfl
        have fr4 : Fr [m] h h4 := by rw [← eh4]; exact (fr3.mono (by simp)).trans (Fr.set (by simp))
        have pm : p ≠ m := fun z => by rw [z, hm] at hp; cases hp
        have hp4 := fr4.get _ _ hp (by simpa using pm)
        have hm5 : (h4 ++ [LO.lst (rows.map rowD)])[m]? = some (.ins 13 [(23, .str al)]) := app_lt hm4
        simp only [Rf.okR_ok, Rf.okR_ex, Rf.okS_nx, Rf.okS_rt, Rf.okS_bk, Rf.okS_ct, Rf.okS_ex, Rf.okR_bind, Rf.okS_lift, Rf.okS_seq, Rf.okS_if, Rf.okS_ret, Rf.okS_drop, Rf.okS_set, Rf.okS_next, Rf.okS_retN, Rf.okS_brk, Rf.okS_cont, Rf.okS_raise, Rf.okR_fin, Rf.okR_bin, Rf.okR_test, Rf.okR_not, Rf.okR_and, Rf.okR_or, Rf.okR_andV, Rf.okR_orV, Rf.okR_notV, Rf.okR_mif, Rf.okR_C, Rf.okR_nil, Rf.okR_yes, Rf.okR_cons, Rf.okR_call, Rf.okR_callK, Rf.okR_tup, Rf.okR_lst, Rf.okR_fld, Rf.okR_meth, Rf.okR_make, Rf.okR_bm, Rf.okR_isi, Rf.okS_for, Rf.okR_lc, Rf.okS_asg, Rf.okS_setFld, Rf.okR_V, Rf.okR_chain, Rf.okR_rng1, Rf.okR_rng2, Rf.okR_neg, Rf.okR_sl, Rf.okR_noPart, Rf.okR_part, Rf.okS_sub, Rf.okS_par, List.getElem?_cons_zero, List.getElem?_cons_succ, List.set_cons_zero, List.set_cons_succ, if_true, if_false, Bool.false_eq_true, reduceIte, reduceCtorEq, Rf.f1, Rf.gV_non, Rf.gV_bl, Rf.gV_int, Rf.gV_str, Rf.gV_tup, Rf.gV_ktp, Rf.gV_rol, Rf.gV_ref, Rf.gd0, Rf.gdA, List.cons_append, List.nil_append, List.append_nil, List.take_succ_cons, List.take_zero, List.take_nil, List.drop_succ_cons, List.drop_zero, List.drop_nil, Rf.oI0, Rf.oI, Bool.not_true, Bool.not_false, gV_nf nf, dList, asRd, hp4, sf 24 _ _ _ (by simp) hm5]
        generalize eh6 : (h4 ++ [LO.lst (rows.map rowD)]).set m (.ins 13 (putN 24 (.ref h4.length) [(23, .str al)])) = h6
        have hm6 : h6[m]? = some (.ins 13 [(23, .str al), (24, .ref h4.length)]) := by rw [← eh6, List.getElem?_set_self (lm hm5)]; rfl
        have fr6 : Fr [m] h h6 := by rw [← eh6]; exact (fr4.trans .app).trans (Fr.set (by simp))
        have lm4 := lm hm4
        have hr6 : h6[h4.length]? = some (.lst (rows.map rowD)) := by rw [← eh6, List.getElem?_set_ne (by omega)]; exact app_at
        simp only [Rf.okR_ok, Rf.okR_ex, Rf.okS_nx, Rf.okS_rt, Rf.okS_bk, Rf.okS_ct, Rf.okS_ex, Rf.okR_bind, Rf.okS_lift, Rf.okS_seq, Rf.okS_if, Rf.okS_ret, Rf.okS_drop, Rf.okS_set, Rf.okS_next, Rf.okS_retN, Rf.okS_brk, Rf.okS_cont, Rf.okS_raise, Rf.okR_fin, Rf.okR_bin, Rf.okR_test, Rf.okR_not, Rf.okR_and, Rf.okR_or, Rf.okR_andV, Rf.okR_orV, Rf.okR_notV, Rf.okR_mif, Rf.okR_C, Rf.okR_nil, Rf.okR_yes, Rf.okR_cons, Rf.okR_call, Rf.okR_callK, Rf.okR_tup, Rf.okR_lst, Rf.okR_fld, Rf.okR_meth, Rf.okR_make, Rf.okR_bm, Rf.okR_isi, Rf.okS_for, Rf.okR_lc, Rf.okS_asg, Rf.okS_setFld, Rf.okR_V, Rf.okR_chain, Rf.okR_rng1, Rf.okR_rng2, Rf.okR_neg, Rf.okR_sl, Rf.okR_noPart, Rf.okR_part, Rf.okS_sub, Rf.okS_par, List.getElem?_cons_zero, List.getElem?_cons_succ, List.set_cons_zero, List.set_cons_succ, if_true, if_false, Bool.false_eq_true, reduceIte, reduceCtorEq, Rf.f1, Rf.gV_non, Rf.gV_bl, Rf.gV_int, Rf.gV_str, Rf.gV_tup, Rf.gV_ktp, Rf.gV_rol, Rf.gV_ref, Rf.gd0, Rf.gdA, List.cons_append, List.nil_append, List.append_nil, List.take_succ_cons, List.take_zero, List.take_nil, List.drop_succ_cons, List.drop_zero, List.drop_nil, Rf.oI0, Rf.oI, Bool.not_true, Bool.not_false, gV_nf nf, sf 25 _ _ _ (by simp) hm6]
        generalize eh7 : h6.set m (.ins 13 (putN 25 (.int f) [(23, .str al), (24, .ref h4.length)])) = h7
        have hm7 : h7[m]? = some (.ins 13 [(23, .str al), (24, .ref h4.length), (25, .int f)]) := by rw [← eh7, List.getElem?_set_self (lm hm6)]; rfl
        have fr7 : Fr [m] h h7 := by rw [← eh7]; exact fr6.trans (Fr.set (by simp))
        have hr7 : h7[h4.length]? = some (.lst (rows.map rowD)) := by rw [← eh7, List.getElem?_set_ne (by omega)]; exact hr6
        have hp7 := fr7.get _ _ hp (by simpa using pm)
        obtain ⟨b3, x1, x2, x3, x4, x5, x6, x9, L3, x7, x8⟩ := (E.fr fr7 (fun q e => by simpa using hE q e)).sort G
        simp only [Rf.okR_ok, Rf.okR_ex, Rf.okS_nx, Rf.okS_rt, Rf.okS_bk, Rf.okS_ct, Rf.okS_ex, Rf.okR_bind, Rf.okS_lift, Rf.okS_seq, Rf.okS_if, Rf.okS_ret, Rf.okS_drop, Rf.okS_set, Rf.okS_next, Rf.okS_retN, Rf.okS_brk, Rf.okS_cont, Rf.okS_raise, Rf.okR_fin, Rf.okR_bin, Rf.okR_test, Rf.okR_not, Rf.okR_and, Rf.okR_or, Rf.okR_andV, Rf.okR_orV, Rf.okR_notV, Rf.okR_mif, Rf.okR_C, Rf.okR_nil, Rf.okR_yes, Rf.okR_cons, Rf.okR_call, Rf.okR_callK, Rf.okR_tup, Rf.okR_lst, Rf.okR_fld, Rf.okR_meth, Rf.okR_make, Rf.okR_bm, Rf.okR_isi, Rf.okS_for, Rf.okR_lc, Rf.okS_asg, Rf.okS_setFld, Rf.okR_V, Rf.okR_chain, Rf.okR_rng1, Rf.okR_rng2, Rf.okR_neg, Rf.okR_sl, Rf.okR_noPart, Rf.okR_part, Rf.okS_sub, Rf.okS_par, List.getElem?_cons_zero, List.getElem?_cons_succ, List.set_cons_zero, List.set_cons_succ, if_true, if_false, Bool.false_eq_true, reduceIte, reduceCtorEq, Rf.f1, Rf.gV_non, Rf.gV_bl, Rf.gV_int, Rf.gV_str, Rf.gV_tup, Rf.gV_ktp, Rf.gV_rol, Rf.gV_ref, Rf.gd0, Rf.gdA, List.cons_append, List.nil_append, List.append_nil, List.take_succ_cons, List.take_zero, List.take_nil, List.drop_succ_cons, List.drop_zero, List.drop_nil, Rf.oI0, Rf.oI, Bool.not_true, Bool.not_false, gV_nf nf, dLen, hp7, List.length_map, rngK_nat (n := rows.length) (h := h7) (by omega), wipeL]
        rw [lc_map (rgD 0 rows.length) (fun d => match d with
          | .int i => .bl (decide (i.toNat ∈ st))
          | _ => .non) (fun i => itm_range) (by rw [rgD_len]; omega) (by rw [rgD_len]; omega) (fun d hd => ?_)]
        · have em : (rgD 0 rows.length).map (fun d => match d with
            | .int i => D.bl (decide (i.toNat ∈ st))
            | _ => .non) = (List.range rows.length).map fun k => .bl (decide (k ∈ st)) := by
            unfold rgD
            rw [List.map_map]
            refine List.map_congr_left fun k _ => ?_
            simp
          rw [em]
          have hm8 : (h7 ++ [LO.lst ((List.range rows.length).map fun k => .bl (decide (k ∈ st)))])[m]? = some (.ins 13 [(23, .str al), (24, .ref h4.length), (25, .int f)]) := app_lt hm7
          simp only [Rf.okR_ok, Rf.okR_ex, Rf.okS_nx, Rf.okS_rt, Rf.okS_bk, Rf.okS_ct, Rf.okS_ex, Rf.okR_bind, Rf.okS_lift, Rf.okS_seq, Rf.okS_if, Rf.okS_ret, Rf.okS_drop, Rf.okS_set, Rf.okS_next, Rf.okS_retN, Rf.okS_brk, Rf.okS_cont, Rf.okS_raise, Rf.okR_fin, Rf.okR_bin, Rf.okR_test, Rf.okR_not, Rf.okR_and, Rf.okR_or, Rf.okR_andV, Rf.okR_orV, Rf.okR_notV, Rf.okR_mif, Rf.okR_C, Rf.okR_nil, Rf.okR_yes, Rf.okR_cons, Rf.okR_call, Rf.okR_callK, Rf.okR_tup, Rf.okR_lst, Rf.okR_fld, Rf.okR_meth, Rf.okR_make, Rf.okR_bm, Rf.okR_isi, Rf.okS_for, Rf.okR_lc, Rf.okS_asg, Rf.okS_setFld, Rf.okR_V, Rf.okR_chain, Rf.okR_rng1, Rf.okR_rng2, Rf.okR_neg, Rf.okR_sl, Rf.okR_noPart, Rf.okR_part, Rf.okS_sub, Rf.okS_par, List.getElem?_cons_zero, List.getElem?_cons_succ, List.set_cons_zero, List.set_cons_succ, if_true, if_false, Bool.false_eq_true, reduceIte, reduceCtorEq, Rf.f1, Rf.gV_non, Rf.gV_bl, Rf.gV_int, Rf.gV_str, Rf.gV_tup, Rf.gV_ktp, Rf.gV_rol, Rf.gV_ref, Rf.gd0, Rf.gdA, List.cons_append, List.nil_append, List.append_nil, List.take_succ_cons, List.take_zero, List.take_nil, List.drop_succ_cons, List.drop_zero, List.drop_nil, Rf.oI0, Rf.oI, Bool.not_true, Bool.not_false, gV_nf nf, sf 26 _ _ _ (by simp) hm8]
          have lm7 := lm hm7
          have l47 : h4.length < h7.length := (List.getElem?_eq_some_iff.mp hr7).1
          refine ⟨trivial, h4.length, h7.length, ⟨?_, ?_, ?_⟩, ?_, fr4.len, fr7.len⟩
          · rw [List.getElem?_set_self (lm hm8)]; rfl
          · rw [List.getElem?_set_ne (by omega)]; exact app_lt hr7
          · rw [List.getElem?_set_ne (by omega)]; exact app_at
          · exact (fr7.trans .app).trans (Fr.set (by simp))
        · unfold rgD at hd
          obtain ⟨k, hk, rfl⟩ := List.mem_map.mp hd
          refine ⟨_, rfl, okR_is ?_⟩
          simp only [Rf.okR_ok, Rf.okR_ex, Rf.okS_nx, Rf.okS_rt, Rf.okS_bk, Rf.okS_ct, Rf.okS_ex, Rf.okR_bind, Rf.okS_lift, Rf.okS_seq, Rf.okS_if, Rf.okS_ret, Rf.okS_drop, Rf.okS_set, Rf.okS_next, Rf.okS_retN, Rf.okS_brk, Rf.okS_cont, Rf.okS_raise, Rf.okR_fin, Rf.okR_bin, Rf.okR_test, Rf.okR_not, Rf.okR_and, Rf.okR_or, Rf.okR_andV, Rf.okR_orV, Rf.okR_notV, Rf.okR_mif, Rf.okR_C, Rf.okR_nil, Rf.okR_yes, Rf.okR_cons, Rf.okR_call, Rf.okR_callK, Rf.okR_tup, Rf.okR_lst, Rf.okR_fld, Rf.okR_meth, Rf.okR_make, Rf.okR_bm, Rf.okR_isi, Rf.okS_for, Rf.okR_lc, Rf.okS_asg, Rf.okS_setFld, Rf.okR_V, Rf.okR_chain, Rf.okR_rng1, Rf.okR_rng2, Rf.okR_neg, Rf.okR_sl, Rf.okR_noPart, Rf.okR_part, Rf.okS_sub, Rf.okS_par, List.getElem?_cons_zero, List.getElem?_cons_succ, List.set_cons_zero, List.set_cons_succ, if_true, if_false, Bool.false_eq_true, reduceIte, reduceCtorEq, Rf.f1, Rf.gV_non, Rf.gV_bl, Rf.gV_int, Rf.gV_str, Rf.gV_tup, Rf.gV_ktp, Rf.gV_rol, Rf.gV_ref, Rf.gd0, Rf.gdA, List.cons_append, List.nil_append, List.append_nil, List.take_succ_cons, List.take_zero, List.take_nil, List.drop_succ_cons, List.drop_zero, List.drop_nil, Rf.oI0, Rf.oI, Bool.not_true, Bool.not_false, gV_nf nf, Int.zero_add, x6, Int.toNat_natCast, and_self]
      · cases e
        refine okR_is ?_
        simp only [Rf.okR_ok, Rf.okR_ex, Rf.okS_nx, Rf.okS_rt, Rf.okS_bk, Rf.okS_ct, Rf.okS_ex, Rf.okR_bind, Rf.okS_lift, Rf.okS_seq, Rf.okS_if, Rf.okS_ret, Rf.okS_drop, Rf.okS_set, Rf.okS_next, Rf.okS_retN, Rf.okS_brk, Rf.okS_cont, Rf.okS_raise, Rf.okR_fin, Rf.okR_bin, Rf.okR_test, Rf.okR_not, Rf.okR_and, Rf.okR_or, Rf.okR_andV, Rf.okR_orV, Rf.okR_notV, Rf.okR_mif, Rf.okR_C, Rf.okR_nil, Rf.okR_yes, Rf.okR_cons, Rf.okR_call, Rf.okR_callK, Rf.okR_tup, Rf.okR_lst, Rf.okR_fld, Rf.okR_meth, Rf.okR_make, Rf.okR_bm, Rf.okR_isi, Rf.okS_for, Rf.okR_lc, Rf.okS_asg, Rf.okS_setFld, Rf.okR_V, Rf.okR_chain, Rf.okR_rng1, Rf.okR_rng2, Rf.okR_neg, Rf.okR_sl, Rf.okR_noPart, Rf.okR_part, Rf.okS_sub, Rf.okS_par, List.getElem?_cons_zero, List.getElem?_cons_succ, List.set_cons_zero, List.set_cons_succ, if_true, if_false, Bool.false_eq_true, reduceIte, reduceCtorEq, Rf.f1, Rf.gV_non, Rf.gV_bl, Rf.gV_int, Rf.gV_str, Rf.gV_tup, Rf.gV_ktp, Rf.gV_rol, Rf.gV_ref, Rf.gd0, Rf.gdA, List.cons_append, List.nil_append, List.append_nil, List.take_succ_cons, List.take_zero, List.take_nil, List.drop_succ_cons, List.drop_zero, List.drop_nil, Rf.oI0, Rf.oI, Bool.not_true, Bool.not_false, gV_nf nf, wipeL, dLen, hp', List.length_map, is_whole_ok hk, and_self]
  obtain ⟨d, h', e, rfl, r, s, c⟩ := okR_eq main
  exact ⟨h', r, s, e, c⟩
end
end Lw
set_option Elab.async false
set_option linter.all false
set_option maxRecDepth 100000
set_option maxHeartbeats 1000000
set_option autoImplicit false
namespace Lw
open PySem PySem.Spec L2 Rf
theorem raw_ok {h : LH} {t r : Nat} {row : List Int} {c : Int} {al : List Nat} {most : Nat} (T : Town h t r row c) (ha : al.length ≤ 4) (hm : 1 ≤ most) (hm2 : most ≤ 300) :
    ∃ (rows : List (List Nat)) (f : Nat) (st : List Nat) (p q : Nat) (h' : LH) (row' : List Int) (c' : Int), Good al rows f st ∧ rows.length ≤ most ∧ m__law_raw [.ref t, .str al, .int most] h = .ok (.tup [.str al, .ref p, .int f, .ref q]) h' ∧ Raw h' p q rows st ∧ h.length ≤ p ∧ h.length ≤ q ∧ p ≠ q ∧ Town h' t r row' c' ∧ Fr [t, r] h h' := by
  have ed : m__law_draw = runA drawM := rfl
  have ep : m__law_pick = pickM := rfl
  obtain ⟨v, h1, row1, vn, e1, T1, fr1, hl1⟩ := drawF (n := (most : Int)) T (by omega) (by omega)
  have main : @okR _ (m__law_raw [.ref t, .str al, .int most] h) ⟨fun d h' => ∃ (rows : List (List Nat)) (f : Nat) (st : List Nat) (p q : Nat) (row' : List Int) (c' : Int), Good al rows f st ∧ rows.length ≤ most ∧ d = .tup [.str al, .ref p, .int f, .ref q] ∧ Raw h' p q rows st ∧ h.length ≤ p ∧ h.length ≤ q ∧ p ≠ q ∧ Town h' t r row' c' ∧ Fr [t, r] h h'⟩ ⟨fun _ _ => False⟩ := by
    show @okR _ (fin (b__law_raw [some (.ref t), some (.str al), some (.int most), none, none, none, none, none, none] h)) ⟨_⟩ ⟨_⟩
    unfold b__law_raw
    have vp : (1 : Int) + (v : Int) = ((v + 1 : Nat) : Int) := by omega
    simp only [Rf.okR_ok, Rf.okR_ex, Rf.okS_nx, Rf.okS_rt, Rf.okS_bk, Rf.okS_ct, Rf.okS_ex, Rf.okR_bind, Rf.okS_lift, Rf.okS_seq, Rf.okS_if, Rf.okS_ret, Rf.okS_drop, Rf.okS_set, Rf.okS_next, Rf.okS_retN, Rf.okS_brk, Rf.okS_cont, Rf.okS_raise, Rf.okR_fin, Rf.okR_bin, Rf.okR_test, Rf.okR_not, Rf.okR_and, Rf.okR_or, Rf.okR_andV, Rf.okR_orV, Rf.okR_notV, Rf.okR_mif, Rf.okR_C, Rf.okR_nil, Rf.okR_yes, Rf.okR_cons, Rf.okR_call, Rf.okR_callK, Rf.okR_tup, Rf.okR_lst, Rf.okR_fld, Rf.okR_meth, Rf.okR_make, Rf.okR_bm, Rf.okR_isi, Rf.okS_for, Rf.okR_lc, Rf.okR_any, Rf.okS_asg, Rf.okS_setFld, Rf.okR_V, Rf.okR_chain, Rf.okR_rng1, Rf.okR_rng2, Rf.okR_neg, Rf.okR_sl, Rf.okR_noPart, Rf.okR_part, Rf.okS_sub, Rf.okS_par, List.getElem?_cons_zero, List.getElem?_cons_succ, List.set_cons_zero, List.set_cons_succ, if_true, if_false, Bool.false_eq_true, reduceIte, reduceCtorEq, Rf.tgOf, Rf.luk_c, Rf.f1, Rf.gV_non, Rf.gV_bl, Rf.gV_int, Rf.gV_str, Rf.gV_tup, Rf.gV_ktp, Rf.gV_rol, Rf.gV_ref, Rf.gd0, Rf.gdA, List.cons_append, List.nil_append, List.append_nil, List.take_succ_cons, List.take_zero, List.take_nil, List.drop_succ_cons, List.drop_zero, List.drop_nil, Rf.oI0, Rf.oI, Bool.not_true, Bool.not_false, ed, e1, dAdd, vp, rngK_nat (n := v + 1) (h := h1) (by omega), wipeL]
    refine ok_lc (rgD 0 (v + 1)) (fun i acc h' => ∃ (rs : List (List Nat)) (row' : List Int) (c' : Int), acc = rs.map rowD ∧ rs.length = i ∧ (∀ x ∈ rs, x.length = al.length ∧ ∀ y ∈ x, y < v + 1) ∧ Town h' t r row' c' ∧ Fr [t, r] h h') ⟨[], row1, _, rfl, rfl, by simp, T1, fr1⟩ (by rw [rgD_len]; omega) (by rw [rgD_len]; omega) (fun i acc h' _ => itm_range) (fun i d acc h' hd q => ?_) (fun acc h' q => ?_)
    · obtain ⟨rs, row', c', rfl, rl, rg, T', fr'⟩ := q
      refine ⟨_, rfl, ?_⟩
      simp only [Rf.okR_ok, Rf.okR_ex, Rf.okS_nx, Rf.okS_rt, Rf.okS_bk, Rf.okS_ct, Rf.okS_ex, Rf.okR_bind, Rf.okS_lift, Rf.okS_seq, Rf.okS_if, Rf.okS_ret, Rf.okS_drop, Rf.okS_set, Rf.okS_next, Rf.okS_retN, Rf.okS_brk, Rf.okS_cont, Rf.okS_raise, Rf.okR_fin, Rf.okR_bin, Rf.okR_test, Rf.okR_not, Rf.okR_and, Rf.okR_or, Rf.okR_andV, Rf.okR_orV, Rf.okR_notV, Rf.okR_mif, Rf.okR_C, Rf.okR_nil, Rf.okR_yes, Rf.okR_cons, Rf.okR_call, Rf.okR_callK, Rf.okR_tup, Rf.okR_lst, Rf.okR_fld, Rf.okR_meth, Rf.okR_make, Rf.okR_bm, Rf.okR_isi, Rf.okS_for, Rf.okR_lc, Rf.okR_any, Rf.okS_asg, Rf.okS_setFld, Rf.okR_V, Rf.okR_chain, Rf.okR_rng1, Rf.okR_rng2, Rf.okR_neg, Rf.okR_sl, Rf.okR_noPart, Rf.okR_part, Rf.okS_sub, Rf.okS_par, List.getElem?_cons_zero, List.getElem?_cons_succ, List.set_cons_zero, List.set_cons_succ, if_true, if_false, Bool.false_eq_true, reduceIte, reduceCtorEq, Rf.tgOf, Rf.luk_c, Rf.f1, Rf.gV_non, Rf.gV_bl, Rf.gV_int, Rf.gV_str, Rf.gV_tup, Rf.gV_ktp, Rf.gV_rol, Rf.gV_ref, Rf.gd0, Rf.gdA, List.cons_append, List.nil_append, List.append_nil, List.take_succ_cons, List.take_zero, List.take_nil, List.drop_succ_cons, List.drop_zero, List.drop_nil, Rf.oI0, Rf.oI, Bool.not_true, Bool.not_false, wipeL]
      refine ok_lc (al.map fun c => .str [c]) (fun j acc2 h2 => ∃ (xs : List Nat) (row' : List Int) (c' : Int), acc2 = (nI xs).map .int ∧ xs.length = j ∧ (∀ y ∈ xs, y < v + 1) ∧ Town h2 t r row' c' ∧ Fr [t, r] h h2) ⟨[], row', _, rfl, rfl, by simp, T', fr'⟩ (by simp; omega) (by simp; omega) (fun j acc2 h2 _ => itm_str) (fun j d2 acc2 h2 hd2 q2 => ?_) (fun acc2 h2 q2 => ?_)
      · obtain ⟨xs, row2, c2, rfl, xl, xg, T2, fr2⟩ := q2
        refine ⟨_, rfl, ?_⟩
        obtain ⟨u, h3, row3, un, e3, T3, fr3, hl3⟩ := drawF (n := ((v + 1 : Nat) : Int)) T2 (by omega) (by omega)
        simp only [Rf.okR_ok, Rf.okR_ex, Rf.okS_nx, Rf.okS_rt, Rf.okS_bk, Rf.okS_ct, Rf.okS_ex, Rf.okR_bind, Rf.okS_lift, Rf.okS_seq, Rf.okS_if, Rf.okS_ret, Rf.okS_drop, Rf.okS_set, Rf.okS_next, Rf.okS_retN, Rf.okS_brk, Rf.okS_cont, Rf.okS_raise, Rf.okR_fin, Rf.okR_bin, Rf.okR_test, Rf.okR_not, Rf.okR_and, Rf.okR_or, Rf.okR_andV, Rf.okR_orV, Rf.okR_notV, Rf.okR_mif, Rf.okR_C, Rf.okR_nil, Rf.okR_yes, Rf.okR_cons, Rf.okR_call, Rf.okR_callK, Rf.okR_tup, Rf.okR_lst, Rf.okR_fld, Rf.okR_meth, Rf.okR_make, Rf.okR_bm, Rf.okR_isi, Rf.okS_for, Rf.okR_lc, Rf.okR_any, Rf.okS_asg, Rf.okS_setFld, Rf.okR_V, Rf.okR_chain, Rf.okR_rng1, Rf.okR_rng2, Rf.okR_neg, Rf.okR_sl, Rf.okR_noPart, Rf.okR_part, Rf.okS_sub, Rf.okS_par, List.getElem?_cons_zero, List.getElem?_cons_succ, List.set_cons_zero, List.set_cons_succ, if_true, if_false, Bool.false_eq_true, reduceIte, reduceCtorEq, Rf.tgOf, Rf.luk_c, Rf.f1, Rf.gV_non, Rf.gV_bl, Rf.gV_int, Rf.gV_str, Rf.gV_tup, Rf.gV_ktp, Rf.gV_rol, Rf.gV_ref, Rf.gd0, Rf.gdA, List.cons_append, List.nil_append, List.append_nil, List.take_succ_cons, List.take_zero, List.take_nil, List.drop_succ_cons, List.drop_zero, List.drop_nil, Rf.oI0, Rf.oI, Bool.not_true, Bool.not_false, ed, e3]
        refine ⟨xs ++ [u], row3, _, ?_, by simp [xl], ?_, T3, fr2.trans fr3⟩
        · simp [nI]
        · intro y hy
          rcases List.mem_append.mp hy with z | z
          · exact xg y z
          · have : y = u := by simpa using z
            omega
      · obtain ⟨xs, row2, c2, rfl, xl, xg, T2, fr2⟩ := q2
        simp only [Rf.okR_ok, Rf.okR_ex, Rf.okS_nx, Rf.okS_rt, Rf.okS_bk, Rf.okS_ct, Rf.okS_ex, Rf.okR_bind, Rf.okS_lift, Rf.okS_seq, Rf.okS_if, Rf.okS_ret, Rf.okS_drop, Rf.okS_set, Rf.okS_next, Rf.okS_retN, Rf.okS_brk, Rf.okS_cont, Rf.okS_raise, Rf.okR_fin, Rf.okR_bin, Rf.okR_test, Rf.okR_not, Rf.okR_and, Rf.okR_or, Rf.okR_andV, Rf.okR_orV, Rf.okR_notV, Rf.okR_mif, Rf.okR_C, Rf.okR_nil, Rf.okR_yes, Rf.okR_cons, Rf.okR_call, Rf.okR_callK, Rf.okR_tup, Rf.okR_lst, Rf.okR_fld, Rf.okR_meth, Rf.okR_make, Rf.okR_bm, Rf.okR_isi, Rf.okS_for, Rf.okR_lc, Rf.okR_any, Rf.okS_asg, Rf.okS_setFld, Rf.okR_V, Rf.okR_chain, Rf.okR_rng1, Rf.okR_rng2, Rf.okR_neg, Rf.okR_sl, Rf.okR_noPart, Rf.okR_part, Rf.okS_sub, Rf.okS_par, List.getElem?_cons_zero, List.getElem?_cons_succ, List.set_cons_zero, List.set_cons_succ, if_true, if_false, Bool.false_eq_true, reduceIte, reduceCtorEq, Rf.tgOf, Rf.luk_c, Rf.f1, Rf.gV_non, Rf.gV_bl, Rf.gV_int, Rf.gV_str, Rf.gV_tup, Rf.gV_ktp, Rf.gV_rol, Rf.gV_ref, Rf.gd0, Rf.gdA, List.cons_append, List.nil_append, List.append_nil, List.take_succ_cons, List.take_zero, List.take_nil, List.drop_succ_cons, List.drop_zero, List.drop_nil, Rf.oI0, Rf.oI, Bool.not_true, Bool.not_false, dTuple, asRd, app_at]
        refine ⟨rs ++ [xs], row2, c2, ?_, by simp [rl], ?_, T2.app, fr2.trans .app⟩
        · simp [rowD]
        · intro y hy
          rcases List.mem_append.mp hy with z | z
          · exact rg y z
          · have : y = xs := by simpa using z
            subst this
            exact ⟨by simpa using xl, xg⟩
    · obtain ⟨rs, row', c', rfl, rl, rg, T', fr'⟩ := q
      rw [rgD_len] at rl
      generalize eh2 : h' ++ [LO.lst (rs.map rowD)] = h2
      have g2 : h2[h'.length]? = some (.lst (rs.map rowD)) := by rw [← eh2]; exact app_at
      have T2 : Town h2 t r row' c' := by rw [← eh2]; exact T'.app
      have fr2 : Fr [t, r] h h2 := by rw [← eh2]; exact fr'.trans .app
      have l2 : h'.length < h2.length := (List.getElem?_eq_some_iff.mp g2).1
      obtain ⟨w, x, h3, row3, hw, e3, T3, fr3, hl3⟩ := pickN T2 [.int 2, .int 3, .int 4] (by decide) (by decide)
      obtain ⟨sh, rfl, s0, s1⟩ : ∃ sh : Int, x = .int sh ∧ 1 ≤ sh ∧ sh ≤ 39 := by
        match w, hw with
        | 0, hv => cases hv; exact ⟨2, rfl, by decide, by decide⟩
        | 1, hv => cases hv; exact ⟨3, rfl, by decide, by decide⟩
        | 2, hv => cases hv; exact ⟨4, rfl, by decide, by decide⟩
        | v + 3, hv => simp at hv
      have z3 : szOk [D.int 2, .int 3, .int 4].length = true := rfl
      have g3 := fr3.get _ _ g2 (by have := T'.fresh; simp; omega)
      simp only [Rf.okR_ok, Rf.okR_ex, Rf.okS_nx, Rf.okS_rt, Rf.okS_bk, Rf.okS_ct, Rf.okS_ex, Rf.okR_bind, Rf.okS_lift, Rf.okS_seq, Rf.okS_if, Rf.okS_ret, Rf.okS_drop, Rf.okS_set, Rf.okS_next, Rf.okS_retN, Rf.okS_brk, Rf.okS_cont, Rf.okS_raise, Rf.okR_fin, Rf.okR_bin, Rf.okR_test, Rf.okR_not, Rf.okR_and, Rf.okR_or, Rf.okR_andV, Rf.okR_orV, Rf.okR_notV, Rf.okR_mif, Rf.okR_C, Rf.okR_nil, Rf.okR_yes, Rf.okR_cons, Rf.okR_call, Rf.okR_callK, Rf.okR_tup, Rf.okR_lst, Rf.okR_fld, Rf.okR_meth, Rf.okR_make, Rf.okR_bm, Rf.okR_isi, Rf.okS_for, Rf.okR_lc, Rf.okR_any, Rf.okS_asg, Rf.okS_setFld, Rf.okR_V, Rf.okR_chain, Rf.okR_rng1, Rf.okR_rng2, Rf.okR_neg, Rf.okR_sl, Rf.okR_noPart, Rf.okR_part, Rf.okS_sub, Rf.okS_par, List.getElem?_cons_zero, List.getElem?_cons_succ, List.set_cons_zero, List.set_cons_succ, if_true, if_false, Bool.false_eq_true, reduceIte, reduceCtorEq, Rf.tgOf, Rf.luk_c, Rf.f1, Rf.gV_non, Rf.gV_bl, Rf.gV_int, Rf.gV_str, Rf.gV_tup, Rf.gV_ktp, Rf.gV_rol, Rf.gV_ref, Rf.gd0, Rf.gdA, List.cons_append, List.nil_append, List.append_nil, List.take_succ_cons, List.take_zero, List.take_nil, List.drop_succ_cons, List.drop_zero, List.drop_nil, Rf.oI0, Rf.oI, Bool.not_true, Bool.not_false, ep, z3, e3, rngK_nat (n := v + 1) (h := h3) (by omega), wipeL]
      refine ok_lc (rgD 0 (v + 1)) (fun i acc h' => ∃ (b : Nat → Bool) (row' : List Int) (c' : Int), acc = (nI ((List.range i).filter b)).map .int ∧ Town h' t r row' c' ∧ Fr [t, r] h3 h') ⟨fun _ => true, row3, _, rfl, T3, .refl⟩ (by rw [rgD_len]; omega) (by rw [rgD_len]; omega) (fun i acc h' _ => itm_range) (fun i d acc h4 hd q => ?_) (fun acc h4 q => ?_)
      · obtain ⟨b, row4, c4, rfl, T4, fr4⟩ := q
        obtain ⟨u, h5, row5, un, e5, T5, fr5, hl5⟩ := drawF (n := sh) T4 (by omega) (by omega)
        have hi : i < v + 1 := by
          have := (List.getElem?_eq_some_iff.mp hd).1
          rwa [rgD_len] at this
        rw [rgD_get hi] at hd
        cases hd
        refine ⟨_, rfl, ?_⟩
        have eq : dEq (.int (u : Int)) (.int 0) h5 = .ok (.bl (decide (u = 0))) h5 := by
          show R.ok (D.bl (decide ((u : Int) = 0))) h5 = _
          by_cases hz : u = 0
          · rw [decide_eq_true hz, decide_eq_true (by omega)]
          · rw [decide_eq_false hz, decide_eq_false (by omega)]
        simp only [Rf.okR_ok, Rf.okR_ex, Rf.okS_nx, Rf.okS_rt, Rf.okS_bk, Rf.okS_ct, Rf.okS_ex, Rf.okR_bind, Rf.okS_lift, Rf.okS_seq, Rf.okS_if, Rf.okS_ret, Rf.okS_drop, Rf.okS_set, Rf.okS_next, Rf.okS_retN, Rf.okS_brk, Rf.okS_cont, Rf.okS_raise, Rf.okR_fin, Rf.okR_bin, Rf.okR_test, Rf.okR_not, Rf.okR_and, Rf.okR_or, Rf.okR_andV, Rf.okR_orV, Rf.okR_notV, Rf.okR_mif, Rf.okR_C, Rf.okR_nil, Rf.okR_yes, Rf.okR_cons, Rf.okR_call, Rf.okR_callK, Rf.okR_tup, Rf.okR_lst, Rf.okR_fld, Rf.okR_meth, Rf.okR_make, Rf.okR_bm, Rf.okR_isi, Rf.okS_for, Rf.okR_lc, Rf.okR_any, Rf.okS_asg, Rf.okS_setFld, Rf.okR_V, Rf.okR_chain, Rf.okR_rng1, Rf.okR_rng2, Rf.okR_neg, Rf.okR_sl, Rf.okR_noPart, Rf.okR_part, Rf.okS_sub, Rf.okS_par, List.getElem?_cons_zero, List.getElem?_cons_succ, List.set_cons_zero, List.set_cons_succ, if_true, if_false, Bool.false_eq_true, reduceIte, reduceCtorEq, Rf.tgOf, Rf.luk_c, Rf.f1, Rf.gV_non, Rf.gV_bl, Rf.gV_int, Rf.gV_str, Rf.gV_tup, Rf.gV_ktp, Rf.gV_rol, Rf.gV_ref, Rf.gd0, Rf.gdA, List.cons_append, List.nil_append, List.append_nil, List.take_succ_cons, List.take_zero, List.take_nil, List.drop_succ_cons, List.drop_zero, List.drop_nil, Rf.oI0, Rf.oI, Bool.not_true, Bool.not_false, ed, e5, eq]
        have fc : ∀ (k : Bool), (List.range (i + 1)).filter (fun j => if j = i then k else b j) = (List.range i).filter b ++ if k = true then [i] else [] := fun k => by
          rw [List.range_succ, List.filter_append]
          congr 1
          · refine List.filter_congr fun j hj => ?_
            have : j < i := by simpa using hj
            rw [if_neg (by omega)]
          · cases k <;> simp
        cases hz : decide (u = 0) with
        | true =>
          simp only [Rf.okR_ok, Rf.okR_ex, Rf.okS_nx, Rf.okS_rt, Rf.okS_bk, Rf.okS_ct, Rf.okS_ex, Rf.okR_bind, Rf.okS_lift, Rf.okS_seq, Rf.okS_if, Rf.okS_ret, Rf.okS_drop, Rf.okS_set, Rf.okS_next, Rf.okS_retN, Rf.okS_brk, Rf.okS_cont, Rf.okS_raise, Rf.okR_fin, Rf.okR_bin, Rf.okR_test, Rf.okR_not, Rf.okR_and, Rf.okR_or, Rf.okR_andV, Rf.okR_orV, Rf.okR_notV, Rf.okR_mif, Rf.okR_C, Rf.okR_nil, Rf.okR_yes, Rf.okR_cons, Rf.okR_call, Rf.okR_callK, Rf.okR_tup, Rf.okR_lst, Rf.okR_fld, Rf.okR_meth, Rf.okR_make, Rf.okR_bm, Rf.okR_isi, Rf.okS_for, Rf.okR_lc, Rf.okR_any, Rf.okS_asg, Rf.okS_setFld, Rf.okR_V, Rf.okR_chain, Rf.okR_rng1, Rf.okR_rng2, Rf.okR_neg, Rf.okR_sl, Rf.okR_noPart, Rf.okR_part, Rf.okS_sub, Rf.okS_par, List.getElem?_cons_zero, List.getElem?_cons_succ, List.set_cons_zero, List.set_cons_succ, if_true, if_false, Bool.false_eq_true, reduceIte, reduceCtorEq, Rf.tgOf, Rf.luk_c, Rf.f1, Rf.gV_non, Rf.gV_bl, Rf.gV_int, Rf.gV_str, Rf.gV_tup, Rf.gV_ktp, Rf.gV_rol, Rf.gV_ref, Rf.gd0, Rf.gdA, List.cons_append, List.nil_append, List.append_nil, List.take_succ_cons, List.take_zero, List.take_nil, List.drop_succ_cons, List.drop_zero, List.drop_nil, Rf.oI0, Rf.oI, Bool.not_true, Bool.not_false, Int.zero_add]
          refine ⟨fun j => if j = i then true else b j, row5, _, ?_, T5, fr4.trans fr5⟩
          rw [fc true]
          simp [nI]
        | false =>
          simp only [Rf.okR_ok, Rf.okR_ex, Rf.okS_nx, Rf.okS_rt, Rf.okS_bk, Rf.okS_ct, Rf.okS_ex, Rf.okR_bind, Rf.okS_lift, Rf.okS_seq, Rf.okS_if, Rf.okS_ret, Rf.okS_drop, Rf.okS_set, Rf.okS_next, Rf.okS_retN, Rf.okS_brk, Rf.okS_cont, Rf.okS_raise, Rf.okR_fin, Rf.okR_bin, Rf.okR_test, Rf.okR_not, Rf.okR_and, Rf.okR_or, Rf.okR_andV, Rf.okR_orV, Rf.okR_notV, Rf.okR_mif, Rf.okR_C, Rf.okR_nil, Rf.okR_yes, Rf.okR_cons, Rf.okR_call, Rf.okR_callK, Rf.okR_tup, Rf.okR_lst, Rf.okR_fld, Rf.okR_meth, Rf.okR_make, Rf.okR_bm, Rf.okR_isi, Rf.okS_for, Rf.okR_lc, Rf.okR_any, Rf.okS_asg, Rf.okS_setFld, Rf.okR_V, Rf.okR_chain, Rf.okR_rng1, Rf.okR_rng2, Rf.okR_neg, Rf.okR_sl, Rf.okR_noPart, Rf.okR_part, Rf.okS_sub, Rf.okS_par, List.getElem?_cons_zero, List.getElem?_cons_succ, List.set_cons_zero, List.set_cons_succ, if_true, if_false, Bool.false_eq_true, reduceIte, reduceCtorEq, Rf.tgOf, Rf.luk_c, Rf.f1, Rf.gV_non, Rf.gV_bl, Rf.gV_int, Rf.gV_str, Rf.gV_tup, Rf.gV_ktp, Rf.gV_rol, Rf.gV_ref, Rf.gd0, Rf.gdA, List.cons_append, List.nil_append, List.append_nil, List.take_succ_cons, List.take_zero, List.take_nil, List.drop_succ_cons, List.drop_zero, List.drop_nil, Rf.oI0, Rf.oI, Bool.not_true, Bool.not_false]
          refine ⟨fun j => if j = i then false else b j, row5, _, ?_, T5, fr4.trans fr5⟩
          rw [fc false]
          simp [nI]
      · obtain ⟨b, row4, c4, rfl, T4, fr4⟩ := q
        rw [rgD_len]
        generalize est : (List.range (v + 1)).filter b = st
        generalize eh5 : h4 ++ [LO.lst ((nI st).map D.int)] = h5
        have T5 : Town h5 t r row4 c4 := by rw [← eh5]; exact T4.app
        obtain ⟨u, h6, row6, un, e6, T6, fr6, hl6⟩ := drawF (n := ((v + 1 : Nat) : Int)) T5 (by omega) (by omega)
        have z4 : szOk [D.str al, .ref h'.length, .int u, .ref h4.length].length = true := rfl
        simp only [Rf.okR_ok, Rf.okR_ex, Rf.okS_nx, Rf.okS_rt, Rf.okS_bk, Rf.okS_ct, Rf.okS_ex, Rf.okR_bind, Rf.okS_lift, Rf.okS_seq, Rf.okS_if, Rf.okS_ret, Rf.okS_drop, Rf.okS_set, Rf.okS_next, Rf.okS_retN, Rf.okS_brk, Rf.okS_cont, Rf.okS_raise, Rf.okR_fin, Rf.okR_bin, Rf.okR_test, Rf.okR_not, Rf.okR_and, Rf.okR_or, Rf.okR_andV, Rf.okR_orV, Rf.okR_notV, Rf.okR_mif, Rf.okR_C, Rf.okR_nil, Rf.okR_yes, Rf.okR_cons, Rf.okR_call, Rf.okR_callK, Rf.okR_tup, Rf.okR_lst, Rf.okR_fld, Rf.okR_meth, Rf.okR_make, Rf.okR_bm, Rf.okR_isi, Rf.okS_for, Rf.okR_lc, Rf.okR_any, Rf.okS_asg, Rf.okS_setFld, Rf.okR_V, Rf.okR_chain, Rf.okR_rng1, Rf.okR_rng2, Rf.okR_neg, Rf.okR_sl, Rf.okR_noPart, Rf.okR_part, Rf.okS_sub, Rf.okS_par, List.getElem?_cons_zero, List.getElem?_cons_succ, List.set_cons_zero, List.set_cons_succ, if_true, if_false, Bool.false_eq_true, reduceIte, reduceCtorEq, Rf.tgOf, Rf.luk_c, Rf.f1, Rf.gV_non, Rf.gV_bl, Rf.gV_int, Rf.gV_str, Rf.gV_tup, Rf.gV_ktp, Rf.gV_rol, Rf.gV_ref, Rf.gd0, Rf.gdA, List.cons_append, List.nil_append, List.append_nil, List.take_succ_cons, List.take_zero, List.take_nil, List.drop_succ_cons, List.drop_zero, List.drop_nil, Rf.oI0, Rf.oI, Bool.not_true, Bool.not_false, ed, e6, z4]
        have g4 := fr4.get _ _ g3 (by have := T'.fresh; simp; omega)
        have g5 : h5[h'.length]? = some (.lst (rs.map rowD)) := by rw [← eh5]; exact app_lt g4
        have g6 := fr6.get _ _ g5 (by have := T'.fresh; simp; omega)
        have k5 : h5[h4.length]? = some (.lst ((nI st).map D.int)) := by rw [← eh5]; exact app_at
        have k6 := fr6.get _ _ k5 (by have := T4.fresh; simp; omega)
        have l4 : h'.length < h4.length := (List.getElem?_eq_some_iff.mp g4).1
        refine ⟨rs, u, st, h'.length, h4.length, row6, _, ⟨by omega, by omega, fun x hx => by rw [rl]; exact rg x hx, by omega, b, by rw [rl]; exact est.symm⟩, by omega, rfl, ⟨g6, k6⟩, fr'.len, ?_, by omega, T6, ?_⟩
        · have := fr'.len; omega
        · have f5 : Fr [t, r] h4 h5 := by rw [← eh5]; exact .app
          exact (((fr2.trans fr3).trans fr4).trans f5).trans fr6
  obtain ⟨d, h', e, rows, f, st, p, q, row', c', g1, g2, rfl, g3⟩ := okR_eq main
  exact ⟨rows, f, st, p, q, h', row', c', g1, g2, e, g3⟩
end Lw
set_option Elab.async false
set_option linter.all false
set_option maxRecDepth 100000
set_option maxHeartbeats 1000000
set_option autoImplicit false
namespace Lw
open PySem PySem.Spec L2 Rf
abbrev rawD (al : List Nat) (p f q : Nat) : D := .tup [.str al, .ref p, .int f, .ref q]
section
variable {al : List Nat} {rows : List (List Nat)} {f : Nat} {st : List Nat}
theorem build_ok (A : Al al) (G : Good al rows f st) {h : LH} {p q : Nat} (R : Raw h p q rows st) : ∃ h' m r s, m__law_build [rawD al p f q] h = .ok (.ref m) h' ∧ Mach h' m r s al rows f st ∧ Fr [] h h' ∧ h.length ≤ m ∧ h.length ≤ r ∧ h.length ≤ s := by
  generalize eh1 : h ++ [LO.lst (rows.map rowD)] = h1
  have g1 : h1[h.length]? = some (.lst (rows.map rowD)) := by rw [← eh1]; exact app_at
  have f1 : Fr [] h h1 := by rw [← eh1]; exact .app
  have R1 := R.fr f1 (by simp) (by simp)
  have lq : q < h1.length := (List.getElem?_eq_some_iff.mp R1.stp).1
  obtain ⟨h2, r, s, e2, M2, fr2, lr, ls⟩ := init_ok (m := h1.length) (p := h.length) (ends := .ref q) (h := h1 ++ [.ins 13 []]) A G app_at (app_lt g1) (.inr ⟨q, rfl, app_lt R1.stp⟩) (fun q' e => by cases e; omega)
  have f2 : Fr [] h1 h2 := (Fr.trans (S := [h1.length]) .app fr2).cut (Nat.le_refl _)
  have l1 := f1.len
  simp only [List.length_append, List.length_cons, List.length_nil] at lr ls
  refine ⟨h2, h1.length, r, s, okR_is ?_, M2, f1.trans f2, l1, by omega, by omega⟩
  show @okR _ (fin (b__law_build [some (rawD al p f q), none, none, none, none] h)) ⟨_⟩ ⟨_⟩
  unfold b__law_build
  have g : gmTup 4 (gmCons (gmName 1) (gmCons (gmName 2) (gmCons (gmName 3) (gmCons (gmName 4) gmNil)))) (rawD al p f q) [some (rawD al p f q), none, none, none, none] = some [some (rawD al p f q), some (.str al), some (.ref p), some (.int f), some (.ref q)] := rfl
  simp only [Rf.okR_ok, Rf.okR_ex, Rf.okS_nx, Rf.okS_rt, Rf.okS_bk, Rf.okS_ct, Rf.okS_ex, Rf.okR_bind, Rf.okS_lift, Rf.okS_seq, Rf.okS_if, Rf.okS_ret, Rf.okS_drop, Rf.okS_set, Rf.okS_next, Rf.okS_retN, Rf.okS_brk, Rf.okS_cont, Rf.okS_raise, Rf.okR_fin, Rf.okR_bin, Rf.okR_test, Rf.okR_not, Rf.okR_and, Rf.okR_or, Rf.okR_andV, Rf.okR_orV, Rf.okR_notV, Rf.okR_mif, Rf.okR_C, Rf.okR_nil, Rf.okR_yes, Rf.okR_cons, Rf.okR_call, Rf.okR_callK, Rf.okR_tup, Rf.okR_lst, Rf.okR_fld, Rf.okR_meth, Rf.okR_make, Rf.okR_bm, Rf.okR_isi, Rf.okS_for, Rf.okR_lc, Rf.okR_any, Rf.okS_asg, Rf.okS_setFld, Rf.okR_V, Rf.okR_chain, Rf.okR_rng1, Rf.okR_rng2, Rf.okR_neg, Rf.okR_sl, Rf.okR_noPart, Rf.okR_part, Rf.okS_sub, Rf.okS_par, Rf.okR_enum, Rf.okR_dic0, Rf.okR_dic1, Rf.okS_try, List.getElem?_cons_zero, List.getElem?_cons_succ, List.set_cons_zero, List.set_cons_succ, if_true, if_false, Bool.false_eq_true, reduceIte, reduceCtorEq, Rf.tgOf, Rf.luk_c, Rf.f1, Rf.gV_non, Rf.gV_bl, Rf.gV_int, Rf.gV_str, Rf.gV_tup, Rf.gV_ktp, Rf.gV_rol, Rf.gV_ref, Rf.gd0, Rf.gdA, List.cons_append, List.nil_append, List.append_nil, List.take_succ_cons, List.take_zero, List.take_nil, List.drop_succ_cons, List.drop_zero, List.drop_nil, Rf.oI0, Rf.oI, Bool.not_true, Bool.not_false, g, dList, asRd, R.rws, eh1, e2, and_self]
end
end Lw
set_option Elab.async false
set_option linter.all false
set_option maxRecDepth 100000
set_option maxHeartbeats 1000000
set_option autoImplicit false
namespace Lw
open PySem PySem.Spec L2 Rf
/-- a finder -/
structure Fnd (h : LH) (fn m c a : Nat) (kvC kvA : KVs) (came found : Nat) : Prop where
  obj : h[fn]? = some (.ins 19 [(32, .ref m), (41, .ref c), (42, .ref a), (43, .int came), (44, .int found)])
  cs : h[c]? = some (.dic false (cD kvC))
  fs : h[a]? = some (.dic false (cD kvA))
theorem Fnd.fr {h h' : LH} {fn m c a : Nat} {kvC kvA : KVs} {came found : Nat} {S : List Nat} (F : Fnd h fn m c a kvC kvA came found) (e : Fr S h h') (h1 : fn ∉ S) (h2 : c ∉ S) (h3 : a ∉ S) : Fnd h' fn m c a kvC kvA came found := ⟨e.get _ _ F.obj h1, e.get _ _ F.cs h2, e.get _ _ F.fs h3⟩
theorem fld19 {h : LH} {n : Nat} {fs : List (Nat × D)} (e : h[n]? = some (.ins 19 fs)) (i : Nat) : fldOf [19] i n h = fs.lookup i := by unfold fldOf; rw [e]; rfl
theorem fld13 {h : LH} {n : Nat} {fs : List (Nat × D)} (e : h[n]? = some (.ins 13 fs)) (i : Nat) : fldOf [13] i n h = fs.lookup i := by unfold fldOf; rw [e]; rfl
theorem set19 {h : LH} {n : Nat} {fs : List (Nat × D)} (e : h[n]? = some (.ins 19 fs)) (hl : fs.length < 10) (i : Nat) (d : D) : setFld [19] i n d h = some (h.set n (.ins 19 (putN i d fs))) := by
  have : Nat.blt fs.length 900 = true := Nat.ble_eq_true_of_le (by omega)
  simp only [setFld, e, this]; rfl
theorem at_lt {h : LH} {n : Nat} {o : LO} (e : h[n]? = some o) : n < h.length := (List.getElem?_eq_some_iff.mp e).1
section
variable {al : List Nat} {rows : List (List Nat)} {f : Nat} {st : List Nat}
def stB (st : List Nat) (k : Nat) : Bool := decide (k ∈ st)
theorem stopB_at (G : Good al rows f st) {h : LH} {m r s : Nat} (M : Mach h m r s al rows f st) {k : Nat} (hk : k < rows.length) : dIx (.ref s) (.int k) h = .ok (.bl (stB st k)) h := by
  have e : atI ((List.range rows.length).map fun k => D.bl (decide (k ∈ st))) (k : Int) = some (.bl (decide (k ∈ st))) := by
    refine atI_lt ?_
    simp [hk]
  simp only [dIx, asRd, M.stp, e]; rfl
theorem sum_ints : ∀ (l : List Nat) (h : LH) (n : Nat), h[n]? = some (.lst (l.map fun (k : Nat) => .int k)) → dSum (.ref n) h = .ok (.int (l.sum : Nat)) h := by
  intro l h n e
  have hz : allI (l.map fun (k : Nat) => D.int k) = some (l.map fun (k : Nat) => (k : Int)) := by
    have := allI_map (l.map fun (k : Nat) => (k : Int))
    rw [List.map_map] at this
    exact this
  have hs : (l.map fun (k : Nat) => (k : Int)).sum = ((l.sum : Nat) : Int) := by
    clear e hz
    induction l with
    | nil => rfl
    | cons x r ih => rw [List.map_cons, List.sum_cons, List.sum_cons, ih]; omega
  unfold dSum
  simp only [asRd, e, hz, hs]
theorem push_ok (G : Good al rows f st) {h : LH} {m r s fn c a : Nat} (M : Mach h m r s al rows f st) {kvC kvA : KVs} {came found : Nat} (Fd : Fnd h fn m c a kvC kvA came found) {sg : Nat} (hs : sg ∈ al)
    (hC : ∀ k ∈ keysN (pt kvC f ((lk kvC f).getD 0 + 1)), k < rows.length) (nd : (keysN kvC).Nodup) (lC : kvC.length < 100) (lA : kvA.length < 100) (ap : fn ≠ r ∧ fn ≠ s)
    (hF : ∀ k ∈ keysN (pt kvC f ((lk kvC f).getD 0 + 1)), ∃ v, lk (pt kvA f (mn2 ((lk kvA f).getD came) came)) k = some v) :
    @okR _ (m_Finder_push [.ref fn, .str [sg]] h) ⟨fun d h' => ∃ (c' a' e : Nat) (kvC' kvA' : KVs), kvC' = ledC (fun k => step1 al rows k sg) (pt kvC f ((lk kvC f).getD 0 + 1)) [] ∧ kvA' = ledA (fun k => step1 al rows k sg) came (fun k => (lk (pt kvA f (mn2 ((lk kvA f).getD came) came)) k).getD 0) (pt kvC f ((lk kvC f).getD 0 + 1)) [] ∧
      e = ((kvC'.filter fun p => stB st p.1).map (·.2)).sum ∧ d = .int e ∧ Fnd h' fn m c' a' kvC' kvA' (came + 1) (found + e) ∧ Fr [fn] h h' ∧ h.length ≤ c' ∧ h.length ≤ a'⟩ ⟨fun _ _ => False⟩ := by
  generalize eC1 : pt kvC f ((lk kvC f).getD 0 + 1) = kC1 at *
  generalize eA1 : pt kvA f (mn2 ((lk kvA f).getD came) came) = kA1 at *
  have lC1 : kC1.length ≤ 100 := by have := len_pt kvC f ((lk kvC f).getD 0 + 1); rw [eC1] at this; omega
  have nm : fn ≠ m := fun z => by have := M.obj; rw [← z, Fd.obj] at this; cases this
  show @okR _ (fin (b_Finder_push [some (.ref fn), some (.str [sg]), none, none, none, none, none, none] h)) ⟨_⟩ ⟨_⟩
  unfold b_Finder_push
  have e32 : fldOf [19] 32 fn h = some (.ref m) := by rw [fld19 Fd.obj]; rfl
  have e41 : fldOf [19] 41 fn h = some (.ref c) := by rw [fld19 Fd.obj]; rfl
  have m23 : fldOf [13] 23 m h = some (.str al) := by rw [fld13 M.obj]; rfl
  have z1 : szOk [sg].length = true := rfl
  have n1 : ∀ h : LH, dNe (.int (([sg] : List Nat).length : Nat)) (.int 1) h = .ok (.bl false) h := fun h => rfl
  have n2 : ∀ h : LH, dNotIn (.str [sg]) (.str al) h = .ok (.bl false) h := fun h => by
    unfold dNotIn
    simp only [inD, decide_eq_true hs]; rfl
  simp only [Rf.okR_ok, Rf.okR_ex, Rf.okS_nx, Rf.okS_rt, Rf.okS_bk, Rf.okS_ct, Rf.okS_ex, Rf.okR_bind, Rf.okS_lift, Rf.okS_seq, Rf.okS_if, Rf.okS_ret, Rf.okS_drop, Rf.okS_set, Rf.okS_next, Rf.okS_retN, Rf.okS_brk, Rf.okS_cont, Rf.okS_raise, Rf.okR_fin, Rf.okR_bin, Rf.okR_test, Rf.okR_not, Rf.okR_and, Rf.okR_or, Rf.okR_andV, Rf.okR_orV, Rf.okR_notV, Rf.okR_mif, Rf.okR_C, Rf.okR_nil, Rf.okR_yes, Rf.okR_cons, Rf.okR_call, Rf.okR_callK, Rf.okR_tup, Rf.okR_lst, Rf.okR_fld, Rf.okR_meth, Rf.okR_make, Rf.okR_bm, Rf.okR_isi, Rf.okS_for, Rf.okR_lc, Rf.okR_any, Rf.okS_asg, Rf.okS_setFld, Rf.okR_V, Rf.okR_chain, Rf.okR_rng1, Rf.okR_rng2, Rf.okR_neg, Rf.okR_sl, Rf.okR_noPart, Rf.okR_part, Rf.okS_sub, Rf.okS_par, Rf.okR_enum, Rf.okR_dic0, Rf.okR_dic1, Rf.okS_try, Rf.okR_get1, Rf.okR_get2, Rf.okR_keys, Rf.okS_augFld, List.getElem?_cons_zero, List.getElem?_cons_succ, List.set_cons_zero, List.set_cons_succ, if_true, if_false, Bool.false_eq_true, reduceIte, reduceCtorEq, Rf.tgOf, Rf.luk_c, Rf.f1, Rf.gV_non, Rf.gV_bl, Rf.gV_int, Rf.gV_str, Rf.gV_tup, Rf.gV_ktp, Rf.gV_rol, Rf.gV_ref, Rf.gd0, Rf.gdA, List.cons_append, List.nil_append, List.append_nil, List.take_succ_cons, List.take_zero, List.take_nil, List.drop_succ_cons, List.drop_zero, List.drop_nil, Rf.oI0, Rf.oI, Bool.not_true, Bool.not_false, e32, dLen, z1, n1, m23, n2, e41, dict_cD Fd.cs]
  -- the copies
  have o1 : (h ++ [LO.dic false (cD kvC)])[h.length]? = some (.dic false (cD kvC)) := app_at
  have M1 : Mach (h ++ [LO.dic false (cD kvC)]) m r s al rows f st := M.fr (S := []) .app (by simp) (by simp) (by simp)
  have m25 : ∀ {h' : LH}, Mach h' m r s al rows f st → fldOf [13] 25 m h' = some (.int f) := fun M => by rw [fld13 M.obj]; rfl
  have s1 := set_cD (r := f) (v := (lk kvC f).getD 0 + 1) o1 (by omega)
  have ad : ∀ (x y : Nat) (h : LH), dAdd (.int x) (.int y) h = .ok (.int ((x + y : Nat) : Int)) h := fun x y h => by
    show R.ok (D.int ((x : Int) + y)) h = _
    congr 2
  have ad1 : ∀ (x : Nat) (h : LH), dAdd (.int x) (.int 1) h = .ok (.int ((x + 1 : Nat) : Int)) h := fun x h => ad x 1 h
  have g0 : ∀ {h' : LH} {n r : Nat} {kv : KVs}, (h'[n]? = some (.dic false (cD kv)) ∨ h'[n]? = some (.dlk false (cD kv))) → gotD (.ref n) (.int r) (.int 0) h' = .ok (.int ((lk kv r).getD 0 : Nat)) h' := fun e => got_cD (x := 0) e
  simp only [Rf.okR_ok, Rf.okR_ex, Rf.okS_nx, Rf.okS_rt, Rf.okS_bk, Rf.okS_ct, Rf.okS_ex, Rf.okR_bind, Rf.okS_lift, Rf.okS_seq, Rf.okS_if, Rf.okS_ret, Rf.okS_drop, Rf.okS_set, Rf.okS_next, Rf.okS_retN, Rf.okS_brk, Rf.okS_cont, Rf.okS_raise, Rf.okR_fin, Rf.okR_bin, Rf.okR_test, Rf.okR_not, Rf.okR_and, Rf.okR_or, Rf.okR_andV, Rf.okR_orV, Rf.okR_notV, Rf.okR_mif, Rf.okR_C, Rf.okR_nil, Rf.okR_yes, Rf.okR_cons, Rf.okR_call, Rf.okR_callK, Rf.okR_tup, Rf.okR_lst, Rf.okR_fld, Rf.okR_meth, Rf.okR_make, Rf.okR_bm, Rf.okR_isi, Rf.okS_for, Rf.okR_lc, Rf.okR_any, Rf.okS_asg, Rf.okS_setFld, Rf.okR_V, Rf.okR_chain, Rf.okR_rng1, Rf.okR_rng2, Rf.okR_neg, Rf.okR_sl, Rf.okR_noPart, Rf.okR_part, Rf.okS_sub, Rf.okS_par, Rf.okR_enum, Rf.okR_dic0, Rf.okR_dic1, Rf.okS_try, Rf.okR_get1, Rf.okR_get2, Rf.okR_keys, Rf.okS_augFld, List.getElem?_cons_zero, List.getElem?_cons_succ, List.set_cons_zero, List.set_cons_succ, if_true, if_false, Bool.false_eq_true, reduceIte, reduceCtorEq, Rf.tgOf, Rf.luk_c, Rf.f1, Rf.gV_non, Rf.gV_bl, Rf.gV_int, Rf.gV_str, Rf.gV_tup, Rf.gV_ktp, Rf.gV_rol, Rf.gV_ref, Rf.gd0, Rf.gdA, List.cons_append, List.nil_append, List.append_nil, List.take_succ_cons, List.take_zero, List.take_nil, List.drop_succ_cons, List.drop_zero, List.drop_nil, Rf.oI0, Rf.oI, Bool.not_true, Bool.not_false, isDic_at (.inl o1), m25 M1, g0 (.inl o1), ad1, s1, app_set, eC1]
  generalize eh2 : h ++ [LO.dic false (cD kC1)] = h2
  have M2 : Mach h2 m r s al rows f st := by rw [← eh2]; exact M.fr (S := []) .app (by simp) (by simp) (by simp)
  have F2 : Fnd h2 fn m c a kvC kvA came found := by rw [← eh2]; exact Fd.fr (S := []) .app (by simp) (by simp) (by simp)
  have c2 : h2[h.length]? = some (.dic false (cD kC1)) := by rw [← eh2]; exact app_at
  have l2 : h2.length = h.length + 1 := by rw [← eh2]; simp
  have fr2 : Fr [] h h2 := by rw [← eh2]; exact .app
  have e42 : ∀ {h' : LH} {c a : Nat} {kvC kvA : KVs} {came found : Nat}, Fnd h' fn m c a kvC kvA came found → fldOf [19] 42 fn h' = some (.ref a) := fun F => by rw [fld19 F.obj]; rfl
  have e41' : ∀ {h' : LH} {c a : Nat} {kvC kvA : KVs} {came found : Nat}, Fnd h' fn m c a kvC kvA came found → fldOf [19] 41 fn h' = some (.ref c) := fun F => by rw [fld19 F.obj]; rfl
  have e43 : ∀ {h' : LH} {c a : Nat} {kvC kvA : KVs} {came found : Nat}, Fnd h' fn m c a kvC kvA came found → fldOf [19] 43 fn h' = some (.int came) := fun F => by rw [fld19 F.obj]; rfl
  have e44 : ∀ {h' : LH} {c a : Nat} {kvC kvA : KVs} {came found : Nat}, Fnd h' fn m c a kvC kvA came found → fldOf [19] 44 fn h' = some (.int found) := fun F => by rw [fld19 F.obj]; rfl
  have o3 : (h2 ++ [LO.dic false (cD kvA)])[h2.length]? = some (.dic false (cD kvA)) := app_at
  have M3 : Mach (h2 ++ [LO.dic false (cD kvA)]) m r s al rows f st := M2.fr (S := []) .app (by simp) (by simp) (by simp)
  have F3 : Fnd (h2 ++ [LO.dic false (cD kvA)]) fn m c a kvC kvA came found := F2.fr (S := []) .app (by simp) (by simp) (by simp)
  have s3 := set_cD (r := f) (v := mn2 ((lk kvA f).getD came) came) o3 (by omega)
  simp only [Rf.okR_ok, Rf.okR_ex, Rf.okS_nx, Rf.okS_rt, Rf.okS_bk, Rf.okS_ct, Rf.okS_ex, Rf.okR_bind, Rf.okS_lift, Rf.okS_seq, Rf.okS_if, Rf.okS_ret, Rf.okS_drop, Rf.okS_set, Rf.okS_next, Rf.okS_retN, Rf.okS_brk, Rf.okS_cont, Rf.okS_raise, Rf.okR_fin, Rf.okR_bin, Rf.okR_test, Rf.okR_not, Rf.okR_and, Rf.okR_or, Rf.okR_andV, Rf.okR_orV, Rf.okR_notV, Rf.okR_mif, Rf.okR_C, Rf.okR_nil, Rf.okR_yes, Rf.okR_cons, Rf.okR_call, Rf.okR_callK, Rf.okR_tup, Rf.okR_lst, Rf.okR_fld, Rf.okR_meth, Rf.okR_make, Rf.okR_bm, Rf.okR_isi, Rf.okS_for, Rf.okR_lc, Rf.okR_any, Rf.okS_asg, Rf.okS_setFld, Rf.okR_V, Rf.okR_chain, Rf.okR_rng1, Rf.okR_rng2, Rf.okR_neg, Rf.okR_sl, Rf.okR_noPart, Rf.okR_part, Rf.okS_sub, Rf.okS_par, Rf.okR_enum, Rf.okR_dic0, Rf.okR_dic1, Rf.okS_try, Rf.okR_get1, Rf.okR_get2, Rf.okR_keys, Rf.okS_augFld, List.getElem?_cons_zero, List.getElem?_cons_succ, List.set_cons_zero, List.set_cons_succ, if_true, if_false, Bool.false_eq_true, reduceIte, reduceCtorEq, Rf.tgOf, Rf.luk_c, Rf.f1, Rf.gV_non, Rf.gV_bl, Rf.gV_int, Rf.gV_str, Rf.gV_tup, Rf.gV_ktp, Rf.gV_rol, Rf.gV_ref, Rf.gd0, Rf.gdA, List.cons_append, List.nil_append, List.append_nil, List.take_succ_cons, List.take_zero, List.take_nil, List.drop_succ_cons, List.drop_zero, List.drop_nil, Rf.oI0, Rf.oI, Bool.not_true, Bool.not_false, e42 F2, dict_cD F2.fs, isDic_at (.inl o3), m25 M3, e43 F3, got_cD (x := came) (.inl o3), min_cD, s3, app_set, eA1]
  generalize eh4 : h2 ++ [LO.dic false (cD kA1)] = h4
  have fr4 : Fr [] h2 h4 := by rw [← eh4]; exact .app
  have M4 : Mach h4 m r s al rows f st := M2.fr fr4 (by simp) (by simp) (by simp)
  have F4 : Fnd h4 fn m c a kvC kvA came found := F2.fr fr4 (by simp) (by simp) (by simp)
  have c4 : h4[h.length]? = some (.dic false (cD kC1)) := fr4.get _ _ c2 (by simp)
  have a4 : h4[h2.length]? = some (.dic false (cD kA1)) := by rw [← eh4]; exact app_at
  have l4 : h4.length = h.length + 2 := by rw [← eh4]; simp [l2]
  have lfn := at_lt Fd.obj
  -- new dicts
  have o5 : (h4 ++ [LO.dic false []])[fn]? = some (.ins 19 [(32, .ref m), (41, .ref c), (42, .ref a), (43, .int came), (44, .int found)]) := app_lt F4.obj
  simp only [Rf.okR_ok, Rf.okR_ex, Rf.okS_nx, Rf.okS_rt, Rf.okS_bk, Rf.okS_ct, Rf.okS_ex, Rf.okR_bind, Rf.okS_lift, Rf.okS_seq, Rf.okS_if, Rf.okS_ret, Rf.okS_drop, Rf.okS_set, Rf.okS_next, Rf.okS_retN, Rf.okS_brk, Rf.okS_cont, Rf.okS_raise, Rf.okR_fin, Rf.okR_bin, Rf.okR_test, Rf.okR_not, Rf.okR_and, Rf.okR_or, Rf.okR_andV, Rf.okR_orV, Rf.okR_notV, Rf.okR_mif, Rf.okR_C, Rf.okR_nil, Rf.okR_yes, Rf.okR_cons, Rf.okR_call, Rf.okR_callK, Rf.okR_tup, Rf.okR_lst, Rf.okR_fld, Rf.okR_meth, Rf.okR_make, Rf.okR_bm, Rf.okR_isi, Rf.okS_for, Rf.okR_lc, Rf.okR_any, Rf.okS_asg, Rf.okS_setFld, Rf.okR_V, Rf.okR_chain, Rf.okR_rng1, Rf.okR_rng2, Rf.okR_neg, Rf.okR_sl, Rf.okR_noPart, Rf.okR_part, Rf.okS_sub, Rf.okS_par, Rf.okR_enum, Rf.okR_dic0, Rf.okR_dic1, Rf.okS_try, Rf.okR_get1, Rf.okR_get2, Rf.okR_keys, Rf.okS_augFld, List.getElem?_cons_zero, List.getElem?_cons_succ, List.set_cons_zero, List.set_cons_succ, if_true, if_false, Bool.false_eq_true, reduceIte, reduceCtorEq, Rf.tgOf, Rf.luk_c, Rf.f1, Rf.gV_non, Rf.gV_bl, Rf.gV_int, Rf.gV_str, Rf.gV_tup, Rf.gV_ktp, Rf.gV_rol, Rf.gV_ref, Rf.gd0, Rf.gdA, List.cons_append, List.nil_append, List.append_nil, List.take_succ_cons, List.take_zero, List.take_nil, List.drop_succ_cons, List.drop_zero, List.drop_nil, Rf.oI0, Rf.oI, Bool.not_true, Bool.not_false, set19 o5 (by simp) 41]
  generalize eh5 : (h4 ++ [LO.dic false []]).set fn (.ins 19 (putN 41 (.ref h4.length) [(32, .ref m), (41, .ref c), (42, .ref a), (43, .int came), (44, .int found)])) = h5
  have o6 : h5[fn]? = some (.ins 19 [(32, .ref m), (41, .ref h4.length), (42, .ref a), (43, .int came), (44, .int found)]) := by
    rw [← eh5, List.getElem?_set_self (at_lt o5)]; rfl
  have fr5 : Fr [fn] h4 h5 := by rw [← eh5]; exact Fr.trans (.app) (Fr.set (by simp))
  have c5 : h5[h4.length]? = some (.dic false []) := by rw [← eh5, List.getElem?_set_ne (by omega)]; exact app_at
  have l5 : h5.length = h.length + 3 := by rw [← eh5]; simp [l4]
  simp only [Rf.okR_ok, Rf.okR_ex, Rf.okS_nx, Rf.okS_rt, Rf.okS_bk, Rf.okS_ct, Rf.okS_ex, Rf.okR_bind, Rf.okS_lift, Rf.okS_seq, Rf.okS_if, Rf.okS_ret, Rf.okS_drop, Rf.okS_set, Rf.okS_next, Rf.okS_retN, Rf.okS_brk, Rf.okS_cont, Rf.okS_raise, Rf.okR_fin, Rf.okR_bin, Rf.okR_test, Rf.okR_not, Rf.okR_and, Rf.okR_or, Rf.okR_andV, Rf.okR_orV, Rf.okR_notV, Rf.okR_mif, Rf.okR_C, Rf.okR_nil, Rf.okR_yes, Rf.okR_cons, Rf.okR_call, Rf.okR_callK, Rf.okR_tup, Rf.okR_lst, Rf.okR_fld, Rf.okR_meth, Rf.okR_make, Rf.okR_bm, Rf.okR_isi, Rf.okS_for, Rf.okR_lc, Rf.okR_any, Rf.okS_asg, Rf.okS_setFld, Rf.okR_V, Rf.okR_chain, Rf.okR_rng1, Rf.okR_rng2, Rf.okR_neg, Rf.okR_sl, Rf.okR_noPart, Rf.okR_part, Rf.okS_sub, Rf.okS_par, Rf.okR_enum, Rf.okR_dic0, Rf.okR_dic1, Rf.okS_try, Rf.okR_get1, Rf.okR_get2, Rf.okR_keys, Rf.okS_augFld, List.getElem?_cons_zero, List.getElem?_cons_succ, List.set_cons_zero, List.set_cons_succ, if_true, if_false, Bool.false_eq_true, reduceIte, reduceCtorEq, Rf.tgOf, Rf.luk_c, Rf.f1, Rf.gV_non, Rf.gV_bl, Rf.gV_int, Rf.gV_str, Rf.gV_tup, Rf.gV_ktp, Rf.gV_rol, Rf.gV_ref, Rf.gd0, Rf.gdA, List.cons_append, List.nil_append, List.append_nil, List.take_succ_cons, List.take_zero, List.take_nil, List.drop_succ_cons, List.drop_zero, List.drop_nil, Rf.oI0, Rf.oI, Bool.not_true, Bool.not_false, set19 (app_lt o6) (by simp) 42]
  generalize eh6 : (h5 ++ [LO.dic false []]).set fn (.ins 19 (putN 42 (.ref h5.length) [(32, .ref m), (41, .ref h4.length), (42, .ref a), (43, .int came), (44, .int found)])) = h6
  have o7 : h6[fn]? = some (.ins 19 [(32, .ref m), (41, .ref h4.length), (42, .ref h5.length), (43, .int came), (44, .int found)]) := by
    rw [← eh6, List.getElem?_set_self (by simp; omega)]; rfl
  have fr6 : Fr [fn] h5 h6 := by rw [← eh6]; exact Fr.trans (.app) (Fr.set (by simp))
  have c6 : h6[h4.length]? = some (.dic false (cD [])) := fr6.get _ _ c5 (by simp; omega)
  have a6 : h6[h5.length]? = some (.dic false (cD [])) := by rw [← eh6, List.getElem?_set_ne (by omega)]; exact app_at
  have l6 : h6.length = h.length + 4 := by rw [← eh6]; simp [l5]
  have fr46 := fr5.trans fr6
  have M6 : Mach h6 m r s al rows f st := M4.fr fr46 (by simpa using nm.symm) (by simpa using ap.1.symm) (by simpa using ap.2.symm)
  have k6 : h6[h.length]? = some (.dic false (cD kC1)) := fr46.get _ _ c4 (by simp; omega)
  have x6 : h6[h2.length]? = some (.dic false (cD kA1)) := fr46.get _ _ a4 (by simp; omega)
  have F6 : Fnd h6 fn m h4.length h5.length [] [] came found := ⟨o7, c6, a6⟩
  have lmm := at_lt M.obj
  have lr := at_lt M.rws
  have ls_ := at_lt M.stp
  refine ok_lockS (n := h.length) (kvs := cD kC1) (t := false) (h0 := h6) rfl k6 ?_
  have klt := at_lt k6
  generalize eh7 : h6.set h.length (LO.dlk false (cD kC1)) = h7
  have k7 : h7[h.length]? = some (.dlk false (cD kC1)) := by rw [← eh7, List.getElem?_set_self klt]
  have fr7 : Fr [h.length] h6 h7 := by rw [← eh7]; exact Fr.set (by simp)
  simp only [Rf.okR_ok, Rf.okR_ex, Rf.okS_nx, Rf.okS_rt, Rf.okS_bk, Rf.okS_ct, Rf.okS_ex, Rf.okR_bind, Rf.okS_lift, Rf.okS_seq, Rf.okS_if, Rf.okS_ret, Rf.okS_drop, Rf.okS_set, Rf.okS_next, Rf.okS_retN, Rf.okS_brk, Rf.okS_cont, Rf.okS_raise, Rf.okR_fin, Rf.okR_bin, Rf.okR_test, Rf.okR_not, Rf.okR_and, Rf.okR_or, Rf.okR_andV, Rf.okR_orV, Rf.okR_notV, Rf.okR_mif, Rf.okR_C, Rf.okR_nil, Rf.okR_yes, Rf.okR_cons, Rf.okR_call, Rf.okR_callK, Rf.okR_tup, Rf.okR_lst, Rf.okR_fld, Rf.okR_meth, Rf.okR_make, Rf.okR_bm, Rf.okR_isi, Rf.okS_for, Rf.okR_lc, Rf.okR_any, Rf.okS_asg, Rf.okS_setFld, Rf.okR_V, Rf.okR_chain, Rf.okR_rng1, Rf.okR_rng2, Rf.okR_neg, Rf.okR_sl, Rf.okR_noPart, Rf.okR_part, Rf.okS_sub, Rf.okS_par, Rf.okR_enum, Rf.okR_dic0, Rf.okR_dic1, Rf.okS_try, Rf.okR_get1, Rf.okR_get2, Rf.okR_keys, Rf.okS_augFld, List.getElem?_cons_zero, List.getElem?_cons_succ, List.set_cons_zero, List.set_cons_succ, if_true, if_false, Bool.false_eq_true, reduceIte, reduceCtorEq, Rf.tgOf, Rf.luk_c, Rf.f1, Rf.gV_non, Rf.gV_bl, Rf.gV_int, Rf.gV_str, Rf.gV_tup, Rf.gV_ktp, Rf.gV_rol, Rf.gV_ref, Rf.gd0, Rf.gdA, List.cons_append, List.nil_append, List.append_nil, List.take_succ_cons, List.take_zero, List.take_nil, List.drop_succ_cons, List.drop_zero, List.drop_nil, Rf.oI0, Rf.oI, Bool.not_true, Bool.not_false, k7, keys_cD]
  have fin : ∀ {h' : LH}, Fnd h' fn m h4.length h5.length (ledC (fun k => step1 al rows k sg) kC1 []) (ledA (fun k => step1 al rows k sg) came (fun k => (lk kA1 k).getD 0) kC1 []) came found → Mach h' m r s al rows f st → Fr [fn, h.length, h4.length, h5.length] h6 h' → h'[h.length]? = some (.dlk false (cD kC1)) → True := fun _ _ _ _ => trivial
  refine ok_for ((keysN kC1).map fun (k : Nat) => D.int k)
    (fun i ls h' => Fnd h' fn m h4.length h5.length (ledC (fun k => step1 al rows k sg) (kC1.take i) []) (ledA (fun k => step1 al rows k sg) came (fun k => (lk kA1 k).getD 0) (kC1.take i) []) came found ∧ Fr [h.length, h4.length, h5.length] h6 h' ∧ h'[h.length]? = some (.dlk false (cD kC1)) ∧ ∃ x y, ls = [some (.ref fn), some (.str [sg]), some (.ref m), some (.ref h.length), some (.ref h2.length), x, y, none])
    ⟨F6.fr fr7 (by simp; omega) (by simp; omega) (by simp; omega), fr7.mono (by simp), k7, none, none, rfl⟩ (by simp [keysN]; omega) (fun i ls h' _ => rfl) (fun i d ls h' hd p => ?_) (fun ls h' p => ?_)
  · obtain ⟨Fi, fri, ki, x, y, rfl⟩ := p
    rw [List.getElem?_map] at hd
    obtain ⟨k, hk, rfl⟩ := Option.map_eq_some_iff.mp hd
    unfold keysN at hk
    rw [List.getElem?_map] at hk
    obtain ⟨p, hp, rfl⟩ := Option.map_eq_some_iff.mp hk
    have hm := List.mem_of_getElem? hp
    have hkey : p.1 ∈ keysN kC1 := List.mem_map.mpr ⟨p, hm, rfl⟩
    have nd1 : (keysN kC1).Nodup := by rw [← eC1]; exact nd_pt nd
    have hlk := lk_mem nd1 hm
    obtain ⟨v, hv⟩ := hF p.1 hkey
    have hi : i < kC1.length := (List.getElem?_eq_some_iff.mp hp).1
    refine ⟨_, rfl, ?_⟩
    have Mi : Mach h' m r s al rows f st := M6.fr fri (by simp; omega) (by simp; omega) (by simp; omega)
    have xi : h'[h2.length]? = some (.dic false (cD kA1)) := fri.get _ _ x6 (by simp; omega)
    have ld := led_ok G Mi (w := [sg]) (room := p.1) (by simpa using hs) (by simp) (hC p.1 hkey)
    have ld : m_Machine_led [.ref m, .int p.1, .str [sg]] h' = .ok (.int (step1 al rows p.1 sg : Nat)) h' := ld
    have lCi := len_ledC (fun k => step1 al rows k sg) (kC1.take i) []
    have lAi := len_ledA (fun k => step1 al rows k sg) (fun k => (lk kA1 k).getD 0) came (kC1.take i) []
    rw [List.length_take] at lCi lAi
    have sC := set_cD (r := step1 al rows p.1 sg) (v := (lk (ledC (fun k => step1 al rows k sg) (kC1.take i) []) (step1 al rows p.1 sg)).getD 0 + p.2) Fi.cs (by simp at lCi; omega)
    simp only [Rf.okR_ok, Rf.okR_ex, Rf.okS_nx, Rf.okS_rt, Rf.okS_bk, Rf.okS_ct, Rf.okS_ex, Rf.okR_bind, Rf.okS_lift, Rf.okS_seq, Rf.okS_if, Rf.okS_ret, Rf.okS_drop, Rf.okS_set, Rf.okS_next, Rf.okS_retN, Rf.okS_brk, Rf.okS_cont, Rf.okS_raise, Rf.okR_fin, Rf.okR_bin, Rf.okR_test, Rf.okR_not, Rf.okR_and, Rf.okR_or, Rf.okR_andV, Rf.okR_orV, Rf.okR_notV, Rf.okR_mif, Rf.okR_C, Rf.okR_nil, Rf.okR_yes, Rf.okR_cons, Rf.okR_call, Rf.okR_callK, Rf.okR_tup, Rf.okR_lst, Rf.okR_fld, Rf.okR_meth, Rf.okR_make, Rf.okR_bm, Rf.okR_isi, Rf.okS_for, Rf.okR_lc, Rf.okR_any, Rf.okS_asg, Rf.okS_setFld, Rf.okR_V, Rf.okR_chain, Rf.okR_rng1, Rf.okR_rng2, Rf.okR_neg, Rf.okR_sl, Rf.okR_noPart, Rf.okR_part, Rf.okS_sub, Rf.okS_par, Rf.okR_enum, Rf.okR_dic0, Rf.okR_dic1, Rf.okS_try, Rf.okR_get1, Rf.okR_get2, Rf.okR_keys, Rf.okS_augFld, List.getElem?_cons_zero, List.getElem?_cons_succ, List.set_cons_zero, List.set_cons_succ, if_true, if_false, Bool.false_eq_true, reduceIte, reduceCtorEq, Rf.tgOf, Rf.luk_c, Rf.f1, Rf.gV_non, Rf.gV_bl, Rf.gV_int, Rf.gV_str, Rf.gV_tup, Rf.gV_ktp, Rf.gV_rol, Rf.gV_ref, Rf.gd0, Rf.gdA, List.cons_append, List.nil_append, List.append_nil, List.take_succ_cons, List.take_zero, List.take_nil, List.drop_succ_cons, List.drop_zero, List.drop_nil, Rf.oI0, Rf.oI, Bool.not_true, Bool.not_false, Mi.ins, ld, e41' Fi, isDic_at (.inl Fi.cs), g0 (.inl Fi.cs), get_cD (.inr ki) hlk, ad, sC]
    generalize eh8 : h'.set h4.length (.dic false (cD (pt (ledC (fun k => step1 al rows k sg) (kC1.take i) []) (step1 al rows p.1 sg) ((lk (ledC (fun k => step1 al rows k sg) (kC1.take i) []) (step1 al rows p.1 sg)).getD 0 + p.2)))) = h8
    have f8 : Fr [h4.length] h' h8 := by rw [← eh8]; exact Fr.set (by simp)
    have F8 : Fnd h8 fn m h4.length h5.length (ledC (fun k => step1 al rows k sg) (kC1.take (i + 1)) []) (ledA (fun k => step1 al rows k sg) came (fun k => (lk kA1 k).getD 0) (kC1.take i) []) came found :=
      ⟨f8.get _ _ Fi.obj (by simp; omega), by rw [ledC_take _ _ _ hp, ← eh8, List.getElem?_set_self (at_lt Fi.cs)], f8.get _ _ Fi.fs (by simp; omega)⟩
    have x8 : h8[h2.length]? = some (.dic false (cD kA1)) := f8.get _ _ xi (by simp; omega)
    have sA := set_cD (r := step1 al rows p.1 sg) (v := mn2 ((lk (ledA (fun k => step1 al rows k sg) came (fun k => (lk kA1 k).getD 0) (kC1.take i) []) (step1 al rows p.1 sg)).getD came) v) F8.fs (by simp at lAi; omega)
    simp only [Rf.okR_ok, Rf.okR_ex, Rf.okS_nx, Rf.okS_rt, Rf.okS_bk, Rf.okS_ct, Rf.okS_ex, Rf.okR_bind, Rf.okS_lift, Rf.okS_seq, Rf.okS_if, Rf.okS_ret, Rf.okS_drop, Rf.okS_set, Rf.okS_next, Rf.okS_retN, Rf.okS_brk, Rf.okS_cont, Rf.okS_raise, Rf.okR_fin, Rf.okR_bin, Rf.okR_test, Rf.okR_not, Rf.okR_and, Rf.okR_or, Rf.okR_andV, Rf.okR_orV, Rf.okR_notV, Rf.okR_mif, Rf.okR_C, Rf.okR_nil, Rf.okR_yes, Rf.okR_cons, Rf.okR_call, Rf.okR_callK, Rf.okR_tup, Rf.okR_lst, Rf.okR_fld, Rf.okR_meth, Rf.okR_make, Rf.okR_bm, Rf.okR_isi, Rf.okS_for, Rf.okR_lc, Rf.okR_any, Rf.okS_asg, Rf.okS_setFld, Rf.okR_V, Rf.okR_chain, Rf.okR_rng1, Rf.okR_rng2, Rf.okR_neg, Rf.okR_sl, Rf.okR_noPart, Rf.okR_part, Rf.okS_sub, Rf.okS_par, Rf.okR_enum, Rf.okR_dic0, Rf.okR_dic1, Rf.okS_try, Rf.okR_get1, Rf.okR_get2, Rf.okR_keys, Rf.okS_augFld, List.getElem?_cons_zero, List.getElem?_cons_succ, List.set_cons_zero, List.set_cons_succ, if_true, if_false, Bool.false_eq_true, reduceIte, reduceCtorEq, Rf.tgOf, Rf.luk_c, Rf.f1, Rf.gV_non, Rf.gV_bl, Rf.gV_int, Rf.gV_str, Rf.gV_tup, Rf.gV_ktp, Rf.gV_rol, Rf.gV_ref, Rf.gd0, Rf.gdA, List.cons_append, List.nil_append, List.append_nil, List.take_succ_cons, List.take_zero, List.take_nil, List.drop_succ_cons, List.drop_zero, List.drop_nil, Rf.oI0, Rf.oI, Bool.not_true, Bool.not_false, e42 F8, e43 F8, isDic_at (.inl F8.fs), got_cD (x := came) (.inl F8.fs), get_cD (.inl x8) hv, min_cD, sA]
    generalize eh9 : h8.set h5.length (.dic false (cD (pt (ledA (fun k => step1 al rows k sg) came (fun k => (lk kA1 k).getD 0) (kC1.take i) []) (step1 al rows p.1 sg) (mn2 ((lk (ledA (fun k => step1 al rows k sg) came (fun k => (lk kA1 k).getD 0) (kC1.take i) []) (step1 al rows p.1 sg)).getD came) v)))) = h9
    have f9 : Fr [h5.length] h8 h9 := by rw [← eh9]; exact Fr.set (by simp)
    refine ⟨⟨f9.get _ _ F8.obj (by simp; omega), f9.get _ _ F8.cs (by simp; omega), ?_⟩, (fri.trans (f8.mono (by simp))).trans (f9.mono (by simp)), f9.get _ _ (f8.get _ _ ki (by simp; omega)) (by simp; omega), _, _, rfl⟩
    rw [ledA_take _ _ _ _ _ hp, ← eh9, List.getElem?_set_self (at_lt F8.fs), hv]; rfl
  · obtain ⟨Fi, fri, ki, x, y, rfl⟩ := p
    rw [List.length_map, keysN, List.length_map, List.take_length] at Fi
    refine ⟨ki, ?_⟩
    generalize eC : ledC (fun k => step1 al rows k sg) kC1 [] = kC2 at *
    generalize eA : ledA (fun k => step1 al rows k sg) came (fun k => (lk kA1 k).getD 0) kC1 [] = kA2 at *
    generalize eh8 : h'.set h.length (.dic false (cD kC1)) = h8
    have f8 : Fr [h.length] h' h8 := by rw [← eh8]; exact Fr.set (by simp)
    have F8 : Fnd h8 fn m h4.length h5.length kC2 kA2 came found := Fi.fr f8 (by simp; omega) (by simp; omega) (by simp; omega)
    have ad2 : ∀ (x y : Nat) (h : LH), fIAdd (.int x) (.int y) h = .ok (.int ((x + y : Nat) : Int)) h := fun x y h => by
      show R.ok (D.int ((x : Int) + y)) h = _
      congr 2
    have ad3 : ∀ (x : Nat) (h : LH), fIAdd (.int x) (.int 1) h = .ok (.int ((x + 1 : Nat) : Int)) h := fun x h => ad2 x 1 h
    have fr68 : Fr [h.length, h4.length, h5.length] h6 h8 := fri.trans (f8.mono (by simp))
    simp only [Rf.okR_ok, Rf.okR_ex, Rf.okS_nx, Rf.okS_rt, Rf.okS_bk, Rf.okS_ct, Rf.okS_ex, Rf.okR_bind, Rf.okS_lift, Rf.okS_seq, Rf.okS_if, Rf.okS_ret, Rf.okS_drop, Rf.okS_set, Rf.okS_next, Rf.okS_retN, Rf.okS_brk, Rf.okS_cont, Rf.okS_raise, Rf.okR_fin, Rf.okR_bin, Rf.okR_test, Rf.okR_not, Rf.okR_and, Rf.okR_or, Rf.okR_andV, Rf.okR_orV, Rf.okR_notV, Rf.okR_mif, Rf.okR_C, Rf.okR_nil, Rf.okR_yes, Rf.okR_cons, Rf.okR_call, Rf.okR_callK, Rf.okR_tup, Rf.okR_lst, Rf.okR_fld, Rf.okR_meth, Rf.okR_make, Rf.okR_bm, Rf.okR_isi, Rf.okS_for, Rf.okR_lc, Rf.okR_any, Rf.okS_asg, Rf.okS_setFld, Rf.okR_V, Rf.okR_chain, Rf.okR_rng1, Rf.okR_rng2, Rf.okR_neg, Rf.okR_sl, Rf.okR_noPart, Rf.okR_part, Rf.okS_sub, Rf.okS_par, Rf.okR_enum, Rf.okR_dic0, Rf.okR_dic1, Rf.okS_try, Rf.okR_get1, Rf.okR_get2, Rf.okR_keys, Rf.okS_augFld, List.getElem?_cons_zero, List.getElem?_cons_succ, List.set_cons_zero, List.set_cons_succ, if_true, if_false, Bool.false_eq_true, reduceIte, reduceCtorEq, Rf.tgOf, Rf.luk_c, Rf.f1, Rf.gV_non, Rf.gV_bl, Rf.gV_int, Rf.gV_str, Rf.gV_tup, Rf.gV_ktp, Rf.gV_rol, Rf.gV_ref, Rf.gd0, Rf.gdA, List.cons_append, List.nil_append, List.append_nil, List.take_succ_cons, List.take_zero, List.take_nil, List.drop_succ_cons, List.drop_zero, List.drop_nil, Rf.oI0, Rf.oI, Bool.not_true, Bool.not_false, e43 F8, ad3, set19 F8.obj (by simp) 43]
    generalize eh9 : h8.set fn (.ins 19 (putN 43 (.int ((came + 1 : Nat) : Int)) [(32, .ref m), (41, .ref h4.length), (42, .ref h5.length), (43, .int came), (44, .int found)])) = h9
    have f9 : Fr [fn] h8 h9 := by rw [← eh9]; exact Fr.set (by simp)
    have F9 : Fnd h9 fn m h4.length h5.length kC2 kA2 (came + 1) found := ⟨by rw [← eh9, List.getElem?_set_self (at_lt F8.obj)]; rfl, f9.get _ _ F8.cs (by simp; omega), f9.get _ _ F8.fs (by simp; omega)⟩
    have M9 : Mach h9 m r s al rows f st := (M6.fr fr68 (by simp; omega) (by simp; omega) (by simp; omega)).fr f9 (by simpa using nm.symm) (by simpa using ap.1.symm) (by simpa using ap.2.symm)
    have hFF : ∀ ls : Ls, ls[0]? = some (some (.ref fn)) → mFld [19] 41 (mV 0) ls h9 = .ok (.ref h4.length) h9 := fun ls e => by
      unfold mFld
      rw [mV_ok e rfl]
      simp only [R.bind, e41' F9]
    refine ok_lock (n := h4.length) (kvs := cD kC2) (t := false) (h0 := h9) (hFF _ rfl) F9.cs ?_
    generalize ehA : h9.set h4.length (.dlk false (cD kC2)) = hA
    have fA : Fr [h4.length] h9 hA := by rw [← ehA]; exact Fr.set (by simp)
    have kA : hA[h4.length]? = some (.dlk false (cD kC2)) := by rw [← ehA, List.getElem?_set_self (at_lt F9.cs)]
    have oA := fA.get _ _ F9.obj (by simp; omega)
    have MA := M9.fr fA (by simp; omega) (by simp; omega) (by simp; omega)
    have e41A : fldOf [19] 41 fn hA = some (.ref h4.length) := by rw [fld19 oA]; rfl
    have nd1 : (keysN kC1).Nodup := by rw [← eC1]; exact nd_pt nd
    have nd2 : (keysN kC2).Nodup := by rw [← eC]; exact (ledC_ok _ _ _ (by simp [keysN])).1
    have lC2 := len_ledC (fun k => step1 al rows k sg) kC1 []
    rw [eC] at lC2
    have lC2 : kC2.length ≤ 100 := by simp at lC2; omega
    have hC2 : ∀ k ∈ keysN kC2, k < rows.length := fun k hk => by
      have hm : ∀ k ∈ keysN (ledC (fun k => step1 al rows k sg) kC1 []), k < rows.length := by
        have key : ∀ (kv acc : KVs), (∀ k ∈ keysN kv, k < rows.length) → (∀ k ∈ keysN acc, k < rows.length) → ∀ k ∈ keysN (ledC (fun k => step1 al rows k sg) kv acc), k < rows.length := by
          intro kv
          induction kv with
          | nil => intro acc _ h2; exact h2
          | cons p t ih =>
            intro acc h1 h2
            refine ih _ (fun k hk => h1 k (by simp [keysN] at hk ⊢; exact .inr hk)) (fun k hk => ?_)
            rw [keys_pt] at hk
            split at hk
            · exact h2 k hk
            · rcases List.mem_append.mp hk with z | z
              · exact h2 k z
              · have : k = step1 al rows p.1 sg := by simpa using z
                rw [this]
                exact (G.step (h1 p.1 (by simp [keysN])) hs).2.2
        exact key kC1 [] hC (by simp [keysN])
      rw [eC] at hm
      exact hm k hk
    simp only [Rf.okR_ok, Rf.okR_ex, Rf.okS_nx, Rf.okS_rt, Rf.okS_bk, Rf.okS_ct, Rf.okS_ex, Rf.okR_bind, Rf.okS_lift, Rf.okS_seq, Rf.okS_if, Rf.okS_ret, Rf.okS_drop, Rf.okS_set, Rf.okS_next, Rf.okS_retN, Rf.okS_brk, Rf.okS_cont, Rf.okS_raise, Rf.okR_fin, Rf.okR_bin, Rf.okR_test, Rf.okR_not, Rf.okR_and, Rf.okR_or, Rf.okR_andV, Rf.okR_orV, Rf.okR_notV, Rf.okR_mif, Rf.okR_C, Rf.okR_nil, Rf.okR_yes, Rf.okR_cons, Rf.okR_call, Rf.okR_callK, Rf.okR_tup, Rf.okR_lst, Rf.okR_fld, Rf.okR_meth, Rf.okR_make, Rf.okR_bm, Rf.okR_isi, Rf.okS_for, Rf.okR_lc, Rf.okR_any, Rf.okS_asg, Rf.okS_setFld, Rf.okR_V, Rf.okR_chain, Rf.okR_rng1, Rf.okR_rng2, Rf.okR_neg, Rf.okR_sl, Rf.okR_noPart, Rf.okR_part, Rf.okS_sub, Rf.okS_par, Rf.okR_enum, Rf.okR_dic0, Rf.okR_dic1, Rf.okS_try, Rf.okR_get1, Rf.okR_get2, Rf.okR_keys, Rf.okS_augFld, List.getElem?_cons_zero, List.getElem?_cons_succ, List.set_cons_zero, List.set_cons_succ, if_true, if_false, Bool.false_eq_true, reduceIte, reduceCtorEq, Rf.tgOf, Rf.luk_c, Rf.f1, Rf.gV_non, Rf.gV_bl, Rf.gV_int, Rf.gV_str, Rf.gV_tup, Rf.gV_ktp, Rf.gV_rol, Rf.gV_ref, Rf.gd0, Rf.gdA, List.cons_append, List.nil_append, List.append_nil, List.take_succ_cons, List.take_zero, List.take_nil, List.drop_succ_cons, List.drop_zero, List.drop_nil, Rf.oI0, Rf.oI, Bool.not_true, Bool.not_false, e41A, kA, keys_cD, wipeL]
    rw [lc_pure ((keysN kC2).map fun (k : Nat) => D.int k) (fun d => match d with
        | .int i => stB st i.toNat
        | _ => false) (fun d => match d with
        | .int i => .int ((lk kC2 i.toNat).getD 0 : Nat)
        | _ => .non) (fun i => rfl) (by simp [keysN]; omega) (by simp [keysN]; omega) (fun d hd => ?_)]
    · have el : (List.filter (fun d => match d with
          | .int i => stB st i.toNat
          | _ => false) ((keysN kC2).map fun (k : Nat) => D.int k)).map (fun d => match d with
          | .int i => D.int ((lk kC2 i.toNat).getD 0 : Nat)
          | _ => .non) = ((kC2.filter fun p => stB st p.1).map (·.2)).map fun (k : Nat) => D.int k := by
        rw [List.filter_map, List.map_map, keysN, List.filter_map, List.map_map, List.map_map]
        have ef : (fun p : Nat × Nat => stB st p.1) = (((fun d => match d with
          | D.int i => stB st i.toNat
          | _ => false) ∘ fun (k : Nat) => D.int k) ∘ fun (x : Nat × Nat) => x.1) := by
          funext p; simp [Function.comp]
        rw [ef]
        refine List.map_congr_left fun p hp => ?_
        have hm := (List.mem_filter.mp hp).1
        simp [Function.comp, lk_mem nd2 hm]
      simp only [Rf.okR_ok, Rf.okR_ex, Rf.okS_nx, Rf.okS_rt, Rf.okS_bk, Rf.okS_ct, Rf.okS_ex, Rf.okR_bind, Rf.okS_lift, Rf.okS_seq, Rf.okS_if, Rf.okS_ret, Rf.okS_drop, Rf.okS_set, Rf.okS_next, Rf.okS_retN, Rf.okS_brk, Rf.okS_cont, Rf.okS_raise, Rf.okR_fin, Rf.okR_bin, Rf.okR_test, Rf.okR_not, Rf.okR_and, Rf.okR_or, Rf.okR_andV, Rf.okR_orV, Rf.okR_notV, Rf.okR_mif, Rf.okR_C, Rf.okR_nil, Rf.okR_yes, Rf.okR_cons, Rf.okR_call, Rf.okR_callK, Rf.okR_tup, Rf.okR_lst, Rf.okR_fld, Rf.okR_meth, Rf.okR_make, Rf.okR_bm, Rf.okR_isi, Rf.okS_for, Rf.okR_lc, Rf.okR_any, Rf.okS_asg, Rf.okS_setFld, Rf.okR_V, Rf.okR_chain, Rf.okR_rng1, Rf.okR_rng2, Rf.okR_neg, Rf.okR_sl, Rf.okR_noPart, Rf.okR_part, Rf.okS_sub, Rf.okS_par, Rf.okR_enum, Rf.okR_dic0, Rf.okR_dic1, Rf.okS_try, Rf.okR_get1, Rf.okR_get2, Rf.okR_keys, Rf.okS_augFld, List.getElem?_cons_zero, List.getElem?_cons_succ, List.set_cons_zero, List.set_cons_succ, if_true, if_false, Bool.false_eq_true, reduceIte, reduceCtorEq, Rf.tgOf, Rf.luk_c, Rf.f1, Rf.gV_non, Rf.gV_bl, Rf.gV_int, Rf.gV_str, Rf.gV_tup, Rf.gV_ktp, Rf.gV_rol, Rf.gV_ref, Rf.gd0, Rf.gdA, List.cons_append, List.nil_append, List.append_nil, List.take_succ_cons, List.take_zero, List.take_nil, List.drop_succ_cons, List.drop_zero, List.drop_nil, Rf.oI0, Rf.oI, Bool.not_true, Bool.not_false]
      rw [el]
      generalize esum : ((kC2.filter fun p => stB st p.1).map (·.2)).sum = e
      refine ⟨app_lt kA, ?_⟩
      generalize ehB : (hA ++ [LO.lst (((kC2.filter fun p => stB st p.1).map (·.2)).map fun (k : Nat) => D.int k)]).set h4.length (.dic false (cD kC2)) = hB
      have fB : Fr [h4.length] hA hB := by rw [← ehB]; exact Fr.trans .app (Fr.set (by simp))
      have lA9 : hA.length = h9.length := by rw [← ehA]; simp
      have l4A : h4.length < hA.length := at_lt kA
      have gB : hB[hA.length]? = some (.lst (((kC2.filter fun p => stB st p.1).map (·.2)).map fun (k : Nat) => .int k)) := by
        rw [← ehB, List.getElem?_set_ne (by omega)]; exact app_at
      have oB := fB.get _ _ oA (by simp; omega)
      have cB : hB[h4.length]? = some (.dic false (cD kC2)) := by rw [← ehB, List.getElem?_set_self (by simp; omega)]
      have aB : hB[h5.length]? = some (.dic false (cD kA2)) := fB.get _ _ (fA.get _ _ F9.fs (by simp; omega)) (by simp; omega)
      have FB : Fnd hB fn m h4.length h5.length kC2 kA2 (came + 1) found := ⟨oB, cB, aB⟩
      simp only [Rf.okR_ok, Rf.okR_ex, Rf.okS_nx, Rf.okS_rt, Rf.okS_bk, Rf.okS_ct, Rf.okS_ex, Rf.okR_bind, Rf.okS_lift, Rf.okS_seq, Rf.okS_if, Rf.okS_ret, Rf.okS_drop, Rf.okS_set, Rf.okS_next, Rf.okS_retN, Rf.okS_brk, Rf.okS_cont, Rf.okS_raise, Rf.okR_fin, Rf.okR_bin, Rf.okR_test, Rf.okR_not, Rf.okR_and, Rf.okR_or, Rf.okR_andV, Rf.okR_orV, Rf.okR_notV, Rf.okR_mif, Rf.okR_C, Rf.okR_nil, Rf.okR_yes, Rf.okR_cons, Rf.okR_call, Rf.okR_callK, Rf.okR_tup, Rf.okR_lst, Rf.okR_fld, Rf.okR_meth, Rf.okR_make, Rf.okR_bm, Rf.okR_isi, Rf.okS_for, Rf.okR_lc, Rf.okR_any, Rf.okS_asg, Rf.okS_setFld, Rf.okR_V, Rf.okR_chain, Rf.okR_rng1, Rf.okR_rng2, Rf.okR_neg, Rf.okR_sl, Rf.okR_noPart, Rf.okR_part, Rf.okS_sub, Rf.okS_par, Rf.okR_enum, Rf.okR_dic0, Rf.okR_dic1, Rf.okS_try, Rf.okR_get1, Rf.okR_get2, Rf.okR_keys, Rf.okS_augFld, List.getElem?_cons_zero, List.getElem?_cons_succ, List.set_cons_zero, List.set_cons_succ, if_true, if_false, Bool.false_eq_true, reduceIte, reduceCtorEq, Rf.tgOf, Rf.luk_c, Rf.f1, Rf.gV_non, Rf.gV_bl, Rf.gV_int, Rf.gV_str, Rf.gV_tup, Rf.gV_ktp, Rf.gV_rol, Rf.gV_ref, Rf.gd0, Rf.gdA, List.cons_append, List.nil_append, List.append_nil, List.take_succ_cons, List.take_zero, List.take_nil, List.drop_succ_cons, List.drop_zero, List.drop_nil, Rf.oI0, Rf.oI, Bool.not_true, Bool.not_false, sum_ints _ _ _ gB, esum, e44 FB, ad2, set19 FB.obj (by simp) 44]
      generalize ehC : hB.set fn (.ins 19 (putN 44 (.int ((found + e : Nat) : Int)) [(32, .ref m), (41, .ref h4.length), (42, .ref h5.length), (43, .int ((came + 1 : Nat) : Int)), (44, .int found)])) = hC'
      have fC : Fr [fn] hB hC' := by rw [← ehC]; exact Fr.set (by simp)
      refine ⟨h4.length, h5.length, e, kC2, kA2, eC.symm ▸ rfl, eA.symm ▸ rfl, esum.symm, rfl, ⟨by rw [← ehC, List.getElem?_set_self (at_lt FB.obj)]; rfl, fC.get _ _ cB (by simp; omega), fC.get _ _ aB (by simp; omega)⟩, ?_, by omega, by omega⟩
      -- all else stands
      have all : Fr [fn, h.length, h4.length, h5.length] h6 hC' := (((fr68.mono (by simp)).trans (f9.mono (by simp))).trans (fA.mono (by simp))).trans ((fB.mono (by simp)).trans (fC.mono (by simp)))
      have h06 : Fr [fn] h h6 := (fr2.mono (by simp)).trans ((fr4.mono (by simp)).trans fr46)
      refine ⟨Nat.le_trans h06.len all.len, fun q o eq nq => ?_⟩
      have lq := at_lt eq
      exact all.get _ _ (h06.get _ _ eq nq) (by simp at nq ⊢; omega)
    · obtain ⟨k, hk, rfl⟩ := List.mem_map.mp hd
      refine ⟨_, rfl, ?_, fun _ => ?_⟩
      · refine okR_is ?_
        have m26 : fldOf [13] 26 m hA = some (.ref s) := by rw [fld13 MA.obj]; rfl
        simp only [Rf.okR_ok, Rf.okR_ex, Rf.okS_nx, Rf.okS_rt, Rf.okS_bk, Rf.okS_ct, Rf.okS_ex, Rf.okR_bind, Rf.okS_lift, Rf.okS_seq, Rf.okS_if, Rf.okS_ret, Rf.okS_drop, Rf.okS_set, Rf.okS_next, Rf.okS_retN, Rf.okS_brk, Rf.okS_cont, Rf.okS_raise, Rf.okR_fin, Rf.okR_bin, Rf.okR_test, Rf.okR_not, Rf.okR_and, Rf.okR_or, Rf.okR_andV, Rf.okR_orV, Rf.okR_notV, Rf.okR_mif, Rf.okR_C, Rf.okR_nil, Rf.okR_yes, Rf.okR_cons, Rf.okR_call, Rf.okR_callK, Rf.okR_tup, Rf.okR_lst, Rf.okR_fld, Rf.okR_meth, Rf.okR_make, Rf.okR_bm, Rf.okR_isi, Rf.okS_for, Rf.okR_lc, Rf.okR_any, Rf.okS_asg, Rf.okS_setFld, Rf.okR_V, Rf.okR_chain, Rf.okR_rng1, Rf.okR_rng2, Rf.okR_neg, Rf.okR_sl, Rf.okR_noPart, Rf.okR_part, Rf.okS_sub, Rf.okS_par, Rf.okR_enum, Rf.okR_dic0, Rf.okR_dic1, Rf.okS_try, Rf.okR_get1, Rf.okR_get2, Rf.okR_keys, Rf.okS_augFld, List.getElem?_cons_zero, List.getElem?_cons_succ, List.set_cons_zero, List.set_cons_succ, if_true, if_false, Bool.false_eq_true, reduceIte, reduceCtorEq, Rf.tgOf, Rf.luk_c, Rf.f1, Rf.gV_non, Rf.gV_bl, Rf.gV_int, Rf.gV_str, Rf.gV_tup, Rf.gV_ktp, Rf.gV_rol, Rf.gV_ref, Rf.gd0, Rf.gdA, List.cons_append, List.nil_append, List.append_nil, List.take_succ_cons, List.take_zero, List.take_nil, List.drop_succ_cons, List.drop_zero, List.drop_nil, Rf.oI0, Rf.oI, Bool.not_true, Bool.not_false, m26, stopB_at G MA (hC2 k hk), Int.toNat_natCast, and_self]
      · obtain ⟨p, hp, rfl⟩ := List.mem_map.mp hk
        refine okR_is ?_
        simp only [Rf.okR_ok, Rf.okR_ex, Rf.okS_nx, Rf.okS_rt, Rf.okS_bk, Rf.okS_ct, Rf.okS_ex, Rf.okR_bind, Rf.okS_lift, Rf.okS_seq, Rf.okS_if, Rf.okS_ret, Rf.okS_drop, Rf.okS_set, Rf.okS_next, Rf.okS_retN, Rf.okS_brk, Rf.okS_cont, Rf.okS_raise, Rf.okR_fin, Rf.okR_bin, Rf.okR_test, Rf.okR_not, Rf.okR_and, Rf.okR_or, Rf.okR_andV, Rf.okR_orV, Rf.okR_notV, Rf.okR_mif, Rf.okR_C, Rf.okR_nil, Rf.okR_yes, Rf.okR_cons, Rf.okR_call, Rf.okR_callK, Rf.okR_tup, Rf.okR_lst, Rf.okR_fld, Rf.okR_meth, Rf.okR_make, Rf.okR_bm, Rf.okR_isi, Rf.okS_for, Rf.okR_lc, Rf.okR_any, Rf.okS_asg, Rf.okS_setFld, Rf.okR_V, Rf.okR_chain, Rf.okR_rng1, Rf.okR_rng2, Rf.okR_neg, Rf.okR_sl, Rf.okR_noPart, Rf.okR_part, Rf.okS_sub, Rf.okS_par, Rf.okR_enum, Rf.okR_dic0, Rf.okR_dic1, Rf.okS_try, Rf.okR_get1, Rf.okR_get2, Rf.okR_keys, Rf.okS_augFld, List.getElem?_cons_zero, List.getElem?_cons_succ, List.set_cons_zero, List.set_cons_succ, if_true, if_false, Bool.false_eq_true, reduceIte, reduceCtorEq, Rf.tgOf, Rf.luk_c, Rf.f1, Rf.gV_non, Rf.gV_bl, Rf.gV_int, Rf.gV_str, Rf.gV_tup, Rf.gV_ktp, Rf.gV_rol, Rf.gV_ref, Rf.gd0, Rf.gdA, List.cons_append, List.nil_append, List.append_nil, List.take_succ_cons, List.take_zero, List.take_nil, List.drop_succ_cons, List.drop_zero, List.drop_nil, Rf.oI0, Rf.oI, Bool.not_true, Bool.not_false, e41A, get_cD (.inr kA) (lk_mem nd2 hp), Int.toNat_natCast, lk_mem nd2 hp, Option.getD_some, and_self]
end
end Lw
set_option Elab.async false
set_option linter.all false
set_option maxRecDepth 100000
set_option maxHeartbeats 1000000
set_option autoImplicit false
namespace Lw
open PySem PySem.Spec L2 Rf
theorem ne_ints2 {h : LH} {a b : Nat} {ns ms : List Int} (ha : h[a]? = some (.lst (ns.map D.int))) (hb : h[b]? = some (.lst (ms.map D.int))) : dNe (.ref a) (.ref b) h = .ok (.bl (!decide (ns = ms))) h := by
  simp only [dNe, eqD_ints2 ha hb]
section
variable {al : List Nat} {rows : List (List Nat)} {f : Nat} {st : List Nat}
theorem finder_ok {h : LH} {m r s fn : Nat} (M : Mach h m r s al rows f st) (hf : h[fn]? = some (.ins 19 [])) :
    ∃ h' c a, m_Finder___init__ [.ref fn, .ref m] h = .ok .non h' ∧ Fnd h' fn m c a [] [] 0 0 ∧ Fr [fn] h h' ∧ h.length ≤ c ∧ h.length ≤ a := by
  have main : @okR _ (m_Finder___init__ [.ref fn, .ref m] h) ⟨fun d h' => d = .non ∧ ∃ c a, Fnd h' fn m c a [] [] 0 0 ∧ Fr [fn] h h' ∧ h.length ≤ c ∧ h.length ≤ a⟩ ⟨fun _ _ => False⟩ := by
    show @okR _ (fin (b_Finder___init__ [some (.ref fn), some (.ref m)] h)) ⟨_⟩ ⟨_⟩
    unfold b_Finder___init__
    have lm : m_look_machine [.ref m] h = .ok .non h := by
      refine okR_is ?_
      show @okR _ (fin (b_look_machine [some (.ref m)] h)) ⟨_⟩ ⟨_⟩
      unfold b_look_machine
      simp only [Rf.okR_ok, Rf.okR_ex, Rf.okS_nx, Rf.okS_rt, Rf.okS_bk, Rf.okS_ct, Rf.okS_ex, Rf.okR_bind, Rf.okS_lift, Rf.okS_seq, Rf.okS_if, Rf.okS_ret, Rf.okS_drop, Rf.okS_set, Rf.okS_next, Rf.okS_retN, Rf.okS_brk, Rf.okS_cont, Rf.okS_raise, Rf.okR_fin, Rf.okR_bin, Rf.okR_test, Rf.okR_not, Rf.okR_and, Rf.okR_or, Rf.okR_andV, Rf.okR_orV, Rf.okR_notV, Rf.okR_mif, Rf.okR_C, Rf.okR_nil, Rf.okR_yes, Rf.okR_cons, Rf.okR_call, Rf.okR_callK, Rf.okR_tup, Rf.okR_lst, Rf.okR_fld, Rf.okR_meth, Rf.okR_make, Rf.okR_bm, Rf.okR_isi, Rf.okS_for, Rf.okR_lc, Rf.okR_any, Rf.okS_asg, Rf.okS_setFld, Rf.okR_V, Rf.okR_chain, Rf.okR_rng1, Rf.okR_rng2, Rf.okR_neg, Rf.okR_sl, Rf.okR_noPart, Rf.okR_part, Rf.okS_sub, Rf.okS_par, Rf.okR_enum, Rf.okR_dic0, Rf.okR_dic1, Rf.okS_try, Rf.okR_get1, Rf.okR_get2, Rf.okR_keys, Rf.okS_augFld, List.getElem?_cons_zero, List.getElem?_cons_succ, List.set_cons_zero, List.set_cons_succ, if_true, if_false, Bool.false_eq_true, reduceIte, reduceCtorEq, Rf.tgOf, Rf.luk_c, Rf.f1, Rf.gV_non, Rf.gV_bl, Rf.gV_int, Rf.gV_str, Rf.gV_tup, Rf.gV_ktp, Rf.gV_rol, Rf.gV_ref, Rf.gd0, Rf.gdA, List.cons_append, List.nil_append, List.append_nil, List.take_succ_cons, List.take_zero, List.take_nil, List.drop_succ_cons, List.drop_zero, List.drop_nil, Rf.oI0, Rf.oI, Bool.not_true, Bool.not_false, M.obj, and_self]
    have lf := at_lt hf
    simp only [Rf.okR_ok, Rf.okR_ex, Rf.okS_nx, Rf.okS_rt, Rf.okS_bk, Rf.okS_ct, Rf.okS_ex, Rf.okR_bind, Rf.okS_lift, Rf.okS_seq, Rf.okS_if, Rf.okS_ret, Rf.okS_drop, Rf.okS_set, Rf.okS_next, Rf.okS_retN, Rf.okS_brk, Rf.okS_cont, Rf.okS_raise, Rf.okR_fin, Rf.okR_bin, Rf.okR_test, Rf.okR_not, Rf.okR_and, Rf.okR_or, Rf.okR_andV, Rf.okR_orV, Rf.okR_notV, Rf.okR_mif, Rf.okR_C, Rf.okR_nil, Rf.okR_yes, Rf.okR_cons, Rf.okR_call, Rf.okR_callK, Rf.okR_tup, Rf.okR_lst, Rf.okR_fld, Rf.okR_meth, Rf.okR_make, Rf.okR_bm, Rf.okR_isi, Rf.okS_for, Rf.okR_lc, Rf.okR_any, Rf.okS_asg, Rf.okS_setFld, Rf.okR_V, Rf.okR_chain, Rf.okR_rng1, Rf.okR_rng2, Rf.okR_neg, Rf.okR_sl, Rf.okR_noPart, Rf.okR_part, Rf.okS_sub, Rf.okS_par, Rf.okR_enum, Rf.okR_dic0, Rf.okR_dic1, Rf.okS_try, Rf.okR_get1, Rf.okR_get2, Rf.okR_keys, Rf.okS_augFld, List.getElem?_cons_zero, List.getElem?_cons_succ, List.set_cons_zero, List.set_cons_succ, if_true, if_false, Bool.false_eq_true, reduceIte, reduceCtorEq, Rf.tgOf, Rf.luk_c, Rf.f1, Rf.gV_non, Rf.gV_bl, Rf.gV_int, Rf.gV_str, Rf.gV_tup, Rf.gV_ktp, Rf.gV_rol, Rf.gV_ref, Rf.gd0, Rf.gdA, List.cons_append, List.nil_append, List.append_nil, List.take_succ_cons, List.take_zero, List.take_nil, List.drop_succ_cons, List.drop_zero, List.drop_nil, Rf.oI0, Rf.oI, Bool.not_true, Bool.not_false, lm, set19 hf (by simp) 32]
    generalize eh1 : h.set fn (.ins 19 (putN 32 (.ref m) [])) = h1
    have o1 : h1[fn]? = some (.ins 19 [(32, .ref m)]) := by rw [← eh1, List.getElem?_set_self lf]; rfl
    have f1 : Fr [fn] h h1 := by rw [← eh1]; exact Fr.set (by simp)
    have l1 : h1.length = h.length := by rw [← eh1]; simp
    simp only [Rf.okR_ok, Rf.okR_ex, Rf.okS_nx, Rf.okS_rt, Rf.okS_bk, Rf.okS_ct, Rf.okS_ex, Rf.okR_bind, Rf.okS_lift, Rf.okS_seq, Rf.okS_if, Rf.okS_ret, Rf.okS_drop, Rf.okS_set, Rf.okS_next, Rf.okS_retN, Rf.okS_brk, Rf.okS_cont, Rf.okS_raise, Rf.okR_fin, Rf.okR_bin, Rf.okR_test, Rf.okR_not, Rf.okR_and, Rf.okR_or, Rf.okR_andV, Rf.okR_orV, Rf.okR_notV, Rf.okR_mif, Rf.okR_C, Rf.okR_nil, Rf.okR_yes, Rf.okR_cons, Rf.okR_call, Rf.okR_callK, Rf.okR_tup, Rf.okR_lst, Rf.okR_fld, Rf.okR_meth, Rf.okR_make, Rf.okR_bm, Rf.okR_isi, Rf.okS_for, Rf.okR_lc, Rf.okR_any, Rf.okS_asg, Rf.okS_setFld, Rf.okR_V, Rf.okR_chain, Rf.okR_rng1, Rf.okR_rng2, Rf.okR_neg, Rf.okR_sl, Rf.okR_noPart, Rf.okR_part, Rf.okS_sub, Rf.okS_par, Rf.okR_enum, Rf.okR_dic0, Rf.okR_dic1, Rf.okS_try, Rf.okR_get1, Rf.okR_get2, Rf.okR_keys, Rf.okS_augFld, List.getElem?_cons_zero, List.getElem?_cons_succ, List.set_cons_zero, List.set_cons_succ, if_true, if_false, Bool.false_eq_true, reduceIte, reduceCtorEq, Rf.tgOf, Rf.luk_c, Rf.f1, Rf.gV_non, Rf.gV_bl, Rf.gV_int, Rf.gV_str, Rf.gV_tup, Rf.gV_ktp, Rf.gV_rol, Rf.gV_ref, Rf.gd0, Rf.gdA, List.cons_append, List.nil_append, List.append_nil, List.take_succ_cons, List.take_zero, List.take_nil, List.drop_succ_cons, List.drop_zero, List.drop_nil, Rf.oI0, Rf.oI, Bool.not_true, Bool.not_false, set19 (app_lt o1) (by simp) 41]
    generalize eh2 : (h1 ++ [LO.dic false []]).set fn (.ins 19 (putN 41 (.ref h1.length) [(32, .ref m)])) = h2
    have o2 : h2[fn]? = some (.ins 19 [(32, .ref m), (41, .ref h1.length)]) := by rw [← eh2, List.getElem?_set_self (by simp; omega)]; rfl
    have f2 : Fr [fn] h1 h2 := by rw [← eh2]; exact Fr.trans .app (Fr.set (by simp))
    have c2 : h2[h1.length]? = some (.dic false (cD [])) := by rw [← eh2, List.getElem?_set_ne (by omega)]; exact app_at
    have l2 : h2.length = h.length + 1 := by rw [← eh2]; simp [l1]
    simp only [Rf.okR_ok, Rf.okR_ex, Rf.okS_nx, Rf.okS_rt, Rf.okS_bk, Rf.okS_ct, Rf.okS_ex, Rf.okR_bind, Rf.okS_lift, Rf.okS_seq, Rf.okS_if, Rf.okS_ret, Rf.okS_drop, Rf.okS_set, Rf.okS_next, Rf.okS_retN, Rf.okS_brk, Rf.okS_cont, Rf.okS_raise, Rf.okR_fin, Rf.okR_bin, Rf.okR_test, Rf.okR_not, Rf.okR_and, Rf.okR_or, Rf.okR_andV, Rf.okR_orV, Rf.okR_notV, Rf.okR_mif, Rf.okR_C, Rf.okR_nil, Rf.okR_yes, Rf.okR_cons, Rf.okR_call, Rf.okR_callK, Rf.okR_tup, Rf.okR_lst, Rf.okR_fld, Rf.okR_meth, Rf.okR_make, Rf.okR_bm, Rf.okR_isi, Rf.okS_for, Rf.okR_lc, Rf.okR_any, Rf.okS_asg, Rf.okS_setFld, Rf.okR_V, Rf.okR_chain, Rf.okR_rng1, Rf.okR_rng2, Rf.okR_neg, Rf.okR_sl, Rf.okR_noPart, Rf.okR_part, Rf.okS_sub, Rf.okS_par, Rf.okR_enum, Rf.okR_dic0, Rf.okR_dic1, Rf.okS_try, Rf.okR_get1, Rf.okR_get2, Rf.okR_keys, Rf.okS_augFld, List.getElem?_cons_zero, List.getElem?_cons_succ, List.set_cons_zero, List.set_cons_succ, if_true, if_false, Bool.false_eq_true, reduceIte, reduceCtorEq, Rf.tgOf, Rf.luk_c, Rf.f1, Rf.gV_non, Rf.gV_bl, Rf.gV_int, Rf.gV_str, Rf.gV_tup, Rf.gV_ktp, Rf.gV_rol, Rf.gV_ref, Rf.gd0, Rf.gdA, List.cons_append, List.nil_append, List.append_nil, List.take_succ_cons, List.take_zero, List.take_nil, List.drop_succ_cons, List.drop_zero, List.drop_nil, Rf.oI0, Rf.oI, Bool.not_true, Bool.not_false, set19 (app_lt o2) (by simp) 42]
    generalize eh3 : (h2 ++ [LO.dic false []]).set fn (.ins 19 (putN 42 (.ref h2.length) [(32, .ref m), (41, .ref h1.length)])) = h3
    have o3 : h3[fn]? = some (.ins 19 [(32, .ref m), (41, .ref h1.length), (42, .ref h2.length)]) := by rw [← eh3, List.getElem?_set_self (by simp; omega)]; rfl
    have f3 : Fr [fn] h2 h3 := by rw [← eh3]; exact Fr.trans .app (Fr.set (by simp))
    have c3 : h3[h1.length]? = some (.dic false (cD [])) := f3.get _ _ c2 (by simp; omega)
    have a3 : h3[h2.length]? = some (.dic false (cD [])) := by rw [← eh3, List.getElem?_set_ne (by omega)]; exact app_at
    simp only [Rf.okR_ok, Rf.okR_ex, Rf.okS_nx, Rf.okS_rt, Rf.okS_bk, Rf.okS_ct, Rf.okS_ex, Rf.okR_bind, Rf.okS_lift, Rf.okS_seq, Rf.okS_if, Rf.okS_ret, Rf.okS_drop, Rf.okS_set, Rf.okS_next, Rf.okS_retN, Rf.okS_brk, Rf.okS_cont, Rf.okS_raise, Rf.okR_fin, Rf.okR_bin, Rf.okR_test, Rf.okR_not, Rf.okR_and, Rf.okR_or, Rf.okR_andV, Rf.okR_orV, Rf.okR_notV, Rf.okR_mif, Rf.okR_C, Rf.okR_nil, Rf.okR_yes, Rf.okR_cons, Rf.okR_call, Rf.okR_callK, Rf.okR_tup, Rf.okR_lst, Rf.okR_fld, Rf.okR_meth, Rf.okR_make, Rf.okR_bm, Rf.okR_isi, Rf.okS_for, Rf.okR_lc, Rf.okR_any, Rf.okS_asg, Rf.okS_setFld, Rf.okR_V, Rf.okR_chain, Rf.okR_rng1, Rf.okR_rng2, Rf.okR_neg, Rf.okR_sl, Rf.okR_noPart, Rf.okR_part, Rf.okS_sub, Rf.okS_par, Rf.okR_enum, Rf.okR_dic0, Rf.okR_dic1, Rf.okS_try, Rf.okR_get1, Rf.okR_get2, Rf.okR_keys, Rf.okS_augFld, List.getElem?_cons_zero, List.getElem?_cons_succ, List.set_cons_zero, List.set_cons_succ, if_true, if_false, Bool.false_eq_true, reduceIte, reduceCtorEq, Rf.tgOf, Rf.luk_c, Rf.f1, Rf.gV_non, Rf.gV_bl, Rf.gV_int, Rf.gV_str, Rf.gV_tup, Rf.gV_ktp, Rf.gV_rol, Rf.gV_ref, Rf.gd0, Rf.gdA, List.cons_append, List.nil_append, List.append_nil, List.take_succ_cons, List.take_zero, List.take_nil, List.drop_succ_cons, List.drop_zero, List.drop_nil, Rf.oI0, Rf.oI, Bool.not_true, Bool.not_false, set19 o3 (by simp) 43]
    generalize eh4 : h3.set fn (.ins 19 (putN 43 (.int 0) [(32, .ref m), (41, .ref h1.length), (42, .ref h2.length)])) = h4
    have o4 : h4[fn]? = some (.ins 19 [(32, .ref m), (41, .ref h1.length), (42, .ref h2.length), (43, .int 0)]) := by rw [← eh4, List.getElem?_set_self (at_lt o3)]; rfl
    have f4 : Fr [fn] h3 h4 := by rw [← eh4]; exact Fr.set (by simp)
    simp only [Rf.okR_ok, Rf.okR_ex, Rf.okS_nx, Rf.okS_rt, Rf.okS_bk, Rf.okS_ct, Rf.okS_ex, Rf.okR_bind, Rf.okS_lift, Rf.okS_seq, Rf.okS_if, Rf.okS_ret, Rf.okS_drop, Rf.okS_set, Rf.okS_next, Rf.okS_retN, Rf.okS_brk, Rf.okS_cont, Rf.okS_raise, Rf.okR_fin, Rf.okR_bin, Rf.okR_test, Rf.okR_not, Rf.okR_and, Rf.okR_or, Rf.okR_andV, Rf.okR_orV, Rf.okR_notV, Rf.okR_mif, Rf.okR_C, Rf.okR_nil, Rf.okR_yes, Rf.okR_cons, Rf.okR_call, Rf.okR_callK, Rf.okR_tup, Rf.okR_lst, Rf.okR_fld, Rf.okR_meth, Rf.okR_make, Rf.okR_bm, Rf.okR_isi, Rf.okS_for, Rf.okR_lc, Rf.okR_any, Rf.okS_asg, Rf.okS_setFld, Rf.okR_V, Rf.okR_chain, Rf.okR_rng1, Rf.okR_rng2, Rf.okR_neg, Rf.okR_sl, Rf.okR_noPart, Rf.okR_part, Rf.okS_sub, Rf.okS_par, Rf.okR_enum, Rf.okR_dic0, Rf.okR_dic1, Rf.okS_try, Rf.okR_get1, Rf.okR_get2, Rf.okR_keys, Rf.okS_augFld, List.getElem?_cons_zero, List.getElem?_cons_succ, List.set_cons_zero, List.set_cons_succ, if_true, if_false, Bool.false_eq_true, reduceIte, reduceCtorEq, Rf.tgOf, Rf.luk_c, Rf.f1, Rf.gV_non, Rf.gV_bl, Rf.gV_int, Rf.gV_str, Rf.gV_tup, Rf.gV_ktp, Rf.gV_rol, Rf.gV_ref, Rf.gd0, Rf.gdA, List.cons_append, List.nil_append, List.append_nil, List.take_succ_cons, List.take_zero, List.take_nil, List.drop_succ_cons, List.drop_zero, List.drop_nil, Rf.oI0, Rf.oI, Bool.not_true, Bool.not_false, set19 o4 (by simp) 44]
    generalize eh5 : h4.set fn (.ins 19 (putN 44 (.int 0) [(32, .ref m), (41, .ref h1.length), (42, .ref h2.length), (43, .int 0)])) = h5
    have f5 : Fr [fn] h4 h5 := by rw [← eh5]; exact Fr.set (by simp)
    have f35 := f4.trans f5
    refine ⟨trivial, h1.length, h2.length, ⟨by rw [← eh5, List.getElem?_set_self (at_lt o4)]; rfl, f35.get _ _ c3 (by simp; omega), f35.get _ _ a3 (by simp; omega)⟩, ((f1.trans f2).trans f3).trans f35, by omega, by omega⟩
  obtain ⟨d, h', e, rfl, c, a, k⟩ := okR_eq main
  exact ⟨h', c, a, e, k⟩
/-- the first places of rooms that let by -/
def lowL (st : List Nat) (kv : KVs) : List Nat := ((keysN kv).filter (stB st)).map fun k => (lk kv k).getD 0
def lowD : List Nat → D
  | [] => .non
  | x :: r => .int (lowI x (nI r))
theorem longest_ok (G : Good al rows f st) {h : LH} {m r s fn c a : Nat} (M : Mach h m r s al rows f st) {kvC kvA : KVs} {came found : Nat} (Fd : Fnd h fn m c a kvC kvA came found) (hk : ∀ k ∈ keysN kvA, k < rows.length) (hl : kvA.length < 1000) :
    ∃ h', m_Finder_longest [.ref fn] h = .ok (lowD (lowL st kvA)) h' ∧ Fr [] h h' := by
  have nma : a ≠ m ∧ a ≠ fn ∧ a ≠ s := by
    refine ⟨fun z => ?_, fun z => ?_, fun z => ?_⟩
    · have := Fd.fs; rw [z, M.obj] at this; cases this
    · have := Fd.fs; rw [z, Fd.obj] at this; cases this
    · have := Fd.fs; rw [z, M.stp] at this; cases this
  have main : @okR _ (m_Finder_longest [.ref fn] h) ⟨fun d h' => d = lowD (lowL st kvA) ∧ Fr [] h h'⟩ ⟨fun _ _ => False⟩ := by
    show @okR _ (fin (b_Finder_longest [some (.ref fn), none, none] h)) ⟨_⟩ ⟨_⟩
    unfold b_Finder_longest
    have e42 : fldOf [19] 42 fn h = some (.ref a) := by rw [fld19 Fd.obj]; rfl
    simp only [Rf.okR_ok, Rf.okR_ex, Rf.okS_nx, Rf.okS_rt, Rf.okS_bk, Rf.okS_ct, Rf.okS_ex, Rf.okR_bind, Rf.okS_lift, Rf.okS_seq, Rf.okS_if, Rf.okS_ret, Rf.okS_drop, Rf.okS_set, Rf.okS_next, Rf.okS_retN, Rf.okS_brk, Rf.okS_cont, Rf.okS_raise, Rf.okR_fin, Rf.okR_bin, Rf.okR_test, Rf.okR_not, Rf.okR_and, Rf.okR_or, Rf.okR_andV, Rf.okR_orV, Rf.okR_notV, Rf.okR_mif, Rf.okR_C, Rf.okR_nil, Rf.okR_yes, Rf.okR_cons, Rf.okR_call, Rf.okR_callK, Rf.okR_tup, Rf.okR_lst, Rf.okR_fld, Rf.okR_meth, Rf.okR_make, Rf.okR_bm, Rf.okR_isi, Rf.okS_for, Rf.okR_lc, Rf.okR_any, Rf.okS_asg, Rf.okS_setFld, Rf.okR_V, Rf.okR_chain, Rf.okR_rng1, Rf.okR_rng2, Rf.okR_neg, Rf.okR_sl, Rf.okR_noPart, Rf.okR_part, Rf.okS_sub, Rf.okS_par, Rf.okR_enum, Rf.okR_dic0, Rf.okR_dic1, Rf.okS_try, Rf.okR_get1, Rf.okR_get2, Rf.okR_keys, Rf.okS_augFld, List.getElem?_cons_zero, List.getElem?_cons_succ, List.set_cons_zero, List.set_cons_succ, if_true, if_false, Bool.false_eq_true, reduceIte, reduceCtorEq, Rf.tgOf, Rf.luk_c, Rf.f1, Rf.gV_non, Rf.gV_bl, Rf.gV_int, Rf.gV_str, Rf.gV_tup, Rf.gV_ktp, Rf.gV_rol, Rf.gV_ref, Rf.gd0, Rf.gdA, List.cons_append, List.nil_append, List.append_nil, List.take_succ_cons, List.take_zero, List.take_nil, List.drop_succ_cons, List.drop_zero, List.drop_nil, Rf.oI0, Rf.oI, Bool.not_true, Bool.not_false]
    refine ok_lockS (n := a) (kvs := cD kvA) (t := false) (h0 := h) (by
      unfold mFld
      rw [mV_ok (d := .ref fn) rfl rfl]
      simp only [R.bind, e42]) Fd.fs ?_
    generalize eh1 : h.set a (.dlk false (cD kvA)) = h1
    have f1 : Fr [a] h h1 := by rw [← eh1]; exact Fr.set (by simp)
    have k1 : h1[a]? = some (.dlk false (cD kvA)) := by rw [← eh1, List.getElem?_set_self (at_lt Fd.fs)]
    have o1 := f1.get _ _ Fd.obj (by simpa using nma.2.1.symm)
    have m1 := f1.get _ _ M.obj (by simpa using nma.1.symm)
    have s1 := f1.get _ _ M.stp (by simpa using nma.2.2.symm)
    have e1 : fldOf [19] 42 fn h1 = some (.ref a) := by rw [fld19 o1]; rfl
    have e32 : fldOf [19] 32 fn h1 = some (.ref m) := by rw [fld19 o1]; rfl
    have m26 : fldOf [13] 26 m h1 = some (.ref s) := by rw [fld13 m1]; rfl
    have l1 : h1.length = h.length := by rw [← eh1]; simp
    simp only [Rf.okR_ok, Rf.okR_ex, Rf.okS_nx, Rf.okS_rt, Rf.okS_bk, Rf.okS_ct, Rf.okS_ex, Rf.okR_bind, Rf.okS_lift, Rf.okS_seq, Rf.okS_if, Rf.okS_ret, Rf.okS_drop, Rf.okS_set, Rf.okS_next, Rf.okS_retN, Rf.okS_brk, Rf.okS_cont, Rf.okS_raise, Rf.okR_fin, Rf.okR_bin, Rf.okR_test, Rf.okR_not, Rf.okR_and, Rf.okR_or, Rf.okR_andV, Rf.okR_orV, Rf.okR_notV, Rf.okR_mif, Rf.okR_C, Rf.okR_nil, Rf.okR_yes, Rf.okR_cons, Rf.okR_call, Rf.okR_callK, Rf.okR_tup, Rf.okR_lst, Rf.okR_fld, Rf.okR_meth, Rf.okR_make, Rf.okR_bm, Rf.okR_isi, Rf.okS_for, Rf.okR_lc, Rf.okR_any, Rf.okS_asg, Rf.okS_setFld, Rf.okR_V, Rf.okR_chain, Rf.okR_rng1, Rf.okR_rng2, Rf.okR_neg, Rf.okR_sl, Rf.okR_noPart, Rf.okR_part, Rf.okS_sub, Rf.okS_par, Rf.okR_enum, Rf.okR_dic0, Rf.okR_dic1, Rf.okS_try, Rf.okR_get1, Rf.okR_get2, Rf.okR_keys, Rf.okS_augFld, List.getElem?_cons_zero, List.getElem?_cons_succ, List.set_cons_zero, List.set_cons_succ, if_true, if_false, Bool.false_eq_true, reduceIte, reduceCtorEq, Rf.tgOf, Rf.luk_c, Rf.f1, Rf.gV_non, Rf.gV_bl, Rf.gV_int, Rf.gV_str, Rf.gV_tup, Rf.gV_ktp, Rf.gV_rol, Rf.gV_ref, Rf.gd0, Rf.gdA, List.cons_append, List.nil_append, List.append_nil, List.take_succ_cons, List.take_zero, List.take_nil, List.drop_succ_cons, List.drop_zero, List.drop_nil, Rf.oI0, Rf.oI, Bool.not_true, Bool.not_false, e1, k1, keys_cD, wipeL]
    rw [lc_pure ((keysN kvA).map fun (k : Nat) => D.int k) (fun d => match d with
        | .int i => stB st i.toNat
        | _ => false) (fun d => match d with
        | .int i => .int ((lk kvA i.toNat).getD 0 : Nat)
        | _ => .non) (fun i => rfl) (by simp [keysN]; omega) (by simp [keysN]; omega) (fun d hd => ?_)]
    · have el : (List.filter (fun d => match d with
          | .int i => stB st i.toNat
          | _ => false) ((keysN kvA).map fun (k : Nat) => D.int k)).map (fun d => match d with
          | .int i => D.int ((lk kvA i.toNat).getD 0 : Nat)
          | _ => .non) = (nI (lowL st kvA)).map D.int := by
        unfold lowL nI
        rw [List.filter_map, List.map_map, List.map_map, List.map_map]
        have ef : stB st = ((fun d => match d with
          | D.int i => stB st i.toNat
          | _ => false) ∘ fun (k : Nat) => D.int k) := by
          funext p; simp [Function.comp]
        rw [← ef]
        refine List.map_congr_left fun p hp => ?_
        simp [Function.comp]
      simp only [Rf.okR_ok, Rf.okR_ex, Rf.okS_nx, Rf.okS_rt, Rf.okS_bk, Rf.okS_ct, Rf.okS_ex, Rf.okR_bind, Rf.okS_lift, Rf.okS_seq, Rf.okS_if, Rf.okS_ret, Rf.okS_drop, Rf.okS_set, Rf.okS_next, Rf.okS_retN, Rf.okS_brk, Rf.okS_cont, Rf.okS_raise, Rf.okR_fin, Rf.okR_bin, Rf.okR_test, Rf.okR_not, Rf.okR_and, Rf.okR_or, Rf.okR_andV, Rf.okR_orV, Rf.okR_notV, Rf.okR_mif, Rf.okR_C, Rf.okR_nil, Rf.okR_yes, Rf.okR_cons, Rf.okR_call, Rf.okR_callK, Rf.okR_tup, Rf.okR_lst, Rf.okR_fld, Rf.okR_meth, Rf.okR_make, Rf.okR_bm, Rf.okR_isi, Rf.okS_for, Rf.okR_lc, Rf.okR_any, Rf.okS_asg, Rf.okS_setFld, Rf.okR_V, Rf.okR_chain, Rf.okR_rng1, Rf.okR_rng2, Rf.okR_neg, Rf.okR_sl, Rf.okR_noPart, Rf.okR_part, Rf.okS_sub, Rf.okS_par, Rf.okR_enum, Rf.okR_dic0, Rf.okR_dic1, Rf.okS_try, Rf.okR_get1, Rf.okR_get2, Rf.okR_keys, Rf.okS_augFld, List.getElem?_cons_zero, List.getElem?_cons_succ, List.set_cons_zero, List.set_cons_succ, if_true, if_false, Bool.false_eq_true, reduceIte, reduceCtorEq, Rf.tgOf, Rf.luk_c, Rf.f1, Rf.gV_non, Rf.gV_bl, Rf.gV_int, Rf.gV_str, Rf.gV_tup, Rf.gV_ktp, Rf.gV_rol, Rf.gV_ref, Rf.gd0, Rf.gdA, List.cons_append, List.nil_append, List.append_nil, List.take_succ_cons, List.take_zero, List.take_nil, List.drop_succ_cons, List.drop_zero, List.drop_nil, Rf.oI0, Rf.oI, Bool.not_true, Bool.not_false]
      rw [el]
      refine ⟨app_lt k1, ?_⟩
      generalize eh2 : (h1 ++ [LO.lst ((nI (lowL st kvA)).map D.int)]).set a (.dic false (cD kvA)) = h2
      have la : a < h.length := at_lt Fd.fs
      have g2 : h2[h1.length]? = some (.lst ((nI (lowL st kvA)).map D.int)) := by rw [← eh2, List.getElem?_set_ne (by omega)]; exact app_at
      have f2 : Fr [] h h2 := by
        refine ⟨by rw [← eh2]; simp; omega, fun q o e _ => ?_⟩
        by_cases hq : q = a
        · subst hq
          rw [Fd.fs] at e; cases e
          rw [← eh2, List.getElem?_set_self (by simp; omega)]
        · rw [← eh2, List.getElem?_set_ne (Ne.symm hq)]
          exact app_lt (f1.get _ _ e (by simpa using hq))
      have z0 : szOk ([] : List D).length = true := rfl
      have g3 : (h2 ++ [LO.lst ([] : List D)])[h2.length]? = some (.lst ((nI []).map D.int)) := app_at
      cases hL : lowL st kvA with
      | nil =>
        rw [hL] at g2
        simp only [Rf.okR_ok, Rf.okR_ex, Rf.okS_nx, Rf.okS_rt, Rf.okS_bk, Rf.okS_ct, Rf.okS_ex, Rf.okR_bind, Rf.okS_lift, Rf.okS_seq, Rf.okS_if, Rf.okS_ret, Rf.okS_drop, Rf.okS_set, Rf.okS_next, Rf.okS_retN, Rf.okS_brk, Rf.okS_cont, Rf.okS_raise, Rf.okR_fin, Rf.okR_bin, Rf.okR_test, Rf.okR_not, Rf.okR_and, Rf.okR_or, Rf.okR_andV, Rf.okR_orV, Rf.okR_notV, Rf.okR_mif, Rf.okR_C, Rf.okR_nil, Rf.okR_yes, Rf.okR_cons, Rf.okR_call, Rf.okR_callK, Rf.okR_tup, Rf.okR_lst, Rf.okR_fld, Rf.okR_meth, Rf.okR_make, Rf.okR_bm, Rf.okR_isi, Rf.okS_for, Rf.okR_lc, Rf.okR_any, Rf.okS_asg, Rf.okS_setFld, Rf.okR_V, Rf.okR_chain, Rf.okR_rng1, Rf.okR_rng2, Rf.okR_neg, Rf.okR_sl, Rf.okR_noPart, Rf.okR_part, Rf.okS_sub, Rf.okS_par, Rf.okR_enum, Rf.okR_dic0, Rf.okR_dic1, Rf.okS_try, Rf.okR_get1, Rf.okR_get2, Rf.okR_keys, Rf.okS_augFld, List.getElem?_cons_zero, List.getElem?_cons_succ, List.set_cons_zero, List.set_cons_succ, if_true, if_false, Bool.false_eq_true, reduceIte, reduceCtorEq, Rf.tgOf, Rf.luk_c, Rf.f1, Rf.gV_non, Rf.gV_bl, Rf.gV_int, Rf.gV_str, Rf.gV_tup, Rf.gV_ktp, Rf.gV_rol, Rf.gV_ref, Rf.gd0, Rf.gdA, List.cons_append, List.nil_append, List.append_nil, List.take_succ_cons, List.take_zero, List.take_nil, List.drop_succ_cons, List.drop_zero, List.drop_nil, Rf.oI0, Rf.oI, Bool.not_true, Bool.not_false, z0, ne_ints (app_lt g2) g3]
        exact ⟨rfl, f2.trans .app⟩
      | cons x t =>
        rw [hL] at g2
        have nn : decide (nI (x :: t) = nI []) = false := decide_eq_false (by simp [nI])
        have gx : (h2 ++ [LO.lst ([] : List D)])[h1.length]? = some (.lst ((nI (x :: t)).map D.int)) := app_lt g2
        simp only [Rf.okR_ok, Rf.okR_ex, Rf.okS_nx, Rf.okS_rt, Rf.okS_bk, Rf.okS_ct, Rf.okS_ex, Rf.okR_bind, Rf.okS_lift, Rf.okS_seq, Rf.okS_if, Rf.okS_ret, Rf.okS_drop, Rf.okS_set, Rf.okS_next, Rf.okS_retN, Rf.okS_brk, Rf.okS_cont, Rf.okS_raise, Rf.okR_fin, Rf.okR_bin, Rf.okR_test, Rf.okR_not, Rf.okR_and, Rf.okR_or, Rf.okR_andV, Rf.okR_orV, Rf.okR_notV, Rf.okR_mif, Rf.okR_C, Rf.okR_nil, Rf.okR_yes, Rf.okR_cons, Rf.okR_call, Rf.okR_callK, Rf.okR_tup, Rf.okR_lst, Rf.okR_fld, Rf.okR_meth, Rf.okR_make, Rf.okR_bm, Rf.okR_isi, Rf.okS_for, Rf.okR_lc, Rf.okR_any, Rf.okS_asg, Rf.okS_setFld, Rf.okR_V, Rf.okR_chain, Rf.okR_rng1, Rf.okR_rng2, Rf.okR_neg, Rf.okR_sl, Rf.okR_noPart, Rf.okR_part, Rf.okS_sub, Rf.okS_par, Rf.okR_enum, Rf.okR_dic0, Rf.okR_dic1, Rf.okS_try, Rf.okR_get1, Rf.okR_get2, Rf.okR_keys, Rf.okS_augFld, List.getElem?_cons_zero, List.getElem?_cons_succ, List.set_cons_zero, List.set_cons_succ, if_true, if_false, Bool.false_eq_true, reduceIte, reduceCtorEq, Rf.tgOf, Rf.luk_c, Rf.f1, Rf.gV_non, Rf.gV_bl, Rf.gV_int, Rf.gV_str, Rf.gV_tup, Rf.gV_ktp, Rf.gV_rol, Rf.gV_ref, Rf.gd0, Rf.gdA, List.cons_append, List.nil_append, List.append_nil, List.take_succ_cons, List.take_zero, List.take_nil, List.drop_succ_cons, List.drop_zero, List.drop_nil, Rf.oI0, Rf.oI, Bool.not_true, Bool.not_false, z0, ne_ints2 gx g3, nn, dMinL, asRd, gx, allI_map]
        exact ⟨rfl, f2.trans .app⟩
    · obtain ⟨k, hkm, rfl⟩ := List.mem_map.mp hd
      refine ⟨_, rfl, ?_, fun _ => ?_⟩
      · refine okR_is ?_
        have st1 : dIx (.ref s) (.int k) h1 = .ok (.bl (stB st k)) h1 := by
          have e : atI ((List.range rows.length).map fun k => D.bl (decide (k ∈ st))) (k : Int) = some (.bl (decide (k ∈ st))) := by
            refine atI_lt ?_
            simp [hk k hkm]
          simp only [dIx, asRd, s1, e]; rfl
        simp only [Rf.okR_ok, Rf.okR_ex, Rf.okS_nx, Rf.okS_rt, Rf.okS_bk, Rf.okS_ct, Rf.okS_ex, Rf.okR_bind, Rf.okS_lift, Rf.okS_seq, Rf.okS_if, Rf.okS_ret, Rf.okS_drop, Rf.okS_set, Rf.okS_next, Rf.okS_retN, Rf.okS_brk, Rf.okS_cont, Rf.okS_raise, Rf.okR_fin, Rf.okR_bin, Rf.okR_test, Rf.okR_not, Rf.okR_and, Rf.okR_or, Rf.okR_andV, Rf.okR_orV, Rf.okR_notV, Rf.okR_mif, Rf.okR_C, Rf.okR_nil, Rf.okR_yes, Rf.okR_cons, Rf.okR_call, Rf.okR_callK, Rf.okR_tup, Rf.okR_lst, Rf.okR_fld, Rf.okR_meth, Rf.okR_make, Rf.okR_bm, Rf.okR_isi, Rf.okS_for, Rf.okR_lc, Rf.okR_any, Rf.okS_asg, Rf.okS_setFld, Rf.okR_V, Rf.okR_chain, Rf.okR_rng1, Rf.okR_rng2, Rf.okR_neg, Rf.okR_sl, Rf.okR_noPart, Rf.okR_part, Rf.okS_sub, Rf.okS_par, Rf.okR_enum, Rf.okR_dic0, Rf.okR_dic1, Rf.okS_try, Rf.okR_get1, Rf.okR_get2, Rf.okR_keys, Rf.okS_augFld, List.getElem?_cons_zero, List.getElem?_cons_succ, List.set_cons_zero, List.set_cons_succ, if_true, if_false, Bool.false_eq_true, reduceIte, reduceCtorEq, Rf.tgOf, Rf.luk_c, Rf.f1, Rf.gV_non, Rf.gV_bl, Rf.gV_int, Rf.gV_str, Rf.gV_tup, Rf.gV_ktp, Rf.gV_rol, Rf.gV_ref, Rf.gd0, Rf.gdA, List.cons_append, List.nil_append, List.append_nil, List.take_succ_cons, List.take_zero, List.take_nil, List.drop_succ_cons, List.drop_zero, List.drop_nil, Rf.oI0, Rf.oI, Bool.not_true, Bool.not_false, e32, m26, st1, Int.toNat_natCast, and_self]
      · obtain ⟨v, hv⟩ : ∃ v, lk kvA k = some v := by
          cases e : lk kvA k with
          | none => exact absurd hkm (lk_none.mp e)
          | some v => exact ⟨v, rfl⟩
        refine okR_is ?_
        simp only [Rf.okR_ok, Rf.okR_ex, Rf.okS_nx, Rf.okS_rt, Rf.okS_bk, Rf.okS_ct, Rf.okS_ex, Rf.okR_bind, Rf.okS_lift, Rf.okS_seq, Rf.okS_if, Rf.okS_ret, Rf.okS_drop, Rf.okS_set, Rf.okS_next, Rf.okS_retN, Rf.okS_brk, Rf.okS_cont, Rf.okS_raise, Rf.okR_fin, Rf.okR_bin, Rf.okR_test, Rf.okR_not, Rf.okR_and, Rf.okR_or, Rf.okR_andV, Rf.okR_orV, Rf.okR_notV, Rf.okR_mif, Rf.okR_C, Rf.okR_nil, Rf.okR_yes, Rf.okR_cons, Rf.okR_call, Rf.okR_callK, Rf.okR_tup, Rf.okR_lst, Rf.okR_fld, Rf.okR_meth, Rf.okR_make, Rf.okR_bm, Rf.okR_isi, Rf.okS_for, Rf.okR_lc, Rf.okR_any, Rf.okS_asg, Rf.okS_setFld, Rf.okR_V, Rf.okR_chain, Rf.okR_rng1, Rf.okR_rng2, Rf.okR_neg, Rf.okR_sl, Rf.okR_noPart, Rf.okR_part, Rf.okS_sub, Rf.okS_par, Rf.okR_enum, Rf.okR_dic0, Rf.okR_dic1, Rf.okS_try, Rf.okR_get1, Rf.okR_get2, Rf.okR_keys, Rf.okS_augFld, List.getElem?_cons_zero, List.getElem?_cons_succ, List.set_cons_zero, List.set_cons_succ, if_true, if_false, Bool.false_eq_true, reduceIte, reduceCtorEq, Rf.tgOf, Rf.luk_c, Rf.f1, Rf.gV_non, Rf.gV_bl, Rf.gV_int, Rf.gV_str, Rf.gV_tup, Rf.gV_ktp, Rf.gV_rol, Rf.gV_ref, Rf.gd0, Rf.gdA, List.cons_append, List.nil_append, List.append_nil, List.take_succ_cons, List.take_zero, List.take_nil, List.drop_succ_cons, List.drop_zero, List.drop_nil, Rf.oI0, Rf.oI, Bool.not_true, Bool.not_false, e1, get_cD (.inr k1) hv, Int.toNat_natCast, hv, Option.getD_some, and_self]
  obtain ⟨d, h', e, rfl, k⟩ := okR_eq main
  exact ⟨h', e, k⟩
theorem came_ok {h : LH} {fn m c a : Nat} {kvC kvA : KVs} {came found : Nat} (Fd : Fnd h fn m c a kvC kvA came found) : m_Finder_signs_came [.ref fn] h = .ok (.int came) h := by
  refine okR_is ?_
  show @okR _ (fin (b_Finder_signs_came [some (.ref fn)] h)) ⟨_⟩ ⟨_⟩
  have e : fldOf [19] 43 fn h = some (.int came) := by rw [fld19 Fd.obj]; rfl
  simp only [Rf.okR_ok, Rf.okR_ex, Rf.okS_nx, Rf.okS_rt, Rf.okS_bk, Rf.okS_ct, Rf.okS_ex, Rf.okR_bind, Rf.okS_lift, Rf.okS_seq, Rf.okS_if, Rf.okS_ret, Rf.okS_drop, Rf.okS_set, Rf.okS_next, Rf.okS_retN, Rf.okS_brk, Rf.okS_cont, Rf.okS_raise, Rf.okR_fin, Rf.okR_bin, Rf.okR_test, Rf.okR_not, Rf.okR_and, Rf.okR_or, Rf.okR_andV, Rf.okR_orV, Rf.okR_notV, Rf.okR_mif, Rf.okR_C, Rf.okR_nil, Rf.okR_yes, Rf.okR_cons, Rf.okR_call, Rf.okR_callK, Rf.okR_tup, Rf.okR_lst, Rf.okR_fld, Rf.okR_meth, Rf.okR_make, Rf.okR_bm, Rf.okR_isi, Rf.okS_for, Rf.okR_lc, Rf.okR_any, Rf.okS_asg, Rf.okS_setFld, Rf.okR_V, Rf.okR_chain, Rf.okR_rng1, Rf.okR_rng2, Rf.okR_neg, Rf.okR_sl, Rf.okR_noPart, Rf.okR_part, Rf.okS_sub, Rf.okS_par, Rf.okR_enum, Rf.okR_dic0, Rf.okR_dic1, Rf.okS_try, Rf.okR_get1, Rf.okR_get2, Rf.okR_keys, Rf.okS_augFld, List.getElem?_cons_zero, List.getElem?_cons_succ, List.set_cons_zero, List.set_cons_succ, if_true, if_false, Bool.false_eq_true, reduceIte, reduceCtorEq, Rf.tgOf, Rf.luk_c, Rf.f1, Rf.gV_non, Rf.gV_bl, Rf.gV_int, Rf.gV_str, Rf.gV_tup, Rf.gV_ktp, Rf.gV_rol, Rf.gV_ref, Rf.gd0, Rf.gdA, List.cons_append, List.nil_append, List.append_nil, List.take_succ_cons, List.take_zero, List.take_nil, List.drop_succ_cons, List.drop_zero, List.drop_nil, Rf.oI0, Rf.oI, Bool.not_true, Bool.not_false, b_Finder_signs_came, e, and_self]
theorem found_ok {h : LH} {fn m c a : Nat} {kvC kvA : KVs} {came found : Nat} (Fd : Fnd h fn m c a kvC kvA came found) : m_Finder_all_found [.ref fn] h = .ok (.int found) h := by
  refine okR_is ?_
  show @okR _ (fin (b_Finder_all_found [some (.ref fn)] h)) ⟨_⟩ ⟨_⟩
  have e : fldOf [19] 44 fn h = some (.int found) := by rw [fld19 Fd.obj]; rfl
  simp only [Rf.okR_ok, Rf.okR_ex, Rf.okS_nx, Rf.okS_rt, Rf.okS_bk, Rf.okS_ct, Rf.okS_ex, Rf.okR_bind, Rf.okS_lift, Rf.okS_seq, Rf.okS_if, Rf.okS_ret, Rf.okS_drop, Rf.okS_set, Rf.okS_next, Rf.okS_retN, Rf.okS_brk, Rf.okS_cont, Rf.okS_raise, Rf.okR_fin, Rf.okR_bin, Rf.okR_test, Rf.okR_not, Rf.okR_and, Rf.okR_or, Rf.okR_andV, Rf.okR_orV, Rf.okR_notV, Rf.okR_mif, Rf.okR_C, Rf.okR_nil, Rf.okR_yes, Rf.okR_cons, Rf.okR_call, Rf.okR_callK, Rf.okR_tup, Rf.okR_lst, Rf.okR_fld, Rf.okR_meth, Rf.okR_make, Rf.okR_bm, Rf.okR_isi, Rf.okS_for, Rf.okR_lc, Rf.okR_any, Rf.okS_asg, Rf.okS_setFld, Rf.okR_V, Rf.okR_chain, Rf.okR_rng1, Rf.okR_rng2, Rf.okR_neg, Rf.okR_sl, Rf.okR_noPart, Rf.okR_part, Rf.okS_sub, Rf.okS_par, Rf.okR_enum, Rf.okR_dic0, Rf.okR_dic1, Rf.okS_try, Rf.okR_get1, Rf.okR_get2, Rf.okR_keys, Rf.okS_augFld, List.getElem?_cons_zero, List.getElem?_cons_succ, List.set_cons_zero, List.set_cons_succ, if_true, if_false, Bool.false_eq_true, reduceIte, reduceCtorEq, Rf.tgOf, Rf.luk_c, Rf.f1, Rf.gV_non, Rf.gV_bl, Rf.gV_int, Rf.gV_str, Rf.gV_tup, Rf.gV_ktp, Rf.gV_rol, Rf.gV_ref, Rf.gd0, Rf.gdA, List.cons_append, List.nil_append, List.append_nil, List.take_succ_cons, List.take_zero, List.take_nil, List.drop_succ_cons, List.drop_zero, List.drop_nil, Rf.oI0, Rf.oI, Bool.not_true, Bool.not_false, b_Finder_all_found, e, and_self]
end
end Lw
set_option Elab.async false
set_option linter.all false
set_option maxRecDepth 100000
set_option maxHeartbeats 1000000
set_option autoImplicit false
namespace Lw
open PySem PySem.Spec L2 Rf
section
variable {al : List Nat} {rows : List (List Nat)} {f : Nat} {st : List Nat}
/-- the rooms of all pieces that end here -/
def begs (al : List Nat) (rows : List (List Nat)) (f : Nat) (w : List Nat) : List Nat := (List.range w.length).map fun k => ledN al rows f (w.drop k)
theorem begs_len (w : List Nat) : (begs al rows f w).length = w.length := by simp [begs]
theorem ledN_app (room : Nat) (u : List Nat) (c : Nat) : ledN al rows room (u ++ [c]) = step1 al rows (ledN al rows room u) c := by
  unfold ledN; simp
theorem begs_snoc (w : List Nat) (c : Nat) : begs al rows f (w ++ [c]) = (begs al rows f w ++ [f]).map fun k => step1 al rows k c := by
  unfold begs
  rw [List.length_append, List.length_singleton, List.range_succ, List.map_append, List.map_append, List.map_map]
  congr 1
  · refine List.map_congr_left fun k hk => ?_
    have hk : k < w.length := by simpa using hk
    simp only [Function.comp]
    rw [List.drop_append_of_le_length (by omega), ledN_app]
  · simp [ledN]
theorem begs_lt (G : Good al rows f st) {w : List Nat} (hw : ∀ c ∈ w, c ∈ al) : ∀ k ∈ begs al rows f w, k < rows.length := fun k hk => by
  obtain ⟨j, _, rfl⟩ := List.mem_map.mp hk
  exact G.led G.first (fun c hc => hw c (List.mem_of_mem_drop hc))
structure FI (al : List Nat) (rows : List (List Nat)) (f : Nat) (kvC kvA : KVs) (w : List Nat) : Prop where
  nd : (keysN kvC).Nodup
  pos : ∀ p ∈ kvC, 0 < p.2
  ex : (Ex kvC).Perm (begs al rows f w)
  fst : Fst kvA (begs al rows f w)
  la : kvA.length ≤ w.length
theorem FI.nil : FI al rows f [] [] [] := ⟨by simp [keysN], by simp, by simp [Ex, begs], ⟨fun r hr => by simp [begs] at hr, fun r _ => rfl⟩, Nat.le_refl _⟩
theorem FI.lc {kvC kvA : KVs} {w : List Nat} (I : FI al rows f kvC kvA w) : kvC.length ≤ w.length := by
  have h1 := len_ex I.pos
  have h2 := I.ex.length_eq
  rw [begs_len] at h2
  omega
theorem FI.key {kvC kvA : KVs} {w : List Nat} (I : FI al rows f kvC kvA w) : ∀ k, k ∈ keysN (pt kvC f ((lk kvC f).getD 0 + 1)) ↔ k ∈ begs al rows f w ++ [f] := fun k => by
  rw [exC_mem (pos_pt I.pos (by omega)), (ex_pt I.nd f 1).mem_iff, List.mem_append, List.mem_append, I.ex.mem_iff]
  simp
theorem FI.keyA {kvC kvA : KVs} {w : List Nat} (I : FI al rows f kvC kvA w) : ∀ k ∈ keysN kvA, k ∈ begs al rows f w := fun k hk => by
  by_cases h : k ∈ begs al rows f w
  · exact h
  · exact absurd hk (lk_none.mp (I.fst.no k h))
theorem FI.fst1 {kvC kvA : KVs} {w : List Nat} (I : FI al rows f kvC kvA w) : Fst (pt kvA f (mn2 ((lk kvA f).getD w.length) w.length)) (begs al rows f w ++ [f]) := by
  have := fst_snoc (f := f) I.fst
  rw [begs_len] at this
  exact this
theorem FI.push {kvC kvA kC kA : KVs} {w : List Nat} {c : Nat} (I : FI al rows f kvC kvA w) (eC : kC = ledC (fun k => step1 al rows k c) (pt kvC f ((lk kvC f).getD 0 + 1)) [])
    (eA : kA = ledA (fun k => step1 al rows k c) w.length (fun k => (lk (pt kvA f (mn2 ((lk kvA f).getD w.length) w.length)) k).getD 0) (pt kvC f ((lk kvC f).getD 0 + 1)) []) : FI al rows f kC kA (w ++ [c]) := by
  obtain ⟨h1, h2⟩ := ledC_ok (fun k => step1 al rows k c) (pt kvC f ((lk kvC f).getD 0 + 1)) [] (by simp [keysN])
  have ep : (Ex (pt kvC f ((lk kvC f).getD 0 + 1))).Perm (begs al rows f w ++ [f]) := (ex_pt I.nd f 1).trans (List.Perm.append I.ex (by simp))
  refine ⟨by rw [eC]; exact h1, by rw [eC]; exact pos_ledC (pos_pt I.pos (by omega)) (by simp), ?_, ?_, ?_⟩
  · rw [eC, begs_snoc]
    refine h2.trans ?_
    simp only [Ex, List.flatMap_nil, List.nil_append]
    exact ep.map _
  · rw [eA, begs_snoc]
    exact ledA_fst I.fst1 I.key (by simp [begs_len])
  · rw [eA]
    have h3 := len_ledA (fun k => step1 al rows k c) (fun k => (lk (pt kvA f (mn2 ((lk kvA f).getD w.length) w.length)) k).getD 0) w.length (pt kvC f ((lk kvC f).getD 0 + 1)) []
    have h4 := len_pt kvC f ((lk kvC f).getD 0 + 1)
    have h5 := I.lc
    simp at h3 ⊢
    omega
/-- the law's own list -/
def begI (al : List Nat) (rows : List (List Nat)) (f : Nat) (st w : List Nat) : List Nat := (List.range w.length).filter fun k => stB st (ledN al rows f (w.drop k))
theorem FI.ending {kvC kvA : KVs} {w : List Nat} (I : FI al rows f kvC kvA w) : ((kvC.filter fun p => stB st p.1).map (·.2)).sum = (begI al rows f st w).length := by
  rw [ex_filter, (I.ex.filter _).length_eq]
  unfold begs begI
  rw [List.filter_map, List.length_map]; rfl
theorem begI_mem {w : List Nat} {k : Nat} : k ∈ begI al rows f st w ↔ ∃ r, (begs al rows f w)[k]? = some r ∧ stB st r = true := by
  unfold begI begs
  rw [List.mem_filter, List.mem_range]
  constructor
  · rintro ⟨h1, h2⟩
    exact ⟨_, by simp [h1], h2⟩
  · rintro ⟨r, h1, h2⟩
    rw [List.getElem?_map] at h1
    obtain ⟨j, h3, rfl⟩ := Option.map_eq_some_iff.mp h1
    have hk : k < w.length := by
      have := (List.getElem?_eq_some_iff.mp h3).1
      simpa using this
    rw [List.getElem?_range hk] at h3
    cases h3
    exact ⟨hk, h2⟩
def begD : List Nat → D
  | [] => .non
  | x :: _ => .int (x : Nat)
theorem FI.low {kvC kvA : KVs} {w : List Nat} (I : FI al rows f kvC kvA w) : lowD (lowL st kvA) = begD (begI al rows f st w) := by
  have inL : ∀ v, v ∈ lowL st kvA → v ∈ begI al rows f st w := fun v hv => by
    obtain ⟨k, hk, rfl⟩ := List.mem_map.mp hv
    obtain ⟨h1, h2⟩ := List.mem_filter.mp hk
    obtain ⟨u, h3, h4⟩ := I.fst.yes k (I.keyA k h1)
    rw [h3]
    exact begI_mem.mpr ⟨k, h4.1, h2⟩
  cases hb : begI al rows f st w with
  | nil =>
    cases hl : lowL st kvA with
    | nil => rfl
    | cons x t =>
      have := inL x (by rw [hl]; simp)
      rw [hb] at this
      simp at this
  | cons b t =>
    have hbm : b ∈ begI al rows f st w := by rw [hb]; simp
    have srt : (begI al rows f st w).Pairwise (· < ·) := List.Pairwise.filter _ List.pairwise_lt_range
    have least : ∀ x ∈ begI al rows f st w, b ≤ x := fun x hx => by
      rw [hb] at srt hx
      rcases List.mem_cons.mp hx with z | z
      · omega
      · exact Nat.le_of_lt ((List.pairwise_cons.mp srt).1 x z)
    obtain ⟨r, h1, h2⟩ := begI_mem.mp hbm
    obtain ⟨u, h3, h4⟩ := I.fst.yes r (List.mem_of_getElem? h1)
    have hu : u ∈ begI al rows f st w := begI_mem.mpr ⟨r, h4.1, h2⟩
    have hub : u = b := by
      have a1 := least u hu
      rcases Nat.lt_or_ge b u with z | z
      · exact absurd h1 (h4.2 b z)
      · omega
    have hin : b ∈ lowL st kvA := by
      refine List.mem_map.mpr ⟨r, List.mem_filter.mpr ⟨?_, h2⟩, by rw [h3, hub]; rfl⟩
      by_cases hk : r ∈ keysN kvA
      · exact hk
      · rw [lk_none.mpr hk] at h3; cases h3
    cases hl : lowL st kvA with
    | nil => rw [hl] at hin; simp at hin
    | cons x s =>
      obtain ⟨k1, k2, k3⟩ := lowI_ok (nI s) x
      show D.int (lowI x (nI s)) = D.int (b : Nat)
      congr 1
      have m1 : ∃ y : Nat, y ∈ lowL st kvA ∧ lowI x (nI s) = y := by
        rcases k1 with k1 | k1
        · exact ⟨x, by rw [hl]; simp, k1⟩
        · obtain ⟨y, hy, e⟩ := List.mem_map.mp k1
          exact ⟨y, by rw [hl]; simp [hy], e.symm⟩
      obtain ⟨y, hy, ey⟩ := m1
      have a1 := least y (inL y hy)
      have a2 : lowI x (nI s) ≤ (b : Int) := by
        rw [hl] at hin
        rcases List.mem_cons.mp hin with z | z
        · rw [z]; exact k2
        · exact k3 _ (List.mem_map.mpr ⟨b, z, rfl⟩)
      omega
end
end Lw
set_option Elab.async false
set_option linter.all false
set_option maxRecDepth 100000
set_option maxHeartbeats 1000000
set_option autoImplicit false
namespace Lw
open PySem PySem.Spec L2 Rf
def isAl (al : List Nat) : Prop := al = [97] ∨ al = [97, 98] ∨ al = [97, 98, 99] ∨ al = [120, 122]
theorem al_ok {al : List Nat} (h : isAl al) : Al al := by
  rcases h with e | e | e | e <;> subst e
  · exact ⟨fun h => by kernel_rfl, by decide, by decide, by decide⟩
  · exact ⟨fun h => by kernel_rfl, by decide, by decide, by decide⟩
  · exact ⟨fun h => by kernel_rfl, by decide, by decide, by decide⟩
  · exact ⟨fun h => by kernel_rfl, by decide, by decide, by decide⟩
theorem ne_obj {h : LH} {a b : Nat} {o o' : LO} (h1 : h[a]? = some o) (h2 : h[b]? = some o') (hn : o ≠ o') : a ≠ b := fun z => by
  rw [z, h2] at h1
  exact hn (Option.some.inj h1).symm
section
variable {al : List Nat} {rows : List (List Nat)} {f : Nat} {st : List Nat}
structure St (h : LH) (al : List Nat) (rows : List (List Nat)) (f : Nat) (st : List Nat) (p q m r s fn c a m2 r2 s2 fn2 c2 a2 : Nat) (w w2 : List Nat) (tot tot2 : Nat) : Prop where
  tw : ∃ row c, Town h 2 1 row c
  raw : Raw h p q rows st
  mA : Mach h m r s al rows f st
  mB : Mach h m2 r2 s2 al rows f st
  fA : ∃ kC kA, Fnd h fn m c a kC kA w.length tot ∧ FI al rows f kC kA w
  fB : ∃ kC kA, Fnd h fn2 m2 c2 a2 kC kA w2.length tot2 ∧ FI al rows f kC kA w2
  ge : 3 ≤ p ∧ 3 ≤ q ∧ 3 ≤ m ∧ 3 ≤ r ∧ 3 ≤ s ∧ 3 ≤ fn ∧ 3 ≤ c ∧ 3 ≤ a ∧ 3 ≤ m2 ∧ 3 ≤ r2 ∧ 3 ≤ s2 ∧ 3 ≤ fn2 ∧ 3 ≤ c2 ∧ 3 ≤ a2
  nn : fn ≠ fn2
theorem St.town {h h' : LH} {p q m r s fn c a m2 r2 s2 fn2 c2 a2 : Nat} {w w2 : List Nat} {tot tot2 : Nat} (S : St h al rows f st p q m r s fn c a m2 r2 s2 fn2 c2 a2 w w2 tot tot2) (e : Fr [2, 1] h h') (T : ∃ row c, Town h' 2 1 row c) : St h' al rows f st p q m r s fn c a m2 r2 s2 fn2 c2 a2 w w2 tot tot2 := by
  obtain ⟨a1, a2, a3, a4, a5, a6, a7, a8, a9, a10, a11, a12, a13, a14⟩ := S.ge
  obtain ⟨kC, kA, F1, I1⟩ := S.fA
  obtain ⟨jC, jA, F2, I2⟩ := S.fB
  have n : ∀ {x : Nat}, 3 ≤ x → x ∉ [2, 1] := fun h => by simp; omega
  exact ⟨T, S.raw.fr e (n a1) (n a2), S.mA.fr e (n a3) (n a4) (n a5), S.mB.fr e (n a9) (n a10) (n a11), ⟨kC, kA, F1.fr e (n a6) (n a7) (n a8), I1⟩, ⟨jC, jA, F2.fr e (n a12) (n a13) (n a14), I2⟩, S.ge, S.nn⟩
theorem St.any {h h' : LH} {p q m r s fn c a m2 r2 s2 fn2 c2 a2 : Nat} {w w2 : List Nat} {tot tot2 : Nat} (S : St h al rows f st p q m r s fn c a m2 r2 s2 fn2 c2 a2 w w2 tot tot2) (e : Fr [] h h') : St h' al rows f st p q m r s fn c a m2 r2 s2 fn2 c2 a2 w w2 tot tot2 := by
  obtain ⟨row, c, T⟩ := S.tw
  exact S.town (e.mono (by simp)) ⟨row, c, T.fr e (by simp) (by simp)⟩
theorem ins19_ne {h : LH} {fn n : Nat} {fs : List (Nat × D)} {o : LO} (h1 : h[fn]? = some (.ins 19 fs)) (h2 : h[n]? = some o) (hn : ∀ fs, o ≠ .ins 19 fs) : n ∉ [fn] := fun z => by
  have : n = fn := by simpa using z
  rw [this, h1] at h2
  exact hn fs (Option.some.inj h2).symm
theorem push1 (G : Good al rows f st) {h : LH} {p q m r s fn c a m2 r2 s2 fn2 c2 a2 : Nat} {w w2 : List Nat} {tot tot2 : Nat} (S : St h al rows f st p q m r s fn c a m2 r2 s2 fn2 c2 a2 w w2 tot tot2) (hw : ∀ x ∈ w, x ∈ al) (hl : w.length < 50) {sg : Nat} (hs : sg ∈ al) :
    ∃ h' c' a', m_Finder_push [.ref fn, .str [sg]] h = .ok (.int ((begI al rows f st (w ++ [sg])).length : Nat)) h' ∧ St h' al rows f st p q m r s fn c' a' m2 r2 s2 fn2 c2 a2 (w ++ [sg]) w2 (tot + (begI al rows f st (w ++ [sg])).length) tot2 := by
  obtain ⟨kC, kA, F1, I1⟩ := S.fA
  obtain ⟨jC, jA, F2, I2⟩ := S.fB
  obtain ⟨row, cc, T⟩ := S.tw
  obtain ⟨b1, b2, b3, b4, b5, b6, b7, b8, b9, b10, b11, b12, b13, b14⟩ := S.ge
  have lc := I1.lc
  have la := I1.la
  have hkey : ∀ k ∈ keysN (pt kC f ((lk kC f).getD 0 + 1)), k < rows.length := fun k hk => by
    rcases List.mem_append.mp ((I1.key k).mp hk) with z | z
    · exact begs_lt G hw k z
    · have : k = f := by simpa using z
      rw [this]; exact G.first
  have main := push_ok G S.mA F1 hs hkey I1.nd (by omega) (by omega) ⟨ne_obj F1.obj S.mA.rws (by intro z; cases z), ne_obj F1.obj S.mA.stp (by intro z; cases z)⟩ (fun k hk => by
    obtain ⟨v, h1, _⟩ := I1.fst1.yes k ((I1.key k).mp hk)
    exact ⟨v, h1⟩)
  obtain ⟨d, h', e, c', a', en, kC', kA', eC, eA, ee, rfl, F', fr, gc, ga⟩ := okR_eq main
  have I' := I1.push eC eA
  rw [I'.ending (st := st)] at ee
  subst ee
  have nI : ∀ {n : Nat} {o : LO}, h[n]? = some o → (∀ fs, o ≠ .ins 19 fs) → n ∉ [fn] := fun h2 hn => ins19_ne F1.obj h2 hn
  have l3 := at_lt T.tn
  refine ⟨h', c', a', e, ⟨row, cc, T.fr fr (nI T.tn (by intro _ z; cases z)) (nI T.rw_ (by intro _ z; cases z))⟩, S.raw.fr fr (nI S.raw.rws (by intro _ z; cases z)) (nI S.raw.stp (by intro _ z; cases z)),
    S.mA.fr fr (nI S.mA.obj (by intro _ z; cases z)) (nI S.mA.rws (by intro _ z; cases z)) (nI S.mA.stp (by intro _ z; cases z)), S.mB.fr fr (nI S.mB.obj (by intro _ z; cases z)) (nI S.mB.rws (by intro _ z; cases z)) (nI S.mB.stp (by intro _ z; cases z)),
    ⟨kC', kA', by rw [List.length_append]; exact F', I'⟩, ⟨jC, jA, F2.fr fr (by simpa using S.nn.symm) (nI F2.cs (by intro _ z; cases z)) (nI F2.fs (by intro _ z; cases z)), I2⟩, ⟨b1, b2, b3, b4, b5, b6, by omega, by omega, b9, b10, b11, b12, b13, b14⟩, S.nn⟩
theorem St.flip {h : LH} {p q m r s fn c a m2 r2 s2 fn2 c2 a2 : Nat} {w w2 : List Nat} {tot tot2 : Nat} (S : St h al rows f st p q m r s fn c a m2 r2 s2 fn2 c2 a2 w w2 tot tot2) : St h al rows f st p q m2 r2 s2 fn2 c2 a2 m r s fn c a w2 w tot2 tot := by
  obtain ⟨b1, b2, b3, b4, b5, b6, b7, b8, b9, b10, b11, b12, b13, b14⟩ := S.ge
  exact ⟨S.tw, S.raw, S.mB, S.mA, S.fB, S.fA, ⟨b1, b2, b9, b10, b11, b12, b13, b14, b3, b4, b5, b6, b7, b8⟩, S.nn.symm⟩
def lsW (x : D) (al : List Nat) (p f q fn fn2 : Nat) (w : List Nat) (tot : Nat) (t : List (Option D)) : Ls := some x :: some (.ref 2) :: some (.str al) :: some (rawD al p f q) :: some (.ref fn) :: some (.ref fn2) :: some (.str w) :: some (.int tot) :: t
theorem Fnd.ins {h : LH} {fn m c a : Nat} {kvC kvA : KVs} {came found : Nat} (F : Fnd h fn m c a kvC kvA came found) : insOf 19 fn h = true := by unfold insOf; rw [F.obj]; rfl
theorem body_ok (A : Al al) (G : Good al rows f st) {x : D} {h : LH} {p q m r s fn c a m2 r2 s2 fn2 c2 a2 : Nat} {w w2 : List Nat} {tot tot2 : Nat} (S : St h al rows f st p q m r s fn c a m2 r2 s2 fn2 c2 a2 w w2 tot tot2) (hw : ∀ x ∈ w, x ∈ al) (hw2 : ∀ x ∈ w2, x ∈ al) (hl : w.length < 40) (hl2 : w2.length ≤ w.length)
    {b8 b9 b10 b11 b12 : Option D} {N : Ls → LH → Prop} {T : D → LH → Prop} {B C : Ls → LH → Prop} {X : Exn → Ls → LH → Prop}
    (hN : ∀ (t : List (Option D)) (h' : LH) (c a c2 a2 sg : Nat) (w2' : List Nat) (tot2' : Nat), t.length = 5 → sg ∈ al → (∀ x ∈ w2', x ∈ al) → w2'.length ≤ w.length + 1 → St h' al rows f st p q m r s fn c a m2 r2 s2 fn2 c2 a2 (w ++ [sg]) w2' (tot + (begI al rows f st (w ++ [sg])).length) tot2' → N (lsW x al p f q fn fn2 (w ++ [sg]) (tot + (begI al rows f st (w ++ [sg])).length) t) h') :
    @okS (s_law_8_b (lsW x al p f q fn fn2 w tot [b8, b9, b10, b11, b12]) h) ⟨N, T, B, C, X⟩ := by
  have ep : m__law_pick = pickM := rfl
  have ed : m__law_draw = runA drawM := rfl
  obtain ⟨row, cc, T0⟩ := S.tw
  have a1 : 1 ≤ al.length := by have := A.ne; cases al with
    | nil => exact absurd rfl this
    | cons _ _ => simp
  have a4 := A.len
  obtain ⟨sg, h1, row1, hs, e1, T1, kp1, hl1⟩ := pickS T0 (al := al) a1 (by omega)
  have S1 := S.town (kp1.fr (by omega)) ⟨_, _, T1⟩
  unfold s_law_8_b lsW
  have zt : szOk (w.length + [sg].length) = true := Nat.ble_eq_true_of_le (by simp; omega)
  have zw : szOk (w ++ [sg]).length = true := Nat.ble_eq_true_of_le (by simp; omega)
  have hw' : ∀ x ∈ w ++ [sg], x ∈ al := fun x hx => by
    rcases List.mem_append.mp hx with z | z
    · exact hw x z
    · have : x = sg := by simpa using z
      rw [this]; exact hs
  have ad : ∀ h : LH, dAdd (.str w) (.str [sg]) h = .ok (.str (w ++ [sg])) h := fun h => by
    simp only [dAdd, zt, if_true]
  have lw : (w ++ [sg]).length = w.length + 1 := by simp
  simp only [Rf.okR_ok, Rf.okR_ex, Rf.okS_nx, Rf.okS_rt, Rf.okS_bk, Rf.okS_ct, Rf.okS_ex, Rf.okR_bind, Rf.okS_lift, Rf.okS_seq, Rf.okS_if, Rf.okS_ret, Rf.okS_drop, Rf.okS_set, Rf.okS_next, Rf.okS_retN, Rf.okS_brk, Rf.okS_cont, Rf.okS_raise, Rf.okR_fin, Rf.okR_bin, Rf.okR_test, Rf.okR_not, Rf.okR_and, Rf.okR_or, Rf.okR_andV, Rf.okR_orV, Rf.okR_notV, Rf.okR_mif, Rf.okR_C, Rf.okR_nil, Rf.okR_yes, Rf.okR_cons, Rf.okR_call, Rf.okR_callK, Rf.okR_tup, Rf.okR_lst, Rf.okR_fld, Rf.okR_meth, Rf.okR_make, Rf.okR_bm, Rf.okR_isi, Rf.okS_for, Rf.okR_lc, Rf.okR_any, Rf.okS_asg, Rf.okS_setFld, Rf.okR_V, Rf.okR_chain, Rf.okR_rng1, Rf.okR_rng2, Rf.okR_neg, Rf.okR_sl, Rf.okR_noPart, Rf.okR_part, Rf.okS_sub, Rf.okS_par, Rf.okR_enum, Rf.okR_dic0, Rf.okR_dic1, Rf.okS_try, Rf.okR_get1, Rf.okR_get2, Rf.okR_keys, Rf.okS_augFld, List.getElem?_cons_zero, List.getElem?_cons_succ, List.set_cons_zero, List.set_cons_succ, if_true, if_false, Bool.false_eq_true, reduceIte, reduceCtorEq, Rf.tgOf, Rf.luk_c, Rf.f1, Rf.gV_non, Rf.gV_bl, Rf.gV_int, Rf.gV_str, Rf.gV_tup, Rf.gV_ktp, Rf.gV_rol, Rf.gV_ref, Rf.gd0, Rf.gdA, List.cons_append, List.nil_append, List.append_nil, List.take_succ_cons, List.take_zero, List.take_nil, List.drop_succ_cons, List.drop_zero, List.drop_nil, Rf.oI0, Rf.oI, Bool.not_true, Bool.not_false, ep, e1, ad, dLen, zw, rngK_nat (n := (w ++ [sg]).length) (h := h1) (by rw [lw]; omega), wipeL]
  rw [lc_pure (rgD 0 (w ++ [sg]).length) (fun d => match d with
      | .int i => stB st (ledN al rows f ((w ++ [sg]).drop i.toNat))
      | _ => false) (fun d => d) (fun i => itm_range) (by rw [rgD_len, lw]; omega) (by rw [rgD_len, lw]; omega) (fun d hd => ?_)]
  · have el : (List.filter (fun d => match d with
        | D.int i => stB st (ledN al rows f ((w ++ [sg]).drop i.toNat))
        | _ => false) (rgD 0 (w ++ [sg]).length)).map (fun d => d) = (nI (begI al rows f st (w ++ [sg]))).map D.int := by
      rw [List.map_id']
      unfold rgD nI begI
      rw [List.filter_map, List.map_map]
      have ef : (fun k => stB st (ledN al rows f ((w ++ [sg]).drop k))) = ((fun d => match d with
        | D.int i => stB st (ledN al rows f ((w ++ [sg]).drop i.toNat))
        | _ => false) ∘ fun (k : Nat) => D.int (0 + (k : Int))) := by
        funext k; simp [Function.comp]
      rw [← ef]
      refine List.map_congr_left fun k _ => ?_
      simp
    simp only [Rf.okR_ok, Rf.okR_ex, Rf.okS_nx, Rf.okS_rt, Rf.okS_bk, Rf.okS_ct, Rf.okS_ex, Rf.okR_bind, Rf.okS_lift, Rf.okS_seq, Rf.okS_if, Rf.okS_ret, Rf.okS_drop, Rf.okS_set, Rf.okS_next, Rf.okS_retN, Rf.okS_brk, Rf.okS_cont, Rf.okS_raise, Rf.okR_fin, Rf.okR_bin, Rf.okR_test, Rf.okR_not, Rf.okR_and, Rf.okR_or, Rf.okR_andV, Rf.okR_orV, Rf.okR_notV, Rf.okR_mif, Rf.okR_C, Rf.okR_nil, Rf.okR_yes, Rf.okR_cons, Rf.okR_call, Rf.okR_callK, Rf.okR_tup, Rf.okR_lst, Rf.okR_fld, Rf.okR_meth, Rf.okR_make, Rf.okR_bm, Rf.okR_isi, Rf.okS_for, Rf.okR_lc, Rf.okR_any, Rf.okS_asg, Rf.okS_setFld, Rf.okR_V, Rf.okR_chain, Rf.okR_rng1, Rf.okR_rng2, Rf.okR_neg, Rf.okR_sl, Rf.okR_noPart, Rf.okR_part, Rf.okS_sub, Rf.okS_par, Rf.okR_enum, Rf.okR_dic0, Rf.okR_dic1, Rf.okS_try, Rf.okR_get1, Rf.okR_get2, Rf.okR_keys, Rf.okS_augFld, List.getElem?_cons_zero, List.getElem?_cons_succ, List.set_cons_zero, List.set_cons_succ, if_true, if_false, Bool.false_eq_true, reduceIte, reduceCtorEq, Rf.tgOf, Rf.luk_c, Rf.f1, Rf.gV_non, Rf.gV_bl, Rf.gV_int, Rf.gV_str, Rf.gV_tup, Rf.gV_ktp, Rf.gV_rol, Rf.gV_ref, Rf.gd0, Rf.gdA, List.cons_append, List.nil_append, List.append_nil, List.take_succ_cons, List.take_zero, List.take_nil, List.drop_succ_cons, List.drop_zero, List.drop_nil, Rf.oI0, Rf.oI, Bool.not_true, Bool.not_false]
    rw [el]
    generalize eb : begI al rows f st (w ++ [sg]) = bs
    generalize eh2 : h1 ++ [LO.lst ((nI bs).map D.int)] = h2
    have g2 : h2[h1.length]? = some (.lst ((nI bs).map D.int)) := by rw [← eh2]; exact app_at
    have S2 := S1.any (h' := h2) (by rw [← eh2]; exact .app)
    obtain ⟨h3, c3, a3, e3, S3⟩ := push1 G S2 hw (by omega) hs
    rw [eb] at e3 S3
    obtain ⟨kC2, kA2, F2, I2⟩ := S2.fA
    obtain ⟨kC3, kA3, F3, I3⟩ := S3.fA
    have hg : fn ≠ h1.length := ne_obj F2.obj g2 (by intro z; cases z)
    have fr3 : h3[h1.length]? = some (.lst ((nI bs).map D.int)) := by
      have := push_ok G S2.mA F2 hs (fun k hk => by
        rcases List.mem_append.mp ((I2.key k).mp hk) with z | z
        · exact begs_lt G hw k z
        · have : k = f := by simpa using z
          rw [this]; exact G.first) I2.nd (by have := I2.lc; omega) (by have := I2.la; omega) ⟨ne_obj F2.obj S2.mA.rws (by intro z; cases z), ne_obj F2.obj S2.mA.stp (by intro z; cases z)⟩ (fun k hk => by
        obtain ⟨v, h1, _⟩ := I2.fst1.yes k ((I2.key k).mp hk)
        exact ⟨v, h1⟩)
      rw [e3] at this
      obtain ⟨_, _, _, _, _, _, _, _, _, _, fr, _⟩ := this
      exact fr.get _ _ g2 (by simpa using hg.symm)
    have lb : bs.length ≤ 41 := by
      rw [← eb]
      unfold begI
      have := List.length_filter_le (fun k => stB st (ledN al rows f ((w ++ [sg]).drop k))) (List.range (w ++ [sg]).length)
      rw [List.length_range] at this
      omega
    have lbn : ((nI bs).map D.int).length = bs.length := by simp [nI]
    have ad2 : ∀ (x y : Nat) (h : LH), dAdd (.int x) (.int y) h = .ok (.int ((x + y : Nat) : Int)) h := fun x y h => by
      show R.ok (D.int ((x : Int) + y)) h = _
      congr 2
    have neI : ∀ (i : Int) (h : LH), dNe (.int i) (.int i) h = .ok (.bl false) h := fun i h => by
      show R.ok (D.bl (!decide (i = i))) h = _
      rw [decide_eq_true rfl]; rfl
    have wh : ∀ (k : Nat) (h : LH), m__law_whole [.int k] h = .ok (.bl true) h := fun k h => by
      refine runA_is h rfl ?_ rfl
      show @okR _ (fin (b__law_whole [some (.int k)] [])) ⟨_⟩ ⟨_⟩
      simp only [Rf.okR_ok, Rf.okR_ex, Rf.okS_nx, Rf.okS_rt, Rf.okS_bk, Rf.okS_ct, Rf.okS_ex, Rf.okR_bind, Rf.okS_lift, Rf.okS_seq, Rf.okS_if, Rf.okS_ret, Rf.okS_drop, Rf.okS_set, Rf.okS_next, Rf.okS_retN, Rf.okS_brk, Rf.okS_cont, Rf.okS_raise, Rf.okR_fin, Rf.okR_bin, Rf.okR_test, Rf.okR_not, Rf.okR_and, Rf.okR_or, Rf.okR_andV, Rf.okR_orV, Rf.okR_notV, Rf.okR_mif, Rf.okR_C, Rf.okR_nil, Rf.okR_yes, Rf.okR_cons, Rf.okR_call, Rf.okR_callK, Rf.okR_tup, Rf.okR_lst, Rf.okR_fld, Rf.okR_meth, Rf.okR_make, Rf.okR_bm, Rf.okR_isi, Rf.okS_for, Rf.okR_lc, Rf.okR_any, Rf.okS_asg, Rf.okS_setFld, Rf.okR_V, Rf.okR_chain, Rf.okR_rng1, Rf.okR_rng2, Rf.okR_neg, Rf.okR_sl, Rf.okR_noPart, Rf.okR_part, Rf.okS_sub, Rf.okS_par, Rf.okR_enum, Rf.okR_dic0, Rf.okR_dic1, Rf.okS_try, Rf.okR_get1, Rf.okR_get2, Rf.okR_keys, Rf.okS_augFld, List.getElem?_cons_zero, List.getElem?_cons_succ, List.set_cons_zero, List.set_cons_succ, if_true, if_false, Bool.false_eq_true, reduceIte, reduceCtorEq, Rf.tgOf, Rf.luk_c, Rf.f1, Rf.gV_non, Rf.gV_bl, Rf.gV_int, Rf.gV_str, Rf.gV_tup, Rf.gV_ktp, Rf.gV_rol, Rf.gV_ref, Rf.gd0, Rf.gdA, List.cons_append, List.nil_append, List.append_nil, List.take_succ_cons, List.take_zero, List.take_nil, List.drop_succ_cons, List.drop_zero, List.drop_nil, Rf.oI0, Rf.oI, Bool.not_true, Bool.not_false, b__law_whole]
    obtain ⟨h4, e4, f4⟩ := longest_ok G S3.mA F3 (fun k hk => begs_lt G hw' k (I3.keyA k hk)) (by have := I3.la; rw [lw] at this; omega)
    rw [I3.low (st := st), eb] at e4
    have S4 := S3.any f4
    have g4 := f4.get _ _ fr3 (by simp)
    obtain ⟨kC4, kA4, F4, I4⟩ := S4.fA
    have z0 : szOk ([] : List D).length = true := rfl
    have cl : ((w.length + 1 : Nat) : Int) = (((w ++ [sg]).length : Nat) : Int) := by rw [lw]
    simp only [Rf.okR_ok, Rf.okR_ex, Rf.okS_nx, Rf.okS_rt, Rf.okS_bk, Rf.okS_ct, Rf.okS_ex, Rf.okR_bind, Rf.okS_lift, Rf.okS_seq, Rf.okS_if, Rf.okS_ret, Rf.okS_drop, Rf.okS_set, Rf.okS_next, Rf.okS_retN, Rf.okS_brk, Rf.okS_cont, Rf.okS_raise, Rf.okR_fin, Rf.okR_bin, Rf.okR_test, Rf.okR_not, Rf.okR_and, Rf.okR_or, Rf.okR_andV, Rf.okR_orV, Rf.okR_notV, Rf.okR_mif, Rf.okR_C, Rf.okR_nil, Rf.okR_yes, Rf.okR_cons, Rf.okR_call, Rf.okR_callK, Rf.okR_tup, Rf.okR_lst, Rf.okR_fld, Rf.okR_meth, Rf.okR_make, Rf.okR_bm, Rf.okR_isi, Rf.okS_for, Rf.okR_lc, Rf.okR_any, Rf.okS_asg, Rf.okS_setFld, Rf.okR_V, Rf.okR_chain, Rf.okR_rng1, Rf.okR_rng2, Rf.okR_neg, Rf.okR_sl, Rf.okR_noPart, Rf.okR_part, Rf.okS_sub, Rf.okS_par, Rf.okR_enum, Rf.okR_dic0, Rf.okR_dic1, Rf.okS_try, Rf.okR_get1, Rf.okR_get2, Rf.okR_keys, Rf.okS_augFld, List.getElem?_cons_zero, List.getElem?_cons_succ, List.set_cons_zero, List.set_cons_succ, if_true, if_false, Bool.false_eq_true, reduceIte, reduceCtorEq, Rf.tgOf, Rf.luk_c, Rf.f1, Rf.gV_non, Rf.gV_bl, Rf.gV_int, Rf.gV_str, Rf.gV_tup, Rf.gV_ktp, Rf.gV_rol, Rf.gV_ref, Rf.gd0, Rf.gdA, List.cons_append, List.nil_append, List.append_nil, List.take_succ_cons, List.take_zero, List.take_nil, List.drop_succ_cons, List.drop_zero, List.drop_nil, Rf.oI0, Rf.oI, Bool.not_true, Bool.not_false, F2.ins, e3, dLen, zw, fr3, lbn, ad2, neI, wh, F3.ins, found_ok F3, came_ok F3, e4]
    have g5 : (h4 ++ [LO.lst ([] : List D)])[h4.length]? = some (.lst ((nI []).map D.int)) := app_at
    have fin : ∀ h5 : LH, St h5 al rows f st p q m r s fn c3 a3 m2 r2 s2 fn2 c2 a2 (w ++ [sg]) w2 (tot + bs.length) tot2 → @okS ((mIfS (mTest (mBin dEq (mCallK gd0 m__law_draw (mCons (mV 1) (mCons (mC (.int 3)) (mNil))) (mNil)) (mC (.int 0)))) (mDrop (mMeth 19 m_Finder_push (mV 5) (mCons (mV 9) (mNil)))) (mNext)) [some x, some (.ref 2), some (.str al), some (rawD al p f q), some (.ref fn), some (.ref fn2), some (.str (w ++ [sg])), some (.int ((tot + bs.length : Nat) : Int)), b8, some (.str [sg]), some (.ref h1.length), some (.int (bs.length : Nat)), b12] h5) ⟨N, T, B, C, X⟩ := fun h5 S5 => by
      obtain ⟨row5, cc5, T5⟩ := S5.tw
      obtain ⟨u, h6, row6, un, e6, T6, fr6, hl6⟩ := drawF (n := 3) T5 (by decide) (by decide)
      have S6 := S5.town fr6 ⟨_, _, T6⟩
      have eq : dEq (.int (u : Int)) (.int 0) h6 = .ok (.bl (decide (u = 0))) h6 := by
        show R.ok (D.bl (decide ((u : Int) = 0))) h6 = _
        by_cases hz : u = 0
        · rw [decide_eq_true hz, decide_eq_true (by omega)]
        · rw [decide_eq_false hz, decide_eq_false (by omega)]
      obtain ⟨jC, jA, J2, JI⟩ := S6.fB
      simp only [Rf.okR_ok, Rf.okR_ex, Rf.okS_nx, Rf.okS_rt, Rf.okS_bk, Rf.okS_ct, Rf.okS_ex, Rf.okR_bind, Rf.okS_lift, Rf.okS_seq, Rf.okS_if, Rf.okS_ret, Rf.okS_drop, Rf.okS_set, Rf.okS_next, Rf.okS_retN, Rf.okS_brk, Rf.okS_cont, Rf.okS_raise, Rf.okR_fin, Rf.okR_bin, Rf.okR_test, Rf.okR_not, Rf.okR_and, Rf.okR_or, Rf.okR_andV, Rf.okR_orV, Rf.okR_notV, Rf.okR_mif, Rf.okR_C, Rf.okR_nil, Rf.okR_yes, Rf.okR_cons, Rf.okR_call, Rf.okR_callK, Rf.okR_tup, Rf.okR_lst, Rf.okR_fld, Rf.okR_meth, Rf.okR_make, Rf.okR_bm, Rf.okR_isi, Rf.okS_for, Rf.okR_lc, Rf.okR_any, Rf.okS_asg, Rf.okS_setFld, Rf.okR_V, Rf.okR_chain, Rf.okR_rng1, Rf.okR_rng2, Rf.okR_neg, Rf.okR_sl, Rf.okR_noPart, Rf.okR_part, Rf.okS_sub, Rf.okS_par, Rf.okR_enum, Rf.okR_dic0, Rf.okR_dic1, Rf.okS_try, Rf.okR_get1, Rf.okR_get2, Rf.okR_keys, Rf.okS_augFld, List.getElem?_cons_zero, List.getElem?_cons_succ, List.set_cons_zero, List.set_cons_succ, if_true, if_false, Bool.false_eq_true, reduceIte, reduceCtorEq, Rf.tgOf, Rf.luk_c, Rf.f1, Rf.gV_non, Rf.gV_bl, Rf.gV_int, Rf.gV_str, Rf.gV_tup, Rf.gV_ktp, Rf.gV_rol, Rf.gV_ref, Rf.gd0, Rf.gdA, List.cons_append, List.nil_append, List.append_nil, List.take_succ_cons, List.take_zero, List.take_nil, List.drop_succ_cons, List.drop_zero, List.drop_nil, Rf.oI0, Rf.oI, Bool.not_true, Bool.not_false, ed, e6, eq]
      cases hz : decide (u = 0) with
      | false =>
        simp only [Rf.okR_ok, Rf.okR_ex, Rf.okS_nx, Rf.okS_rt, Rf.okS_bk, Rf.okS_ct, Rf.okS_ex, Rf.okR_bind, Rf.okS_lift, Rf.okS_seq, Rf.okS_if, Rf.okS_ret, Rf.okS_drop, Rf.okS_set, Rf.okS_next, Rf.okS_retN, Rf.okS_brk, Rf.okS_cont, Rf.okS_raise, Rf.okR_fin, Rf.okR_bin, Rf.okR_test, Rf.okR_not, Rf.okR_and, Rf.okR_or, Rf.okR_andV, Rf.okR_orV, Rf.okR_notV, Rf.okR_mif, Rf.okR_C, Rf.okR_nil, Rf.okR_yes, Rf.okR_cons, Rf.okR_call, Rf.okR_callK, Rf.okR_tup, Rf.okR_lst, Rf.okR_fld, Rf.okR_meth, Rf.okR_make, Rf.okR_bm, Rf.okR_isi, Rf.okS_for, Rf.okR_lc, Rf.okR_any, Rf.okS_asg, Rf.okS_setFld, Rf.okR_V, Rf.okR_chain, Rf.okR_rng1, Rf.okR_rng2, Rf.okR_neg, Rf.okR_sl, Rf.okR_noPart, Rf.okR_part, Rf.okS_sub, Rf.okS_par, Rf.okR_enum, Rf.okR_dic0, Rf.okR_dic1, Rf.okS_try, Rf.okR_get1, Rf.okR_get2, Rf.okR_keys, Rf.okS_augFld, List.getElem?_cons_zero, List.getElem?_cons_succ, List.set_cons_zero, List.set_cons_succ, if_true, if_false, Bool.false_eq_true, reduceIte, reduceCtorEq, Rf.tgOf, Rf.luk_c, Rf.f1, Rf.gV_non, Rf.gV_bl, Rf.gV_int, Rf.gV_str, Rf.gV_tup, Rf.gV_ktp, Rf.gV_rol, Rf.gV_ref, Rf.gd0, Rf.gdA, List.cons_append, List.nil_append, List.append_nil, List.take_succ_cons, List.take_zero, List.take_nil, List.drop_succ_cons, List.drop_zero, List.drop_nil, Rf.oI0, Rf.oI, Bool.not_true, Bool.not_false]
        have := hN [b8, some (.str [sg]), some (.ref h1.length), some (.int (bs.length : Nat)), b12] h6 c3 a3 c2 a2 sg w2 tot2 rfl hs hw2 (by omega)
        rw [eb] at this
        exact this S6
      | true =>
        obtain ⟨h7, c7, a7, e7, S7⟩ := push1 G S6.flip hw2 (by omega) hs
        simp only [Rf.okR_ok, Rf.okR_ex, Rf.okS_nx, Rf.okS_rt, Rf.okS_bk, Rf.okS_ct, Rf.okS_ex, Rf.okR_bind, Rf.okS_lift, Rf.okS_seq, Rf.okS_if, Rf.okS_ret, Rf.okS_drop, Rf.okS_set, Rf.okS_next, Rf.okS_retN, Rf.okS_brk, Rf.okS_cont, Rf.okS_raise, Rf.okR_fin, Rf.okR_bin, Rf.okR_test, Rf.okR_not, Rf.okR_and, Rf.okR_or, Rf.okR_andV, Rf.okR_orV, Rf.okR_notV, Rf.okR_mif, Rf.okR_C, Rf.okR_nil, Rf.okR_yes, Rf.okR_cons, Rf.okR_call, Rf.okR_callK, Rf.okR_tup, Rf.okR_lst, Rf.okR_fld, Rf.okR_meth, Rf.okR_make, Rf.okR_bm, Rf.okR_isi, Rf.okS_for, Rf.okR_lc, Rf.okR_any, Rf.okS_asg, Rf.okS_setFld, Rf.okR_V, Rf.okR_chain, Rf.okR_rng1, Rf.okR_rng2, Rf.okR_neg, Rf.okR_sl, Rf.okR_noPart, Rf.okR_part, Rf.okS_sub, Rf.okS_par, Rf.okR_enum, Rf.okR_dic0, Rf.okR_dic1, Rf.okS_try, Rf.okR_get1, Rf.okR_get2, Rf.okR_keys, Rf.okS_augFld, List.getElem?_cons_zero, List.getElem?_cons_succ, List.set_cons_zero, List.set_cons_succ, if_true, if_false, Bool.false_eq_true, reduceIte, reduceCtorEq, Rf.tgOf, Rf.luk_c, Rf.f1, Rf.gV_non, Rf.gV_bl, Rf.gV_int, Rf.gV_str, Rf.gV_tup, Rf.gV_ktp, Rf.gV_rol, Rf.gV_ref, Rf.gd0, Rf.gdA, List.cons_append, List.nil_append, List.append_nil, List.take_succ_cons, List.take_zero, List.take_nil, List.drop_succ_cons, List.drop_zero, List.drop_nil, Rf.oI0, Rf.oI, Bool.not_true, Bool.not_false, J2.ins, e7]
        have := hN [b8, some (.str [sg]), some (.ref h1.length), some (.int (bs.length : Nat)), b12] h7 c3 a3 c7 a7 sg (w2 ++ [sg]) (tot2 + (begI al rows f st (w2 ++ [sg])).length) rfl hs (fun x hx => by
          rcases List.mem_append.mp hx with z | z
          · exact hw2 x z
          · have : x = sg := by simpa using z
            rw [this]; exact hs) (by simp; omega)
        rw [eb] at this
        exact this S7.flip
    have S5 := S4.any (h' := h4 ++ [LO.lst ([] : List D)]) .app
    cases hb : bs with
    | nil =>
      rw [hb] at g4 fin S5
      have nb : dNe (begD []) .non (h4 ++ [LO.lst ([] : List D)]) = .ok (.bl false) (h4 ++ [LO.lst ([] : List D)]) := rfl
      simp only [Rf.okR_ok, Rf.okR_ex, Rf.okS_nx, Rf.okS_rt, Rf.okS_bk, Rf.okS_ct, Rf.okS_ex, Rf.okR_bind, Rf.okS_lift, Rf.okS_seq, Rf.okS_if, Rf.okS_ret, Rf.okS_drop, Rf.okS_set, Rf.okS_next, Rf.okS_retN, Rf.okS_brk, Rf.okS_cont, Rf.okS_raise, Rf.okR_fin, Rf.okR_bin, Rf.okR_test, Rf.okR_not, Rf.okR_and, Rf.okR_or, Rf.okR_andV, Rf.okR_orV, Rf.okR_notV, Rf.okR_mif, Rf.okR_C, Rf.okR_nil, Rf.okR_yes, Rf.okR_cons, Rf.okR_call, Rf.okR_callK, Rf.okR_tup, Rf.okR_lst, Rf.okR_fld, Rf.okR_meth, Rf.okR_make, Rf.okR_bm, Rf.okR_isi, Rf.okS_for, Rf.okR_lc, Rf.okR_any, Rf.okS_asg, Rf.okS_setFld, Rf.okR_V, Rf.okR_chain, Rf.okR_rng1, Rf.okR_rng2, Rf.okR_neg, Rf.okR_sl, Rf.okR_noPart, Rf.okR_part, Rf.okS_sub, Rf.okS_par, Rf.okR_enum, Rf.okR_dic0, Rf.okR_dic1, Rf.okS_try, Rf.okR_get1, Rf.okR_get2, Rf.okR_keys, Rf.okS_augFld, List.getElem?_cons_zero, List.getElem?_cons_succ, List.set_cons_zero, List.set_cons_succ, if_true, if_false, Bool.false_eq_true, reduceIte, reduceCtorEq, Rf.tgOf, Rf.luk_c, Rf.f1, Rf.gV_non, Rf.gV_bl, Rf.gV_int, Rf.gV_str, Rf.gV_tup, Rf.gV_ktp, Rf.gV_rol, Rf.gV_ref, Rf.gd0, Rf.gdA, List.cons_append, List.nil_append, List.append_nil, List.take_succ_cons, List.take_zero, List.take_nil, List.drop_succ_cons, List.drop_zero, List.drop_nil, Rf.oI0, Rf.oI, Bool.not_true, Bool.not_false, z0, ne_ints2 (app_lt g4) g5, decide_true, nb]
      have zz := fin _ S5
      revert zz
      simp only [Rf.okR_ok, Rf.okR_ex, Rf.okS_nx, Rf.okS_rt, Rf.okS_bk, Rf.okS_ct, Rf.okS_ex, Rf.okR_bind, Rf.okS_lift, Rf.okS_seq, Rf.okS_if, Rf.okS_ret, Rf.okS_drop, Rf.okS_set, Rf.okS_next, Rf.okS_retN, Rf.okS_brk, Rf.okS_cont, Rf.okS_raise, Rf.okR_fin, Rf.okR_bin, Rf.okR_test, Rf.okR_not, Rf.okR_and, Rf.okR_or, Rf.okR_andV, Rf.okR_orV, Rf.okR_notV, Rf.okR_mif, Rf.okR_C, Rf.okR_nil, Rf.okR_yes, Rf.okR_cons, Rf.okR_call, Rf.okR_callK, Rf.okR_tup, Rf.okR_lst, Rf.okR_fld, Rf.okR_meth, Rf.okR_make, Rf.okR_bm, Rf.okR_isi, Rf.okS_for, Rf.okR_lc, Rf.okR_any, Rf.okS_asg, Rf.okS_setFld, Rf.okR_V, Rf.okR_chain, Rf.okR_rng1, Rf.okR_rng2, Rf.okR_neg, Rf.okR_sl, Rf.okR_noPart, Rf.okR_part, Rf.okS_sub, Rf.okS_par, Rf.okR_enum, Rf.okR_dic0, Rf.okR_dic1, Rf.okS_try, Rf.okR_get1, Rf.okR_get2, Rf.okR_keys, Rf.okS_augFld, List.getElem?_cons_zero, List.getElem?_cons_succ, List.set_cons_zero, List.set_cons_succ, if_true, if_false, Bool.false_eq_true, reduceIte, reduceCtorEq, Rf.tgOf, Rf.luk_c, Rf.f1, Rf.gV_non, Rf.gV_bl, Rf.gV_int, Rf.gV_str, Rf.gV_tup, Rf.gV_ktp, Rf.gV_rol, Rf.gV_ref, Rf.gd0, Rf.gdA, List.cons_append, List.nil_append, List.append_nil, List.take_succ_cons, List.take_zero, List.take_nil, List.drop_succ_cons, List.drop_zero, List.drop_nil, Rf.oI0, Rf.oI, Bool.not_true, Bool.not_false]
      exact id
    | cons b t =>
      rw [hb] at g4 fin S5
      have nn : decide (nI (b :: t) = nI []) = false := decide_eq_false (by simp [nI])
      have gx : (h4 ++ [LO.lst ([] : List D)])[h1.length]? = some (.lst ((nI (b :: t)).map D.int)) := app_lt g4
      have ix : atI ((nI (b :: t)).map D.int) 0 = some (.int (b : Nat)) := atI_lt (j := 0) rfl
      have nb : dNe (begD (b :: t)) (.int (b : Nat)) (h4 ++ [LO.lst ([] : List D)]) = .ok (.bl false) (h4 ++ [LO.lst ([] : List D)]) := neI _ _
      simp only [Rf.okR_ok, Rf.okR_ex, Rf.okS_nx, Rf.okS_rt, Rf.okS_bk, Rf.okS_ct, Rf.okS_ex, Rf.okR_bind, Rf.okS_lift, Rf.okS_seq, Rf.okS_if, Rf.okS_ret, Rf.okS_drop, Rf.okS_set, Rf.okS_next, Rf.okS_retN, Rf.okS_brk, Rf.okS_cont, Rf.okS_raise, Rf.okR_fin, Rf.okR_bin, Rf.okR_test, Rf.okR_not, Rf.okR_and, Rf.okR_or, Rf.okR_andV, Rf.okR_orV, Rf.okR_notV, Rf.okR_mif, Rf.okR_C, Rf.okR_nil, Rf.okR_yes, Rf.okR_cons, Rf.okR_call, Rf.okR_callK, Rf.okR_tup, Rf.okR_lst, Rf.okR_fld, Rf.okR_meth, Rf.okR_make, Rf.okR_bm, Rf.okR_isi, Rf.okS_for, Rf.okR_lc, Rf.okR_any, Rf.okS_asg, Rf.okS_setFld, Rf.okR_V, Rf.okR_chain, Rf.okR_rng1, Rf.okR_rng2, Rf.okR_neg, Rf.okR_sl, Rf.okR_noPart, Rf.okR_part, Rf.okS_sub, Rf.okS_par, Rf.okR_enum, Rf.okR_dic0, Rf.okR_dic1, Rf.okS_try, Rf.okR_get1, Rf.okR_get2, Rf.okR_keys, Rf.okS_augFld, List.getElem?_cons_zero, List.getElem?_cons_succ, List.set_cons_zero, List.set_cons_succ, if_true, if_false, Bool.false_eq_true, reduceIte, reduceCtorEq, Rf.tgOf, Rf.luk_c, Rf.f1, Rf.gV_non, Rf.gV_bl, Rf.gV_int, Rf.gV_str, Rf.gV_tup, Rf.gV_ktp, Rf.gV_rol, Rf.gV_ref, Rf.gd0, Rf.gdA, List.cons_append, List.nil_append, List.append_nil, List.take_succ_cons, List.take_zero, List.take_nil, List.drop_succ_cons, List.drop_zero, List.drop_nil, Rf.oI0, Rf.oI, Bool.not_true, Bool.not_false, z0, ne_ints2 gx g5, nn, dIx, asRd, gx, ix, nb]
      have zz := fin _ S5
      revert zz
      simp only [Rf.okR_ok, Rf.okR_ex, Rf.okS_nx, Rf.okS_rt, Rf.okS_bk, Rf.okS_ct, Rf.okS_ex, Rf.okR_bind, Rf.okS_lift, Rf.okS_seq, Rf.okS_if, Rf.okS_ret, Rf.okS_drop, Rf.okS_set, Rf.okS_next, Rf.okS_retN, Rf.okS_brk, Rf.okS_cont, Rf.okS_raise, Rf.okR_fin, Rf.okR_bin, Rf.okR_test, Rf.okR_not, Rf.okR_and, Rf.okR_or, Rf.okR_andV, Rf.okR_orV, Rf.okR_notV, Rf.okR_mif, Rf.okR_C, Rf.okR_nil, Rf.okR_yes, Rf.okR_cons, Rf.okR_call, Rf.okR_callK, Rf.okR_tup, Rf.okR_lst, Rf.okR_fld, Rf.okR_meth, Rf.okR_make, Rf.okR_bm, Rf.okR_isi, Rf.okS_for, Rf.okR_lc, Rf.okR_any, Rf.okS_asg, Rf.okS_setFld, Rf.okR_V, Rf.okR_chain, Rf.okR_rng1, Rf.okR_rng2, Rf.okR_neg, Rf.okR_sl, Rf.okR_noPart, Rf.okR_part, Rf.okS_sub, Rf.okS_par, Rf.okR_enum, Rf.okR_dic0, Rf.okR_dic1, Rf.okS_try, Rf.okR_get1, Rf.okR_get2, Rf.okR_keys, Rf.okS_augFld, List.getElem?_cons_zero, List.getElem?_cons_succ, List.set_cons_zero, List.set_cons_succ, if_true, if_false, Bool.false_eq_true, reduceIte, reduceCtorEq, Rf.tgOf, Rf.luk_c, Rf.f1, Rf.gV_non, Rf.gV_bl, Rf.gV_int, Rf.gV_str, Rf.gV_tup, Rf.gV_ktp, Rf.gV_rol, Rf.gV_ref, Rf.gd0, Rf.gdA, List.cons_append, List.nil_append, List.append_nil, List.take_succ_cons, List.take_zero, List.take_nil, List.drop_succ_cons, List.drop_zero, List.drop_nil, Rf.oI0, Rf.oI, Bool.not_true, Bool.not_false]
      exact id
  · unfold rgD at hd
    obtain ⟨k, hk, rfl⟩ := List.mem_map.mp hd
    have hk : k < (w ++ [sg]).length := by simpa using hk
    refine ⟨_, rfl, ?_, fun _ => ?_⟩
    · refine okR_is ?_
      have ll := law_lets_ok G S1.raw (w := (w ++ [sg]).drop k) (fun c hc => hw' c (List.mem_of_mem_drop hc)) (by rw [List.length_drop, lw]; omega)
      simp only [Rf.okR_ok, Rf.okR_ex, Rf.okS_nx, Rf.okS_rt, Rf.okS_bk, Rf.okS_ct, Rf.okS_ex, Rf.okR_bind, Rf.okS_lift, Rf.okS_seq, Rf.okS_if, Rf.okS_ret, Rf.okS_drop, Rf.okS_set, Rf.okS_next, Rf.okS_retN, Rf.okS_brk, Rf.okS_cont, Rf.okS_raise, Rf.okR_fin, Rf.okR_bin, Rf.okR_test, Rf.okR_not, Rf.okR_and, Rf.okR_or, Rf.okR_andV, Rf.okR_orV, Rf.okR_notV, Rf.okR_mif, Rf.okR_C, Rf.okR_nil, Rf.okR_yes, Rf.okR_cons, Rf.okR_call, Rf.okR_callK, Rf.okR_tup, Rf.okR_lst, Rf.okR_fld, Rf.okR_meth, Rf.okR_make, Rf.okR_bm, Rf.okR_isi, Rf.okS_for, Rf.okR_lc, Rf.okR_any, Rf.okS_asg, Rf.okS_setFld, Rf.okR_V, Rf.okR_chain, Rf.okR_rng1, Rf.okR_rng2, Rf.okR_neg, Rf.okR_sl, Rf.okR_noPart, Rf.okR_part, Rf.okS_sub, Rf.okS_par, Rf.okR_enum, Rf.okR_dic0, Rf.okR_dic1, Rf.okS_try, Rf.okR_get1, Rf.okR_get2, Rf.okR_keys, Rf.okS_augFld, List.getElem?_cons_zero, List.getElem?_cons_succ, List.set_cons_zero, List.set_cons_succ, if_true, if_false, Bool.false_eq_true, reduceIte, reduceCtorEq, Rf.tgOf, Rf.luk_c, Rf.f1, Rf.gV_non, Rf.gV_bl, Rf.gV_int, Rf.gV_str, Rf.gV_tup, Rf.gV_ktp, Rf.gV_rol, Rf.gV_ref, Rf.gd0, Rf.gdA, List.cons_append, List.nil_append, List.append_nil, List.take_succ_cons, List.take_zero, List.take_nil, List.drop_succ_cons, List.drop_zero, List.drop_nil, Rf.oI0, Rf.oI, Bool.not_true, Bool.not_false, dSl, zw, Int.zero_add, cut_from (w ++ [sg]) (c := k) (by omega), ll, Int.toNat_natCast]
      exact ⟨rfl, trivial⟩
    · refine okR_is ?_
      simp only [Rf.okR_ok, Rf.okR_ex, Rf.okS_nx, Rf.okS_rt, Rf.okS_bk, Rf.okS_ct, Rf.okS_ex, Rf.okR_bind, Rf.okS_lift, Rf.okS_seq, Rf.okS_if, Rf.okS_ret, Rf.okS_drop, Rf.okS_set, Rf.okS_next, Rf.okS_retN, Rf.okS_brk, Rf.okS_cont, Rf.okS_raise, Rf.okR_fin, Rf.okR_bin, Rf.okR_test, Rf.okR_not, Rf.okR_and, Rf.okR_or, Rf.okR_andV, Rf.okR_orV, Rf.okR_notV, Rf.okR_mif, Rf.okR_C, Rf.okR_nil, Rf.okR_yes, Rf.okR_cons, Rf.okR_call, Rf.okR_callK, Rf.okR_tup, Rf.okR_lst, Rf.okR_fld, Rf.okR_meth, Rf.okR_make, Rf.okR_bm, Rf.okR_isi, Rf.okS_for, Rf.okR_lc, Rf.okR_any, Rf.okS_asg, Rf.okS_setFld, Rf.okR_V, Rf.okR_chain, Rf.okR_rng1, Rf.okR_rng2, Rf.okR_neg, Rf.okR_sl, Rf.okR_noPart, Rf.okR_part, Rf.okS_sub, Rf.okS_par, Rf.okR_enum, Rf.okR_dic0, Rf.okR_dic1, Rf.okS_try, Rf.okR_get1, Rf.okR_get2, Rf.okR_keys, Rf.okS_augFld, List.getElem?_cons_zero, List.getElem?_cons_succ, List.set_cons_zero, List.set_cons_succ, if_true, if_false, Bool.false_eq_true, reduceIte, reduceCtorEq, Rf.tgOf, Rf.luk_c, Rf.f1, Rf.gV_non, Rf.gV_bl, Rf.gV_int, Rf.gV_str, Rf.gV_tup, Rf.gV_ktp, Rf.gV_rol, Rf.gV_ref, Rf.gd0, Rf.gdA, List.cons_append, List.nil_append, List.append_nil, List.take_succ_cons, List.take_zero, List.take_nil, List.drop_succ_cons, List.drop_zero, List.drop_nil, Rf.oI0, Rf.oI, Bool.not_true, Bool.not_false, and_self]
end
theorem law_true (ns : List Int) : ∃ h', m_law [.rol (ns.map D.int)] [] = .ok (.bl true) h' := by
  obtain ⟨row, hne, e0⟩ := town_ok ns
  have main : @okR _ (m_law [.rol (ns.map D.int)] []) ⟨fun d _ => d = .bl true⟩ ⟨fun _ _ => False⟩ := by
    show @okR _ (fin (b_law [some (.rol (ns.map D.int)), none, none, none, none, none, none, none, none, none, none, none, none] [])) ⟨_⟩ ⟨_⟩
    have et : m__law_town = townM := rfl
    have ep : m__law_pick = pickM := rfl
    unfold b_law s_law_0 s_law_1
    have T0 : Town [.lst [], .lst (row.map D.int), .lst [.ref 1, .int 0]] 2 1 row 0 := ⟨rfl, rfl, hne, by decide⟩
    have l0 : ([LO.lst [], .lst (row.map D.int), .lst [.ref 1, .int 0]] : LH).length = 3 := rfl
    generalize eh0 : [LO.lst [], .lst (row.map D.int), .lst [.ref 1, .int 0]] = h0 at e0 T0 l0
    obtain ⟨j, y, h1, row1, hj, e1, T1, fr1, hl1⟩ := pickN T0 [.str [97], .str [97, 98], .str [97, 98], .str [97, 98], .str [97, 98, 99], .str [120, 122]] (by decide) (by decide)
    obtain ⟨al, rfl, iA⟩ : ∃ al, y = .str al ∧ isAl al := by
      match j, hj with
      | 0, hv => cases hv; exact ⟨_, rfl, .inl rfl⟩
      | 1, hv => cases hv; exact ⟨_, rfl, .inr (.inl rfl)⟩
      | 2, hv => cases hv; exact ⟨_, rfl, .inr (.inl rfl)⟩
      | 3, hv => cases hv; exact ⟨_, rfl, .inr (.inl rfl)⟩
      | 4, hv => cases hv; exact ⟨_, rfl, .inr (.inr (.inl rfl))⟩
      | 5, hv => cases hv; exact ⟨_, rfl, .inr (.inr (.inr rfl))⟩
      | v + 6, hv => simp at hv
    have A := al_ok iA
    have a4 := A.len
    have ea : m__law_alphabet [.ref 2] h0 = .ok (.str al) h1 := by
      refine okR_is ?_
      show @okR _ (fin (b__law_alphabet [some (.ref 2)] h0)) ⟨_⟩ ⟨_⟩
      unfold b__law_alphabet
      have z0 : szOk [D.str [97], .str [97, 98], .str [97, 98], .str [97, 98], .str [97, 98, 99], .str [120, 122]].length = true := rfl
      simp only [Rf.okR_ok, Rf.okR_ex, Rf.okS_nx, Rf.okS_rt, Rf.okS_bk, Rf.okS_ct, Rf.okS_ex, Rf.okR_bind, Rf.okS_lift, Rf.okS_seq, Rf.okS_if, Rf.okS_ret, Rf.okS_drop, Rf.okS_set, Rf.okS_next, Rf.okS_retN, Rf.okS_brk, Rf.okS_cont, Rf.okS_raise, Rf.okR_fin, Rf.okR_bin, Rf.okR_test, Rf.okR_not, Rf.okR_and, Rf.okR_or, Rf.okR_andV, Rf.okR_orV, Rf.okR_notV, Rf.okR_mif, Rf.okR_C, Rf.okR_nil, Rf.okR_yes, Rf.okR_cons, Rf.okR_call, Rf.okR_callK, Rf.okR_tup, Rf.okR_lst, Rf.okR_fld, Rf.okR_meth, Rf.okR_make, Rf.okR_bm, Rf.okR_isi, Rf.okS_for, Rf.okR_lc, Rf.okR_any, Rf.okS_asg, Rf.okS_setFld, Rf.okR_V, Rf.okR_chain, Rf.okR_rng1, Rf.okR_rng2, Rf.okR_neg, Rf.okR_sl, Rf.okR_noPart, Rf.okR_part, Rf.okS_sub, Rf.okS_par, Rf.okR_enum, Rf.okR_dic0, Rf.okR_dic1, Rf.okS_try, List.getElem?_cons_zero, List.getElem?_cons_succ, List.set_cons_zero, List.set_cons_succ, if_true, if_false, Bool.false_eq_true, reduceIte, reduceCtorEq, Rf.tgOf, Rf.luk_c, Rf.f1, Rf.gV_non, Rf.gV_bl, Rf.gV_int, Rf.gV_str, Rf.gV_tup, Rf.gV_ktp, Rf.gV_rol, Rf.gV_ref, Rf.gd0, Rf.gdA, List.cons_append, List.nil_append, List.append_nil, List.take_succ_cons, List.take_zero, List.take_nil, List.drop_succ_cons, List.drop_zero, List.drop_nil, Rf.oI0, Rf.oI, Bool.not_true, Bool.not_false, z0, ep, e1, and_self]
    obtain ⟨rows, f, st, p, q, h2, row2, c2, G, rl, e2, R2, lp, lq, npq, T2, fr2⟩ := raw_ok (al := al) (most := 5) T1 a4 (by decide) (by decide)
    have e2 : m__law_raw [.ref 2, .str al, .int 5] h1 = .ok (rawD al p f q) h2 := e2
    obtain ⟨h3, m, r, s, e3, M3, fr3, lm, lr, ls⟩ := build_ok A G R2
    have l1 := fr1.len
    have l2 := fr2.len
    obtain ⟨h4, c4, a4', e4, F4, fr4, lc4, la4⟩ := finder_ok (fn := h3.length) (h := h3 ++ [.ins 19 []]) (M3.fr (S := []) .app (by simp) (by simp) (by simp)) app_at
    have l3 := fr3.len
    have lm3 := at_lt M3.obj
    have lr3 := at_lt M3.rws
    have ls3 := at_lt M3.stp
    have fr34 : Fr [] h3 h4 := (Fr.trans (S := [h3.length]) .app fr4).cut (Nat.le_refl _)
    have R4 := (R2.fr fr3 (by simp) (by simp)).fr fr34 (by simp) (by simp)
    have M4 := M3.fr fr34 (by simp) (by simp) (by simp)
    have T4 := (T2.fr fr3 (by simp) (by simp)).fr fr34 (by simp) (by simp)
    obtain ⟨h5, m5, r5, s5, e5, M5, fr5, lm5, lr5, ls5⟩ := build_ok A G R4
    obtain ⟨h6, c6, a6, e6, F6, fr6, lc6, la6⟩ := finder_ok (fn := h5.length) (h := h5 ++ [.ins 19 []]) (M5.fr (S := []) .app (by simp) (by simp) (by simp)) app_at
    have l4 := fr34.len
    have l5 := fr5.len
    have lf4 := at_lt F4.obj
    have lc4' := at_lt F4.cs
    have la4'' := at_lt F4.fs
    have fr56 : Fr [] h5 h6 := (Fr.trans (S := [h5.length]) .app fr6).cut (Nat.le_refl _)
    simp only [List.length_append, List.length_cons, List.length_nil] at lc4 la4 lc6 la6
    have S6 : St h6 al rows f st p q m r s h3.length c4 a4' m5 r5 s5 h5.length c6 a6 [] [] 0 0 :=
      ⟨⟨_, _, (T4.fr fr5 (by simp) (by simp)).fr fr56 (by simp) (by simp)⟩, (R4.fr fr5 (by simp) (by simp)).fr fr56 (by simp) (by simp), (M4.fr fr5 (by simp) (by simp) (by simp)).fr fr56 (by simp) (by simp) (by simp), M5.fr fr56 (by simp) (by simp) (by simp),
        ⟨[], [], (F4.fr fr5 (by simp) (by simp) (by simp)).fr fr56 (by simp) (by simp) (by simp), FI.nil⟩, ⟨[], [], F6, FI.nil⟩, by omega, by omega⟩
    unfold s_law_2 s_law_3 s_law_4 s_law_5 s_law_6 s_law_7
    simp only [Rf.okR_ok, Rf.okR_ex, Rf.okS_nx, Rf.okS_rt, Rf.okS_bk, Rf.okS_ct, Rf.okS_ex, Rf.okR_bind, Rf.okS_lift, Rf.okS_seq, Rf.okS_if, Rf.okS_ret, Rf.okS_drop, Rf.okS_set, Rf.okS_next, Rf.okS_retN, Rf.okS_brk, Rf.okS_cont, Rf.okS_raise, Rf.okR_fin, Rf.okR_bin, Rf.okR_test, Rf.okR_not, Rf.okR_and, Rf.okR_or, Rf.okR_andV, Rf.okR_orV, Rf.okR_notV, Rf.okR_mif, Rf.okR_C, Rf.okR_nil, Rf.okR_yes, Rf.okR_cons, Rf.okR_call, Rf.okR_callK, Rf.okR_tup, Rf.okR_lst, Rf.okR_fld, Rf.okR_meth, Rf.okR_make, Rf.okR_bm, Rf.okR_isi, Rf.okS_for, Rf.okR_lc, Rf.okR_any, Rf.okS_asg, Rf.okS_setFld, Rf.okR_V, Rf.okR_chain, Rf.okR_rng1, Rf.okR_rng2, Rf.okR_neg, Rf.okR_sl, Rf.okR_noPart, Rf.okR_part, Rf.okS_sub, Rf.okS_par, Rf.okR_enum, Rf.okR_dic0, Rf.okR_dic1, Rf.okS_try, Rf.okR_get1, Rf.okR_get2, Rf.okR_keys, Rf.okS_augFld, List.getElem?_cons_zero, List.getElem?_cons_succ, List.set_cons_zero, List.set_cons_succ, if_true, if_false, Bool.false_eq_true, reduceIte, reduceCtorEq, Rf.tgOf, Rf.luk_c, Rf.f1, Rf.gV_non, Rf.gV_bl, Rf.gV_int, Rf.gV_str, Rf.gV_tup, Rf.gV_ktp, Rf.gV_rol, Rf.gV_ref, Rf.gd0, Rf.gdA, List.cons_append, List.nil_append, List.append_nil, List.take_succ_cons, List.take_zero, List.take_nil, List.drop_succ_cons, List.drop_zero, List.drop_nil, Rf.oI0, Rf.oI, Bool.not_true, Bool.not_false, et, e0, ea, e2, e3, e4, e5, e6]
    obtain ⟨kC, kA, FA, IA⟩ := S6.fA
    obtain ⟨h7, e7, f7⟩ := longest_ok G S6.mA FA (fun k hk => begs_lt G (w := []) (by simp) k (IA.keyA k hk)) (Nat.lt_of_le_of_lt IA.la (by simp))
    rw [IA.low (st := st)] at e7
    have e7 : m_Finder_longest [.ref h3.length] h6 = .ok .non h7 := e7
    have S7 := S6.any f7
    obtain ⟨jC, jA, FB, IB⟩ := S7.fA
    have n1 : dNotN .non .non h7 = .ok (.bl false) h7 := rfl
    have n2 : dNe (.int ((0 : Nat) : Int)) (.int 0) h7 = .ok (.bl false) h7 := rfl
    have n3 : dNe (.int (([] : List Nat).length : Int)) (.int 0) h7 = .ok (.bl false) h7 := rfl
    simp only [Rf.okR_ok, Rf.okR_ex, Rf.okS_nx, Rf.okS_rt, Rf.okS_bk, Rf.okS_ct, Rf.okS_ex, Rf.okR_bind, Rf.okS_lift, Rf.okS_seq, Rf.okS_if, Rf.okS_ret, Rf.okS_drop, Rf.okS_set, Rf.okS_next, Rf.okS_retN, Rf.okS_brk, Rf.okS_cont, Rf.okS_raise, Rf.okR_fin, Rf.okR_bin, Rf.okR_test, Rf.okR_not, Rf.okR_and, Rf.okR_or, Rf.okR_andV, Rf.okR_orV, Rf.okR_notV, Rf.okR_mif, Rf.okR_C, Rf.okR_nil, Rf.okR_yes, Rf.okR_cons, Rf.okR_call, Rf.okR_callK, Rf.okR_tup, Rf.okR_lst, Rf.okR_fld, Rf.okR_meth, Rf.okR_make, Rf.okR_bm, Rf.okR_isi, Rf.okS_for, Rf.okR_lc, Rf.okR_any, Rf.okS_asg, Rf.okS_setFld, Rf.okR_V, Rf.okR_chain, Rf.okR_rng1, Rf.okR_rng2, Rf.okR_neg, Rf.okR_sl, Rf.okR_noPart, Rf.okR_part, Rf.okS_sub, Rf.okS_par, Rf.okR_enum, Rf.okR_dic0, Rf.okR_dic1, Rf.okS_try, Rf.okR_get1, Rf.okR_get2, Rf.okR_keys, Rf.okS_augFld, List.getElem?_cons_zero, List.getElem?_cons_succ, List.set_cons_zero, List.set_cons_succ, if_true, if_false, Bool.false_eq_true, reduceIte, reduceCtorEq, Rf.tgOf, Rf.luk_c, Rf.f1, Rf.gV_non, Rf.gV_bl, Rf.gV_int, Rf.gV_str, Rf.gV_tup, Rf.gV_ktp, Rf.gV_rol, Rf.gV_ref, Rf.gd0, Rf.gdA, List.cons_append, List.nil_append, List.append_nil, List.take_succ_cons, List.take_zero, List.take_nil, List.drop_succ_cons, List.drop_zero, List.drop_nil, Rf.oI0, Rf.oI, Bool.not_true, Bool.not_false, FA.ins, e7, n1, FB.ins, found_ok FB, n2, came_ok FB, n3]
    unfold s_law_8
    have r14 : ∀ h : LH, rngK [.int 14] h = .ok (liRange 0 14) h := fun h => rngK_nat (n := 14) (by decide)
    simp only [Rf.okR_ok, Rf.okR_ex, Rf.okS_nx, Rf.okS_rt, Rf.okS_bk, Rf.okS_ct, Rf.okS_ex, Rf.okR_bind, Rf.okS_lift, Rf.okS_seq, Rf.okS_if, Rf.okS_ret, Rf.okS_drop, Rf.okS_set, Rf.okS_next, Rf.okS_retN, Rf.okS_brk, Rf.okS_cont, Rf.okS_raise, Rf.okR_fin, Rf.okR_bin, Rf.okR_test, Rf.okR_not, Rf.okR_and, Rf.okR_or, Rf.okR_andV, Rf.okR_orV, Rf.okR_notV, Rf.okR_mif, Rf.okR_C, Rf.okR_nil, Rf.okR_yes, Rf.okR_cons, Rf.okR_call, Rf.okR_callK, Rf.okR_tup, Rf.okR_lst, Rf.okR_fld, Rf.okR_meth, Rf.okR_make, Rf.okR_bm, Rf.okR_isi, Rf.okS_for, Rf.okR_lc, Rf.okR_any, Rf.okS_asg, Rf.okS_setFld, Rf.okR_V, Rf.okR_chain, Rf.okR_rng1, Rf.okR_rng2, Rf.okR_neg, Rf.okR_sl, Rf.okR_noPart, Rf.okR_part, Rf.okS_sub, Rf.okS_par, Rf.okR_enum, Rf.okR_dic0, Rf.okR_dic1, Rf.okS_try, Rf.okR_get1, Rf.okR_get2, Rf.okR_keys, Rf.okS_augFld, List.getElem?_cons_zero, List.getElem?_cons_succ, List.set_cons_zero, List.set_cons_succ, if_true, if_false, Bool.false_eq_true, reduceIte, reduceCtorEq, Rf.tgOf, Rf.luk_c, Rf.f1, Rf.gV_non, Rf.gV_bl, Rf.gV_int, Rf.gV_str, Rf.gV_tup, Rf.gV_ktp, Rf.gV_rol, Rf.gV_ref, Rf.gd0, Rf.gdA, List.cons_append, List.nil_append, List.append_nil, List.take_succ_cons, List.take_zero, List.take_nil, List.drop_succ_cons, List.drop_zero, List.drop_nil, Rf.oI0, Rf.oI, Bool.not_true, Bool.not_false, r14]
    refine ok_for (rgD 0 14) (fun i ls h' => ∃ (c a c2 a2 : Nat) (w w2 : List Nat) (tot tot2 : Nat) (t : List (Option D)), w.length = i ∧ (∀ x ∈ w, x ∈ al) ∧ (∀ x ∈ w2, x ∈ al) ∧ w2.length ≤ w.length ∧ t.length = 5 ∧ St h' al rows f st p q m r s h3.length c a m5 r5 s5 h5.length c2 a2 w w2 tot tot2 ∧ ls = lsW (.rol (ns.map D.int)) al p f q h3.length h5.length w tot t)
      ⟨_, _, _, _, [], [], 0, 0, [none, none, none, none, none], rfl, by simp, by simp, by simp, rfl, S7, rfl⟩ (by rw [rgD_len]; decide) (fun i ls h' _ => itm_range) (fun i dd ls h' hd pq => ?_) (fun ls h' pq => ?_)
    · obtain ⟨c, a, c2, a2, w, w2, tot, tot2, t, wl, hw, hw2, wl2, tl, S, rfl⟩ := pq
      have hi : i < 14 := by
        have := (List.getElem?_eq_some_iff.mp hd).1
        rwa [rgD_len] at this
      match t, tl with
      | [b8, b9, b10, b11, b12], _ =>
        refine ⟨_, rfl, ?_⟩
        refine body_ok A G (b8 := some dd) (b9 := b9) (b10 := b10) (b11 := b11) (b12 := b12) S hw hw2 (by omega) wl2 fun t h' c a c2 a2 sg w2' tot2' tl hs hw2' hl2 S' => ?_
        exact ⟨c, a, c2, a2, w ++ [sg], w2', _, tot2', t, by simp [wl], fun x hx => by
          rcases List.mem_append.mp hx with z | z
          · exact hw x z
          · have : x = sg := by simpa using z
            rw [this]; exact hs, hw2', by simp; omega, tl, S', rfl⟩
    · obtain ⟨c, a, c2, a2, w, w2, tot, tot2, t, wl, hw, hw2, wl2, tl, S, rfl⟩ := pq
      rw [rgD_len] at wl
      obtain ⟨jC, jA, J2, JI⟩ := S.fB
      have zw : szOk w.length = true := Nat.ble_eq_true_of_le (by omega)
      have le : decide ((w2.length : Int) ≤ (w.length : Int)) = true := decide_eq_true (by omega)
      unfold s_law_9 lsW
      simp only [Rf.okR_ok, Rf.okR_ex, Rf.okS_nx, Rf.okS_rt, Rf.okS_bk, Rf.okS_ct, Rf.okS_ex, Rf.okR_bind, Rf.okS_lift, Rf.okS_seq, Rf.okS_if, Rf.okS_ret, Rf.okS_drop, Rf.okS_set, Rf.okS_next, Rf.okS_retN, Rf.okS_brk, Rf.okS_cont, Rf.okS_raise, Rf.okR_fin, Rf.okR_bin, Rf.okR_test, Rf.okR_not, Rf.okR_and, Rf.okR_or, Rf.okR_andV, Rf.okR_orV, Rf.okR_notV, Rf.okR_mif, Rf.okR_C, Rf.okR_nil, Rf.okR_yes, Rf.okR_cons, Rf.okR_call, Rf.okR_callK, Rf.okR_tup, Rf.okR_lst, Rf.okR_fld, Rf.okR_meth, Rf.okR_make, Rf.okR_bm, Rf.okR_isi, Rf.okS_for, Rf.okR_lc, Rf.okR_any, Rf.okS_asg, Rf.okS_setFld, Rf.okR_V, Rf.okR_chain, Rf.okR_rng1, Rf.okR_rng2, Rf.okR_neg, Rf.okR_sl, Rf.okR_noPart, Rf.okR_part, Rf.okS_sub, Rf.okS_par, Rf.okR_enum, Rf.okR_dic0, Rf.okR_dic1, Rf.okS_try, Rf.okR_get1, Rf.okR_get2, Rf.okR_keys, Rf.okS_augFld, List.getElem?_cons_zero, List.getElem?_cons_succ, List.set_cons_zero, List.set_cons_succ, if_true, if_false, Bool.false_eq_true, reduceIte, reduceCtorEq, Rf.tgOf, Rf.luk_c, Rf.f1, Rf.gV_non, Rf.gV_bl, Rf.gV_int, Rf.gV_str, Rf.gV_tup, Rf.gV_ktp, Rf.gV_rol, Rf.gV_ref, Rf.gd0, Rf.gdA, List.cons_append, List.nil_append, List.append_nil, List.take_succ_cons, List.take_zero, List.take_nil, List.drop_succ_cons, List.drop_zero, List.drop_nil, Rf.oI0, Rf.oI, Bool.not_true, Bool.not_false, J2.ins, came_ok J2, dLen, zw, le]
  obtain ⟨d, h', e, rfl⟩ := okR_eq main
  exact ⟨h', e⟩
end Lw
set_option Elab.async false
set_option linter.all false
set_option maxRecDepth 100000
set_option maxHeartbeats 0
namespace Lw
open PySem PySem.Spec PyProof.Rows L2 Rf
abbrev Rr : PySem.W.OpenRow := PySem.W.OpenLaw.row PySem.Challenge.rw_signworks_k40_whole_finder
def tf : List He.Defn := []
abbrev hk : PySem.W.Hook := hookT 5 fx fa fn tf
def ob (s : PySem.W.SharedT) : AlX := obsT 5 fx fa fn tf (HandSHeadRun.getT s)
theorem ob_eq (s : PySem.W.SharedT) : ob s = hk.obs s.abs := obsT_eq (HandSHeadRun.getT_eq s)
def names : List PySem.Str := ([PySem.Str.ofString "_wall", PySem.Str.ofString "SignError", PySem.Str.ofString "BadSigns", PySem.Str.ofString "BadWord", PySem.Str.ofString "BadMachine", PySem.Str.ofString "is_whole", PySem.Str.ofString "LETTERS", PySem.Str.ofString "MOST_SIGNS", PySem.Str.ofString "MOST_LONG", PySem.Str.ofString "is_signs", PySem.Str.ofString "look_signs", PySem.Str.ofString "word_of", PySem.Str.ofString "look_word", PySem.Str.ofString "MOST_ROOMS", PySem.Str.ofString "Machine", PySem.Str.ofString "look_machine", PySem.Str.ofString "Finder", PySem.Str.ofString "_law_town", PySem.Str.ofString "_law_draw", PySem.Str.ofString "_law_pick"] : List PySem.Str) ++ ([PySem.Str.ofString "_law_whole", PySem.Str.ofString "_law_alphabet", PySem.Str.ofString "_law_raw", PySem.Str.ofString "_law_build", PySem.Str.ofString "_law_room", PySem.Str.ofString "_law_lets"] : List PySem.Str)
theorem run (w : World) : HandSHeadRun.RunEq Rr (PySem.W.view Rr.prog [31]) hk ob 20000 names w := by
  intro os
  kernel_rfl
theorem facts {P : Program} {w : World} {K : PySem.W.Frag} {h : Heap} {mg : Str → Option Value} {f : Addr} (X : K.In h) (G : h.Ns mainGlobals mg) (hfa : mg ("law" : Str) = some (.ref f)) (S : SaysT fx fa fn tf h K) :
    ∃ fd : FuncData, (∀ (s : Shared) (v : Value), BindsTo s fd ⟨[v], []⟩ [("script", v)]) ∧ ∀ base : Heap, (∀ p ∈ tf.map (He.cT K), LamX.TabB base mg p.1 p.2) → FnRef P w K mg base 6 f fd ["script"] m_law := by
  obtain ⟨fd, F⟩ := S.c.def_ 20 (d := d_law) rfl
  have F : FunD K (Str.ofString "law") (Str.ofString "law") (defArgs st_law) (defBody st_law) (defScope st_law) [] [] (He.ga K (Str.ofString "law")) fd := F
  have b := FunD.bindsA (ps := ["script"]) F fun _ _ _ _ _ _ us hl => match us, hl with | [_], _ => rfl
  refine ⟨fd, fun s v => b s [v] rfl, fun base TB => ?_⟩
  have hh : Fc fx fa fn K mg base := fc_of S X G TB
  have ef := hfa.symm.trans (hh.glo 53)
  cases ef
  exact fr_law (P := P) (w := w) (base := base) hh F
end Lw
open PySem PySem.W PySem.Calls PyProof.Rows
theorem PySem.Challenge.cw_signworks_k40_whole_finder_holds : PySem.Challenge.rw_signworks_k40_whole_finder.Holds := by
  w_on; o_law
  refine HandSHeadRun.head_any (r := OpenLaw.row PySem.Challenge.rw_signworks_k40_whole_finder) (q := view (OpenLaw.row PySem.Challenge.rw_signworks_k40_whole_finder).prog [31]) (H := Lw.hk) (ob := Lw.ob) (M := 20000) (loose := Lw.names) (d := HandSHeadRun.topDef (OpenLaw.row PySem.Challenge.rw_signworks_k40_whole_finder).prog 31) (kwd := []) Lw.ob_eq
    (by kernel_rfl) (fun s => by kernel_rfl) Lw.run (by kernel_rfl) (by kernel_rfl) (by kernel_rfl) (by rfl) (by first | assumption | decide +kernel) (by decide +kernel) ⟨rfl, rfl, rfl, rfl, rfl, by decide +kernel⟩ ?hw ?hc
  case hw => w_witness2
  case hc =>
    refine LamX.walk_ofTsE (l := PySem.Challenge.rw_signworks_k40_whole_finder) (n := 63) (k := 6) (x := "script") (CX := fun _ => Rf.CXn) rfl (by decide) (by kernel_rfl) ⟨rfl, by decide, by decide⟩ ?F (fun _ _ _ _ _ z => z)
    intro w mg fa h Y G hmg0
    obtain ⟨K, KX, S⟩ := Y
    have hmg : mg ("law" : PySem.Str) = some (.ref fa) := by
      have e : (HandSHeadRun.topDef (OpenLaw.row PySem.Challenge.rw_signworks_k40_whole_finder).prog 31).name = ("law" : PySem.Str) := by kernel_rfl
      rw [← e]
      exact hmg0
    obtain ⟨fd, hb, hF⟩ := Lw.facts (P := (PySem.Challenge.rw_signworks_k40_whole_finder).prog) (w := w) KX G hmg S
    exact ⟨K, KX, Rf.law_at KX S hb hF Lw.law_true⟩
