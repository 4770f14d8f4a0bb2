import PyProof.Rows.All
import Wide.All
import OpenK.AllK
import Wide.FinOn
import KE.KStateDown
import Lean
import HandS.Base
import HandS.Call
import HandS.List
import HandS.Comp
import HandS.Ends
import HandS.Dict
import HandS.Iter
import HandS.Text
import HandS.More
import HandS.Exc
import HandS.ExcOwn
import HandS.TryOnly
import HandS.CallSlots
import HandS.IsInst
import HandS.Words
import HandS.WordsList
import HandS.WordsDict
import HandS.WordsExc
import HandS.Defaults
import HandS.Flow
import HandS.HeadHook1
import HandS.HeadHook2
import HandS.Conv
import HandS.Wide
import HandS.Lambda
import HandS.Nested
import HandS.ExcIs
import HandS.Set
import HandS.SetFor
import HandS.SortOrd
import PyProof.Rows.SortShellAny
import HandS.TupAny
import HandS.TupMul
import HandS.Style
import HandS.Deep
import HandS.Replace
import HandS.ExcBuiltin
import HandS.Codes
import HandS.Strs
import PyProof.Draws
import KE.GoesMore
import HandS.TupLe
import HandS.DictComp
import HandS.SortInts
import HandS.HeadHook4
import HandS.HeadWalk
import HandS.TupSets
import PyProof.Rows.TupDisplay
import KE.KEqDict
import PyProof.ListStr
import HandS.SetBool
import HandS.TupLen
import PyProof.DictUpdate
import PyProof.FactsAll.dict_1
import KE.DataMinMax
import KE.SortData
import HandS.SetKeys
import PyProof.DictMoreH
import KE.KEqNest
import HandS.Head0
import HandS.Head1
import HandS.Head2
import HandS.HeadEnd
import PySem.Challenge.RW_signworks_k03_whole_fits
set_option Elab.async false
set_option linter.all false
set_option maxRecDepth 100000
set_option maxHeartbeats 4000000
set_option autoImplicit false
namespace Rf
open PySem PySem.Spec PyProof.Rows L2
inductive D where
  | non | bl (b : Bool) | int (i : Int) | str (l : List Nat) | tup (xs : List D) | rol (xs : List D) | ref (n : Nat)
  | ktp (xs : List D) | fn (id : Nat) (caps : List D)
abbrev Ls := List (Option D)
inductive LO where
  | lst (xs : List D) | dic (t : Bool) (kvs : List (D × D)) | ins (c : Nat) (fs : List (Nat × D)) | exc (c : Nat) (fs : List (Nat × D))
  | dlk (t : Bool) (kvs : List (D × D))
abbrev LH := List LO
structure Exn where
  cls : Nat
  fs : List (Nat × D)
inductive R (α : Type) where
  | ok (a : α) (h : LH) | ex (x : Exn) (h : LH) | bad
inductive SR where
  | nx (ls : Ls) (h : LH) | rt (d : D) (h : LH) | bk (ls : Ls) (h : LH) | ct (ls : Ls) (h : LH) | ex (x : Exn) (ls : Ls) (h : LH) | bad
abbrev EM := Ls → LH → R D
abbrev AM := Ls → LH → R (List D)
abbrev TM := Ls → LH → R Bool
abbrev SM := Ls → LH → SR
abbrev FM := List D → LH → R D
def nmL : List String := ["SignError", "BadNumber", "BadSigns", "BadWord", "BadForm", "BadMachine", "BadTurner", "BadSample", "BadCode", "BadText", "Full", "NoWord", "NoCut", "Machine", "Loose", "Turner", "Teacher", "Table", "Merger", "Finder", "Cutter", "Reader",
  "place", "signs", "rows", "first", "stops", "many", "goals", "starts", "outs", "lasts", "machine", "words", "guesses", "teacher", "heads", "tails", "said", "marks", "boss", "counts", "first_at", "came", "found", "kinds", "rest", "cut", "text", "spot"]
def nm (i : Nat) : Str := match nmL[i]? with
  | some x => Str.ofString x
  | none => ⟨#[i]⟩
def clsA (K : PySem.W.Frag) (c : Nat) : Addr := He.ga K (nm c)
def SqF (K : PySem.W.Frag) (H : Hp) (a : Addr) (xs : List V) : Prop :=
  (∃ o, H a = some (.frz o (.lst xs))) ∨
    ∃ (o : Obj) (its : Array Value) (n : Nat), K.lookup a = some o ∧ o.cls = .type "list" ∧ o.dict = none ∧ o.data = .seq its n ∧ its.size ≤ sizeLine ∧ Vals xs its.toList
theorem SqF.sq {K : PySem.W.Frag} {H : Hp} {a : Addr} {xs : List V} (h : SqF K H a xs) : SqL K H a xs := by
  rcases h with ⟨o, h⟩ | h
  · exact .inl (.inr ⟨o, h⟩)
  · exact .inr h
def kc : List D → Bool
  | [.str l] => decide (l = [110, 111, 110, 101]) || decide (l = [101, 109, 112, 116, 121])
  | [.str a, .str b] => decide (b = [110, 111, 116]) || (decide (b = [124]) || (decide (b = [46]) || decide (b = [38])))
  | [.str a, .str b, .str c] => decide (b = [116, 104, 101, 110])
  | [.str a, .str b, .str c, .str d] => decide (d = [117, 110, 108, 105, 107, 101])
  | [.tup _, .tup _, .tup _] => true
  | _ => false
def KTp (K : PySem.W.Frag) (a : Addr) (xs : List V) : Prop := ∃ (o : Obj) (its : Array Value) (n : Nat), K.lookup a = some o ∧ o.cls = .type "tuple" ∧ o.data = .seq its n ∧ its.size ≤ sizeLine ∧ Vals xs its.toList
def TpA (K : PySem.W.Frag) (H : Hp) (a : Addr) (ds : List D) (xs : List V) : Prop := H a = some (.tup xs) ∨ (kc ds = true ∧ KTp K a xs)
theorem TpA.sq {K : PySem.W.Frag} {H : Hp} {a : Addr} {ds : List D} {xs : List V} (h : TpA K H a ds xs) : SqT K H a xs := by
  rcases h with h | ⟨_, h⟩
  · exact .inl (.inl h)
  · exact .inr h
theorem KTp.sq {K : PySem.W.Frag} {H : Hp} {a : Addr} {xs : List V} (h : KTp K a xs) : SqT K H a xs := .inr h
mutual
inductive RelD (K : PySem.W.Frag) (mp : List Addr) (H : Hp) : D → V → Prop
  | non : RelD K mp H .non .non
  | bl (b : Bool) : RelD K mp H (.bl b) (.bl b)
  | int (i : Int) : RelD K mp H (.int i) (.int i)
  | str (l : List Nat) : RelD K mp H (.str l) (.str ⟨l.toArray⟩)
  | tup {ds : List D} {a : Addr} {vs : List V} : TpA K H a ds vs → RelDs K mp H ds vs → RelD K mp H (.tup ds) (.ref a)
  | ktp {ds : List D} {a : Addr} {vs : List V} : KTp K a vs → RelDs K mp H ds vs → RelD K mp H (.ktp ds) (.ref a)
  | rol {ds : List D} {a : Addr} {vs : List V} : SqF K H a vs → RelDs K mp H ds vs → RelD K mp H (.rol ds) (.ref a)
  | ref {n : Nat} {a : Addr} : mp[n]? = some a → RelD K mp H (.ref n) (.ref a)
inductive RelDs (K : PySem.W.Frag) (mp : List Addr) (H : Hp) : List D → List V → Prop
  | nil : RelDs K mp H [] []
  | cons {d : D} {v : V} {ds : List D} {vs : List V} : RelD K mp H d v → RelDs K mp H ds vs → RelDs K mp H (d :: ds) (v :: vs)
end
def ExcO (a : Addr) (cls : Value) (d : Option Addr) : HO := .ext fun h => ∃ o vs, h.get? a = some o ∧ Zc cls d o ∧ o.data = .fields vs
def KeyR : D → Key → Prop
  | .int i, .inl j => i = j
  | .str l, .inr x => x = ⟨l.toArray⟩
  | _, _ => False
def KeyT : D → List Key → Prop
  | .tup ds, ks => Paired KeyR ds ks
  | _, _ => False
def RelX (K : PySem.W.Frag) (mp : List Addr) (H : Hp) (x : Exn) (c : Value) (d : Option Addr) : Prop :=
  c = .ref (clsA K x.cls) ∧ ((x.fs = [] ∧ d = none) ∨ ∃ dd fs, x.fs ≠ [] ∧ d = some dd ∧ H dd = some (.xd fs) ∧ dd ∉ mp ∧ Paired (fun (p : Nat × D) (q : Str × V) => q.1 = nm p.1 ∧ RelD K mp H p.2 q.2) x.fs fs)
def RelO (K : PySem.W.Frag) (mp : List Addr) (H : Hp) : LO → Addr → Prop
  | .lst ds, a => ∃ vs, H a = some (.lst vs) ∧ RelDs K mp H ds vs
  | .dic false kvs, a => ∃ ks, H a = some (.dK ks) ∧ Paired (fun (p : D × D) (q : Key × V) => KeyR p.1 q.1 ∧ RelD K mp H p.2 q.2) kvs ks
  | .dic true kvs, a => ∃ ks, H a = some (.dT ks) ∧ Paired (fun (p : D × D) (q : List Key × V) => KeyT p.1 q.1 ∧ RelD K mp H p.2 q.2) kvs ks
  | .ins c fs, a => ∃ dx gs, H a = some (.ins (clsA K c) dx gs) ∧ Paired (fun (p : Nat × D) (q : Str × V) => q.1 = nm p.1 ∧ RelD K mp H p.2 q.2) fs gs
  | .dlk false kvs, a => ∃ o ks, H a = some (.frz o (.dK ks)) ∧ Paired (fun (p : D × D) (q : Key × V) => KeyR p.1 q.1 ∧ RelD K mp H p.2 q.2) kvs ks
  | .dlk true kvs, a => ∃ o ks, H a = some (.frz o (.dT ks)) ∧ Paired (fun (p : D × D) (q : List Key × V) => KeyT p.1 q.1 ∧ RelD K mp H p.2 q.2) kvs ks
  | .exc c fs, a => ∃ d, H a = some (ExcO a (.ref (clsA K c)) d) ∧ RelX K mp H ⟨c, fs⟩ (.ref (clsA K c)) d
def fnBd : FuncBody → List Stmt
  | .stmts b => b
  | _ => []
def ndL : List String := ["tidied", "least", "paired", "only", "settled", "stopping", "led_back", "settled_with_jumps"]
def isDef : Stmt → Bool
  | .FunctionDef .. => true
  | _ => false
def fdOf (K : PySem.W.Frag) (x : String) : Option FuncData := match K.lookup (He.ga K (Str.ofString x)) with
  | some ⟨_, _, .func fd, _⟩ => some fd
  | _ => none
def ndSt (K : PySem.W.Frag) (id : Nat) : Option Stmt := match ndL[id / 2]? with
  | some x => (match fdOf K x with
    | some fd => ((fnBd fd.body).filter isDef)[id % 2]?
    | none => none)
  | none => none
def stAt (line col : Nat) : Stmt → Bool
  | .FunctionDef _ _ _ _ _ _ _ _ _ pos => pos.line == line && pos.col == col
  | _ => false
def stNm : Stmt → Str
  | .FunctionDef x _ _ _ _ _ _ _ _ _ => x
  | _ => Str.empty
def tabA (K : PySem.W.Frag) (fd : FuncData) : Option Addr := match fd.code with
  | .ref c => (match K.lookup c with
    | some ⟨_, _, .fields vs, _⟩ => (match vs.getD 11 .none with
      | .ref P => some P
      | _ => none)
    | _ => none)
  | _ => none
def tabsOf (K : PySem.W.Frag) : List NdefX.NTab := ndL.filterMap fun x => match fdOf K x with
  | some fd => (tabA K fd).map fun P => (P, fun line col => match (fnBd fd.body).find? (stAt line col) with
    | some st => (fd.qualname ++ ".<locals>." : Str) ++ stNm st
    | none => Str.empty)
  | none => none
structure TabOk (K : PySem.W.Frag) (mp : List Addr) (H : Hp) : Prop where
  all : ∀ p ∈ tabsOf K, ∃ ps : Array Value, H p.1 = some (.tbl ps) ∧ TriplesOk ps.toList ∧ ∀ (pos : Pos) (cv : Value), codeAmong pos ps.toList = some cv → ∃ c, cv = .ref c ∧ H c = some (LamX.CodeO c (p.2 pos.line pos.col)) ∧ c ∉ mp
structure Rep (K : PySem.W.Frag) (mp : List Addr) (lh : LH) (H : Hp) : Prop where
  len : mp.length = lh.length
  nd : mp.Nodup
  obj : ∀ (n : Nat) o a, lh[n]? = some o → mp[n]? = some a → RelO K mp H o a
  tab : TabOk K mp H
structure Ext (K : PySem.W.Frag) (mp : List Addr) (H : Hp) (mp' : List Addr) (H' : Hp) : Prop where
  pre : ∃ more, mp' = mp ++ more
  frame : ∀ a o, H a = some o → a ∉ mp → (∀ ps, o ≠ .tbl ps) → H' a = some o
  new : ∀ a, a ∈ mp' → a ∉ mp → H a = none
  tup : ∀ a vs, H a = some (.tup vs) → H' a = some (.tup vs)
  frz : ∀ a o u, H a = some (.frz o u) → H' a = some (.frz o u)
  tbl : ∀ a ps, H a = some (.tbl ps) → a ∉ mp → ∃ u, H' a = some u
def CellO (c : Addr) (o : Obj) : HO := .ext fun h => h.get? c = some o
def freesOf (st : Stmt) : List Str := ((C8.fnScope st).names.filter fun y => decide (y.2 = .free)).map (·.1)
structure CellsH (cl : List (Str × Addr)) (fr : List Str) (vs : List V) (mp : List Addr) (H : Hp) : Prop where
  len : vs.length = fr.length
  all : ∀ y c, cl.lookup y = some c → y ∈ fr
  inj : ∀ x y c, cl.lookup x = some c → cl.lookup y = some c → x = y
  has : ∀ (i : Nat) (y : Str), fr[i]? = some y → ∃ c o u v, cl.lookup y = some c ∧ H c = some (CellO c o) ∧ c ∉ mp ∧ o.data = .cell (some u) ∧ vs[i]? = some v ∧ L2.RelV v u
def CloA (K : PySem.W.Frag) (mp : List Addr) (H : Hp) (id : Nat) (a : Addr) (vs : List V) : Prop := ∃ (st : Stmt) (name qual : Str) (cl : List (Str × Addr)) (c : Addr), ndSt K id = some st ∧ H a = some (NdefX.FnO a (NdefX.NF.of st name qual cl c)) ∧ a ∉ mp ∧ H c = some (LamX.CodeO c qual) ∧ c ∉ mp ∧ CellsH cl (freesOf st) vs mp H
def RelF (K : PySem.W.Frag) (mp : List Addr) (H : Hp) (d : D) (v : V) : Prop := match d with
  | .fn id caps => ∃ a vs, v = .ref a ∧ CloA K mp H id a vs ∧ RelDs K mp H caps vs
  | d => RelD K mp H d v
def isFn : D → Bool
  | .fn _ _ => true
  | _ => false
theorem RelD.f {K : PySem.W.Frag} {mp : List Addr} {H : Hp} {d : D} {v : V} (h : RelD K mp H d v) : RelF K mp H d v := by
  cases h with
  | non => exact .non
  | bl b => exact .bl b
  | int i => exact .int i
  | str l => exact .str l
  | tup a b => exact .tup a b
  | ktp a b => exact .ktp a b
  | rol a b => exact .rol a b
  | ref a => exact .ref a
theorem RelF.d {K : PySem.W.Frag} {mp : List Addr} {H : Hp} {d : D} {v : V} (h : RelF K mp H d v) (hf : isFn d = false) : RelD K mp H d v := by
  cases d with
  | fn id caps => cases hf
  | _ => exact h
def RelS (K : PySem.W.Frag) (mp : List Addr) (H : Hp) (ls : Ls) (σ : L2.St) : Prop := ls.length = σ.length ∧ ∀ (i : Nat) d, ls[i]? = some (some d) → ∃ v, σ[i]? = some (some v) ∧ RelF K mp H d v
section
variable {K : PySem.W.Frag} {mp mp' mp1 mp2 : List Addr} {H H' H1 H2 : Hp} {lh lh' : LH}
theorem Ext.refl : Ext K mp H mp H := ⟨⟨[], by simp⟩, fun _ _ h _ _ => h, fun a h1 h2 => absurd h1 h2, fun _ _ h => h, fun _ _ _ h => h, fun _ _ h _ => ⟨_, h⟩⟩
theorem Ext.out0 (e : Ext K mp H mp' H') {a : Addr} {o : HO} (h : H a = some o) (hn : a ∉ mp) : a ∉ mp' := fun hm => by
  have := e.new a hm hn
  rw [h] at this; cases this
theorem Ext.trans (e1 : Ext K mp H mp1 H1) (e2 : Ext K mp1 H1 mp2 H2) : Ext K mp H mp2 H2 := by
  obtain ⟨m1, hm1⟩ := e1.pre
  obtain ⟨m2, hm2⟩ := e2.pre
  refine ⟨⟨m1 ++ m2, by rw [hm2, hm1]; simp⟩, fun a o h hn ht => e2.frame a o (e1.frame a o h hn ht) (e1.out0 h hn) ht, fun a hm hn => ?_, fun a vs h => e2.tup a vs (e1.tup a vs h), fun a o u h => e2.frz a o u (e1.frz a o u h), fun a ps h hn => ?_⟩
  · by_cases h1 : a ∈ mp1
    · exact e1.new a h1 hn
    · have h2 := e2.new a hm h1
      cases q : H a with
      | none => rfl
      | some o =>
        by_cases ht : ∃ ps, o = .tbl ps
        · obtain ⟨ps, rfl⟩ := ht
          obtain ⟨ps', h3⟩ := e1.tbl a ps q hn
          rw [h3] at h2; cases h2
        · rw [e1.frame a o q hn fun ps z => ht ⟨ps, z⟩] at h2; cases h2
  · obtain ⟨u, h1⟩ := e1.tbl a ps h hn
    by_cases ht : ∃ ps, u = .tbl ps
    · obtain ⟨ps', rfl⟩ := ht
      exact e2.tbl a ps' h1 (e1.out0 h hn)
    · exact ⟨u, e2.frame a u h1 (e1.out0 h hn) fun ps z => ht ⟨ps, z⟩⟩
theorem Ext.rol (e : Ext K mp H mp' H') : ∀ a vs, SqF K H a vs → SqF K H' a vs := fun a vs h => by
  rcases h with ⟨o, h⟩ | h
  · exact .inl ⟨o, e.frz _ _ _ h⟩
  · exact .inr h
theorem TpA.ext {a : Addr} {ds : List D} {vs : List V} (h : TpA K H a ds vs) (e : ∀ a vs, H a = some (.tup vs) → H' a = some (.tup vs)) : TpA K H' a ds vs := h.imp (e _ _) id
theorem sqt_of {a : Addr} {vs : List V} (h : SqT K H a vs) (et : ∀ a vs, H a = some (.tup vs) → H' a = some (.tup vs)) (ef : ∀ a o u, H a = some (.frz o u) → H' a = some (.frz o u)) : SqT K H' a vs := by
  rcases h with (h | ⟨o, h⟩) | h
  · exact .inl (.inl (et _ _ h))
  · exact .inl (.inr ⟨o, ef _ _ _ h⟩)
  · exact .inr h
theorem Ext.sqt (e : Ext K mp H mp' H') : ∀ a vs, SqT K H a vs → SqT K H' a vs := fun a vs h => sqt_of h e.tup e.frz
theorem Ext.get (e : Ext K mp H mp' H') {n : Nat} {a : Addr} (h : mp[n]? = some a) : mp'[n]? = some a := by
  obtain ⟨m, rfl⟩ := e.pre
  have hl : n < mp.length := (List.getElem?_eq_some_iff.mp h).1
  rw [List.getElem?_append_left hl]; exact h
mutual
theorem RelD.ext (e : Ext K mp H mp' H') : ∀ {d : D} {v : V}, RelD K mp H d v → RelD K mp' H' d v
  | _, _, .non => .non
  | _, _, .bl b => .bl b
  | _, _, .int i => .int i
  | _, _, .str l => .str l
  | _, _, .tup h r => .tup (h.ext e.tup) (RelDs.ext e r)
  | _, _, .ktp h r => .ktp h (RelDs.ext e r)
  | _, _, .rol h r => .rol (e.rol _ _ h) (RelDs.ext e r)
  | _, _, .ref h => .ref (e.get h)
theorem RelDs.ext (e : Ext K mp H mp' H') : ∀ {d : List D} {v : List V}, RelDs K mp H d v → RelDs K mp' H' d v
  | _, _, .nil => .nil
  | _, _, .cons h r => .cons (RelD.ext e h) (RelDs.ext e r)
end
theorem nt_fn {a : Addr} {F : NdefX.NF} : ∀ ps, NdefX.FnO a F ≠ .tbl ps := fun ps z => by unfold NdefX.FnO at z; cases z
theorem nt_cd {a : Addr} {q : Str} : ∀ ps, LamX.CodeO a q ≠ .tbl ps := fun ps z => by unfold LamX.CodeO at z; cases z
theorem nt_cl {a : Addr} {o : Obj} : ∀ ps, CellO a o ≠ .tbl ps := fun ps z => by unfold CellO at z; cases z
theorem CloA.ext {id : Nat} {a : Addr} {vs : List V} (e : Ext K mp H mp' H') (h : CloA K mp H id a vs) : CloA K mp' H' id a vs := by
  obtain ⟨st, name, qual, cl, c, h1, h2, h3, h4, h5, C⟩ := h
  refine ⟨st, name, qual, cl, c, h1, e.frame _ _ h2 h3 nt_fn, e.out0 h2 h3, e.frame _ _ h4 h5 nt_cd, e.out0 h4 h5, C.len, C.all, C.inj, fun i y hi => ?_⟩
  obtain ⟨c, o, u, v, k1, k2, k3, k4, k5, k6⟩ := C.has i y hi
  exact ⟨c, o, u, v, k1, e.frame _ _ k2 k3 nt_cl, e.out0 k2 k3, k4, k5, k6⟩
theorem RelF.ext (e : Ext K mp H mp' H') {d : D} {v : V} (h : RelF K mp H d v) : RelF K mp' H' d v := by
  cases d with
  | fn id caps =>
    obtain ⟨a, vs, h1, h2, h3⟩ := h
    exact ⟨a, vs, h1, h2.ext e, RelDs.ext e h3⟩
  | _ => exact (RelD.ext e h).f
theorem RelS.ext (e : Ext K mp H mp' H') {ls : Ls} {σ : L2.St} (h : RelS K mp H ls σ) : RelS K mp' H' ls σ := ⟨h.1, fun i d q => let ⟨v, a, b⟩ := h.2 i d q; ⟨v, a, b.ext e⟩⟩
theorem RelDs.length : ∀ {ds : List D} {vs : List V}, RelDs K mp H ds vs → ds.length = vs.length
  | _, _, .nil => rfl
  | _, _, .cons _ r => by simp [RelDs.length r]
theorem RelDs.get : ∀ {ds : List D} {vs : List V}, RelDs K mp H ds vs → ∀ {i : Nat} {d : D}, ds[i]? = some d → ∃ v, vs[i]? = some v ∧ RelD K mp H d v
  | _, _, .nil, i, d, h => by simp at h
  | _, _, .cons r _, 0, d, h => by simp at h; subst h; exact ⟨_, rfl, r⟩
  | _, _, .cons _ r, i + 1, d, h => by
    obtain ⟨v, a, b⟩ := RelDs.get r (i := i) (d := d) (by simpa using h)
    exact ⟨v, by simpa using a, b⟩
theorem RelDs.append : ∀ {ds es : List D} {vs us : List V}, RelDs K mp H ds vs → RelDs K mp H es us → RelDs K mp H (ds ++ es) (vs ++ us)
  | _, _, _, _, .nil, s => s
  | _, _, _, _, .cons r t, s => .cons r (RelDs.append t s)
theorem RelDs.take : ∀ {ds : List D} {vs : List V} (n : Nat), RelDs K mp H ds vs → RelDs K mp H (ds.take n) (vs.take n)
  | _, _, 0, _ => by simpa using RelDs.nil
  | _, _, _ + 1, .nil => by simpa using RelDs.nil
  | _, _, n + 1, .cons r t => by simpa using RelDs.cons r (RelDs.take n t)
theorem RelDs.drop : ∀ {ds : List D} {vs : List V} (n : Nat), RelDs K mp H ds vs → RelDs K mp H (ds.drop n) (vs.drop n)
  | _, _, 0, r => by simpa using r
  | _, _, _ + 1, .nil => by simpa using RelDs.nil
  | _, _, n + 1, .cons _ t => by simpa using RelDs.drop n t
theorem RelDs.set {d : D} {v : V} (r : RelD K mp H d v) : ∀ {ds : List D} {vs : List V} (n : Nat), RelDs K mp H ds vs → RelDs K mp H (ds.set n d) (vs.set n v)
  | _, _, _, .nil => by simpa using RelDs.nil
  | _, _, 0, .cons _ t => by simpa using RelDs.cons r t
  | _, _, n + 1, .cons q t => by simpa using RelDs.cons q (RelDs.set r n t)
theorem Rep.get (r : Rep K mp lh H) {n : Nat} {o : LO} (h : lh[n]? = some o) : ∃ a, mp[n]? = some a ∧ RelO K mp H o a := by
  have hl : n < mp.length := by rw [r.len]; exact (List.getElem?_eq_some_iff.mp h).1
  exact ⟨mp[n], List.getElem?_eq_getElem hl, r.obj n o _ h (List.getElem?_eq_getElem hl)⟩
structure Sub (K : PySem.W.Frag) (mp : List Addr) (H : Hp) (mp' : List Addr) (H' : Hp) : Prop where
  get : ∀ {n : Nat} {a : Addr}, mp[n]? = some a → mp'[n]? = some a
  tup : ∀ a vs, H a = some (.tup vs) → H' a = some (.tup vs)
  frz : ∀ a o u, H a = some (.frz o u) → H' a = some (.frz o u)
theorem Sub.rol (e : Sub K mp H mp' H') : ∀ a vs, SqF K H a vs → SqF K H' a vs := fun a vs h => by
  rcases h with ⟨o, h⟩ | h
  · exact .inl ⟨o, e.frz _ _ _ h⟩
  · exact .inr h
theorem Sub.sqt (e : Sub K mp H mp' H') : ∀ a vs, SqT K H a vs → SqT K H' a vs := fun a vs h => by
  rcases h with (h | ⟨o, h⟩) | h
  · exact .inl (.inl (e.tup _ _ h))
  · exact .inl (.inr ⟨o, e.frz _ _ _ h⟩)
  · exact .inr h
theorem Ext.sub (e : Ext K mp H mp' H') : Sub K mp H mp' H' := ⟨fun h => e.get h, e.tup, e.frz⟩
theorem Sub.refl : Sub K mp H mp H := ⟨fun h => h, fun _ _ h => h, fun _ _ _ h => h⟩
theorem Sub.trans (e1 : Sub K mp H mp1 H1) (e2 : Sub K mp1 H1 mp2 H2) : Sub K mp H mp2 H2 := ⟨fun h => e2.get (e1.get h), fun a vs h => e2.tup a vs (e1.tup a vs h), fun a o u h => e2.frz a o u (e1.frz a o u h)⟩
structure SubW (mp : List Addr) (H : Hp) (mp' : List Addr) (H' : Hp) : Prop where
  get : ∀ {n : Nat} {a : Addr}, mp[n]? = some a → mp'[n]? = some a
  tup : ∀ a vs, H a = some (.tup vs) → H' a = some (.tup vs)
  frl : ∀ a o xs, H a = some (.frz o (.lst xs)) → H' a = some (.frz o (.lst xs))
theorem Sub.w (e : Sub K mp H mp' H') : SubW mp H mp' H' := ⟨fun h => e.get h, e.tup, fun a o xs h => e.frz a o _ h⟩
mutual
theorem RelD.subw (e : SubW mp H mp' H') : ∀ {d : D} {v : V}, RelD K mp H d v → RelD K mp' H' d v
  | _, _, .non => .non
  | _, _, .bl b => .bl b
  | _, _, .int i => .int i
  | _, _, .str l => .str l
  | _, _, .tup h r => .tup (h.ext e.tup) (RelDs.subw e r)
  | _, _, .ktp h r => .ktp h (RelDs.subw e r)
  | _, _, .rol h r => .rol (h.imp (fun ⟨o, z⟩ => ⟨o, e.frl _ _ _ z⟩) id) (RelDs.subw e r)
  | _, _, .ref h => .ref (e.get h)
theorem RelDs.subw (e : SubW mp H mp' H') : ∀ {d : List D} {v : List V}, RelDs K mp H d v → RelDs K mp' H' d v
  | _, _, .nil => .nil
  | _, _, .cons h r => .cons (RelD.subw e h) (RelDs.subw e r)
end
theorem RelD.sub (e : Sub K mp H mp' H') {d : D} {v : V} (h : RelD K mp H d v) : RelD K mp' H' d v := RelD.subw e.w h
theorem RelDs.sub (e : Sub K mp H mp' H') {d : List D} {v : List V} (h : RelDs K mp H d v) : RelDs K mp' H' d v := RelDs.subw e.w h
end
end Rf
set_option Elab.async false
set_option linter.all false
set_option maxRecDepth 100000
set_option maxHeartbeats 4000000
set_option autoImplicit false
namespace Rf
open PySem PySem.Spec L2
section
variable {K : PySem.W.Frag} {mp mp' mp1 mp2 : List Addr} {H H' H1 H2 : Hp} {lh lh' : LH}
theorem Paired.imp {α β : Type} {F G : α → β → Prop} (h : ∀ a b, F a b → G a b) : ∀ {l : List α} {m : List β}, Paired F l m → Paired G l m
  | _, _, .nil => .nil
  | _, _, .cons a r => .cons (h _ _ a) (Paired.imp h r)
theorem RelX.ext {x : Exn} {c : Value} {d : Option Addr} (e : Ext K mp H mp' H') (h : RelX K mp H x c d) : RelX K mp' H' x c d := by
  obtain ⟨h1, h2⟩ := h
  refine ⟨h1, ?_⟩
  rcases h2 with h2 | ⟨dd, fs, ne, a, b, n, q⟩
  · exact .inl h2
  · refine .inr ⟨dd, fs, ne, a, e.frame _ _ b n (fun _ z => by cases z), fun hm => ?_, Paired.imp (fun p q z => ⟨z.1, z.2.ext e⟩) q⟩
    have := e.new dd hm n
    rw [b] at this; cases this
theorem RelO.ext {o : LO} {a : Addr} (e : Ext K mp H mp' H') (hs : H' a = H a) (h : RelO K mp H o a) : RelO K mp' H' o a := by
  cases o with
  | lst ds => obtain ⟨vs, q, r⟩ := h; exact ⟨vs, hs.trans q, r.ext e⟩
  | dic t kvs => cases t with
    | false => obtain ⟨ks, q, r⟩ := h; exact ⟨ks, hs.trans q, Paired.imp (fun p q z => ⟨z.1, z.2.ext e⟩) r⟩
    | true => obtain ⟨ks, q, r⟩ := h; exact ⟨ks, hs.trans q, Paired.imp (fun p q z => ⟨z.1, z.2.ext e⟩) r⟩
  | ins c fs => obtain ⟨dx, gs, q, r⟩ := h; exact ⟨dx, gs, hs.trans q, Paired.imp (fun p q z => ⟨z.1, z.2.ext e⟩) r⟩
  | exc c fs => obtain ⟨d, q, r⟩ := h; exact ⟨d, hs.trans q, r.ext e⟩
  | dlk t kvs => cases t with
    | false => obtain ⟨o, ks, q, r⟩ := h; exact ⟨o, ks, hs.trans q, Paired.imp (fun p q z => ⟨z.1, z.2.ext e⟩) r⟩
    | true => obtain ⟨o, ks, q, r⟩ := h; exact ⟨o, ks, hs.trans q, Paired.imp (fun p q z => ⟨z.1, z.2.ext e⟩) r⟩
def isDlk : LO → Bool
  | .dlk _ _ => true
  | _ => false
theorem RelO.nt {o : LO} {a : Addr} {u : HO} (h : RelO K mp H o a) (hu : H a = some u) : (∀ vs, u ≠ .tup vs) ∧ ∀ ps, u ≠ .tbl ps := by
  cases o with
  | lst ds => obtain ⟨vs, q, r⟩ := h; rw [q] at hu; cases hu; exact ⟨(by intro _ z; cases z), (by intro _ z; cases z)⟩
  | dic t kvs => cases t with
    | false => obtain ⟨ks, q, r⟩ := h; rw [q] at hu; cases hu; exact ⟨(by intro _ z; cases z), (by intro _ z; cases z)⟩
    | true => obtain ⟨ks, q, r⟩ := h; rw [q] at hu; cases hu; exact ⟨(by intro _ z; cases z), (by intro _ z; cases z)⟩
  | ins c fs => obtain ⟨dx, gs, q, r⟩ := h; rw [q] at hu; cases hu; exact ⟨(by intro _ z; cases z), (by intro _ z; cases z)⟩
  | exc c fs => obtain ⟨d, q, r⟩ := h; rw [q] at hu; cases hu; exact ⟨(by intro _ z; cases z), (by intro _ z; cases z)⟩
  | dlk t kvs => cases t with
    | false => obtain ⟨o, ks, q, r⟩ := h; rw [q] at hu; cases hu; exact ⟨(by intro _ z; cases z), (by intro _ z; cases z)⟩
    | true => obtain ⟨o, ks, q, r⟩ := h; rw [q] at hu; cases hu; exact ⟨(by intro _ z; cases z), (by intro _ z; cases z)⟩
theorem RelO.nf {o : LO} {a : Addr} {u : HO} (h : RelO K mp H o a) (hk : isDlk o = false) (hu : H a = some u) : ∀ o' x, u ≠ .frz o' x := by
  intro o' x
  cases o with
  | lst ds => obtain ⟨vs, q, r⟩ := h; rw [q] at hu; cases hu; intro z; cases z
  | dic t kvs => cases t with
    | false => obtain ⟨ks, q, r⟩ := h; rw [q] at hu; cases hu; intro z; cases z
    | true => obtain ⟨ks, q, r⟩ := h; rw [q] at hu; cases hu; intro z; cases z
  | ins c fs => obtain ⟨dx, gs, q, r⟩ := h; rw [q] at hu; cases hu; intro z; cases z
  | exc c fs => obtain ⟨d, q, r⟩ := h; rw [q] at hu; cases hu; intro z; cases z
  | dlk t kvs => cases hk
theorem RelO.some {o : LO} {a : Addr} (h : RelO K mp H o a) : ∃ u, H a = some u := by
  cases o with
  | lst ds => obtain ⟨vs, q, r⟩ := h; exact ⟨_, q⟩
  | dic t kvs => cases t with
    | false => obtain ⟨ks, q, r⟩ := h; exact ⟨_, q⟩
    | true => obtain ⟨ks, q, r⟩ := h; exact ⟨_, q⟩
  | ins c fs => obtain ⟨dx, gs, q, r⟩ := h; exact ⟨_, q⟩
  | exc c fs => obtain ⟨d, q, r⟩ := h; exact ⟨_, q⟩
  | dlk t kvs => cases t with
    | false => obtain ⟨o, ks, q, r⟩ := h; exact ⟨_, q⟩
    | true => obtain ⟨o, ks, q, r⟩ := h; exact ⟨_, q⟩
theorem heap_at (c : Addr) (o : Obj) (ho : o.data ≠ .freed) : ∃ h : Heap, h.get? c = Option.some o := by
  have key : ∀ n : Nat, ∃ h : Heap, h.objs.size = n := fun n => by
    induction n with
    | zero => exact ⟨{}, rfl⟩
    | succ n ih =>
      obtain ⟨h, e⟩ := ih
      exact ⟨⟨h.objs.push default, h.life⟩, by simp [e]⟩
  obtain ⟨h, rfl⟩ := key c
  refine ⟨⟨h.objs.push o, h.life⟩, ?_⟩
  unfold Heap.get?
  simp only [Array.getElem?_push_size]
  obtain ⟨c, d, dt, sl⟩ := o
  cases dt with
  | freed => exact absurd rfl ho
  | _ => rfl
theorem excO_ne {a : Addr} {k : Addr} {d : Option Addr} {q : Str} : ExcO a (.ref k) d ≠ LamX.CodeO a q := fun z => by
  unfold ExcO LamX.CodeO at z
  injection z with z
  obtain ⟨h, hh⟩ := heap_at a { cls := .none, data := .fields #[.none, .str q 0] } (by intro z; cases z)
  have z := congrFun z h
  have : ∃ (o : Obj) (vs : Array Value), h.get? a = Option.some o ∧ Zc (.ref k) d o ∧ o.data = .fields vs := by
    rw [z]
    exact ⟨_, _, 0, hh, rfl, rfl⟩
  obtain ⟨o, vs, h1, h2, _⟩ := this
  rw [hh] at h1
  cases h1
  cases h2.1
theorem RelO.nc {o : LO} {a : Addr} (h : RelO K mp H o a) : ∀ q, H a ≠ Option.some (LamX.CodeO a q) := fun q z => by
  cases o with
  | lst ds => obtain ⟨vs, q, r⟩ := h; rw [q] at z; cases z
  | dic t kvs => cases t with
    | false => obtain ⟨ks, q, r⟩ := h; rw [q] at z; cases z
    | true => obtain ⟨ks, q, r⟩ := h; rw [q] at z; cases z
  | ins c fs => obtain ⟨dx, gs, q, r⟩ := h; rw [q] at z; cases z
  | exc c fs => obtain ⟨d, q, r⟩ := h; rw [q] at z; exact excO_ne (Option.some.inj z)
  | dlk t kvs => cases t with
    | false => obtain ⟨o, ks, q, r⟩ := h; rw [q] at z; cases z
    | true => obtain ⟨o, ks, q, r⟩ := h; rw [q] at z; cases z
theorem Rep.at (r : Rep K mp lh H) {a : Addr} (h : a ∈ mp) : ∃ (n : Nat) (o : LO), mp[n]? = some a ∧ lh[n]? = some o ∧ RelO K mp H o a := by
  obtain ⟨n, hn, e⟩ := List.getElem_of_mem h
  have hl : n < lh.length := by rw [← r.len]; exact hn
  have e1 : mp[n]? = some a := by rw [List.getElem?_eq_getElem hn, e]
  exact ⟨n, lh[n], e1, List.getElem?_eq_getElem hl, r.obj n _ a (List.getElem?_eq_getElem hl) e1⟩
theorem Rep.free_ne (r : Rep K mp lh H) {p : Addr} (hp : H p = none) : p ∉ mp := fun hm => by
  obtain ⟨n, o, _, _, q⟩ := r.at hm
  obtain ⟨u, hu⟩ := q.some
  rw [hp] at hu; cases hu
theorem TabOk.free (t : TabOk K mp H) {p : Addr} {o : HO} (hp : H p = none) : TabOk K mp (upd H p o) := ⟨fun q hq => by
  obtain ⟨ps, h1, h2, h3⟩ := t.all q hq
  refine ⟨ps, by rw [upd_ne (ne_of_none h1 hp)]; exact h1, h2, fun pos cv e => ?_⟩
  obtain ⟨c, e1, e2, e3⟩ := h3 pos cv e
  exact ⟨c, e1, by rw [upd_ne (ne_of_none e2 hp)]; exact e2, e3⟩⟩
theorem TabOk.alloc (t : TabOk K mp H) {p : Addr} {o : HO} (hp : H p = none) : TabOk K (mp ++ [p]) (upd H p o) := ⟨fun q hq => by
  obtain ⟨ps, h1, h2, h3⟩ := t.all q hq
  refine ⟨ps, by rw [upd_ne (ne_of_none h1 hp)]; exact h1, h2, fun pos cv e => ?_⟩
  obtain ⟨c, e1, e2, e3⟩ := h3 pos cv e
  exact ⟨c, e1, by rw [upd_ne (ne_of_none e2 hp)]; exact e2, fun z => by
    rcases List.mem_append.mp z with z | z
    · exact e3 z
    · exact ne_of_none e2 hp (List.mem_singleton.mp z)⟩⟩
theorem TabOk.write (t : TabOk K mp H) {a : Addr} {u o : HO} (ha : a ∈ mp) (hu : H a = some u) (hn : ∀ ps, u ≠ .tbl ps) : TabOk K mp (upd H a o) := ⟨fun q hq => by
  obtain ⟨ps, h1, h2, h3⟩ := t.all q hq
  refine ⟨ps, by rw [upd_ne (fun z => by rw [z, hu] at h1; exact hn ps (Option.some.inj h1))]; exact h1, h2, fun pos cv e => ?_⟩
  obtain ⟨c, e1, e2, e3⟩ := h3 pos cv e
  exact ⟨c, e1, by rw [upd_ne (fun z => e3 (by rw [z]; exact ha))]; exact e2, e3⟩⟩
theorem TabOk.less (t : TabOk K mp H) (h : ∀ a ∈ mp', a ∈ mp) : TabOk K mp' H := ⟨fun q hq => by
  obtain ⟨ps, h1, h2, h3⟩ := t.all q hq
  refine ⟨ps, h1, h2, fun pos cv e => ?_⟩
  obtain ⟨c, e1, e2, e3⟩ := h3 pos cv e
  exact ⟨c, e1, e2, fun z => e3 (h c z)⟩⟩
theorem TabOk.back (r : Rep K mp lh H) {mp0 : List Addr} (e : Ext K mp0 H mp' H') (t : TabOk K mp' H') : TabOk K mp H' := ⟨fun p hp => by
  obtain ⟨ps, h1, h2, h3⟩ := t.all p hp
  refine ⟨ps, h1, h2, fun pos cv ec => ?_⟩
  obtain ⟨c, e1, e2, e3⟩ := h3 pos cv ec
  refine ⟨c, e1, e2, fun z => ?_⟩
  obtain ⟨n, o, _, _, q⟩ := r.at z
  obtain ⟨u, hu⟩ := q.some
  by_cases h0 : c ∈ mp0
  · obtain ⟨m, hm⟩ := e.pre
    exact e3 (by rw [hm]; exact List.mem_append.mpr (.inl h0))
  · have := e.frame c u hu h0 (q.nt hu).2
    rw [e2] at this
    rw [← Option.some.inj this] at hu
    exact q.nc _ hu⟩
theorem TabOk.both (t1 : TabOk K mp H) (t2 : TabOk K mp' H) : TabOk K (mp ++ mp') H := ⟨fun p hp => by
  obtain ⟨ps, h1, h2, h3⟩ := t1.all p hp
  obtain ⟨ps2, k1, k2, k3⟩ := t2.all p hp
  rw [h1] at k1
  cases k1
  refine ⟨ps, h1, h2, fun pos cv ec => ?_⟩
  obtain ⟨c, e1, e2, e3⟩ := h3 pos cv ec
  obtain ⟨c', f1, f2, f3⟩ := k3 pos cv ec
  rw [e1] at f1
  cases f1
  exact ⟨c, e1, e2, fun z => (List.mem_append.mp z).elim e3 f3⟩⟩
theorem Ext.free {p : Addr} {o : HO} (hp : H p = none) : Ext K mp H mp (upd H p o) :=
  ⟨⟨[], by simp⟩, fun a u h _ _ => by rw [upd_ne (ne_of_none h hp)]; exact h, fun a h1 h2 => absurd h1 h2, fun a vs h => by rw [upd_ne (ne_of_none h hp)]; exact h, fun a o u h => by rw [upd_ne (ne_of_none h hp)]; exact h,
    fun a ps h _ => ⟨_, by rw [upd_ne (ne_of_none h hp)]; exact h⟩⟩
theorem Rep.same (r : Rep K mp lh H) (e : Ext K mp H mp H') (hs : ∀ a, a ∈ mp → H' a = H a) (t : TabOk K mp H') : Rep K mp lh H' :=
  ⟨r.len, r.nd, fun n o a h1 h2 => (r.obj n o a h1 h2).ext e (hs a (List.mem_of_getElem? h2)), t⟩
theorem Rep.free (r : Rep K mp lh H) {p : Addr} {o : HO} (hp : H p = none) : Rep K mp lh (upd H p o) :=
  r.same (Ext.free hp) (fun a ha => upd_ne fun z => r.free_ne hp (z ▸ ha)) (r.tab.free hp)
theorem Ext.alloc (r : Rep K mp lh H) {p : Addr} {o : HO} (hp : H p = none) : Ext K mp H (mp ++ [p]) (upd H p o) :=
  ⟨⟨[p], rfl⟩, fun a u h _ _ => by rw [upd_ne (ne_of_none h hp)]; exact h, fun a h1 h2 => by
    rcases List.mem_append.mp h1 with h | h
    · exact absurd h h2
    · rw [List.mem_singleton.mp h]; exact hp, fun a vs h => by rw [upd_ne (ne_of_none h hp)]; exact h, fun a o u h => by rw [upd_ne (ne_of_none h hp)]; exact h,
    fun a ps h _ => ⟨_, by rw [upd_ne (ne_of_none h hp)]; exact h⟩⟩
theorem Rep.alloc (r : Rep K mp lh H) {p : Addr} {o : HO} {l : LO} (hp : H p = none) (h : RelO K (mp ++ [p]) (upd H p o) l p) : Rep K (mp ++ [p]) (lh ++ [l]) (upd H p o) := by
  have hn := r.free_ne hp
  refine ⟨by simp [r.len], ?_, fun n u a h1 h2 => ?_, r.tab.alloc hp⟩
  · refine List.nodup_append.mpr ⟨r.nd, (by simp), fun a ha b hb => ?_⟩
    rw [List.mem_singleton.mp hb]
    intro z; exact hn (z ▸ ha)
  · by_cases hl : n < mp.length
    · rw [List.getElem?_append_left hl] at h2
      rw [List.getElem?_append_left (by rw [← r.len]; exact hl)] at h1
      exact (r.obj n u a h1 h2).ext (Ext.alloc r hp) (upd_ne fun z => hn (z ▸ List.mem_of_getElem? h2))
    · have h2l := (List.getElem?_eq_some_iff.mp h2).1
      have en : n = mp.length := by simp at h2l; omega
      subst en
      rw [List.getElem?_append_right (Nat.le_refl _)] at h2
      rw [List.getElem?_append_right (by rw [r.len]; exact Nat.le_refl _), r.len] at h1
      simp at h1 h2
      subst h1 h2; exact h
theorem nodup_get {l : List Addr} (nd : l.Nodup) : ∀ {i j : Nat} {a : Addr}, l[i]? = some a → l[j]? = some a → i = j := by
  induction l with
  | nil => intro i j a h _; simp at h
  | cons x r ih =>
    intro i j a h1 h2
    obtain ⟨hx, hr⟩ := List.nodup_cons.mp nd
    cases i with
    | zero =>
      cases j with
      | zero => rfl
      | succ j =>
        simp at h1 h2; subst h1
        exact absurd (List.mem_of_getElem? h2) hx
    | succ i =>
      cases j with
      | zero =>
        simp at h1 h2; subst h2
        exact absurd (List.mem_of_getElem? h1) hx
      | succ j =>
        simp at h1 h2
        rw [ih hr h1 h2]
theorem Ext.write (r : Rep K mp lh H) {n : Nat} {a : Addr} {o : HO} {l0 : LO} (ha : mp[n]? = some a) (hl : lh[n]? = some l0) (hk : isDlk l0 = false) : Ext K mp H mp (upd H a o) := by
  have hm := List.mem_of_getElem? ha
  have q := r.obj n l0 a hl ha
  refine ⟨⟨[], by simp⟩, fun b u h hb _ => (upd_ne (show b ≠ a from fun z => hb (by rw [z]; exact hm))).trans h, fun a h1 h2 => absurd h1 h2, fun b vs h => ?_, fun b ob u h => ?_, fun b ps h hb => ⟨_, (upd_ne (show b ≠ a from fun z => hb (by rw [z]; exact hm))).trans h⟩⟩
  · exact (upd_ne (fun z => by subst z; exact (q.nt h).1 vs rfl)).trans h
  · exact (upd_ne (fun z => by subst z; exact q.nf hk h ob u rfl)).trans h
theorem Rep.write (r : Rep K mp lh H) {n : Nat} {a : Addr} {o : HO} {l l0 : LO} (ha : mp[n]? = some a) (hl : lh[n]? = some l0) (hk : isDlk l0 = false) (h : RelO K mp (upd H a o) l a) : Rep K mp (lh.set n l) (upd H a o) := by
  obtain ⟨u0, hu0⟩ := (r.obj n l0 a hl ha).some
  refine ⟨by simp [r.len], r.nd, fun k u b h1 h2 => ?_, r.tab.write (List.mem_of_getElem? ha) hu0 ((r.obj n l0 a hl ha).nt hu0).2⟩
  by_cases e : k = n
  · subst e
    rw [ha] at h2; cases h2
    have hl : k < lh.length := by rw [← r.len]; exact (List.getElem?_eq_some_iff.mp ha).1
    rw [List.getElem?_set_self hl] at h1; cases h1; exact h
  · rw [List.getElem?_set_ne (Ne.symm e)] at h1
    refine (r.obj k u b h1 h2).ext (Ext.write r ha hl hk) (upd_ne fun z => e ?_)
    subst z
    exact nodup_get r.nd h2 ha
end
def PostG {α β : Type} (K : PySem.W.Frag) (Rl : List Addr → Hp → α → β → Prop) (mp : List Addr) (H : Hp) (r : R α) (Q : β → Hp → Prop) (E : XK) : Prop :=
  match r with
  | .ok d lh' => ∀ mp' H' v, Ext K mp H mp' H' → Rep K mp' lh' H' → Rl mp' H' d v → Q v H'
  | .ex x lh' => ∀ mp' H' c dd, Ext K mp H mp' H' → Rep K mp' lh' H' → RelX K mp' H' x c dd → E c dd H'
  | .bad => False
abbrev Post (K : PySem.W.Frag) := PostG K (RelD K)
abbrev PostA (K : PySem.W.Frag) := PostG K (RelDs K)
abbrev RelB : List Addr → Hp → Bool → Bool → Prop := fun _ _ a b => a = b
abbrev PostB (K : PySem.W.Frag) := PostG K RelB
def R.bind {α β : Type} (r : R α) (f : α → LH → R β) : R β := match r with
  | .ok a h => f a h
  | .ex x h => .ex x h
  | .bad => .bad
section
variable {K : PySem.W.Frag} {mp mp' : List Addr} {H H' : Hp}
theorem PostG.ext {α β : Type} {Rl : List Addr → Hp → α → β → Prop} {r : R α} {Q : β → Hp → Prop} {E : XK} (h : PostG K Rl mp H r Q E) (e : Ext K mp H mp' H') : PostG K Rl mp' H' r Q E := by
  cases r with
  | ok d lh => exact fun m2 H2 v e2 => h m2 H2 v (e.trans e2)
  | ex x lh => exact fun m2 H2 c dd e2 => h m2 H2 c dd (e.trans e2)
  | bad => exact h
theorem PostG.bind {α β γ δ : Type} {Rl : List Addr → Hp → α → β → Prop} {Rm : List Addr → Hp → γ → δ → Prop} {r : R α} {f : α → LH → R γ} {Q : δ → Hp → Prop} {E : XK} {Q1 : β → Hp → Prop} (h : PostG K Rm mp H (r.bind f) Q E)
    (k : ∀ mp1 H1 lh1 d v, Ext K mp H mp1 H1 → Rep K mp1 lh1 H1 → Rl mp1 H1 d v → PostG K Rm mp1 H1 (f d lh1) Q E → Q1 v H1) : PostG K Rl mp H r Q1 E := by
  cases r with
  | ok d lh => exact fun m1 H1 v e1 r1 rl => k m1 H1 lh d v e1 r1 rl (PostG.ext h e1)
  | ex x lh => exact h
  | bad => exact h
theorem PostG.imp {α β : Type} {Rl : List Addr → Hp → α → β → Prop} {r : R α} {Q Q' : β → Hp → Prop} {E : XK} (h : PostG K Rl mp H r Q E) (k : ∀ v H, Q v H → Q' v H) : PostG K Rl mp H r Q' E := by
  cases r with
  | ok d lh => exact fun m1 H1 v e1 r1 rl => k _ _ (h m1 H1 v e1 r1 rl)
  | ex x lh => exact h
  | bad => exact h
theorem PostG.now {α β : Type} {Rl : List Addr → Hp → α → β → Prop} {d : α} {lh : LH} {v : β} {Q : β → Hp → Prop} {E : XK} (h : PostG K Rl mp H (.ok d lh) Q E) (r : Rep K mp lh H) (rl : Rl mp H d v) : Q v H := h mp H v .refl r rl
end
def RefE (K : PySem.W.Frag) (W : WX) (t : TE) (m : EM) : Prop := ∀ mp lh ls σ H Q, Rep K mp lh H → RelS K mp H ls σ → Post K mp H (m ls lh) Q (WE W σ) → t σ H Q
def RefA (K : PySem.W.Frag) (W : WX) (t : TA) (m : AM) : Prop := ∀ mp lh ls σ H Q, Rep K mp lh H → RelS K mp H ls σ → PostA K mp H (m ls lh) Q (WE W σ) → t σ H Q
def RefT (K : PySem.W.Frag) (W : WX) (t : TT) (m : TM) : Prop := ∀ mp lh ls σ H Q, Rep K mp lh H → RelS K mp H ls σ → PostB K mp H (m ls lh) Q (WE W σ) → t σ H Q
def RE (X : Cx) (W : WX) (e : Expr) (m : EM) : Prop := ∃ t, PE X e t ∧ RefE X.K W t m
def RA (X : Cx) (W : WX) (es : List Expr) (m : AM) : Prop := ∃ t, PA X es t ∧ RefA X.K W t m ∧ ∀ ls h ds h', m ls h = .ok ds h' → ds.length = es.length
def RT (X : Cx) (W : WX) (e : Expr) (m : TM) : Prop := ∃ t, PT X e t ∧ RefT X.K W t m
def RW (X : Cx) (W : WX) (e : Expr) (m : TM) : Prop := ∃ t, PW X e t ∧ RefT X.K W t m
theorem RW.rt {X : Cx} {W : WX} {e : Expr} {m : TM} (h : RW X W e m) : RT X W e m := let ⟨t, a, b⟩ := h; ⟨t, a.pt, b⟩
def mV (i : Nat) : EM := fun ls h => match ls[i]? with
  | some (some (.fn _ _)) => .bad
  | some (some d) => .ok d h
  | _ => .bad
theorem mV_ok {i : Nat} {ls : Ls} {d : D} {h : LH} (e : ls[i]? = some (some d)) (hf : isFn d = false) : mV i ls h = .ok d h := by
  unfold mV
  rw [e]
  cases d with
  | fn _ _ => cases hf
  | _ => rfl
def mC (d : D) : EM := fun _ h => .ok d h
section
variable {X : Cx} {W : WX}
theorem re_var {i : Nat} {x : Str} {pos : Pos} (h : PE X (.Name x pos) (tVar i)) : RE X W (.Name x pos) (mV i) := by
  refine ⟨_, h, fun mp lh ls σ H Q r rs q => ?_⟩
  unfold mV at q
  cases e : ls[i]? with
  | none => rw [e] at q; exact q.elim
  | some o =>
    cases o with
    | none => rw [e] at q; exact q.elim
    | some d =>
      obtain ⟨v, a, b⟩ := rs.2 i d e
      cases hf : isFn d with
      | true =>
        cases d with
        | fn _ _ => rw [e] at q; exact q.elim
        | _ => cases hf
      | false =>
        have q : Post X.K mp H (mV i ls lh) Q (WE W σ) := q
        rw [mV_ok e hf] at q
        exact ⟨v, a, q.now r (b.d hf)⟩
theorem re_int {i j pos} : RE X W (.Constant (.int i) j pos) (mC (.int i)) := ⟨_, pe_int, fun _ _ _ _ _ _ r _ q => q.now r (.int _)⟩
theorem re_bl {b j pos} : RE X W (.Constant (.bool b) j pos) (mC (.bl b)) := ⟨_, pe_bl, fun _ _ _ _ _ _ r _ q => q.now r (.bl _)⟩
theorem re_str (l : List Nat) {x : Str} {j pos} (h : x = ⟨l.toArray⟩) : RE X W (.Constant (.str x) j pos) (mC (.str l)) := ⟨_, pe_str, fun _ _ _ _ _ _ r _ q => by rw [h]; exact q.now r (.str _)⟩
theorem re_glob {x : Str} {v : V} {d : D} {pos : Pos} (h : PE X (.Name x pos) (tC v)) (r : ∀ mp H, RelD X.K mp H d v) : RE X W (.Name x pos) (mC d) := ⟨_, h, fun _ _ _ _ _ _ r' _ q => q.now r' (r _ _)⟩
end
def RefOp (K : PySem.W.Frag) (r : R2) (f : D → D → LH → R D) : Prop := ∀ mp lh H x y vx vy Q E, Rep K mp lh H → RelD K mp H x vx → RelD K mp H y vy → Post K mp H (f x y lh) Q E → r vx vy H Q
def ROp (X : Cx) (g : Value → Value → Sem Value) (f : D → D → LH → R D) : Prop := ∃ r, OpR X g r ∧ RefOp X.K r f
def mBin (f : D → D → LH → R D) (ma mb : EM) : EM := fun ls h => (ma ls h).bind fun x h1 => (mb ls h1).bind fun y h2 => f x y h2
def mTest (m : EM) : TM := fun ls h => (m ls h).bind fun x h1 => match x with
  | .bl b => .ok b h1
  | _ => .bad
section
variable {X : Cx} {W : WX} {a b c : Expr} {ma mb mc : EM} {pos : Pos} {f g : D → D → LH → R D}
theorem ref_bin {K : PySem.W.Frag} {r : R2} {ta tb : TE} (hr : RefOp K r f) (ha : RefE K W ta ma) (hb : RefE K W tb mb) : RefE K W (tOp r ta tb) (mBin f ma mb) := fun mp lh ls σ H Q rp rs q =>
  ha mp lh ls σ H _ rp rs (q.bind fun mp1 H1 lh1 x vx e1 r1 rl1 q1 => hb mp1 lh1 ls σ H1 _ r1 (rs.ext e1) (q1.bind fun mp2 H2 lh2 y vy e2 r2 rl2 q2 => hr mp2 lh2 H2 x y vx vy Q _ r2 (rl1.ext e2) rl2 q2))
theorem re_bin {op : Operator} (ho : ROp X (binaryOp op) f) (ha : RE X W a ma) (hb : RE X W b mb) : RE X W (.BinOp a op b pos) (mBin f ma mb) := by
  obtain ⟨r, h1, h2⟩ := ho
  obtain ⟨ta, a1, a2⟩ := ha
  obtain ⟨tb, b1, b2⟩ := hb
  exact ⟨_, pe_op h1 a1 b1, ref_bin h2 a2 b2⟩
theorem re_cmp {op : CmpOp} (ho : ROp X (compareOp op) f) (ha : RE X W a ma) (hb : RE X W b mb) (hm : behindInMarks op b = false := by rfl) : RE X W (.Compare a [op] [b] pos) (mBin f ma mb) := by
  obtain ⟨r, h1, h2⟩ := ho
  obtain ⟨ta, a1, a2⟩ := ha
  obtain ⟨tb, b1, b2⟩ := hb
  exact ⟨_, pe_cmpR h1 a1 b1 hm, ref_bin h2 a2 b2⟩
theorem ref_test {K : PySem.W.Frag} {t : TE} (ha : RefE K W t ma) : RefT K W (tTest t) (mTest ma) := fun mp lh ls σ H Q rp rs q =>
  ha mp lh ls σ H _ rp rs (q.bind fun mp1 H1 lh1 x vx e1 r1 rl1 q1 => by
    cases rl1 with
    | bl b => exact ⟨b, rfl, q1.now r1 rfl⟩
    | _ => exact q1.elim)
theorem rt_cmp {op : CmpOp} (ho : ROp X (compareOp op) f) (ha : RE X W a ma) (hb : RE X W b mb) (hm : behindInMarks op b = false := by rfl) : RT X W (.Compare a [op] [b] pos) (mTest (mBin f ma mb)) := by
  obtain ⟨r, h1, h2⟩ := ho
  obtain ⟨ta, a1, a2⟩ := ha
  obtain ⟨tb, b1, b2⟩ := hb
  exact ⟨_, pt_cmpR h1 a1 b1 hm, ref_test (ref_bin h2 a2 b2)⟩
def mChain (f g : D → D → LH → R D) (ma mb mc : EM) : EM := fun ls h => (ma ls h).bind fun x h1 => (mb ls h1).bind fun y h2 => (f x y h2).bind fun z h3 => match z with
  | .bl true => (mc ls h3).bind fun u h4 => g y u h4
  | .bl false => .ok (.bl false) h3
  | _ => .bad
theorem ref_chain {K : PySem.W.Frag} {r r' : R2} {ta tb tc : TE} (hr : RefOp K r f) (hr' : RefOp K r' g) (ha : RefE K W ta ma) (hb : RefE K W tb mb) (hc : RefE K W tc mc) : RefE K W (tChain r r' ta tb tc) (mChain f g ma mb mc) := fun mp lh ls σ H Q rp rs q =>
  ha mp lh ls σ H _ rp rs (q.bind fun mp1 H1 lh1 x vx e1 r1 rl1 q1 => hb mp1 lh1 ls σ H1 _ r1 (rs.ext e1) (q1.bind fun mp2 H2 lh2 y vy e2 r2 rl2 q2 =>
    hr mp2 lh2 H2 x y vx vy _ _ r2 (rl1.ext e2) rl2 (q2.bind fun mp3 H3 lh3 z vz e3 r3 rl3 q3 => by
      cases rl3 with
      | bl b =>
        refine ⟨b, rfl, ?_⟩
        cases b with
        | true => exact iteT (hc mp3 lh3 ls σ H3 _ r3 (((rs.ext e1).ext e2).ext e3) (q3.bind fun mp4 H4 lh4 u vu e4 r4 rl4 q4 => hr' mp4 lh4 H4 y u vy vu Q _ r4 ((rl2.ext e3).ext e4) rl4 q4))
        | false => exact iteF (q3.now r3 (.bl _))
      | _ => exact q3.elim)))
theorem rt_chain {op op' : CmpOp} (ho : ROp X (compareOp op) f) (ho' : ROp X (compareOp op') g) (ha : RE X W a ma) (hb : RE X W b mb) (hc : RE X W c mc) (hm : lastMarks [op, op'] [b, c] = false := by rfl) : RT X W (.Compare a [op, op'] [b, c] pos) (mTest (mChain f g ma mb mc)) := by
  obtain ⟨r, h1, h2⟩ := ho
  obtain ⟨r', h1', h2'⟩ := ho'
  obtain ⟨ta, a1, a2⟩ := ha
  obtain ⟨tb, b1, b2⟩ := hb
  obtain ⟨tc, c1, c2⟩ := hc
  exact ⟨_, pt_chain h1 h1' a1 b1 c1 (hm := hm), ref_test (ref_chain h2 h2' a2 b2 c2)⟩
theorem rt_val (ha : RE X W a ma) (he : ∀ whole, isTrue a X.env whole = (do let v ← whole; standAt a.pos; holding [v] (truthy v)) := by intro _; rfl) : RT X W a (mTest ma) := by
  obtain ⟨ta, a1, a2⟩ := ha
  exact ⟨_, pt_val a1 he, ref_test a2⟩
end
def mAnd (a b : TM) : TM := fun ls h => (a ls h).bind fun c h1 => if c = true then b ls h1 else .ok false h1
def mOr (a b : TM) : TM := fun ls h => (a ls h).bind fun c h1 => if c = true then .ok true h1 else b ls h1
def mNot (a : TM) : TM := fun ls h => (a ls h).bind fun c h1 => .ok (!c) h1
def mAndV (a b : EM) : EM := fun ls h => (a ls h).bind fun x h1 => match x with
  | .bl true => b ls h1
  | .bl false => .ok (.bl false) h1
  | _ => .bad
def mOrV (a b : EM) : EM := fun ls h => (a ls h).bind fun x h1 => match x with
  | .bl true => .ok (.bl true) h1
  | .bl false => b ls h1
  | _ => .bad
def mNotV (a : EM) : EM := fun ls h => (a ls h).bind fun x h1 => match x with
  | .bl b => .ok (.bl (!b)) h1
  | _ => .bad
def mIf (c : TM) (a b : EM) : EM := fun ls h => (c ls h).bind fun k h1 => if k = true then a ls h1 else b ls h1
section
variable {X : Cx} {W : WX} {a b c : Expr} {ma mb : EM} {ta tb : TM} {pos : Pos} {rest : List Expr}
theorem rw_and1 (ha : RT X W a ta) : RW X W (.BoolOp .And [a] pos) ta := let ⟨t, a1, a2⟩ := ha; ⟨t, pw_and1 a1, a2⟩
theorem rw_or1 (ha : RT X W a ta) : RW X W (.BoolOp .Or [a] pos) ta := let ⟨t, a1, a2⟩ := ha; ⟨t, pw_or1 a1, a2⟩
theorem rw_and (ha : RT X W a ta) (hb : RW X W (.BoolOp .And (b :: rest) pos) tb) : RW X W (.BoolOp .And (a :: b :: rest) pos) (mAnd ta tb) := by
  obtain ⟨t, a1, a2⟩ := ha
  obtain ⟨u, b1, b2⟩ := hb
  refine ⟨_, pw_and a1 b1, fun mp lh ls σ H Q rp rs q => a2 mp lh ls σ H _ rp rs (q.bind fun mp1 H1 lh1 x vx e1 r1 rl1 q1 => ?_)⟩
  cases rl1
  cases x with
  | true => exact iteT (b2 mp1 lh1 ls σ H1 _ r1 (rs.ext e1) q1)
  | false => exact iteF (q1.now r1 rfl)
theorem rw_or (ha : RT X W a ta) (hb : RW X W (.BoolOp .Or (b :: rest) pos) tb) : RW X W (.BoolOp .Or (a :: b :: rest) pos) (mOr ta tb) := by
  obtain ⟨t, a1, a2⟩ := ha
  obtain ⟨u, b1, b2⟩ := hb
  refine ⟨_, pw_or a1 b1, fun mp lh ls σ H Q rp rs q => a2 mp lh ls σ H _ rp rs (q.bind fun mp1 H1 lh1 x vx e1 r1 rl1 q1 => ?_)⟩
  cases rl1
  cases x with
  | true => exact iteT (q1.now r1 rfl)
  | false => exact iteF (b2 mp1 lh1 ls σ H1 _ r1 (rs.ext e1) q1)
theorem rt_not (ha : RT X W a ta) : RT X W (.UnaryOp .Not a pos) (mNot ta) := by
  obtain ⟨t, a1, a2⟩ := ha
  refine ⟨_, pt_not a1, fun mp lh ls σ H Q rp rs q => a2 mp lh ls σ H _ rp rs (q.bind fun mp1 H1 lh1 x vx e1 r1 rl1 q1 => ?_)⟩
  cases rl1
  exact q1.now r1 rfl
theorem re_one {op} (ha : RE X W a ma) : RE X W (.BoolOp op [a] pos) ma := let ⟨t, a1, a2⟩ := ha; ⟨t, pe_one a1, a2⟩
theorem re_and (ha : RE X W a ma) (hb : RE X W (.BoolOp .And (b :: rest) pos) mb) : RE X W (.BoolOp .And (a :: b :: rest) pos) (mAndV ma mb) := by
  obtain ⟨t, a1, a2⟩ := ha
  obtain ⟨u, b1, b2⟩ := hb
  refine ⟨_, pe_and a1 b1, fun mp lh ls σ H Q rp rs q => a2 mp lh ls σ H _ rp rs (q.bind fun mp1 H1 lh1 x vx e1 r1 rl1 q1 => ?_)⟩
  cases rl1 with
  | bl k =>
    refine ⟨k, rfl, ?_⟩
    cases k with
    | true => exact iteT (b2 mp1 lh1 ls σ H1 _ r1 (rs.ext e1) q1)
    | false => exact iteF (q1.now r1 (.bl _))
  | _ => exact q1.elim
theorem re_or (ha : RE X W a ma) (hb : RE X W (.BoolOp .Or (b :: rest) pos) mb) : RE X W (.BoolOp .Or (a :: b :: rest) pos) (mOrV ma mb) := by
  obtain ⟨t, a1, a2⟩ := ha
  obtain ⟨u, b1, b2⟩ := hb
  refine ⟨_, pe_or a1 b1, fun mp lh ls σ H Q rp rs q => a2 mp lh ls σ H _ rp rs (q.bind fun mp1 H1 lh1 x vx e1 r1 rl1 q1 => ?_)⟩
  cases rl1 with
  | bl k =>
    refine ⟨k, rfl, ?_⟩
    cases k with
    | true => exact iteT (q1.now r1 (.bl _))
    | false => exact iteF (b2 mp1 lh1 ls σ H1 _ r1 (rs.ext e1) q1)
  | _ => exact q1.elim
theorem re_not (ha : RE X W a ma) : RE X W (.UnaryOp .Not a pos) (mNotV ma) := by
  obtain ⟨t, a1, a2⟩ := ha
  refine ⟨_, pe_not a1, fun mp lh ls σ H Q rp rs q => a2 mp lh ls σ H _ rp rs (q.bind fun mp1 H1 lh1 x vx e1 r1 rl1 q1 => ?_)⟩
  cases rl1 with
  | bl k => exact ⟨k, rfl, q1.now r1 (.bl _)⟩
  | _ => exact q1.elim
theorem re_if (hc : RT X W c ta) (ha : RE X W a ma) (hb : RE X W b mb) : RE X W (.IfExp c a b pos) (mIf ta ma mb) := by
  obtain ⟨t, c1, c2⟩ := hc
  obtain ⟨u, a1, a2⟩ := ha
  obtain ⟨v, b1, b2⟩ := hb
  refine ⟨_, pe_ifExp c1 a1 b1, fun mp lh ls σ H Q rp rs q => c2 mp lh ls σ H _ rp rs (q.bind fun mp1 H1 lh1 x vx e1 r1 rl1 q1 => ?_)⟩
  cases rl1
  cases x with
  | true => exact iteT (a2 mp1 lh1 ls σ H1 _ r1 (rs.ext e1) q1)
  | false => exact iteF (b2 mp1 lh1 ls σ H1 _ r1 (rs.ext e1) q1)
end
def mNil : AM := fun _ h => .ok [] h
def mCons (a : EM) (r : AM) : AM := fun ls h => (a ls h).bind fun x h1 => (r ls h1).bind fun xs h2 => .ok (x :: xs) h2
def szOk (n : Nat) : Bool := Nat.ble n 16777216
def mTup (r : AM) : EM := fun ls h => (r ls h).bind fun xs h1 => if szOk xs.length = true then .ok (.tup xs) h1 else .bad
def mLst (r : AM) : EM := fun ls h => (r ls h).bind fun xs h1 => if szOk xs.length = true then .ok (.ref h1.length) (h1 ++ [.lst xs]) else .bad
theorem szOk_le {n : Nat} (h : szOk n = true) : n ≤ sizeLine := by
  have : n ≤ 16777216 := Nat.le_of_ble_eq_true h
  exact this
theorem mCons_len {me : EM} {ma : AM} {n : Nat} (h : ∀ ls h ds h', ma ls h = .ok ds h' → ds.length = n) : ∀ ls h ds h', mCons me ma ls h = .ok ds h' → ds.length = n + 1 := fun ls hh ds h' e => by
  unfold mCons at e
  cases h1 : me ls hh with
  | ok x g1 =>
    rw [h1] at e
    change (ma ls g1).bind _ = _ at e
    cases h2 : ma ls g1 with
    | ok xs g2 => rw [h2] at e; cases e; simp [h ls g1 xs _ h2]
    | ex x g => rw [h2] at e; cases e
    | bad => rw [h2] at e; cases e
  | ex x g => rw [h1] at e; cases e
  | bad => rw [h1] at e; cases e
section
variable {X : Cx} {W : WX} {e : Expr} {es : List Expr} {me : EM} {ma : AM} {pos : Pos}
theorem ra_nil : RA X W [] mNil := ⟨_, pa_nil, fun _ _ _ _ _ _ r _ q => q.now r .nil, fun ls h ds h' e => by cases e; rfl⟩
theorem ra_cons (he : RE X W e me) (hr : RA X W es ma) (hs : starEach (e :: es) X.env = (false, eval e X.env) :: starEach es X.env := by rfl) : RA X W (e :: es) (mCons me ma) := by
  obtain ⟨t, a1, a2⟩ := he
  obtain ⟨u, b1, b2, b3⟩ := hr
  refine ⟨_, pa_cons a1 b1 hs, fun mp lh ls σ H Q rp rs q => a2 mp lh ls σ H _ rp rs (q.bind fun mp1 H1 lh1 x vx e1 r1 rl1 q1 => b2 mp1 lh1 ls σ H1 _ r1 (rs.ext e1) (q1.bind fun mp2 H2 lh2 xs vs e2 r2 rl2 q2 => q2.now r2 (.cons (rl1.ext e2) rl2))), mCons_len b3⟩
theorem re_tup {x1} (h : RA X W es ma) : RE X W (.Tuple es x1 pos) (mTup ma) := by
  obtain ⟨t, a1, a2, _⟩ := h
  refine ⟨_, pe_tup a1, fun mp lh ls σ H Q rp rs q => a2 mp lh ls σ H _ rp rs (q.bind fun mp1 H1 lh1 xs vs e1 r1 rl1 q1 => ?_)⟩
  cases hz : szOk xs.length with
  | false => rw [hz] at q1; exact q1.elim
  | true =>
    rw [hz] at q1
    refine ⟨by rw [← rl1.length]; exact szOk_le hz, fun p hp => q1 mp1 _ _ (.free hp) (r1.free hp) (.tup (.inl upd_same) (rl1.ext (.free hp)))⟩
theorem re_lst (h : RA X W es ma) : RE X W (.List es pos) (mLst ma) := by
  obtain ⟨t, a1, a2, _⟩ := h
  refine ⟨_, pe_lst a1, fun mp lh ls σ H Q rp rs q => a2 mp lh ls σ H _ rp rs (q.bind fun mp1 H1 lh1 xs vs e1 r1 rl1 q1 => ?_)⟩
  cases hz : szOk xs.length with
  | false => rw [hz] at q1; exact q1.elim
  | true =>
    rw [hz] at q1
    refine ⟨by rw [← rl1.length]; exact szOk_le hz, fun p hp => q1 (mp1 ++ [p]) _ _ (.alloc r1 hp) (r1.alloc hp ⟨vs, upd_same, rl1.ext (.alloc r1 hp)⟩) (.ref ?_)⟩
    rw [← r1.len]; simp
end
end Rf
set_option Elab.async false
set_option linter.all false
set_option maxRecDepth 100000
set_option maxHeartbeats 4000000
set_option autoImplicit false
namespace Rf
open PySem PySem.Spec L2
def PostS (K : PySem.W.Frag) (mp : List Addr) (H : Hp) (r : SR) (De : Ends) (W : WX) : Prop :=
  match r with
  | .nx ls lh => ∀ mp' H' σ, Ext K mp H mp' H' → Rep K mp' lh H' → RelS K mp' H' ls σ → De.nx σ H'
  | .rt d lh => ∀ mp' H' v, Ext K mp H mp' H' → Rep K mp' lh H' → RelD K mp' H' d v → De.rt v H'
  | .bk ls lh => ∀ mp' H' σ, Ext K mp H mp' H' → Rep K mp' lh H' → RelS K mp' H' ls σ → De.bk σ H'
  | .ct ls lh => ∀ mp' H' σ, Ext K mp H mp' H' → Rep K mp' lh H' → RelS K mp' H' ls σ → De.ct σ H'
  | .ex x ls lh => ∀ mp' H' σ c dd, Ext K mp H mp' H' → Rep K mp' lh H' → RelS K mp' H' ls σ → RelX K mp' H' x c dd → W c dd σ H'
  | .bad => False
def RefS (K : PySem.W.Frag) (W : WX) (t : TS) (m : SM) : Prop := ∀ mp lh ls σ H De, Rep K mp lh H → RelS K mp H ls σ → PostS K mp H (m ls lh) De W → t De σ H
def RS (X : Cx) (W : WX) (st : Stmt) (m : SM) : Prop := ∃ t, PS X st t ∧ RefS X.K W t m
def RSs (X : Cx) (W : WX) (sts : List Stmt) (m : SM) : Prop := ∃ t, PSs X sts t ∧ RefS X.K W t m
def liftE {α : Type} (r : R α) (ls : Ls) (f : α → LH → SR) : SR := match r with
  | .ok a h => f a h
  | .ex x h => .ex x ls h
  | .bad => .bad
section
variable {K : PySem.W.Frag} {W : WX} {mp mp' : List Addr} {H H' : Hp} {De : Ends} {ls : Ls} {σ : L2.St}
theorem PostS.ext {r : SR} (h : PostS K mp H r De W) (e : Ext K mp H mp' H') : PostS K mp' H' r De W := by
  cases r with
  | nx ls lh => exact fun m2 H2 v e2 => h m2 H2 v (e.trans e2)
  | rt ls lh => exact fun m2 H2 v e2 => h m2 H2 v (e.trans e2)
  | bk ls lh => exact fun m2 H2 v e2 => h m2 H2 v (e.trans e2)
  | ct ls lh => exact fun m2 H2 v e2 => h m2 H2 v (e.trans e2)
  | ex x ls lh => exact fun m2 H2 v c dd e2 => h m2 H2 v c dd (e.trans e2)
  | bad => exact h
theorem PostS.lift {α β : Type} {Rl : List Addr → Hp → α → β → Prop} {r : R α} {f : α → LH → SR} {Q1 : β → Hp → Prop} (h : PostS K mp H (liftE r ls f) De W) (rs : RelS K mp H ls σ)
    (k : ∀ mp1 H1 lh1 d v, Ext K mp H mp1 H1 → Rep K mp1 lh1 H1 → Rl mp1 H1 d v → PostS K mp1 H1 (f d lh1) De W → Q1 v H1) : PostG K Rl mp H r Q1 (WE W σ) := by
  cases r with
  | ok d lh => exact fun m1 H1 v e1 r1 rl => k m1 H1 lh d v e1 r1 rl (PostS.ext h e1)
  | ex x lh => exact fun m1 H1 c dd e1 r1 rx => h m1 H1 σ c dd e1 r1 (rs.ext e1) rx
  | bad => exact h
theorem RelS.set {i : Nat} {d : D} {v : V} (rs : RelS K mp H ls σ) (r : RelD K mp H d v) : RelS K mp H (ls.set i (some d)) (σ.set i (some v)) := by
  refine ⟨by simp [rs.1], fun j e h => ?_⟩
  by_cases ij : i = j
  · subst ij
    have hl : i < ls.length := by
      have := (List.getElem?_eq_some_iff.mp h).1
      simpa using this
    rw [List.getElem?_set_self hl] at h
    cases h
    exact ⟨v, List.getElem?_set_self (by rw [← rs.1]; exact hl), r.f⟩
  · rw [List.getElem?_set_ne ij] at h ⊢
    exact rs.2 j e h
theorem RelS.unset {i : Nat} (rs : RelS K mp H ls σ) : RelS K mp H (ls.set i none) (σ.set i none) := by
  refine ⟨by simp [rs.1], fun j e h => ?_⟩
  by_cases ij : i = j
  · subst ij
    have hl : i < ls.length := by
      have := (List.getElem?_eq_some_iff.mp h).1
      simpa using this
    rw [List.getElem?_set_self hl] at h
    cases h
  · rw [List.getElem?_set_ne ij] at h ⊢
    exact rs.2 j e h
end
def mNext : SM := fun ls h => .nx ls h
def mBreak : SM := fun ls h => .bk ls h
def mCont : SM := fun ls h => .ct ls h
def mSeq (a b : SM) : SM := fun ls h => match a ls h with
  | .nx ls' h' => b ls' h'
  | r => r
def mIfS (c : TM) (a b : SM) : SM := fun ls h => liftE (c ls h) ls fun k h1 => if k = true then a ls h1 else b ls h1
def mRet (e : EM) : SM := fun ls h => liftE (e ls h) ls fun d h1 => .rt d h1
def mRetN : SM := fun _ h => .rt .non h
def mDrop (e : EM) : SM := fun ls h => liftE (e ls h) ls fun _ h1 => .nx ls h1
def mSet (i : Nat) (e : EM) : SM := fun ls h => liftE (e ls h) ls fun d h1 => .nx (ls.set i (some d)) h1
section
variable {X : Cx} {W : WX} {st : Stmt} {rest sa sb : List Stmt} {a b : SM} {e c : Expr} {me : EM} {mc : TM} {pos : Pos}
theorem rss_nil : RSs X W [] mNext := ⟨_, pss_nil, fun mp lh ls σ H De r rs q => q mp H σ .refl r rs⟩
theorem rss_one (h : RS X W st a) : RSs X W [st] a := let ⟨t, a1, a2⟩ := h; ⟨t, pss_one a1, a2⟩
theorem rss_cons (h1 : RS X W st a) (h2 : RSs X W rest b) : RSs X W (st :: rest) (mSeq a b) := by
  obtain ⟨t, a1, a2⟩ := h1
  obtain ⟨u, b1, b2⟩ := h2
  refine ⟨_, pss_cons a1 b1, fun mp lh ls σ H De r rs q => a2 mp lh ls σ H _ r rs ?_⟩
  unfold mSeq at q
  cases hr : a ls lh with
  | nx ls' lh' => rw [hr] at q; exact fun m1 H1 σ1 e1 r1 rs1 => b2 m1 lh' ls' σ1 H1 De r1 rs1 (PostS.ext q e1)
  | rt d lh' => rw [hr] at q; exact q
  | bk ls' lh' => rw [hr] at q; exact q
  | ct ls' lh' => rw [hr] at q; exact q
  | ex x ls' lh' => rw [hr] at q; exact q
  | bad => rw [hr] at q; exact q
theorem rs_if (hc : RT X W c mc) (ha : RSs X W sa a) (hb : RSs X W sb b) : RS X W (.If c sa sb pos) (mIfS mc a b) := by
  obtain ⟨t, c1, c2⟩ := hc
  obtain ⟨u, a1, a2⟩ := ha
  obtain ⟨v, b1, b2⟩ := hb
  refine ⟨_, ps_if c1 a1 b1, fun mp lh ls σ H De r rs q => c2 mp lh ls σ H _ r rs (q.lift rs fun mp1 H1 lh1 x vx e1 r1 rl1 q1 => ?_)⟩
  cases rl1
  cases x with
  | true => exact iteT (a2 mp1 lh1 ls σ H1 De r1 (rs.ext e1) q1)
  | false => exact iteF (b2 mp1 lh1 ls σ H1 De r1 (rs.ext e1) q1)
theorem rs_ret (he : RE X W e me) : RS X W (.Return (some e) pos) (mRet me) := by
  obtain ⟨t, a1, a2⟩ := he
  exact ⟨_, ps_ret a1, fun mp lh ls σ H De r rs q => a2 mp lh ls σ H _ r rs (q.lift rs fun mp1 H1 lh1 x vx e1 r1 rl1 q1 => q1 mp1 H1 vx .refl r1 rl1)⟩
theorem rs_expr (he : RE X W e me) (hs : swapsWith e none pos.line X.env = pure false := by rfl) : RS X W (.Expr e pos) (mDrop me) := by
  obtain ⟨t, a1, a2⟩ := he
  exact ⟨_, ps_expr a1 hs, fun mp lh ls σ H De r rs q => a2 mp lh ls σ H _ r rs (q.lift rs fun mp1 H1 lh1 x vx e1 r1 rl1 q1 => q1 mp1 H1 σ .refl r1 (rs.ext e1))⟩
theorem rs_set {i : Nat} {x : Str} {pos' : Pos} (hN : X.N.Nodup) (hi : X.N[i]? = some x) (hx : Loc X.env.scope x) (he : RE X W e me) (hs : swapsWith e (some (.Name x pos')) pos.line X.env = pure false := by rfl)
    (hf : X.fn x = true ∨ X.env.scope.names.lookup x = some .local := by first | exact .inl rfl | exact .inr rfl | assumption) : RS X W (.Assign [.Name x pos'] e pos) (mSet i me) := by
  obtain ⟨t, a1, a2⟩ := he
  exact ⟨_, ps_set hN hi hx a1 hs hf, fun mp lh ls σ H De r rs q => a2 mp lh ls σ H _ r rs (q.lift rs fun mp1 H1 lh1 x vx e1 r1 rl1 q1 => q1 mp1 H1 _ .refl r1 ((rs.ext e1).set rl1))⟩
end
abbrev GM := D → Ls → Option Ls
def RefG (K : PySem.W.Frag) (g : TG) (m : GM) : Prop := ∀ mp lh ls ls' σ H d v Q, Rep K mp lh H → RelS K mp H ls σ → RelD K mp H d v → m d ls = some ls' → (∀ σ', RelS K mp H ls' σ' → Q σ' H) → g v σ H Q
def RG (X : Cx) (e : Expr) (m : GM) : Prop := ∃ g, PG X e g ∧ RefG X.K g m
def gmName (i : Nat) : GM := fun d ls => some (ls.set i (some d))
section
variable {X : Cx} {e : Expr} {es : List Expr} {m : GM} {r : List D → Ls → Option Ls} {pos : Pos}
theorem rg_name {i : Nat} {x : Str} (hN : X.N.Nodup) (hi : X.N[i]? = some x) (hx : Loc X.env.scope x) (hf : X.fn x = true ∨ X.env.scope.names.lookup x = some .local := by first | exact .inl rfl | exact .inr rfl | assumption) : RG X (.Name x pos) (gmName i) :=
  ⟨_, pg_name hN hi hx hf, fun mp lh ls ls' σ H d v Q rp rs rd h q => by cases h; exact q _ (rs.set rd)⟩
end
def mAsg (e : EM) (g : GM) : SM := fun ls h => liftE (e ls h) ls fun d h1 => match g d ls with
  | some ls' => .nx ls' h1
  | none => .bad
section
variable {X : Cx} {W : WX} {tg e : Expr} {me : EM} {m : GM} {pos : Pos}
end
def mWhile : Nat → TM → SM → SM
  | 0, _, _ => fun _ _ => .bad
  | n + 1, c, b => fun ls h => liftE (c ls h) ls fun k h1 => if k = true then (match b ls h1 with
    | .nx ls' h' => mWhile n c b ls' h'
    | .ct ls' h' => mWhile n c b ls' h'
    | .bk ls' h' => .nx ls' h'
    | r => r) else .nx ls h1
section
variable {X : Cx} {W : WX} {c : Expr} {body : List Stmt} {mc : TM} {mb : SM} {pos : Pos}
theorem rs_while (n : Nat) (hp : PassesOwn (model X.prog X.w) X.A X.env X.xe) (hc : RT X W c mc) (hb : RSs X W body mb) : RS X W (.While c body [] pos) (mWhile n mc mb) := by
  obtain ⟨t, c1, c2⟩ := hc
  obtain ⟨u, b1, b2⟩ := hb
  refine ⟨_, ps_while hp c1 b1, fun mp lh ls σ H De r rs q => ?_⟩
  refine ⟨fun n σ H => ∃ mp lh ls, Rep X.K mp lh H ∧ RelS X.K mp H ls σ ∧ PostS X.K mp H (mWhile n mc mb ls lh) De W, ⟨n, mp, lh, ls, r, rs, q⟩, ?_⟩
  rintro k σ H ⟨mp, lh, ls, r, rs, q⟩
  cases k with
  | zero => exact q.elim
  | succ k =>
    unfold mWhile at q
    refine c2 mp lh ls σ H _ r rs (q.lift rs fun mp1 H1 lh1 x vx e1 r1 rl1 q1 => ?_)
    cases rl1
    cases x with
    | false => exact iteF (q1 mp1 H1 σ .refl r1 (rs.ext e1))
    | true =>
      refine iteT ⟨fun σ' H' => ∃ mp lh ls, Rep X.K mp lh H' ∧ RelS X.K mp H' ls σ' ∧ PostS X.K mp H' (mWhile k mc mb ls lh) De W, fun σ' H' z => ⟨k, Nat.lt_succ_self _, z⟩, b2 mp1 lh1 ls σ H1 _ r1 (rs.ext e1) ?_⟩
      rw [if_pos rfl] at q1
      cases hr : mb ls lh1 with
      | nx ls' lh' => rw [hr] at q1; exact fun m2 H2 σ2 e2 r2 rs2 => ⟨m2, lh', ls', r2, rs2, PostS.ext q1 e2⟩
      | ct ls' lh' => rw [hr] at q1; exact fun m2 H2 σ2 e2 r2 rs2 => ⟨m2, lh', ls', r2, rs2, PostS.ext q1 e2⟩
      | bk ls' lh' => rw [hr] at q1; exact q1
      | rt d lh' => rw [hr] at q1; exact q1
      | ex x ls' lh' => rw [hr] at q1; exact q1
      | bad => rw [hr] at q1; exact q1
end
inductive Stp where
  | done | item (d : D) | bad
abbrev LI := Nat → LH → Stp
abbrev IM := Ls → LH → R LI
def RelI (K : PySem.W.Frag) (mp0 : List Addr) (H0 : Hp) (L : LI) (J : It) : Prop := ∀ i mp lh H, Sub K mp0 H0 mp H → Rep K mp lh H → match L i lh with
  | .done => J.stop i H
  | .item d => J.go i H ∧ ∀ x H', J.yld i H x H' → Ext K mp H mp H' ∧ Rep K mp lh H' ∧ RelD K mp H' d x
  | .bad => True
def RefI (K : PySem.W.Frag) (W : WX) (t : TI) (m : IM) : Prop := ∀ mp lh ls σ H Q, Rep K mp lh H → RelS K mp H ls σ → PostG K (RelI K) mp H (m ls lh) Q (WE W σ) → t σ H Q
def RI (X : Cx) (W : WX) (tg iter : Expr) (m : IM) : Prop := ∃ t, PI X tg iter t ∧ RefI X.K W t m
def mForGo (g : GM) (b : SM) (L : LI) : Nat → Nat → SM
  | 0, _ => fun _ _ => .bad
  | n + 1, i => fun ls h => match L i h with
    | .done => .nx ls h
    | .bad => .bad
    | .item d => match g d ls with
      | none => .bad
      | some ls1 => match b ls1 h with
        | .nx ls' h' => mForGo g b L n (i + 1) ls' h'
        | .ct ls' h' => mForGo g b L n (i + 1) ls' h'
        | .bk ls' h' => .nx ls' h'
        | r => r
def mFor (n : Nat) (wi : IM) (g : GM) (b : SM) : SM := fun ls h => liftE (wi ls h) ls fun L h1 => mForGo g b L n 0 ls h1
section
variable {X : Cx} {W : WX} {tg iter : Expr} {body : List Stmt} {wi : IM} {g : GM} {mb : SM} {pos : Pos}
theorem RelI.ext {K : PySem.W.Frag} {mp mp' : List Addr} {H H' : Hp} {L : LI} {J : It} (h : RelI K mp H L J) (e : Ext K mp H mp' H') : RelI K mp' H' L J := fun i m lh H2 e2 r => h i m lh H2 (e.sub.trans e2) r
theorem rs_for (n : Nat) (hp : PassesOwn (model X.prog X.w) X.A X.env X.xe) (hc : X.calm = true) (hi : RI X W tg iter wi) (hg : RG X tg g) (hb : RSs X W body mb)
    (hs : ∀ x, foldedSetIterable iter X.env x = pure x := by intro _; rfl) : RS X W (.For tg iter body [] pos) (mFor n wi g mb) := by
  obtain ⟨ti, i1, i2⟩ := hi
  obtain ⟨tg', g1, g2⟩ := hg
  obtain ⟨u, b1, b2⟩ := hb
  refine ⟨_, ps_for hp hc i1 g1 b1 hs, fun mp lh ls σ H De r rs q => i2 mp lh ls σ H _ r rs (q.lift rs fun mp1 H1 lh1 L J e1 r1 rl1 q1 => ?_)⟩
  refine ⟨fun i k σ H => ∃ mp lh ls, Rep X.K mp lh H ∧ RelS X.K mp H ls σ ∧ RelI X.K mp H L J ∧ PostS X.K mp H (mForGo g mb L k i ls lh) De W, ⟨n, mp1, lh1, ls, r1, rs.ext e1, rl1, q1⟩, ?_⟩
  rintro i k σ H ⟨mp, lh, ls, r, rs, ri, q⟩
  cases k with
  | zero => exact q.elim
  | succ k =>
    unfold mForGo at q
    have rii := ri i mp lh H .refl r
    cases hL : L i lh with
    | done => rw [hL] at rii q; exact .inl ⟨rii, q mp H σ .refl r rs⟩
    | bad => rw [hL] at q; exact q.elim
    | item d =>
      rw [hL] at rii q
      refine .inr ⟨rii.1, fun σ' H' => ∃ mp lh ls, Rep X.K mp lh H' ∧ RelS X.K mp H' ls σ' ∧ RelI X.K mp H' L J ∧ PostS X.K mp H' (mForGo g mb L k (i + 1) ls lh) De W, fun σ' H' z => ⟨k, Nat.lt_succ_self _, z⟩, fun x H' y => ?_⟩
      obtain ⟨e2, r2, rd⟩ := rii.2 x H' y
      cases hg : g d ls with
      | none => simp only [hg] at q; exact q.elim
      | some ls1 =>
        simp only [hg] at q
        refine g2 mp lh ls ls1 σ H' d x _ r2 (rs.ext e2) rd hg fun σ1 rs1 => b2 mp lh ls1 σ1 H' _ r2 rs1 ?_
        have q := PostS.ext q e2
        cases hr : mb ls1 lh with
        | nx ls' lh' => rw [hr] at q; exact fun m3 H3 σ3 e3 r3 rs3 => ⟨m3, lh', ls', r3, rs3, (ri.ext e2).ext e3, PostS.ext q e3⟩
        | ct ls' lh' => rw [hr] at q; exact fun m3 H3 σ3 e3 r3 rs3 => ⟨m3, lh', ls', r3, rs3, (ri.ext e2).ext e3, PostS.ext q e3⟩
        | bk ls' lh' => rw [hr] at q; exact q
        | rt d lh' => rw [hr] at q; exact q
        | ex x ls' lh' => rw [hr] at q; exact q
        | bad => rw [hr] at q; exact q
end
def liSeq (xs : List D) : LI := fun i _ => match xs[i]? with
  | some d => .item d
  | none => .done
def liList (n : Nat) : LI := fun i h => match h[n]? with
  | some (.lst xs) => liSeq xs i h
  | _ => .bad
def liRange (lo : Int) (n : Nat) : LI := fun i _ => if i < n then .item (.int (lo + i)) else .done
def liStr (l : List Nat) : LI := fun i _ => match l[i]? with
  | some c => .item (.str [c])
  | none => .done
def imSeq (e : EM) : IM := fun ls h => (e ls h).bind fun d h1 => match d with
  | .ref n => (match h1[n]? with
    | some (.lst _) => .ok (liList n) h1
    | _ => .bad)
  | _ => .bad
def imTup (e : EM) : IM := fun ls h => (e ls h).bind fun d h1 => match d with
  | .tup xs => .ok (liSeq xs) h1
  | .ktp xs => .ok (liSeq xs) h1
  | _ => .bad
def imStr (e : EM) : IM := fun ls h => (e ls h).bind fun d h1 => match d with
  | .str l => .ok (liStr l) h1
  | _ => .bad
def rgOk (i : Int) : Bool := decide (-(2 ^ 62) ≤ i) && decide (i < 2 ^ 62)
def imRange1 (a : AM) : IM := fun ls h => (a ls h).bind fun ds h1 => match ds with
  | [.int j] => if rgOk j = true then .ok (liRange 0 j.toNat) h1 else .bad
  | _ => .bad
def imRange2 (a : AM) : IM := fun ls h => (a ls h).bind fun ds h1 => match ds with
  | [.int i, .int j] => if (rgOk i && rgOk j) = true then .ok (liRange i (j - i).toNat) h1 else .bad
  | _ => .bad
theorem rgOk_of {i : Int} (h : rgOk i = true) : -(2 ^ 62) ≤ i ∧ i < 2 ^ 62 := by
  unfold rgOk at h
  rw [Bool.and_eq_true] at h
  exact ⟨of_decide_eq_true h.1, of_decide_eq_true h.2⟩
section
variable {X : Cx} {W : WX} {tg l : Expr} {me : EM} {ma : AM} {pos : Pos}
theorem relI_list {K : PySem.W.Frag} {mp : List Addr} {H : Hp} {n : Nat} {a : Addr} (ha : mp[n]? = some a) : RelI K mp H (liList n) (Itl K a) := fun i m lh H1 e r => by
  have ha1 := e.get ha
  unfold liList
  have key : ∀ xs vs, SqL K H1 a vs → RelDs K m H1 xs vs → match liSeq xs i lh with
      | .done => (Itl K a).stop i H1
      | .item d => (Itl K a).go i H1 ∧ ∀ x H', (Itl K a).yld i H1 x H' → Ext K m H1 m H' ∧ Rep K m lh H' ∧ RelD K m H' d x
      | .bad => True := fun xs vs hv rd => by
    unfold liSeq
    cases hx : xs[i]? with
    | none =>
      refine ⟨vs, hv, ?_⟩
      have := List.getElem?_eq_none_iff.mp hx
      rw [← rd.length]; exact this
    | some d =>
      obtain ⟨v, hvi, rv⟩ := rd.get hx
      refine ⟨⟨vs, v, hv, hvi⟩, fun x H' y => ?_⟩
      obtain ⟨rfl, y2⟩ := y
      have := y2 vs hv
      rw [hvi] at this; cases this
      exact ⟨.refl, r, rv⟩
  cases hn : lh[n]? with
  | none => trivial
  | some o =>
    have ro := r.obj n o a hn ha1
    cases o with
    | lst xs =>
      obtain ⟨vs, hv, rd⟩ := ro
      exact key xs vs (SqL.of hv) rd
    | _ => trivial
theorem ri_list (he : RE X W l me) : RI X W tg l (imSeq me) := by
  obtain ⟨t, a1, a2⟩ := he
  refine ⟨_, pi_list a1, fun mp lh ls σ H Q r rs q => a2 mp lh ls σ H _ r rs (q.bind fun mp1 H1 lh1 d v e1 r1 rl1 q1 => ?_)⟩
  cases rl1 with
  | @ref n a ha =>
    cases hn : lh1[n]? with
    | none => simp only [hn] at q1; exact q1.elim
    | some o =>
      have ro := r1.obj n o a hn ha
      cases o with
      | lst xs =>
        obtain ⟨vs, hv, rd⟩ := ro
        simp only [hn] at q1
        exact ⟨a, rfl, ⟨vs, SqL.of hv⟩, q1.now r1 (relI_list ha)⟩
      | _ => simp only [hn] at q1; exact q1.elim
  | _ => exact q1.elim
theorem ri_tup (he : RE X W l me) : RI X W tg l (imTup me) := by
  obtain ⟨t, a1, a2⟩ := he
  refine ⟨_, pi_tup a1, fun mp lh ls σ H Q r rs q => a2 mp lh ls σ H _ r rs (q.bind fun mp1 H1 lh1 d v e1 r1 rl1 q1 => ?_)⟩
  have fin : ∀ (ds : List D) (a : Addr) (vs : List V), SqT X.K H1 a vs → RelDs X.K mp1 H1 ds vs → PostG X.K (RelI X.K) mp1 H1 (.ok (liSeq ds) lh1) Q (WE W σ) → ∃ (a' : Addr), V.ref a = V.ref a' ∧ (∃ xs, SqT X.K H1 a' xs) ∧ Q (Itt X.K a') H1 := fun ds a vs hv rd q1 => by
    refine ⟨a, rfl, ⟨vs, hv⟩, q1.now r1 fun i m lh H2 e2 r2 => ?_⟩
    unfold liSeq
    cases hx : ds[i]? with
    | none =>
      refine ⟨vs, e2.sqt _ _ hv, ?_⟩
      have := List.getElem?_eq_none_iff.mp hx
      rw [← rd.length]; exact this
    | some d =>
      obtain ⟨v, hvi, rv⟩ := rd.get hx
      refine ⟨⟨vs, v, e2.sqt _ _ hv, hvi⟩, fun x H' y => ?_⟩
      obtain ⟨rfl, y2⟩ := y
      have := y2 vs (e2.sqt _ _ hv)
      rw [hvi] at this; cases this
      exact ⟨.refl, r2, rv.sub e2⟩
  cases rl1 with
  | @tup ds a vs hv rd => exact fin ds a vs hv.sq rd q1
  | @ktp ds a vs hv rd => exact fin ds a vs hv.sq rd q1
  | _ => exact q1.elim
theorem ri_str (he : RE X W l me) : RI X W tg l (imStr me) := by
  obtain ⟨t, a1, a2⟩ := he
  refine ⟨_, pi_str a1, fun mp lh ls σ H Q r rs q => a2 mp lh ls σ H _ r rs (q.bind fun mp1 H1 lh1 d v e1 r1 rl1 q1 => ?_)⟩
  cases rl1 with
  | str l =>
    refine ⟨_, rfl, q1.now r1 fun i m lh H2 e2 r2 => ?_⟩
    unfold liStr
    cases hx : l[i]? with
    | none =>
      have := List.getElem?_eq_none_iff.mp hx
      show l.toArray.size ≤ i
      simpa using this
    | some c =>
      have hl := (List.getElem?_eq_some_iff.mp hx).1
      refine ⟨by show i < l.toArray.size; simpa using hl, fun x H' y => ?_⟩
      obtain ⟨rfl, c', hc', rfl⟩ := y
      have : c' = c := by
        have h2 : l[i]? = some c' := by simpa using hc'
        rw [hx] at h2; cases h2; rfl
      subst this
      exact ⟨.refl, r2, .str [c']⟩
  | _ => exact q1.elim
theorem relI_range {K : PySem.W.Frag} {mp : List Addr} {H : Hp} {lo : Int} {n : Nat} : RelI K mp H (liRange lo n) (Itr lo n) := fun i m lh H1 e r => by
  unfold liRange
  by_cases h : i < n
  · rw [if_pos h]
    refine ⟨h, fun x H' y => ?_⟩
    obtain ⟨rfl, rfl⟩ := y
    exact ⟨.refl, r, .int _⟩
  · rw [if_neg h]
    exact Nat.le_of_not_lt h
theorem ri_range1 {a : Expr} {p : Pos} (hg : Gl X "range") (hm : X.mg "range" = none) (ha : RA X W [a] ma) (hs : starEach [a] X.env = [(false, eval a X.env)] := by rfl) : RI X W tg (.Call (.Name "range" p) [a] [] pos) (imRange1 ma) := by
  obtain ⟨t, a1, a2, _⟩ := ha
  refine ⟨_, pi_range1 hg hm a1 hs, fun mp lh ls σ H Q r rs q => a2 mp lh ls σ H _ r rs (q.bind fun mp1 H1 lh1 ds vs e1 r1 rl1 q1 => ?_)⟩
  cases rl1 with
  | nil => exact q1.elim
  | cons h1 h2 =>
    cases h2 with
    | cons _ _ => cases h1 <;> exact q1.elim
    | nil =>
      cases h1 with
      | int j =>
        cases hj : rgOk j with
        | false => simp only [hj] at q1; exact q1.elim
        | true =>
          simp only [hj] at q1
          exact ⟨j, rfl, (rgOk_of hj).1, (rgOk_of hj).2, q1.now r1 relI_range⟩
      | _ => exact q1.elim
theorem ri_range2 {a b : Expr} {p : Pos} (hg : Gl X "range") (hm : X.mg "range" = none) (ha : RA X W [a, b] ma) (hs : starEach [a, b] X.env = [(false, eval a X.env), (false, eval b X.env)] := by rfl) (hs2 : starEach [b] X.env = [(false, eval b X.env)] := by rfl) :
    RI X W tg (.Call (.Name "range" p) [a, b] [] pos) (imRange2 ma) := by
  obtain ⟨t, a1, a2, _⟩ := ha
  refine ⟨_, pi_range2 hg hm a1 hs hs2, fun mp lh ls σ H Q r rs q => a2 mp lh ls σ H _ r rs (q.bind fun mp1 H1 lh1 ds vs e1 r1 rl1 q1 => ?_)⟩
  cases rl1 with
  | nil => exact q1.elim
  | cons h1 h2 =>
    cases h2 with
    | nil => cases h1 <;> exact q1.elim
    | cons h2 h3 =>
      cases h1 with
      | int i =>
        cases h2 with
        | int j =>
          cases h3 with
          | cons _ _ => exact q1.elim
          | nil =>
            cases hj : (rgOk i && rgOk j) with
            | false => simp only [hj] at q1; exact q1.elim
            | true =>
              simp only [hj] at q1
              rw [Bool.and_eq_true] at hj
              exact ⟨i, j, rfl, ⟨(rgOk_of hj.1).1, (rgOk_of hj.1).2, (rgOk_of hj.2).1, (rgOk_of hj.2).2⟩, q1.now r1 relI_range⟩
        | _ => exact q1.elim
      | _ => cases h2 <;> exact q1.elim
end
end Rf
set_option Elab.async false
set_option linter.all false
set_option maxRecDepth 100000
set_option maxHeartbeats 4000000
set_option autoImplicit false
namespace Rf
open PySem PySem.Spec L2
def spOf (K : PySem.W.Frag) (n : Nat) (m : FM) : Sp := fun vs H Q E => ∃ mp lh ds, Rep K mp lh H ∧ RelDs K mp H ds vs ∧ ds.length = n ∧ Post K mp H (m ds lh) Q E
def FnRef (P : Program) (w : World) (K : PySem.W.Frag) (mg : Str → Option Value) (base : Heap) (k : Nat) (f : Addr) (fd : FuncData) (ps : List Str) (m : FM) : Prop := FnOk P w K mg base (L2.CX P w) k f fd ps (spOf K ps.length m)
def fin : SR → R D
  | .nx _ h => .ok .non h
  | .rt d h => .ok d h
  | .ex x _ h => .ex x h
  | _ => .bad
def fm (n : Nat) (b : SM) : FM := fun ds h => fin (b (ds.map some ++ List.replicate (n - ds.length) none) h)
section
variable {P : Program} {w : World} {K : PySem.W.Frag} {mg : Str → Option Value} {base : Heap} {x qual : Str} {params : Arguments} {body : List Stmt} {scope : Scope} {dvs : List V} {kws : List (Str × V)} {f : Addr} {fd : FuncData} {N ps : List Str} {k : Nat} {b : SM} {m : FM}
theorem relS_start {mp : List Addr} {H : Hp} {ds : List D} {vs : List V} (r : RelDs K mp H ds vs) : RelS K mp H (ds.map some ++ List.replicate (N.length - ds.length) none) (L2.start N vs) := by
  unfold L2.start
  refine ⟨by simp [r.length], fun i d h => ?_⟩
  by_cases hi : i < ds.length
  · rw [List.getElem?_append_left (by simpa using hi), List.getElem?_map] at h
    cases e : ds[i]? with
    | none => rw [e] at h; cases h
    | some d' =>
      rw [e] at h; cases h
      obtain ⟨v, hv, rv⟩ := r.get e
      refine ⟨v, ?_, rv.f⟩
      rw [List.getElem?_append_left (by rw [List.length_map, ← r.length]; exact hi), List.getElem?_map, hv]; rfl
  · rw [List.getElem?_append_right (by simpa using hi), List.getElem?_replicate] at h
    split at h <;> cases h
theorem fnref (F : FunD K x qual params body scope dvs kws f fd) (S : FnScope N ps scope)
    (hb : ∀ (cdv : Value) (A : Around) (outer : List Env) (s : Shared) (H : Hp) (E : XK), Room k (A.deeper (PyProof.Rows.envOfC qual scope s.heap.objs.size f cdv)) →
      RSs (cxOf (L2.CX P w) P w K mg base N qual scope f cdv A outer s H E) (fun c d _ H' => E c d H') body b) : FnRef P w K mg base (k + 1) f fd ps (fm N.length b) := by
  refine F.ok S (fun vs H Q E h => ?_) fun cdv A outer s H vs Q E hr h => ?_
  · obtain ⟨mp, lh, ds, rp, rd, hl, _⟩ := h
    rw [← rd.length]; exact hl
  · obtain ⟨mp, lh, ds, rp, rd, hl, q⟩ := h
    obtain ⟨t, h1, h2⟩ := hb cdv A outer s H E hr
    refine ⟨t, h1, h2 mp lh _ _ H _ rp (relS_start rd) ?_⟩
    unfold fm at q
    cases hr : b (ds.map some ++ List.replicate (N.length - ds.length) none) lh with
    | nx ls' lh' => rw [hr] at q; exact fun m1 H1 σ1 e1 r1 rs1 => q m1 H1 _ e1 r1 .non
    | rt d lh' => rw [hr] at q; exact q
    | ex x ls' lh' => rw [hr] at q; exact fun m1 H1 σ1 c dd e1 r1 rs1 rx => q m1 H1 c dd e1 r1 rx
    | bk ls' lh' => rw [hr] at q; exact q.elim
    | ct ls' lh' => rw [hr] at q; exact q.elim
    | bad => rw [hr] at q; exact q.elim
theorem FnRef.mono {j : Nat} (F : FnRef P w K mg base j f fd ps m) (h : j ≤ k) : FnRef P w K mg base k f fd ps m := FnOk.mono F h
theorem FnRef.eq {m' : FM} (F : FnRef P w K mg base k f fd ps m) (h : ∀ ds lh, m' ds lh = .bad ∨ m' ds lh = m ds lh) : FnRef P w K mg base k f fd ps m' := FnOk.imp F fun vs H Q E ⟨mp, lh, ds, rp, rd, hl, q⟩ => by
  rcases h ds lh with e | e
  · rw [e] at q; exact q.elim
  · rw [e] at q; exact ⟨mp, lh, ds, rp, rd, hl, q⟩
end
structure BindD (K : PySem.W.Frag) (fd : FuncData) (ps : List Str) (n : Nat) (ks : List Str) (gd : List D → List D → List D) : Prop where
  ex : ∃ (g : List Value → List Value → List Value) (gV : List V → List V → List V),
    (∀ (s : Shared) (us ws : List Value), K.In s.heap → us.length = n → ws.length = ks.length → BindsTo s fd ⟨us, ks.zip ws⟩ (ps.zip (g us ws))) ∧
    (∀ vs us zs ws, Vals vs us → Vals zs ws → Vals (gV vs zs) (g us ws)) ∧
    (∀ mp H ds vs es zs, ds.length = n → es.length = ks.length → RelDs K mp H ds vs → RelDs K mp H es zs → RelDs K mp H (gd ds es) (gV vs zs) ∧ (gd ds es).length = ps.length)
theorem bindD_all {K : PySem.W.Frag} {fd : FuncData} {ps : List Str} (b : Binds K fd ps []) : BindD K fd ps ps.length [] fun ds _ => ds :=
  ⟨fun us _ => us, fun vs _ => vs, fun s us ws hk hl _ => by
    have := b s us hk (by rw [List.append_nil]; exact hl)
    rw [List.append_nil] at this
    exact this, fun vs us zs ws r _ => r, fun mp H ds vs es zs hl _ r _ => ⟨r, hl⟩⟩
def RK (X : Cx) (W : WX) (kws : List Keyword) (m : AM) : Prop := ∃ t, PK X kws t ∧ RefA X.K W t m ∧ ∀ ls h ds h', m ls h = .ok ds h' → ds.length = kws.length
def mCall (m : FM) (ma : AM) : EM := fun ls h => (ma ls h).bind fun ds h1 => m ds h1
def mCallK (gd : List D → List D → List D) (m : FM) (ma mk : AM) : EM := fun ls h => (ma ls h).bind fun ds h1 => (mk ls h1).bind fun es h2 => m (gd ds es) h2
section
variable {X : Cx} {W : WX} {k n : Nat} {f C : Addr} {fd : FuncData} {ps ks : List Str} {sp : Sp} {x m : Str} {p pos apos : Pos} {e o : Expr} {es : List Expr} {kws : List Keyword} {nm' : Option Str} {kpos : Pos} {me : EM} {ma mk : AM} {gd : List D → List D → List D} {mf : FM}
theorem rk_nil : RK X W [] mNil := ⟨_, pk_nil, fun _ _ _ _ _ _ r _ q => q.now r .nil, fun ls h ds h' e => by cases e; rfl⟩
theorem rk_cons (he : RE X W e me) (hr : RK X W kws ma) : RK X W (⟨nm', e, kpos⟩ :: kws) (mCons me ma) := by
  obtain ⟨t, a1, a2⟩ := he
  obtain ⟨u, b1, b2, b3⟩ := hr
  exact ⟨_, pk_cons a1 b1, fun mp lh ls σ H Q rp rs q => a2 mp lh ls σ H _ rp rs (q.bind fun mp1 H1 lh1 x vx e1 r1 rl1 q1 => b2 mp1 lh1 ls σ H1 _ r1 (rs.ext e1) (q1.bind fun mp2 H2 lh2 xs vs e2 r2 rl2 q2 => q2.now r2 (.cons (rl1.ext e2) rl2))), mCons_len b3⟩
theorem run_fnW {pins : List (Addr × Obj)} {σ : L2.St} {H : Hp} {s : Shared} {Q : VK} {us all : List Value} {kw : List (Str × Value)} {vs : List V} (F : FnOk X.prog X.w X.K X.mg X.base (L2.CX X.prog X.w) k f fd ps sp) (hr : Room k X.A) (tk : Takes X W)
    (I : Inv X pins σ H s) (hb : BindsTo s fd ⟨us, kw⟩ (ps.zip all)) (r : Vals vs all) (h : sp vs H Q (WE W σ)) : wpAny (model X.prog X.w) X.A (call (.ref f) us kw) (EP X pins σ Q) X.xe s := by
  refine wpAny_call (codeAny_mono (F.run X.A X.stack s H ⟨us, kw⟩ all vs Q (WE W σ) hr I.env0 hb r h) fun r s' hq => ?_)
  cases r with
  | error e => exact passAt tk σ pins H s e s' I hq
  | ok fl =>
    cases fl with
    | ret u => exact I.after hq
    | next => exact False.elim hq
    | brk => exact False.elim hq
    | cont => exact False.elim hq
theorem pe_callW {t tk : TA} {g : List Value → List Value → List Value} {gV : List V → List V → List V} (F : FnOk X.prog X.w X.K X.mg X.base (L2.CX X.prog X.w) k f fd ps sp) (hr : Room k X.A) (hg : Gl X x) (hm : X.mg x = some (.ref f)) (hk : PySem.W.keepIn X.K (.ref f) = true) (tkx : Takes X W)
    (hto : ∀ (s : Shared) (us ws : List Value), X.K.In s.heap → us.length = n → ws.length = ks.length → BindsTo s fd ⟨us, ks.zip ws⟩ (ps.zip (g us ws))) (hrel : ∀ vs us zs ws, Vals vs us → Vals zs ws → Vals (gV vs zs) (g us ws))
    (ha : PA X (e :: es) t) (hkw : PK X kws tk) (hall : (backToKw pos (keywordEach kws X.env)).all (·.1.isSome) = true) (hks : (backToKw pos (keywordEach kws X.env)).filterMap (·.1) = ks)
    (hdb : (x == ("__debug__" : Str)) = false) (he : starEach (e :: es) X.env = (false, eval e X.env) :: starEach es X.env)
    (hpl : ((backTo pos (starEach (e :: es) X.env)).any (·.1) || (backToKw pos (keywordEach kws X.env)).any (·.1.isNone)) = false) :
    PE X (.Call (.Name x p) (e :: es) kws pos) (fun σ H Q => t σ H fun vs H1 => tk σ H1 fun zs H2 => vs.length = n ∧ zs.length = ks.length ∧ sp (gV vs zs) H2 Q (WE W σ)) := by
  refine ⟨fun pins s σ H Q I h => ?_⟩
  refine wpAny_Call_Name_kw (ld_glob I hg hm ?_ hdb)
  refine PySem.W.callWith_KW (h₀ := X.base) I.ok.mod.kin hk hall (thn (ha.run pos pins s σ H _ I h) fun us s1 ⟨vs, H1, I1, r, q⟩ => ?_) hpl he
  refine thn (hkw.run pos pins s1 σ H1 _ I1 q) fun ws s2 ⟨zs, H2, I2, rz, l1, l2, q2⟩ => ⟨I2.kIn, ?_⟩
  rw [hks]
  exact run_fnW F hr tkx I2 (hto s2 us ws I2.kIn (by rw [← r.length]; exact l1) (by rw [← rz.length]; exact l2)) (hrel _ _ _ _ r rz) q2
theorem re_callK (F : FnRef X.prog X.w X.K X.mg X.base k f fd ps mf) (hr : Room k X.A) (hg : Gl X x) (hm : X.mg x = some (.ref f)) (hk : PySem.W.keepIn X.K (.ref f) = true) (tkx : Takes X W) (hb : BindD X.K fd ps n ks gd)
    (ha : RA X W (e :: es) ma) (hkw : RK X W kws mk) (hn : (e :: es).length = n := by rfl) (hkn : kws.length = ks.length := by rfl) (hall : (backToKw pos (keywordEach kws X.env)).all (·.1.isSome) = true := by rfl) (hks : (backToKw pos (keywordEach kws X.env)).filterMap (·.1) = ks := by rfl)
    (hdb : (x == ("__debug__" : Str)) = false := by decide) (he : starEach (e :: es) X.env = (false, eval e X.env) :: starEach es X.env := by rfl)
    (hpl : ((backTo pos (starEach (e :: es) X.env)).any (·.1) || (backToKw pos (keywordEach kws X.env)).any (·.1.isNone)) = false := by rfl) :
    RE X W (.Call (.Name x p) (e :: es) kws pos) (mCallK gd mf ma mk) := by
  obtain ⟨g, gV, b1, b2, b3⟩ := hb.ex
  obtain ⟨t, a1, a2, a3⟩ := ha
  obtain ⟨u, k1, k2, k3⟩ := hkw
  refine ⟨_, pe_callW F hr hg hm hk tkx b1 b2 a1 k1 hall hks hdb he hpl, fun mp lh ls σ H Q rp rs q => ?_⟩
  unfold mCallK at q
  cases hma : ma ls lh with
  | bad => rw [hma] at q; exact q.elim
  | ex x lh1 => rw [hma] at q; exact a2 mp lh ls σ H _ rp rs (by rw [hma]; exact q)
  | ok ds lh1 =>
    have l1 := a3 _ _ _ _ hma
    rw [hma] at q
    refine a2 mp lh ls σ H _ rp rs (by
      rw [hma]
      intro mp1 H1 vs e1 r1 rl1
      refine k2 mp1 lh1 ls σ H1 _ r1 (rs.ext e1) ?_
      change PostG X.K (RelD X.K) mp H ((mk ls lh1).bind fun es h2 => mf (gd ds es) h2) Q (WE W σ) at q
      have q := PostG.ext q e1
      cases hmk : mk ls lh1 with
      | bad => rw [hmk] at q; exact q.elim
      | ex x lh2 => rw [hmk] at q; exact q
      | ok es' lh2 =>
        have l2 := k3 _ _ _ _ hmk
        rw [hmk] at q
        intro mp2 H2 zs e2 r2 rl2
        have l1' : ds.length = n := l1.trans hn
        have l2' : es'.length = ks.length := l2.trans hkn
        obtain ⟨z1, z2⟩ := b3 mp2 H2 ds vs es' zs l1' l2' (rl1.ext e2) rl2
        exact ⟨by rw [← rl1.length]; exact l1', by rw [← rl2.length]; exact l2', mp2, lh2, gd ds es', r2, z1, z2, PostG.ext q e2⟩)
end
def insOf (c n : Nat) (h : LH) : Bool := match h[n]? with
  | some (.ins c' _) => c' == c
  | _ => false
def mMeth (c : Nat) (m : FM) (mo : EM) (ma : AM) : EM := fun ls h => (mo ls h).bind fun d h1 => match d with
  | .ref n => if insOf c n h1 = true then (ma ls h1).bind fun ds h2 => m (.ref n :: ds) h2 else .bad
  | _ => .bad
def mMake (c : Nat) (gd : List D → List D → List D) (m : FM) (ma mk : AM) : EM := fun ls h => (ma ls h).bind fun ds h1 => (mk ls h1).bind fun es h2 => (m (gd (.ref h2.length :: ds) es) (h2 ++ [.ins c []])).bind fun r h3 => match r with
  | .non => .ok (.ref h2.length) h3
  | _ => .bad
section
variable {X : Cx} {W : WX} {k n c : Nat} {f : Addr} {fd : FuncData} {ps ks : List Str} {sp : Sp} {x m : Str} {p pos apos : Pos} {e o : Expr} {es : List Expr} {kws : List Keyword} {mo : EM} {ma mk : AM} {gd : List D → List D → List D} {mf : FM}
end
end Rf
set_option Elab.async false
set_option linter.all false
set_option maxRecDepth 100000
set_option maxHeartbeats 4000000
set_option autoImplicit false
namespace Rf
open PySem PySem.Spec L2
section
variable {X : Cx} {W : WX} {k n c : Nat} {f : Addr} {fd : FuncData} {ps ks : List Str} {sp : Sp} {x m : Str} {p pos apos : Pos} {e o : Expr} {es : List Expr} {kws : List Keyword} {mo : EM} {ma mk : AM} {gd : List D → List D → List D} {mf : FM}
end
def fldOf (cs : List Nat) (i n : Nat) (h : LH) : Option D := match h[n]? with
  | some (.ins c fs) => if cs.contains c = true then fs.lookup i else none
  | _ => none
def mFld (cs : List Nat) (i : Nat) (mo : EM) : EM := fun ls h => (mo ls h).bind fun d h1 => match d with
  | .ref n => (match fldOf cs i n h1 with
    | some v => .ok v h1
    | none => .bad)
  | _ => .bad
def putN (i : Nat) (d : D) : List (Nat × D) → List (Nat × D)
  | [] => [(i, d)]
  | (j, x) :: r => if j = i then (j, d) :: r else (j, x) :: putN i d r
def setFld (cs : List Nat) (i n : Nat) (d : D) (h : LH) : Option LH := match h[n]? with
  | some (.ins c fs) => if (cs.contains c && Nat.blt fs.length 900) = true then some (h.set n (.ins c (putN i d fs))) else none
  | _ => none
def mSetFld (cs : List Nat) (i : Nat) (mo me : EM) : SM := fun ls h => liftE (me ls h) ls fun d h1 => liftE (mo ls h1) ls fun o h2 => match o with
  | .ref n => (match setFld cs i n d h2 with
    | some h3 => .nx ls h3
    | none => .bad)
  | _ => .bad
section
variable {K : PySem.W.Frag} {mp : List Addr} {H : Hp}
end
theorem paired_len {α β : Type} {F : α → β → Prop} : ∀ {l : List α} {m : List β}, Paired F l m → l.length = m.length
  | _, _, .nil => rfl
  | _, _, .cons _ r => by simp [paired_len r]
section
variable {X : Cx} {W : WX} {o value : Expr} {f : Str} {mo me : EM} {pos pos' tpos : Pos} {cs : List Nat} {i : Nat}
end
def mRaise (c : Nat) : SM := fun ls h => .ex ⟨c, []⟩ ls h
section
variable {X : Cx} {W : WX} {c : Nat} {x m : Str} {j : Nat} {p p2 pos pos2 : Pos}
theorem rs_raise (hc : X.calm = true) (tkx : Takes X W) (q : PySem.W.excIn X.K (clsA X.K c) He.veBase "ValueError.__new__" = true) (gC : X.mg x = some (.ref (clsA X.K c))) (kC : PySem.W.keepIn X.K (.ref (clsA X.K c)) = true)
    (h1 : PySem.W.subIn X.K (.ref (clsA X.K c)) (.type "BaseException") = some true) (h2 : PySem.W.typeIn X.K (.ref (clsA X.K c)) = some (.type "type")) (hg : Gl X x) (hdb : (x == ("__debug__" : Str)) = false := by decide) :
    RS X W (.Raise (some (.Call (.Name x p) [.Constant (.str m) j p2] [] pos2)) none pos) (mRaise c) := by
  refine ⟨_, ps_raise hc tkx (pmk_own PySem.F.excBase_ValueError q gC kC (raises_own h1 h2) hg hdb), fun mp lh ls σ H De rp rs z => ?_⟩
  exact z mp H σ _ none .refl rp rs ⟨rfl, .inl ⟨rfl, rfl⟩⟩
end
end Rf
set_option Elab.async false
set_option linter.all false
set_option maxRecDepth 100000
set_option maxHeartbeats 4000000
set_option autoImplicit false
namespace Rf
open PySem PySem.Spec L2
section
variable {X : Cx} {pins : List (Addr × Obj)} {σ : L2.St} {H : Hp} {s sI : Shared}
end
section
variable {X : Cx} {x n : Str} {c : Value} {i : Nat} {body suite : List Stmt} {b₀ : Stmt} {np pos pos' : Pos} {tb : WX → TS} {ts : TS} {Wout : WX}
end
def mTry (sub : Nat → Option Bool) (i : Nat) (b s : SM) : SM := fun ls h => match b ls h with
  | .ex x ls' h' => (match sub x.cls with
    | some true => (match s (ls'.set i (some (.ref h'.length))) (h' ++ [.exc x.cls x.fs]) with
      | .nx ls2 h2 => .nx (ls2.set i none) h2
      | .bk ls2 h2 => .bk (ls2.set i none) h2
      | .ct ls2 h2 => .ct (ls2.set i none) h2
      | .rt d h2 => .rt d h2
      | _ => .bad)
    | some false => .ex x ls' h'
    | none => .bad)
  | r => r
section
variable {X : Cx} {x n : Str} {c i : Nat} {body suite : List Stmt} {b₀ : Stmt} {np pos pos' : Pos} {W : WX} {mb ms : SM} {sub : Nat → Option Bool}
end
end Rf
set_option Elab.async false
set_option linter.all false
set_option maxRecDepth 100000
set_option maxHeartbeats 4000000
set_option autoImplicit false
namespace Rf
open PySem PySem.Spec L2 PyProof.Rows PySem.Calls
def kyV : Value → Key
  | .int k _ => .inl k
  | .str x _ => .inr x
  | _ => .inl 0
def kyE (e : Int × Value) : Key := kyV e.2
def GoodK (w : World) (e : Int × Value) : Prop := keyIs (kyE e) e.2 = true ∧ e.1 = keyH w (kyE e)
theorem kyV_of {k : Key} {v : Value} (h : keyIs k v = true) : kyV v = k := by
  rcases keyIs_shape h with ⟨i, t, rfl, rfl⟩ | ⟨x, t, rfl, rfl⟩ <;> rfl
theorem key_sc {k : Key} {v : Value} (h : keyIs k v = true) : v.scannable = true := by
  rcases keyIs_shape h with ⟨i, t, rfl, rfl⟩ | ⟨x, t, rfl, rfl⟩ <;> rfl
def SetM (w : World) (h : Heap) (a : Addr) (ks : List Key) : Prop :=
  ∃ o es ep t, h.get? a = some o ∧ o.ExactSet ∧ o.data = .set es ep t ∧ (∀ e ∈ es.toList, GoodK w e) ∧ (es.toList.map kyE).Nodup ∧ (∀ k, k ∈ es.toList.map kyE ↔ k ∈ ks) ∧
    es.size < scanBound ∧ t.fits es.size = true ∧ es.size ≤ ks.length ∧ L2.Ris t.place.toList ∧ (w.params.followText "set-order" = true ∨ t.led = true)
section
variable {P : Program} {w : World} {h h' : Heap} {a : Addr} {ks : List Key}
theorem SetM.at (R : SetM w h a ks) (k : ∀ o, h.get? a = some o → h'.get? a = some o) : SetM w h' a ks := by
  obtain ⟨o, es, ep, t, ho, r⟩ := R
  exact ⟨o, es, ep, t, k o ho, r⟩
theorem goodK_elems {l : List (Int × Value)} (g : ∀ e ∈ l, GoodK w e) : ElemsOf (mixKind P w) l := fun e he =>
  ⟨⟨kyE e, (g e he).1, (g e he).2⟩, key_sc (g e he).1⟩
theorem goodK_mem {l : List (Int × Value)} (g : ∀ e ∈ l, GoodK w e) (k : Key) : k ∈ l.map kyE ↔ ∃ e ∈ l, (mixKind P w).is k e.2 = true := by
  rw [List.mem_map]
  constructor
  · rintro ⟨e, he, rfl⟩
    exact ⟨e, he, (g e he).1⟩
  · rintro ⟨e, he, q⟩
    exact ⟨e, he, kyV_of q⟩
end
section
variable {P : Program} {w : World} {A : Around} {E : Value → Shared → Prop} {s : Shared} {a : Addr} {ks : List Key}
theorem setM_tail {g : Bool → Sem Unit} (hg : ∀ (b : Bool) (s₁ : Shared) (Q' : Unit → Shared → Prop), Q' () s₁ → wpAny (model P w) A (g b) Q' E s₁)
    {o : Obj} {es : Array (Int × Value)} {ep : Nat} {t : SetTable} (ho : s.heap.get? a = some o) (hex : o.ExactSet) (hd : o.data = .set es ep t)
    {es1 : Array (Int × Value)} {t2 : SetTable} {ks1 : List Key} (g1 : ∀ e ∈ es1.toList, GoodK w e) (nd1 : (es1.toList.map kyE).Nodup) (m1 : ∀ k, k ∈ es1.toList.map kyE ↔ k ∈ ks1)
    (hb1 : es1.size < scanBound) (hl1 : es1.size ≤ ks1.length) (hf2 : t2.fits es1.size = true) (hr : L2.Ris t2.place.toList) (hl : w.params.followText "set-order" = true ∨ t2.led = true) {wasDummy : Bool} {R : Option Bool → Shared → Prop}
    (hR : ∀ h', Heap.SameBut a s.heap h' → SetM w h' a ks1 → R (some true) { s with heap := h' }) :
    wpAny (model P w) A (do
        storeSet a es1 t2
        if (!wasDummy && t2.tooFull) = true then do
            g (relayAll t2 es1 (SetTable.grown es1.size)).2.2
            storeSet a (relayAll t2 es1 (SetTable.grown es1.size)).1 (relayAll t2 es1 (SetTable.grown es1.size)).2.1
            pure (some true)
          else pure (some true)) R E s := by
  refine wpAny_bind (wpAny_storeSet_of ho hd ?_ (fits_of_scanBound hb1))
  have o1 := L2.store_at (es' := es1) (t' := t2) ho hd
  have b1 := Heap.SameBut.update s.heap a (Obj.putSet es1 t2)
  split
  · have pm := relayAll_perm t2 es1 (SetTable.grown es1.size)
    have f3 := relayAll_fits t2 es1 (SetTable.grown es1.size)
    have r3 := L2.relayAll_ris t2 es1 (SetTable.grown es1.size)
    have l3 := L2.relayAll_led t2 es1 (SetTable.grown es1.size)
    generalize relayAll t2 es1 (SetTable.grown es1.size) = Z at pm f3 r3 l3 ⊢
    obtain ⟨es2, t3, gv⟩ := Z
    dsimp only at pm f3 r3 l3 ⊢
    have sz : es2.size = es1.size := by rw [← Array.length_toList, pm.length_eq, Array.length_toList]
    have b2 : es2.size < scanBound := by rw [sz]; exact hb1
    refine wpAny_bind (hg _ _ _ (wpAny_bind (wpAny_storeSet_of o1 rfl ?_ (fits_of_scanBound b2))))
    have o2 := L2.store_at (es' := es2) (t' := t3) o1 rfl
    refine wpAny_pure (hR _ (b1.trans (Heap.SameBut.update _ a _)) ⟨_, es2, _, t3, o2, hex, rfl, fun e he => g1 e (pm.mem_iff.mp he), (pm.map kyE).nodup_iff.mpr nd1, fun k => (pm.map kyE).mem_iff.trans (m1 k), b2, f3, by omega, r3, ?_⟩)
    exact hl.imp id fun z => by rw [l3]; exact z
  · exact wpAny_pure (hR _ b1 ⟨_, es1, _, t2, o1, hex, rfl, g1, nd1, m1, hb1, hf2, hl1, hr, hl⟩)
theorem setM_add {k : Key} {v : Value} {Q : Bool → Shared → Prop} (R : SetM w s.heap a ks) (hk : keyIs k v = true) (room : ks.length + 1 < scanBound)
    (hQ : ∀ b h', Heap.SameBut a s.heap h' → SetM w h' a (ks ++ [k]) → Q b { s with heap := h' }) :
    wpAny (model P w) A (setAddHashed a v ((mixKind P w).hash k)) Q E s := by
  obtain ⟨o, es, ep, t, ho, hex, hd, g, nd, hm, hb, hf, hn, hr, hl⟩ := R
  have hkey : (mixKind P w).is k v = true := hk
  have hsc : v.scannable = true := key_sc hk
  have hel : ElemsOf (mixKind P w) es.toList := goodK_elems g
  unfold setAddHashed setAddHashedIn
  refine wpAny_holding (wpAny_bind (wpAny_setState_of ho hd hf ?_))
  dsimp only
  rw [byScan_of hsc hb hel]
  simp only [↓reduceIte]
  unfold setAddByScan
  refine wpAny_bind (wpAny_bind (wpAny_rule (wpAny_bind (wpAny_setScan_of hkey ho hd hf hel ?_))))
  cases hfi : List.findIdx? (fun e => (mixKind P w).is k e.2) es.toList with
  | some j =>
    dsimp only
    obtain ⟨hj, pj, _⟩ := List.findIdx?_eq_some_iff_getElem.mp hfi
    have hin : k ∈ es.toList.map kyE := (goodK_mem (P := P) g k).2 ⟨es.toList[j], List.getElem_mem hj, pj⟩
    refine wpAny_pure (wpAny_pure (hQ _ s.heap (Heap.SameBut.refl a s.heap) ⟨o, es, ep, t, ho, hex, hd, g, nd, fun i => ?_, hb, hf, by simp; omega, hr, hl⟩))
    rw [List.mem_append, List.mem_singleton]
    exact ⟨fun z => .inl ((hm i).1 z), fun z => z.elim (hm i).2 fun e => by rw [e]; exact hin⟩
  | none =>
    dsimp only
    have hnk : k ∉ es.toList.map kyE := fun z => by
      obtain ⟨e, he, q⟩ := (goodK_mem (P := P) (w := w) g k).1 z
      have c := List.findIdx?_eq_none_iff.mp hfi e he
      rw [q] at c
      cases c
    have hgw : ∀ (b : Bool) {s₁ : Shared} {Q' : Unit → Shared → Prop}, Q' () s₁ → wpAny (model P w) A (match b with | true => rule "set.scan.the-table-gave-way" | false => pure ()) Q' E s₁ :=
      fun b s₁ Q' q => by cases b <;> first | exact wpAny_pure q | exact wpAny_rule q
    have pm := layNew_perm t es ((mixKind P w).hash k) v
    have f1 := layNew_fits t es ((mixKind P w).hash k) v
    have r1 := L2.layNew_ris t es ((mixKind P w).hash k) v hr
    have l1 := L2.layNew_led t es ((mixKind P w).hash k) v
    generalize layNew t es ((mixKind P w).hash k) v = Z at pm f1 r1 l1 ⊢
    obtain ⟨es1, t1, wd, gv⟩ := Z
    dsimp only at pm f1 r1 l1 ⊢
    rw [Array.toList_push] at pm
    have pc : es1.toList.Perm (((mixKind P w).hash k, v) :: es.toList) := pm.trans (List.perm_append_singleton _ _)
    have ek : kyE ((mixKind P w).hash k, v) = k := kyV_of hk
    have pk : (es1.toList.map kyE).Perm (k :: es.toList.map kyE) := by
      have := pc.map kyE
      rw [List.map_cons, ek] at this; exact this
    have g1 : ∀ e ∈ es1.toList, GoodK w e := fun e he => by
      rcases List.mem_cons.mp (pc.mem_iff.mp he) with z | z
      · rw [z]; exact ⟨by rw [ek]; exact hk, by rw [ek]; rfl⟩
      · exact g e z
    have nd1 : (es1.toList.map kyE).Nodup := pk.nodup_iff.mpr (List.nodup_cons.mpr ⟨hnk, nd⟩)
    have m1 : ∀ i, i ∈ es1.toList.map kyE ↔ i ∈ ks ++ [k] := fun i => by
      rw [pk.mem_iff, List.mem_cons, List.mem_append, List.mem_singleton, hm i]
      exact Or.comm
    have sz : es1.size = es.size + 1 := by rw [← Array.length_toList, pc.length_eq, List.length_cons, Array.length_toList]
    have b1 : es1.size < scanBound := by rw [sz]; omega
    have z1 : es1.size ≤ (ks ++ [k]).length := by simp; omega
    have led : w.params.followText "set-order" = true ∨ t1.led = true := hl.imp id fun z => by rw [l1]; exact z
    refine wpAny_bind (hgw _ ?_)
    split
    · refine wpAny_bind ?_
      rw [hashByValue_scannable 8 hsc]
      refine wpAny_pure ?_
      refine setM_tail (ks1 := ks ++ [k]) ?_ ho hex hd g1 nd1 m1 b1 z1 ?_ ?_ ?_ ?_
      · intro b s₁ Q' q; cases b <;> first | exact wpAny_pure q | exact wpAny_rule q
      · first | (split <;> first | exact f1 | exact SetTable.fits_plain_off f1) | exact f1
      · first | (split <;> exact r1) | exact r1
      · first | (split <;> exact led) | exact led
      · intro h' sb r; dsimp only; exact wpAny_pure (hQ _ h' sb r)
    · refine wpAny_bind (wpAny_pure ?_)
      simp only [↓reduceIte]
      refine setM_tail (ks1 := ks ++ [k]) ?_ ho hex hd g1 nd1 m1 b1 z1 f1 r1 led ?_
      · intro b s₁ Q' q; cases b <;> first | exact wpAny_pure q | exact wpAny_rule q
      · intro h' sb r; dsimp only; exact wpAny_pure (hQ _ h' sb r)
theorem setM_new {w : World} {h : Heap} {a : Addr} (ho : h.get? a = some { cls := .type "set", dict := none, data := .set #[] 0 (.fresh 0 0 (!w.params.followText "set-order")) }) : SetM w h a [] :=
  ⟨_, #[], 0, _, ho, ⟨rfl, rfl, rfl⟩, rfl, (fun e he => by simp at he), (by simp), (fun k => by simp), (by decide), (by rfl), (by simp), List.Pairwise.nil, by
    show _ ∨ (!w.params.followText "set-order") = true
    cases w.params.followText "set-order"
    · exact .inr rfl
    · exact .inl rfl⟩
theorem setM_loop {I : Addr} {fp wr : List Addr} {G : Array GenState → Array GenState → Prop} {n : Nat} {Pv : Nat → Value → Prop} {St : Nat → Shared → Prop} {R : Result → Shared → Prop}
    (W : WalksS P w A.in1 I fp wr G n Pv St) (S : Addr) (hSf : S ∉ fp) (ks : List Key) (hn : n = ks.length) (hb : ks.length + 1 < scanBound) (hval : ∀ i v, Pv i v → ∃ k, ks[i]? = some k ∧ keyIs k v = true) :
    ∀ (k i : Nat) (s : Shared), n - i = k → i ≤ n → St i s → SetM w s.heap S (ks.take i) →
      (∀ s', Moved (S :: wr) G s s' → SetM w s'.heap S ks → R (.ok (.ret .none)) s') →
      codeAny (model P w) A (.builtin "set.update.loop" ⟨[.ref S, .ref I], []⟩) R s := by
  have hSw : S ∉ wr := fun h => hSf (W.sub _ h)
  have hsub : ∀ b ∈ wr, b ∈ S :: wr := fun b hb => List.mem_cons_of_mem _ hb
  intro k
  induction k with
  | zero =>
    intro i s hk' hi hst hS hR
    have hin : i = n := by omega
    subst hin
    refine codeAny_builtin F.entry_set_update_loop ?_
    rw [Around.under_plainId F.plain_set_update_loop _]
    show wpAny _ A.in1 (pyNext (.ref I) >>= _) _ _ s
    refine wpAny_bind (W.done s _ _ hst fun s' hm => ?_)
    show wpAny _ A.in1 (ret Value.none) _ _ s'
    have e : ks.take i = ks := List.take_of_length_le (by omega)
    rw [e] at hS
    exact wpAny_pure (hR s' (hm.mono hsub) (hS.at fun o e => hm.heap S o hSw e))
  | succ k ih =>
    intro i s hk' hi hst hS hR
    have hlt : i < n := by omega
    refine codeAny_builtin F.entry_set_update_loop ?_
    rw [Around.under_plainId F.plain_set_update_loop _]
    show wpAny _ A.in1 (pyNext (.ref I) >>= _) _ _ s
    refine wpAny_bind (W.item i s _ _ hlt hst fun v s' hP hst' hm => ?_)
    obtain ⟨z, hz, kz⟩ := hval i v hP
    have hS' : SetM w s'.heap S (ks.take i) := hS.at fun o e => hm.heap S o hSw e
    show wpAny _ A.in1 (holding [v] (setAdd S v) >>= _) _ _ s'
    refine wpAny_bind (wpAny_holding ?_)
    unfold setAdd
    refine wpAny_holding ?_
    refine wpAny_bind ((mixKind P w).pyHash (k := z) kz ?_)
    refine setM_add (s := { s' with toks := s'.toks + 1 }) hS' kz (by simp; omega) fun b h' hsb hS2 => ?_
    have hS3 : SetM w h' S (ks.take (i + 1)) := by rw [List.take_add_one, hz]; exact hS2
    refine wpAny_pure ⟨plainId_quiet F.plain_set_update_loop _, ih (i + 1) _ (by omega) hlt (W.frame _ s' _ _ hst' (Nat.le_succ _) fun b hb o e => ?_) hS3 fun s'' hm'' hS'' => ?_⟩
    · rw [hsb.2 b (fun h : b = S => hSf (by rw [← h]; exact hb))]; exact e
    · refine hR s'' (Moved.trans W.gtrans ((hm.mono hsub).then_heap (Nat.le_succ _) fun b o hb e => ?_) hm'') hS''
      rw [hsb.2 b (fun h : b = S => hb (by rw [h]; exact List.mem_cons_self))]; exact e
end
abbrev emptySet (w : World) : Obj := { cls := .type "set", dict := none, data := .set #[] 0 (.fresh 0 0 (!w.params.followText "set-order")) }
section
variable {P : Program} {w : World} {A : Around} {E : Value → Shared → Prop} {s : Shared}
theorem call_set_str {x : Str} {t : Tok} {Q : Value → Shared → Prop} (hh : A.handled = none) (hb : x.cps.size + 1 < scanBound)
    (h : ∀ (h' : Heap) (tk : Nat), SetM w h' s.heap.objs.size (x.cps.toList.map fun c => .inr ⟨#[c]⟩) → (∀ b o, s.heap.get? b = some o → h'.get? b = some o) → Q (.ref s.heap.objs.size) { s with heap := h', toks := tk }) :
    wpAny (model P w) A (call (.type "set") [.str x t]) Q E s := by
  obtain ⟨c, tl, hmro⟩ := F.called_set.mro
  have hmade := F.called_set.made
  have hsub := F.called_set.sub
  refine wpAny_call (codeAny_of_tree ?_)
  show wpAny _ _ (callAny (.type "set") _) _ _ _
  refine wpAny_pure ⟨Code.quiet_builtin _ (by decide +kernel), codeAny_builtin F.entry_type_call ?_⟩
  rw [Around.under_plain (weight_type_call_type "set" [.str x t] []) rfl]
  have h1 := F.called_set.notType
  have h2 := F.called_set.canCreate
  have hct := F.typeCall_set_1 (.str x t)
  repeat (any_goals (first | assumption | wp_step))
  refine codeAny_mono (L2.code_set_led1 (.str x t) (E := E) (Q₁ := fun obj s₁ => obj = .ref s.heap.objs.size ∧ s₁ = { s with heap := s.heap.push (emptySet w) }) ⟨rfl, rfl⟩) fun r s₁ hr => ?_
  cases r with
  | error e => exact hr
  | ok fl =>
    cases fl with
    | ret obj =>
      obtain ⟨rfl, rfl⟩ := hr
      have hS : (s.heap.push (emptySet w)).get? s.heap.objs.size = some (emptySet w) := Heap.get?_push_size _ rfl
      have hT : Shared.TypeIs { s with heap := s.heap.push (emptySet w) } (.ref s.heap.objs.size) "set" := ⟨_, hS, rfl⟩
      have hli := F.called_set.init.lookup
      have hbi := F.called_set.init.bind (.ref s.heap.objs.size)
      repeat (any_goals (first | assumption | wp_step))
      refine codeAny_mono (codeAny_call_builtin (R := wants (fun r s₂ => r = .none ∧ ∃ h' tk, s₂ = { s with heap := h', toks := tk } ∧ SetM w h' s.heap.objs.size (x.cps.toList.map fun c => .inr ⟨#[c]⟩) ∧
          (∀ b o, s.heap.get? b = some o → h'.get? b = some o)) E) F.called_set.init.plain F.entry_set_init (check_set_init_1 hT ?_)) fun r₂ s₂ hr₂ => ?_
      · have hsls := F.sub_str_set
        have hslf := F.sub_str_frozenset
        have hne : (Value.type "str" == Value.type "dict") = false := by decide
        have hz1 : (s.heap.push (emptySet w)).objs.size = s.heap.objs.size + 1 := Heap.size_push ..
        unfold Builtin.«set.__init__» noKeywords Builtin.Frozenset.updateFrom
        generalize hPI : pyIter = PI
        wp_walk
        subst hPI
        refine wpAny_pyIter_str fun o St W0 st0 => ?_
        refine wpAny_bind (wpAny_runValue ?_)
        have hh3 : A.in1.in1.in1.handled = none := by simp [hh]
        have hSf : s.heap.objs.size ∉ [(s.heap.push (emptySet w)).objs.size] := by
          rw [hz1]; simp
        refine setM_loop ((W0 _ hh3).toS) s.heap.objs.size hSf (x.cps.toList.map fun c => .inr ⟨#[c]⟩) (by simp) (by simpa using hb) (fun i v hv => ?_) (x.cps.size - 0) 0 _ (by omega) (Nat.zero_le _) st0 ?hS0 ?hR
        · obtain ⟨c, u, hc, rfl⟩ := hv
          refine ⟨.inr ⟨#[c]⟩, ?_, keyIs_str _ _⟩
          rw [List.getElem?_map, Array.getElem?_toList, hc]; rfl
        case hS0 =>
          exact setM_new (Heap.get?_push_of_some _ hS)
        case hR =>
          intro s' hm hS'
          obtain ⟨h', g2, d', tk', os'⟩ := s'
          have eg : g2 = s.gens := hm.gens
          have ed : d' = s.drawn := hm.drawn
          have eo : os' = s.os := hm.os
          subst eg; subst ed; subst eo
          show wpAny _ _ _ _ _ _
          refine wpAny_pure ?_
          show wpAny _ _ (ret Value.none) _ _ _
          refine wpAny_pure ⟨rfl, h', tk', rfl, hS', fun b o e => ?_⟩
          have hb0 : b < s.heap.objs.size := Heap.lt_size e
          exact hm.heap b o (by rw [hz1]; simp only [List.mem_cons, List.mem_singleton, List.not_mem_nil, or_false, not_or]; exact ⟨Nat.ne_of_lt hb0, Nat.ne_of_lt (Nat.lt_succ_of_lt hb0)⟩) (Heap.get?_push_of_some _ (Heap.get?_push_of_some _ e))
      · cases r₂ with
        | error e => exact hr₂
        | ok fl₂ =>
          cases fl₂ with
          | ret r =>
            obtain ⟨rfl, h', tk, rfl, hS', hk'⟩ := hr₂
            repeat (any_goals (first | assumption | wp_step))
            exact h _ _ hS' hk'
          | _ => exact hr₂.elim
    | _ => exact hr.elim
end
end Rf
set_option Elab.async false
set_option linter.all false
set_option maxRecDepth 100000
set_option maxHeartbeats 4000000
set_option autoImplicit false
namespace Rf
open PySem PySem.Spec L2 PyProof.Rows PySem.Calls
theorem strs_of_keys : ∀ (l : List Value), (∀ v ∈ l, ∃ x, keyIs (.inr x) v = true) → ∃ ss : List Str, StrsAre l ss ∧ l.map kyV = ss.map Sum.inr
  | [], _ => ⟨[], .nil, rfl⟩
  | v :: l, h => by
    obtain ⟨ss, h1, h2⟩ := strs_of_keys l fun u hu => h u (List.mem_cons_of_mem _ hu)
    obtain ⟨x, hx⟩ := h v List.mem_cons_self
    rcases keyIs_shape hx with ⟨i, t, e, rfl⟩ | ⟨y, t, e, rfl⟩
    · cases e
    · cases e; exact ⟨x :: ss, .cons x t h1, by simp [h2, kyV]⟩
section
variable {P : Program} {w : World} {A : Around} {E : Value → Shared → Prop} {s : Shared} {a : Addr}
theorem sorted_setS {ss : List Str} {Q : Value → Shared → Prop} (R : SetM w s.heap a (ss.map Sum.inr)) (hh : A.handled = none)
    (hQ : ∀ s' p (out : Array Value) (c : Nat) (ys : List Str), (∀ b o, s.heap.get? b = some o → s'.heap.get? b = some o) → s'.gens = s.gens → s'.os = s.os → s.heap.objs.size ≤ p →
      s'.heap.get? p = some (seqObj "list" out c) → StrsAre out.toList ys → sortedS ys = true → ys.Nodup → (∀ k, k ∈ ys ↔ k ∈ ss) → ys.length ≤ sizeLine → Q (.ref p) s') :
    wpAny (model P w) A (call (.builtin "sorted") [.ref a]) Q E s := by
  obtain ⟨o, es, ep, t, ho, hex, hd, g, nd, hm, hb, hf, hn, hr, hl⟩ := R
  refine Calls.call_function_entry kind_sorted plain_sorted entry_sorted (args_sorted1 _) ?_
  unfold Builtin.«sorted»
  refine wpAny_bind (m := checkCount "sorted" 1 1 _) (wpAny_pure ?_)
  refine wpAny_bind (L2.collect_set (A := A.in1) hh ⟨o, ho, hex.1, hd⟩ hf hb hr hl fun s1 vs k1 hz g1 o1 pm => ?_)
  have hvk : (vs.map kyV).Perm (es.toList.map kyE) := by
    have q := pm.map kyV
    rw [List.map_map] at q
    exact q
  obtain ⟨ts, hS, ets⟩ := strs_of_keys vs fun v hv => by
    obtain ⟨e, he, q⟩ := List.mem_map.mp (pm.mem_iff.mp hv)
    have hk : kyE e ∈ es.toList.map kyE := List.mem_map.mpr ⟨e, he, rfl⟩
    obtain ⟨x, _, hx⟩ := List.mem_map.mp ((hm _).1 hk)
    exact ⟨x, by rw [hx, ← q]; exact (g e he).1⟩
  have hvl : vs.length ≤ sizeLine := by
    rw [pm.length_eq, List.length_map, Array.length_toList]
    have : scanBound ≤ sizeLine := by decide
    omega
  refine wpAny_bind (wpAny_newList ?_ hvl)
  have hoL : (s1.heap.push (seqObj "list" vs.toArray 0)).get? s1.heap.objs.size = some (seqObj "list" vs.toArray 0) := Heap.get?_push_size _ rfl
  refine wpAny_bind (wpAny_holding (wpAny_call_entry slot_list_sort ⟨_, hoL, rfl⟩ entry_list_sort (list_sort_treeKAny strKind_oneLt hoL hS.keysOf (fun v₁ v₂ rest e => keyKind_strs (by rw [← e]; exact hS)) hvl fun st' hp hs => ⟨_, rfl, ?_⟩) (args_list_sort _)))
  obtain ⟨ys, a1, a2, a3⟩ := sorted_out_str hS hp hs
  obtain ⟨c, hc⟩ := sortedHeap_at (vs := vs) (out := (arrOf st').map (·.2)) hoL
  have pn : (ys.map (Sum.inr : Str → Key)).Perm (es.toList.map kyE) := (a2.map _).trans (ets ▸ hvk)
  refine wpAny_pure ⟨_, rfl, hQ _ s1.heap.objs.size _ c ys (fun b u e => ?_) g1 o1 hz hc a1 a3 ?_ (fun k => ?_) ?_⟩
  · have q := k1 b u e
    have hlt := Heap.lt_size q
    show (sortedHeap (s1.heap.push (seqObj "list" vs.toArray 0)) s1.heap.objs.size vs _).get? b = some u
    rw [sortedHeap_old (Nat.ne_of_lt hlt) (by rw [Heap.size_push]; exact Nat.lt_succ_of_lt hlt)]
    exact Heap.get?_push_of_some _ q
  · have := pn.nodup_iff.mpr nd
    exact (List.Pairwise.of_map (S := (· ≠ ·)) (Sum.inr : Str → Key) (fun x y h z => h (by rw [z])) this)
  · have h1 : (Sum.inr k : Key) ∈ ys.map Sum.inr ↔ (Sum.inr k : Key) ∈ ss.map Sum.inr := pn.mem_iff.trans (hm _)
    simpa using h1
  · rw [a2.length_eq, ← StrsAre.length hS]; exact hvl
end
end Rf
set_option Elab.async false
set_option linter.all false
set_option maxRecDepth 100000
set_option maxHeartbeats 4000000
set_option autoImplicit false
namespace Rf
open PySem PySem.Spec L2
abbrev ltT := PySem.Spec.ltCps
def insT (x : List Nat) : List (List Nat) → List (List Nat)
  | [] => [x]
  | y :: r => if ltT x y = true then x :: y :: r else if ltT y x = true then y :: insT x r else y :: r
def sdT : List (List Nat) → List (List Nat)
  | [] => []
  | x :: r => insT x (sdT r)
theorem ltT_iff {a b : List Nat} : ltT a b = true ↔ a < b := by
  unfold ltT; rw [PyProof.Rows.ltCps_eq]; exact decide_eq_true_iff
theorem ltT_irr (a : List Nat) : ltT a a = false := by
  cases h : ltT a a with
  | false => rfl
  | true => exact absurd (ltT_iff.mp h) (List.lt_irrefl a)
theorem ltT_tr {a b c : List Nat} (h1 : ltT a b = true) (h2 : ltT b c = true) : ltT a c = true := ltT_iff.mpr (List.lt_trans (ltT_iff.mp h1) (ltT_iff.mp h2))
theorem ltT_tot {a b : List Nat} (h1 : ¬ ltT a b = true) (h2 : ¬ ltT b a = true) : a = b := by
  have h1 : ¬ a < b := fun z => h1 (ltT_iff.mpr z)
  have h2 : ¬ b < a := fun z => h2 (ltT_iff.mpr z)
  exact List.le_antisymm (List.not_lt.mp h2) (List.not_lt.mp h1)
abbrev RisT (l : List (List Nat)) : Prop := l.Pairwise fun a b => ltT a b = true
theorem insT_mem {x z : List Nat} : ∀ {l : List (List Nat)}, z ∈ insT x l ↔ z = x ∨ z ∈ l
  | [] => by simp [insT]
  | y :: r => by
    unfold insT
    split
    · simp
    · rename_i h1
      split
      · rw [List.mem_cons, insT_mem, List.mem_cons]
        constructor
        · rintro (h | h | h)
          · exact .inr (.inl h)
          · exact .inl h
          · exact .inr (.inr h)
        · rintro (h | h | h)
          · exact .inr (.inl h)
          · exact .inl h
          · exact .inr (.inr h)
      · rename_i h2
        have := ltT_tot h1 h2
        subst this
        simp
theorem insT_ris {x : List Nat} : ∀ {l : List (List Nat)}, RisT l → RisT (insT x l)
  | [], _ => by simp [insT, RisT]
  | y :: r, h => by
    obtain ⟨h1, h2⟩ := List.pairwise_cons.mp h
    unfold insT
    split
    · rename_i hx
      refine List.pairwise_cons.mpr ⟨fun z hz => ?_, h⟩
      rcases List.mem_cons.mp hz with e | e
      · rw [e]; exact hx
      · exact ltT_tr hx (h1 z e)
    · split
      · rename_i hy
        refine List.pairwise_cons.mpr ⟨fun z hz => ?_, insT_ris h2⟩
        rcases insT_mem.mp hz with e | e
        · rw [e]; exact hy
        · exact h1 z e
      · exact h
theorem sdT_mem {z : List Nat} : ∀ {l : List (List Nat)}, z ∈ sdT l ↔ z ∈ l
  | [] => by simp [sdT]
  | x :: r => by unfold sdT; rw [insT_mem, sdT_mem, List.mem_cons]
theorem sdT_ris : ∀ (l : List (List Nat)), RisT (sdT l)
  | [] => by simp [sdT, RisT]
  | x :: r => insT_ris (sdT_ris r)
theorem risT_eq : ∀ {l m : List (List Nat)}, RisT l → RisT m → (∀ z, z ∈ l ↔ z ∈ m) → l = m
  | [], [], _, _, _ => rfl
  | [], y :: r, _, _, h => absurd ((h y).2 List.mem_cons_self) (by simp)
  | x :: l, [], _, _, h => absurd ((h x).1 List.mem_cons_self) (by simp)
  | x :: l, y :: m, h1, h2, h => by
    obtain ⟨a1, a2⟩ := List.pairwise_cons.mp h1
    obtain ⟨b1, b2⟩ := List.pairwise_cons.mp h2
    have exy : x = y := by
      rcases List.mem_cons.mp ((h x).1 List.mem_cons_self) with e | e
      · exact e
      · rcases List.mem_cons.mp ((h y).2 List.mem_cons_self) with e' | e'
        · exact e'.symm
        · have := ltT_tr (b1 x e) (a1 y e')
          rw [ltT_irr] at this; cases this
    subst exy
    rw [risT_eq a2 b2 fun z => ?_]
    have hz := h z
    rw [List.mem_cons, List.mem_cons] at hz
    constructor
    · intro hm
      rcases hz.1 (.inr hm) with e | e
      · subst e; have := a1 z hm; rw [ltT_irr] at this; cases this
      · exact e
    · intro hm
      rcases hz.2 (.inr hm) with e | e
      · subst e; have := b1 z hm; rw [ltT_irr] at this; cases this
      · exact e
theorem risingS_ris : ∀ (ys : List Str) (p : Str), PyProof.Rows.risingS p ys = true → (p :: ys).Nodup → RisT ((p :: ys).map (·.cps.toList))
  | [], p, _, _ => by simp [RisT]
  | y :: r, p, h, nd => by
    unfold PyProof.Rows.risingS at h
    rw [Bool.and_eq_true] at h
    obtain ⟨n1, n2⟩ := List.nodup_cons.mp nd
    have ih := risingS_ris r y h.2 n2
    have hpy : ltT p.cps.toList y.cps.toList = true := by
      by_cases q : ltT p.cps.toList y.cps.toList = true
      · exact q
      · have h1 : ¬ ltT y.cps.toList p.cps.toList = true := by simpa using h.1
        have := ltT_tot q h1
        exact absurd (show p ∈ y :: r from by
          have e : p = y := by
            obtain ⟨⟨l⟩⟩ := p
            obtain ⟨⟨l'⟩⟩ := y
            have : l = l' := this
            rw [this]
          rw [e]; exact List.mem_cons_self) n1
    rw [List.map_cons]
    refine List.pairwise_cons.mpr ⟨fun z hz => ?_, ih⟩
    obtain ⟨i1, i2⟩ := List.pairwise_cons.mp (show RisT (y.cps.toList :: r.map (·.cps.toList)) from ih)
    rw [List.map_cons] at hz
    rcases List.mem_cons.mp hz with e | e
    · rw [e]; exact hpy
    · exact ltT_tr hpy (i1 z e)
theorem str_eta (x : Str) : (⟨x.cps.toList.toArray⟩ : Str) = x := by
  obtain ⟨⟨l⟩⟩ := x; rfl
theorem sorted_is {ys ss : List Str} (h : PyProof.Rows.sortedS ys = true) (nd : ys.Nodup) (hm : ∀ k, k ∈ ys ↔ k ∈ ss) : ys.map (·.cps.toList) = sdT (ss.map (·.cps.toList)) := by
  have r : RisT (ys.map (·.cps.toList)) := by
    cases ys with
    | nil => simp [RisT]
    | cons y r => exact risingS_ris r y h nd
  refine risT_eq r (sdT_ris _) fun z => ?_
  rw [sdT_mem, List.mem_map, List.mem_map]
  constructor
  · rintro ⟨k, hk, rfl⟩; exact ⟨k, (hm k).1 hk, rfl⟩
  · rintro ⟨k, hk, rfl⟩; exact ⟨k, (hm k).2 hk, rfl⟩
def SetMO (w : World) (a : Addr) (ks : List Key) : HO := .ext fun h => SetM w h a ks
def rSetStr (w : World) : List V → Hp → VK → Prop := fun xs H Q => ∃ x : Str, xs = [.str x] ∧ x.cps.size < 4000 ∧ ∀ p, H p = none → Q (.ref p) (upd H p (SetMO w p (x.cps.toList.map fun c => .inr ⟨#[c]⟩)))
def rSortedSet (w : World) : List V → Hp → VK → Prop := fun xs H Q => ∃ (a : Addr) (ss : List Str), xs = [.ref a] ∧ H a = some (SetMO w a (ss.map Sum.inr)) ∧
  ∀ p, H p = none → Q (.ref p) (upd H p (.lst ((sdT (ss.map (·.cps.toList))).map fun l => V.str ⟨l.toArray⟩)))
section
variable {X : Cx}
theorem cr_set_str (hc : X.calm = true) : CallR X (.type "set") (rSetStr X.w) := by
  intro pins s σ H xs us Q I r h
  obtain ⟨x, rfl, hz, q⟩ := h
  cases r with
  | cons r1 r2 =>
    cases r2
    obtain ⟨t, rfl⟩ := r1
    refine call_set_str (I.ok.hd hc) (by have : scanBound = 4096 := rfl; omega) fun h' tk hS hk => ?_
    have hf : H s.heap.objs.size = none := I.hok.fresh (Nat.le_refl _)
    refine ⟨.ref s.heap.objs.size, _, I.laid (t' := tk) hk (Nat.le_refl _) ?_, rfl, q _ hf⟩
    obtain ⟨o, es, ep, t', ho, rest⟩ := id hS
    exact ⟨hS, ⟨o, ho⟩, fun h1 h2 a b => a.at b⟩
theorem vals_strs : ∀ {ys : List Str} {us : List Value}, PyProof.Rows.StrsAre us ys → Vals (ys.map V.str) us
  | _, _, .nil => .nil
  | _, _, .cons y t r => .cons ⟨t, rfl⟩ (vals_strs r)
theorem cr_sorted_set (hc : X.calm = true) : CallR X (.builtin "sorted") (rSortedSet X.w) := by
  intro pins s σ H xs us Q I r h
  obtain ⟨a, ss, rfl, ha, q⟩ := h
  cases r with
  | cons r1 r2 =>
    cases r2
    cases r1
    refine sorted_setS (I.hok a _ ha).1 (I.ok.hd hc) fun s' p out c ys hk hg ho hp hl hS h1 h2 h3 h4 => ?_
    obtain ⟨hh, gg, dd, tt, oo⟩ := s'
    obtain rfl : gg = s.gens := hg
    obtain rfl : oo = s.os := ho
    have hf : H p = none := I.hok.fresh hp
    have e : (sdT (ss.map (·.cps.toList))).map (fun l => V.str ⟨l.toArray⟩) = ys.map V.str := by
      rw [← sorted_is h1 h2 h3, List.map_map]
      exact List.map_congr_left fun x _ => by show V.str ⟨x.cps.toList.toArray⟩ = V.str x; rw [str_eta]
    have I2 : Inv X pins σ (upd H p (.lst (ys.map V.str))) { s with heap := hh, toks := tt } := I.laid (t' := tt) hk hp ⟨by rw [List.length_map]; exact h4, out.toList, c, vals_strs hS, by rw [hl]⟩
    refine ⟨.ref p, _, ?_, rfl, q p hf⟩
    rw [e]
    exact ⟨I2.ok, I2.os, I2.bare, I2.base, I2.loc, I2.cell, I2.free, I2.freeC, I2.pin, I2.hok, I2.len⟩
end
theorem relDs_strs {K : PySem.W.Frag} {mp : List Addr} {H : Hp} : ∀ (l : List (List Nat)), RelDs K mp H (l.map .str) (l.map fun x => V.str ⟨x.toArray⟩)
  | [] => .nil
  | x :: r => .cons (.str x) (relDs_strs r)
end Rf
set_option Elab.async false
set_option linter.all false
set_option maxRecDepth 100000
set_option maxHeartbeats 4000000
set_option autoImplicit false
namespace Rf
open PySem PySem.Spec L2
theorem str_app (a b : List Nat) : ((⟨a.toArray⟩ : Str) ++ ⟨b.toArray⟩) = ⟨(a ++ b).toArray⟩ := by
  show Str.append _ _ = _
  unfold Str.append; simp
theorem str_len (a : List Nat) : (⟨a.toArray⟩ : Str).length = a.length := by simp [Str.length]
theorem str_inj {a b : List Nat} : ((⟨a.toArray⟩ : Str) = ⟨b.toArray⟩) ↔ a = b := by
  constructor
  · intro h; injection h with h; simpa using h
  · intro h; rw [h]
def asLst (d : D) (h : LH) : Option (List D) := match d with
  | .ref n => (match h[n]? with
    | some (.lst xs) => some xs
    | _ => none)
  | _ => none
def asRd (d : D) (h : LH) : Option (List D) := match d with
  | .ref n => (match h[n]? with
    | some (.lst xs) => some xs
    | _ => none)
  | _ => none
section
variable {K : PySem.W.Frag} {mp : List Addr} {H : Hp} {lh : LH} {d : D} {v : V} {xs : List D}
theorem asLst_of (r : Rep K mp lh H) (rd : RelD K mp H d v) (h : asLst d lh = some xs) : ∃ n a vs, d = .ref n ∧ v = .ref a ∧ mp[n]? = some a ∧ lh[n]? = some (.lst xs) ∧ H a = some (.lst vs) ∧ RelDs K mp H xs vs := by
  cases rd with
  | @ref n a ha =>
    unfold asLst at h
    cases hn : lh[n]? with
    | none => simp only [hn] at h; cases h
    | some o =>
      cases o with
      | lst ys =>
        simp only [hn] at h; cases h
        obtain ⟨vs, h1, h2⟩ := r.obj n _ a hn ha
        exact ⟨n, a, vs, rfl, rfl, ha, hn, h1, h2⟩
      | _ => simp only [hn] at h; cases h
  | _ => cases h
theorem asRd_of (r : Rep K mp lh H) (rd : RelD K mp H d v) (h : asRd d lh = some xs) : ∃ n a vs, d = .ref n ∧ v = .ref a ∧ mp[n]? = some a ∧ SqL K H a vs ∧ RelDs K mp H xs vs := by
  cases rd with
  | @ref n a ha =>
    unfold asRd at h
    cases hn : lh[n]? with
    | none => simp only [hn] at h; cases h
    | some o =>
      cases o with
      | lst ys =>
        simp only [hn] at h; cases h
        obtain ⟨vs, h1, h2⟩ := r.obj n _ a hn ha
        exact ⟨n, a, vs, rfl, rfl, ha, SqL.of h1, h2⟩
      | _ => simp only [hn] at h; cases h
  | _ => cases h
end
theorem ROp.or {X : Cx} {g : Value → Value → Sem Value} {f1 f2 : D → D → LH → R D} (a : ROp X g f1) (b : ROp X g f2) : ROp X g (fun x y h => match f1 x y h with
    | .bad => f2 x y h
    | r => r) := by
  obtain ⟨r1, a1, a2⟩ := a
  obtain ⟨r2, b1, b2⟩ := b
  refine ⟨_, OpR.or a1 b1, fun mp lh H x y vx vy Q E rp rx ry q => ?_⟩
  dsimp only at q
  cases e : f1 x y lh with
  | bad => rw [e] at q; exact .inr (b2 mp lh H x y vx vy Q E rp rx ry q)
  | ok d h => rw [e] at q; exact .inl (a2 mp lh H x y vx vy Q E rp rx ry (by rw [e]; exact q))
  | ex x' h => rw [e] at q; exact .inl (a2 mp lh H x y vx vy Q E rp rx ry (by rw [e]; exact q))
def oI (c : Int → Int → Bool) (g : Int → Int → D) : D → D → LH → R D := fun x y h => match x, y with
  | .int i, .int j => if c i j = true then .ok (g i j) h else .bad
  | _, _ => .bad
theorem rop_int {X : Cx} {f : Value → Value → Sem Value} {C : Int → Int → Prop} {gv : Int → Int → V} {c : Int → Int → Bool} {g : Int → Int → D} (h : OpR X f (rI C gv)) (hc : ∀ i j, c i j = true → C i j) (hg : ∀ i j mp H, RelD X.K mp H (g i j) (gv i j)) : ROp X f (oI c g) := by
  refine ⟨_, h, fun mp lh H x y vx vy Q E rp rx ry q => ?_⟩
  cases rx with
  | int i =>
    cases ry with
    | int j =>
      cases e : c i j with
      | false => simp only [oI, e] at q; exact q.elim
      | true => simp only [oI, e] at q; exact ⟨i, j, rfl, rfl, hc _ _ e, q.now rp (hg _ _ _ _)⟩
    | _ => exact q.elim
  | _ => cases ry <;> exact q.elim
def oI0 (g : Int → Int → D) : D → D → LH → R D := fun x y h => match x, y with
  | .int i, .int j => .ok (g i j) h
  | _, _ => .bad
theorem rop_int0 {X : Cx} {f : Value → Value → Sem Value} {gv : Int → Int → V} {g : Int → Int → D} (h : OpR X f (rI0 gv)) (hg : ∀ i j mp H, RelD X.K mp H (g i j) (gv i j)) : ROp X f (oI0 g) := by
  refine ⟨_, h, fun mp lh H x y vx vy Q E rp rx ry q => ?_⟩
  cases rx with
  | int i =>
    cases ry with
    | int j => exact ⟨i, j, rfl, rfl, q.now rp (hg _ _ _ _)⟩
    | _ => exact q.elim
  | _ => cases ry <;> exact q.elim
def bnd64 (i : Int) : Bool := decide (-(2 ^ 64) < i) && decide (i < 2 ^ 64)
section
variable {X : Cx}
theorem o_sub : ROp X (binaryOp .Sub) (oI0 fun i j => .int (i - j)) := rop_int0 op_sub fun _ _ _ _ => .int _
theorem o_div : ROp X (binaryOp .FloorDiv) (oI (fun _ j => decide (0 < j) && decide (j < 1073741824)) fun i j => .int (i / j)) := rop_int op_fdiv (fun i j h => by
  rw [Bool.and_eq_true] at h
  exact ⟨of_decide_eq_true h.1, of_decide_eq_true h.2⟩) fun _ _ _ _ => .int _
theorem o_mod : ROp X (binaryOp .Mod) (oI (fun _ j => decide (0 < j)) fun i j => .int (i % j)) := rop_int op_mod (fun i j h => of_decide_eq_true h) fun _ _ _ _ => .int _
theorem o_pow : ROp X (binaryOp .Pow) (oI (fun i j => decide (0 ≤ j) && (decide (j ≤ 1000000) && Nat.blt i.natAbs 18446744073709551616)) fun i j => .int (i ^ j.toNat)) := rop_int op_pow (fun i j h => by
  rw [Bool.and_eq_true, Bool.and_eq_true] at h
  refine ⟨of_decide_eq_true h.1, of_decide_eq_true h.2.1, ?_⟩
  have := h.2.2
  exact Nat.lt_of_lt_of_le (Nat.lt_of_succ_le (Nat.le_of_ble_eq_true this)) (by decide)) fun _ _ _ _ => .int _
theorem o_leI : ROp X (compareOp .LtE) (oI0 fun i j => .bl (decide (i ≤ j))) := rop_int0 op_le fun _ _ _ _ => .bl _
theorem o_gtI : ROp X (compareOp .Gt) (oI0 fun i j => .bl (decide (j < i))) := rop_int0 op_gt fun _ _ _ _ => .bl _
theorem o_geI : ROp X (compareOp .GtE) (oI0 fun i j => .bl (decide (j ≤ i))) := rop_int0 op_ge fun _ _ _ _ => .bl _
end
def dAdd : D → D → LH → R D := fun x y h => match x, y with
  | .int i, .int j => .ok (.int (i + j)) h
  | .str a, .str b => if szOk (a.length + b.length) = true then .ok (.str (a ++ b)) h else .bad
  | .tup a, .tup b => if szOk (a.length + b.length) = true then .ok (.tup (a ++ b)) h else .bad
  | .ref n, .ref k => (match asLst (.ref n) h, asLst (.ref k) h with
    | some xs, some ys => if szOk (xs.length + ys.length) = true then .ok (.ref h.length) (h ++ [.lst (xs ++ ys)]) else .bad
    | _, _ => .bad)
  | _, _ => .bad
theorem o_add {X : Cx} : ROp X (binaryOp .Add) dAdd := by
  refine ⟨_, OpR.or op_add (OpR.or op_add_str (OpR.or op_catA op_cat)), fun mp lh H x y vx vy Q E rp rx ry q => ?_⟩
  cases rx with
  | int i =>
    cases ry with
    | int j => exact .inl ⟨i, j, rfl, rfl, q.now rp (.int _)⟩
    | _ => exact q.elim
  | str a =>
    cases ry with
    | str b =>
      cases hz : szOk (a.length + b.length) with
      | false => simp only [dAdd, hz] at q; exact q.elim
      | true =>
        simp only [dAdd, hz] at q
        refine .inr (.inl ⟨_, _, rfl, rfl, by rw [str_len, str_len]; exact szOk_le hz, ?_⟩)
        rw [str_app]; exact q.now rp (.str _)
    | _ => exact q.elim
  | @tup a aa avs ha ra =>
    cases ry with
    | @tup b ba bvs hb rb =>
      cases hz : szOk (a.length + b.length) with
      | false => simp only [dAdd, hz] at q; exact q.elim
      | true =>
        simp only [dAdd, hz] at q
        refine .inr (.inr (.inl ⟨aa, ba, avs, bvs, rfl, rfl, ha.sq, hb.sq, by rw [← ra.length, ← rb.length]; exact szOk_le hz, fun e => ?_, fun _ e => ?_, fun _ _ p hp => ?_⟩))
        · subst e; cases ra; exact q.now rp (.tup hb rb)
        · subst e; cases rb; exact q.now rp (.tup (by simpa using ha) (by simpa using ra))
        · exact q mp _ _ (.free hp) (rp.free hp) (.tup (.inl upd_same) ((ra.append rb).ext (.free hp)))
    | _ => exact q.elim
  | @ref n a hn =>
    cases ry with
    | @ref k b hk =>
      simp only [dAdd] at q
      cases e1 : asLst (.ref n) lh with
      | none => simp only [e1] at q; exact q.elim
      | some xs =>
        cases e2 : asLst (.ref k) lh with
        | none => simp only [e1, e2] at q; exact q.elim
        | some ys =>
          simp only [e1, e2] at q
          cases hz : szOk (xs.length + ys.length) with
          | false => simp only [hz] at q; exact q.elim
          | true =>
            simp only [hz] at q
            obtain ⟨_, a', vs, e, e', h1, _, h2, h3⟩ := asLst_of rp (.ref hn) e1
            cases e; cases e'
            obtain ⟨_, b', us, e, e', g1, _, g2, g3⟩ := asLst_of rp (.ref hk) e2
            cases e; cases e'
            refine .inr (.inr (.inr ⟨a, b, vs, us, rfl, rfl, h2, g2, by rw [← h3.length, ← g3.length]; exact szOk_le hz, fun p hp => ?_⟩))
            exact q (mp ++ [p]) _ _ (.alloc rp hp) (rp.alloc hp ⟨_, upd_same, (h3.append g3).ext (.alloc rp hp)⟩) (.ref (by rw [← rp.len]; simp))
    | _ => exact q.elim
  | _ => cases ry <;> exact q.elim
theorem tuple_mul1 (l : Addr) (items : Array Value) (n : Nat) (dd : Option Addr) (sl : Array (Option Value)) (u : Tok) :
    Meets (Builtin.«tuple.__mul__» ⟨[.ref l, .int 1 u], []⟩) (fun _ R s => s.heap.get? l = some { cls := .type "tuple", dict := dd, data := .seq items n, slots := sl } ∧ R (.ok (.ret (Value.ref l))) s) :=
  .of_wp fun prog w A R s h => by
    obtain ⟨hp, g, d, tk, os⟩ := s
    obtain ⟨hl, h⟩ := h
    have f1 := AutoSeq1.idx_int
    have c1 : (items.isEmpty || (1 : Int) == 1) = true := by simp
    wp_walk using wpAny_loadPart' hl
    repeat (first
      | (refine wpAny_ite_false (decide_eq_false (by decide)) ?_; wp_walk using wpAny_loadPart' hl)
      | (refine wpAny_ite_true (decide_eq_true c1) ?_; wp_walk using wpAny_loadPart' hl)
      | (refine wpAny_ite_true (by first | rfl | decide | simp) ?_; wp_walk using wpAny_loadPart' hl))
    exact ⟨_, rfl, h⟩
theorem op_repT1 {X : Cx} : OpR X (binaryOp .Mult) (fun x y H Q => ∃ l xs, x = .ref l ∧ y = .int 1 ∧ SqT X.K H l xs ∧ Q (.ref l) H) := by
  intro pins s σ H x y v u Q I rx ry h
  obtain ⟨l, xs, rfl, rfl, hT, q⟩ := h
  cases rx
  obtain ⟨t, rfl⟩ := ry
  obtain ⟨its, r, ⟨⟨cls, dd, data, sl⟩, ho, hc, n, hd⟩, hs⟩ := I.tuple hT
  simp only at hc hd
  subst hc hd
  refine wpAny_binaryOp_repeat_ref (T := "tuple") (U := "int") (by decide) ⟨_, ho, rfl⟩ (fun s' => typeIs_int s' 1 t) noFill_tuple_mul PySem.F.fills_int_mul PySem.F.slot_int_rmul repeat_tuple PySem.F.slot_int_index.lookup
    (call_meets PySem.F.slot_int_rmul (typeIs_int s 1 t) PySem.F.entry_int_rmul (PySem.F.args_int_rmul_2 _ _) (int_rmul_tuple 1 t l its.toArray n dd sl)
      ⟨ho, rfl, ⟨_, ho, rfl⟩, call_meets PySem.F.slot_tuple_mul ⟨_, ho, rfl⟩ PySem.F.entry_tuple_mul (PySem.F.args_tuple_mul_2 _ _) (tuple_mul1 l its.toArray n dd sl t) ⟨ho, ?_⟩⟩)
  exact ⟨.ref l, H, I, rfl, q⟩
def dMul : D → D → LH → R D := fun x y h => match x, y with
  | .int i, .int j => if (bnd64 i || bnd64 j) = true then .ok (.int (i * j)) h else .bad
  | .str a, .int k => if (decide (0 ≤ k) && (decide (k ≤ 1000) && Nat.ble a.length 1000)) = true then .ok (.str (List.replicate k.toNat a).flatten) h else .bad
  | .tup a, .int k => if decide (k = 1) = true then .ok (.tup a) h else if (decide (2 ≤ k) && (decide (k ≤ 1000) && (Nat.ble a.length 1000 && !a.isEmpty))) = true then .ok (.tup (List.replicate k.toNat a).flatten) h else .bad
  | .ref n, .int k => (match asLst (.ref n) h with
    | some xs => if (decide (0 ≤ k) && (decide (k ≤ 10000) && Nat.ble xs.length 1000)) = true then .ok (.ref h.length) (h ++ [.lst (List.replicate k.toNat xs).flatten]) else .bad
    | _ => .bad)
  | _, _ => .bad
theorem mul_list (a : List Nat) (k : Int) (h : 0 ≤ k) : (Txt.mul ⟨a.toArray⟩ k : Str) = ⟨(List.replicate k.toNat a).flatten.toArray⟩ := by
  unfold Txt.mul
  have fold : ∀ (n : Nat) (acc : Array Nat), ((List.replicate n a.toArray).foldl (· ++ ·) acc) = (acc.toList ++ (List.replicate n a).flatten).toArray := by
    intro n
    induction n with
    | zero => intro acc; simp
    | succ n ih => intro acc; rw [List.replicate_succ, List.foldl_cons, ih]; simp [List.replicate_succ]
  by_cases h1 : k < 1
  · rw [if_pos h1]
    have : k.toNat = 0 := by omega
    rw [this]; rfl
  · rw [if_neg h1]
    split
    · rename_i h2
      rw [Bool.or_eq_true] at h2
      rcases h2 with h2 | h2
      · have : k = 1 := by simpa using h2
        subst this; simp
      · have : a = [] := by simpa [Str.length] using h2
        subst this; simp
    · rw [fold]; simp
theorem op_mul_str {X : Cx} : OpR X (binaryOp .Mult) (fun x y H Q => ∃ (a : List Nat) (k : Int), x = .str ⟨a.toArray⟩ ∧ y = .int k ∧ 0 ≤ k ∧ k ≤ 1000 ∧ a.length ≤ 1000 ∧ Q (.str ⟨(List.replicate k.toNat a).flatten.toArray⟩) H) := by
  intro pins s σ H x y v u Q I rx ry h
  obtain ⟨a, k, rfl, rfl, h0, h1, h2, q⟩ := h
  obtain ⟨t, rfl⟩ := rx
  obtain ⟨t', rfl⟩ := ry
  refine PySem.SB.mul ⟨by
    have e1 : decide (k < -(2 ^ 63 : Int)) = false := decide_eq_false (by omega)
    have e2 : decide (k ≥ 2 ^ 63) = false := decide_eq_false (by omega)
    rw [e1, e2]; rfl, fun hk _ => ?_, fun hk _ => ?_⟩ fun t2 tk => ⟨.str _, H, I.tok tk, ⟨t2, by rw [mul_list a k h0]⟩, q⟩
  · rw [str_len]
    have : (1000 : Int) ≤ (2 ^ 63 - 1) / k := by
      have h3 : (1000 : Int) * k ≤ 2 ^ 63 - 1 := by omega
      exact (Int.le_ediv_iff_mul_le (by omega)).mpr h3
    omega
  · rw [str_len]
    have h4 : k.toNat ≤ 1000 := by omega
    have h5 : a.length * k.toNat ≤ 1000 * 1000 := Nat.mul_le_mul h2 h4
    unfold Builtin.Str.tooLong
    have : ¬ (a.length * k.toNat > sizeLine) := by
      have : sizeLine = 16777216 := rfl
      omega
    simpa using this
theorem relDs_rep {K : PySem.W.Frag} {mp : List Addr} {H : Hp} {xs : List D} {vs : List V} (r : RelDs K mp H xs vs) : ∀ n : Nat, RelDs K mp H (List.replicate n xs).flatten (List.replicate n vs).flatten
  | 0 => .nil
  | n + 1 => by rw [List.replicate_succ, List.replicate_succ, List.flatten_cons, List.flatten_cons]; exact r.append (relDs_rep r n)
theorem o_mul {X : Cx} : ROp X (binaryOp .Mult) dMul := by
  refine ⟨_, OpR.or op_mul (OpR.or op_mul_str (OpR.or op_repT (OpR.or op_rep op_repT1))), fun mp lh H x y vx vy Q E rp rx ry q => ?_⟩
  cases ry with
  | int k =>
    cases rx with
    | int i =>
      cases hz : (bnd64 i || bnd64 k) with
      | false => simp only [dMul, hz] at q; exact q.elim
      | true =>
        simp only [dMul, hz] at q
        refine .inl ⟨i, k, rfl, rfl, ?_, q.now rp (.int _)⟩
        unfold bnd64 at hz
        rw [Bool.or_eq_true, Bool.and_eq_true, Bool.and_eq_true] at hz
        rcases hz with ⟨a, b⟩ | ⟨a, b⟩
        · exact .inl ⟨of_decide_eq_true a, of_decide_eq_true b⟩
        · exact .inr ⟨of_decide_eq_true a, of_decide_eq_true b⟩
    | str a =>
      cases hz : (decide (0 ≤ k) && (decide (k ≤ 1000) && Nat.ble a.length 1000)) with
      | false => simp only [dMul, hz] at q; exact q.elim
      | true =>
        simp only [dMul, hz] at q
        rw [Bool.and_eq_true, Bool.and_eq_true] at hz
        exact .inr (.inl ⟨a, k, rfl, rfl, of_decide_eq_true hz.1, of_decide_eq_true hz.2.1, Nat.le_of_ble_eq_true hz.2.2, q.now rp (.str _)⟩)
    | @tup a aa avs ha ra =>
      by_cases h1 : k = 1
      · subst h1
        exact .inr (.inr (.inr (.inr ⟨aa, avs, rfl, rfl, ha.sq, PostG.now (show PostG X.K (RelD X.K) mp H (.ok (.tup a) lh) Q E from q) rp (.tup ha ra)⟩)))
      have h1' : decide (k = 1) = false := decide_eq_false h1
      cases hz : (decide (2 ≤ k) && (decide (k ≤ 1000) && (Nat.ble a.length 1000 && !a.isEmpty))) with
      | false => simp only [dMul, h1', hz] at q; exact q.elim
      | true =>
        simp only [dMul, h1', hz] at q
        rw [Bool.and_eq_true, Bool.and_eq_true, Bool.and_eq_true] at hz
        refine .inr (.inr (.inl ⟨aa, k, avs, rfl, rfl, ha.sq, ?_, of_decide_eq_true hz.1, of_decide_eq_true hz.2.1, by rw [← ra.length]; exact Nat.le_of_ble_eq_true hz.2.2.1, fun p hp => ?_⟩))
        · intro e; subst e; cases ra; have := hz.2.2.2; simp at this
        · exact q mp _ _ (.free hp) (rp.free hp) (.tup (.inl upd_same) ((relDs_rep ra _).ext (.free hp)))
    | @ref n a hn =>
      simp only [dMul] at q
      cases e1 : asLst (.ref n) lh with
      | none => simp only [e1] at q; exact q.elim
      | some xs =>
        simp only [e1] at q
        cases hz : (decide (0 ≤ k) && (decide (k ≤ 10000) && Nat.ble xs.length 1000)) with
        | false => simp only [hz] at q; exact q.elim
        | true =>
          simp only [hz] at q
          obtain ⟨_, a', vs, e, e', h1, _, h2, h3⟩ := asLst_of rp (.ref hn) e1
          cases e; cases e'
          rw [Bool.and_eq_true, Bool.and_eq_true] at hz
          have z1 : 0 ≤ k := of_decide_eq_true hz.1
          have z2 : k ≤ 10000 := of_decide_eq_true hz.2.1
          have z3 : xs.length ≤ 1000 := Nat.le_of_ble_eq_true hz.2.2
          refine .inr (.inr (.inr (.inl ⟨a, k, vs, rfl, rfl, h2, by omega, by omega, ?_, fun p hp => ?_⟩)))
          · rw [← h3.length]
            have h4 : k.toNat ≤ 10000 := by omega
            have h5 : xs.length * k.toNat ≤ 1000 * 10000 := Nat.mul_le_mul z3 h4
            have : sizeLine = 16777216 := rfl
            omega
          · exact q (mp ++ [p]) _ _ (.alloc rp hp) (rp.alloc hp ⟨_, upd_same, (relDs_rep h3 _).ext (.alloc rp hp)⟩) (.ref (by rw [← rp.len]; simp))
    | _ => exact q.elim
  | _ => cases rx <;> exact q.elim
def pdA (f : D → Option PyData) : List D → Option (List PyData)
  | [] => some []
  | d :: r => match f d, pdA f r with
    | some p, some ps => some (p :: ps)
    | _, _ => none
def pd (h : LH) : Nat → D → Option PyData
  | 0, _ => none
  | n + 1, d => match d with
    | .non => some .none
    | .bl b => some (.bool b)
    | .int i => some (.int i)
    | .str l => some (.str ⟨l.toArray⟩)
    | .tup xs => (pdA (pd h n) xs).map .tuple
    | .ktp xs => (pdA (pd h n) xs).map .tuple
    | .fn _ _ => none
    | .rol xs => (pdA (pd h n) xs).map .list
    | .ref k => (asRd (.ref k) h).bind fun xs => (pdA (pd h n) xs).map .list
theorem pdA_ok {K : PySem.W.Frag} {mp : List Addr} {H : Hp} {f : D → Option PyData} (hf : ∀ d v p, RelD K mp H d v → f d = some p → Dp K H v p) : ∀ {xs : List D} {vs : List V} {ps : List PyData}, RelDs K mp H xs vs → pdA f xs = some ps → DpAll K H vs ps
  | _, _, _, .nil, h => by cases h; exact .nil
  | _, _, ps, .cons (d := d) (ds := ds) a b, h => by
    unfold pdA at h
    cases e1 : f d with
    | none => simp only [e1] at h; cases h
    | some p =>
      cases e2 : pdA f ds with
      | none => simp only [e1, e2] at h; cases h
      | some qs =>
        simp only [e1, e2] at h; cases h
        exact .cons (hf _ _ _ a e1) (pdA_ok hf b e2)
theorem pd_ok {K : PySem.W.Frag} {mp : List Addr} {H : Hp} {lh : LH} (r : Rep K mp lh H) : ∀ (n : Nat) (d : D) (v : V) (p : PyData), RelD K mp H d v → pd lh n d = some p → Dp K H v p
  | 0, _, _, _, _, h => by cases h
  | n + 1, d, v, p, rd, h => by
    unfold pd at h
    cases rd with
    | non => cases h; exact .non
    | bl b => cases h; exact .bl b
    | int i => cases h; exact .int i
    | str l => cases h; exact .str _
    | @tup xs a vs hs rs =>
      cases e : pdA (pd lh n) xs with
      | none => simp only [e] at h; cases h
      | some ps => simp only [e] at h; cases h; exact .tup hs.sq (pdA_ok (pd_ok r n) rs e)
    | @ktp xs a vs hs rs =>
      cases e : pdA (pd lh n) xs with
      | none => simp only [e] at h; cases h
      | some ps => simp only [e] at h; cases h; exact .tup hs.sq (pdA_ok (pd_ok r n) rs e)
    | @rol xs a vs hs rs =>
      cases e : pdA (pd lh n) xs with
      | none => simp only [e] at h; cases h
      | some ps => simp only [e] at h; cases h; exact .lst hs.sq (pdA_ok (pd_ok r n) rs e)
    | @ref k a hk =>
      dsimp only at h
      cases e1 : asRd (.ref k) lh with
      | none => rw [e1] at h; cases h
      | some xs =>
        rw [e1] at h
        obtain ⟨_, a', vs, e, e', _, h2, h3⟩ := asRd_of r (.ref hk) e1
        cases e; cases e'
        cases e : pdA (pd lh n) xs with
        | none => simp [e] at h
        | some ps => simp [e] at h; subst h; exact .lst h2 (pdA_ok (pd_ok r n) h3 e)
def eqS : D → D → Option Bool
  | .non, .non => some true
  | .int i, .int j => some (decide (i = j))
  | .bl a, .bl b => some (decide (a = b))
  | .str a, .str b => some (decide (a = b))
  | .non, .int _ => some false
  | .int _, .non => some false
  | .non, .bl _ => some false
  | .bl _, .non => some false
  | .non, .str _ => some false
  | .str _, .non => some false
  | .int _, .str _ => some false
  | .str _, .int _ => some false
  | .bl _, .str _ => some false
  | .str _, .bl _ => some false
  | _, _ => none
def eqD (x y : D) (h : LH) : Option Bool := match eqS x y with
  | some b => some b
  | none => match pd h 66 x, pd h 66 y with
    | some p, some q => if (SeqAt.shaped p && SeqAt.shaped q) = true then some (PyData.eqv p q) else none
    | _, _ => none
def dEq : D → D → LH → R D := fun x y h => match eqD x y h with
  | some b => .ok (.bl b) h
  | none => .bad
def dNe : D → D → LH → R D := fun x y h => match eqD x y h with
  | some b => .ok (.bl (!b)) h
  | none => .bad
theorem eqS_ok {K : PySem.W.Frag} {mp : List Addr} {H : Hp} {x y : D} {vx vy : V} {b : Bool} (rx : RelD K mp H x vx) (ry : RelD K mp H y vy) (h : eqS x y = some b) : scal vx vy = true ∧ decide (vx = vy) = b := by
  cases rx <;> cases ry <;> first
    | (cases h; refine ⟨rfl, ?_⟩; simp)
    | cases h
  all_goals (refine ⟨rfl, ?_⟩; simp)
theorem eqD_ok {K : PySem.W.Frag} {mp : List Addr} {lh : LH} {H : Hp} {x y : D} {vx vy : V} {b : Bool} (r : Rep K mp lh H) (rx : RelD K mp H x vx) (ry : RelD K mp H y vy) (h : eqD x y lh = some b) :
    (scal vx vy = true ∧ decide (vx = vy) = b) ∨ ∃ p q, Dp K H vx p ∧ Dp K H vy q ∧ SeqAt.shaped p = true ∧ SeqAt.shaped q = true ∧ PyData.eqv p q = b := by
  unfold eqD at h
  cases e : eqS x y with
  | some b' => simp only [e] at h; cases h; exact .inl (eqS_ok rx ry e)
  | none =>
    simp only [e] at h
    cases e1 : pd lh 66 x with
    | none => simp only [e1] at h; cases h
    | some p =>
      cases e2 : pd lh 66 y with
      | none => simp only [e1, e2] at h; cases h
      | some q =>
        simp only [e1, e2] at h
        cases hs : (SeqAt.shaped p && SeqAt.shaped q) with
        | false => simp only [hs] at h; cases h
        | true =>
          simp only [hs] at h; cases h
          rw [Bool.and_eq_true] at hs
          exact .inr ⟨p, q, pd_ok r _ _ _ _ rx e1, pd_ok r _ _ _ _ ry e2, hs.1, hs.2, rfl⟩
theorem o_eq {X : Cx} (hu : X.A.units + 64 < cLine) : ROp X (compareOp .Eq) dEq := by
  refine ⟨_, OpR.or op_eq (op_eqD hu), fun mp lh H x y vx vy Q E rp rx ry q => ?_⟩
  unfold dEq at q
  cases e : eqD x y lh with
  | none => simp only [e] at q; exact q.elim
  | some b =>
    simp only [e] at q
    rcases eqD_ok rp rx ry e with ⟨h1, h2⟩ | ⟨p, p', h1, h2, h3, h4, h5⟩
    · exact .inl ⟨h1, by rw [h2]; exact q.now rp (.bl _)⟩
    · exact .inr ⟨p, p', h1, h2, h3, h4, by rw [h5]; exact q.now rp (.bl _)⟩
theorem o_ne {X : Cx} (hu : X.A.units + 64 < cLine) : ROp X (compareOp .NotEq) dNe := by
  refine ⟨_, OpR.or op_ne (op_neD hu), fun mp lh H x y vx vy Q E rp rx ry q => ?_⟩
  unfold dNe at q
  cases e : eqD x y lh with
  | none => simp only [e] at q; exact q.elim
  | some b =>
    simp only [e] at q
    rcases eqD_ok rp rx ry e with ⟨h1, h2⟩ | ⟨p, p', h1, h2, h3, h4, h5⟩
    · exact .inl ⟨h1, by rw [h2]; exact q.now rp (.bl _)⟩
    · exact .inr ⟨p, p', h1, h2, h3, h4, by rw [h5]; exact q.now rp (.bl _)⟩
def dNotN : D → D → LH → R D := fun x y h => match x, y with
  | .non, .non => .ok (.bl false) h
  | _, .non => .ok (.bl true) h
  | .bl a, .bl b => .ok (.bl (!decide (a = b))) h
  | _, _ => .bad
theorem o_isNot {X : Cx} : ROp X (compareOp .IsNot) dNotN := by
  refine ⟨_, OpR.or op_notN op_notBl, fun mp lh H x y vx vy Q E rp rx ry q => ?_⟩
  cases ry with
  | non =>
    refine .inl ⟨rfl, ?_⟩
    cases rx <;> exact q.now rp (.bl _)
  | bl b =>
    cases rx with
    | bl a => exact .inr ⟨a, b, rfl, rfl, q.now rp (.bl _)⟩
    | _ => exact q.elim
  | _ => cases rx <;> exact q.elim
def dLt : D → D → LH → R D := fun x y h => match x, y with
  | .int i, .int j => .ok (.bl (decide (i < j))) h
  | .str a, .str b => .ok (.bl (ltT a b)) h
  | _, _ => .bad
theorem o_lt {X : Cx} : ROp X (compareOp .Lt) dLt := by
  refine ⟨_, OpR.or op_lt op_lt_str, fun mp lh H x y vx vy Q E rp rx ry q => ?_⟩
  cases rx with
  | int i =>
    cases ry with
    | int j => exact .inl ⟨i, j, rfl, rfl, q.now rp (.bl _)⟩
    | _ => exact q.elim
  | str a =>
    cases ry with
    | str b =>
      refine .inr ⟨_, _, rfl, rfl, ?_⟩
      have e : decide ((⟨a.toArray⟩ : Str).cps.toList < (⟨b.toArray⟩ : Str).cps.toList) = ltT a b := by
        unfold ltT; rw [PyProof.Rows.ltCps_eq]
      rw [e]; exact q.now rp (.bl _)
    | _ => exact q.elim
  | _ => cases ry <;> exact q.elim
def isFlat : D → Bool
  | .non => true
  | .bl _ => true
  | .int _ => true
  | .str _ => true
  | _ => false
def eqF : D → D → Bool
  | .non, .non => true
  | .bl a, .bl b => a == b
  | .int a, .int b => a == b
  | .str a, .str b => a == b
  | .bl a, .int j => (if a then 1 else 0) == j
  | .int i, .bl b => i == (if b then 1 else 0)
  | _, _ => false
def inDeep (x : D) (ys : List D) (h : LH) : Option Bool := match pd h 65 x, pdA (pd h 65) ys with
  | some p, some qs => if (SeqAt.shaped p && SeqAt.shaped (.list qs)) = true then some (qs.any fun z => PyData.eqv z p) else none
  | _, _ => none
def inSq (x : D) (ys : List D) (h : LH) : Option Bool := if (ys.all isFlat && isFlat x) = true then some (ys.any fun z => eqF z x) else inDeep x ys h
def inD (x y : D) (h : LH) : Option Bool := match y with
  | .str b => (match x with
    | .str [c] => some (decide (c ∈ b))
    | _ => none)
  | .tup ys => inSq x ys h
  | .ktp ys => inSq x ys h
  | .ref n => (match asRd (.ref n) h with
    | some ys => inSq x ys h
    | none => none)
  | _ => none
def dIn : D → D → LH → R D := fun x y h => match inD x y h with
  | some b => .ok (.bl b) h
  | none => .bad
def dNotIn : D → D → LH → R D := fun x y h => match inD x y h with
  | some b => .ok (.bl (!b)) h
  | none => .bad
section
variable {K : PySem.W.Frag} {mp : List Addr} {H : Hp} {lh : LH}
theorem flat_rel {d : D} {v : V} (r : RelD K mp H d v) (h : isFlat d = true) : flatV v = true := by cases r <;> first | rfl | cases h
theorem flats_rel : ∀ {ds : List D} {vs : List V}, RelDs K mp H ds vs → ds.all isFlat = true → vs.all flatV = true
  | _, _, .nil, _ => rfl
  | _, _, .cons a b, h => by
    rw [List.all_cons, Bool.and_eq_true] at h ⊢
    exact ⟨flat_rel a h.1, flats_rel b h.2⟩
theorem eqF_rel {x y : D} {vx vy : V} (rx : RelD K mp H x vx) (ry : RelD K mp H y vy) (hx : isFlat x = true) (hy : isFlat y = true) : eqV vx vy = eqF x y := by
  cases rx <;> cases ry <;> first | rfl | cases hx | cases hy
  rename_i a b
  show ((⟨a.toArray⟩ : Str) == ⟨b.toArray⟩) = (a == b)
  by_cases e : a = b
  · subst e; simp
  · have : ¬ ((⟨a.toArray⟩ : Str) = ⟨b.toArray⟩) := fun z => e (str_inj.mp z)
    rw [beq_eq_false_iff_ne.mpr this, beq_eq_false_iff_ne.mpr e]
theorem any_rel {x : D} {vx : V} (rx : RelD K mp H x vx) (hx : isFlat x = true) : ∀ {ds : List D} {vs : List V}, RelDs K mp H ds vs → ds.all isFlat = true → inV vx vs = ds.any fun z => eqF z x
  | _, _, .nil, _ => rfl
  | _, _, .cons a b, h => by
    rw [List.all_cons, Bool.and_eq_true] at h
    have ih := any_rel rx hx b h.2
    unfold inV at ih ⊢
    rw [List.any_cons, List.any_cons, eqF_rel a rx h.1 hx, ih]
theorem inSq_ok {x : D} {ys : List D} {vx : V} {vs : List V} {b : Bool} (r : Rep K mp lh H) (rx : RelD K mp H x vx) (ry : RelDs K mp H ys vs) (h : inSq x ys lh = some b) :
    (flatV vx = true ∧ vs.all flatV = true ∧ inV vx vs = b) ∨ ∃ p qs, Dp K H vx p ∧ DpAll K H vs qs ∧ SeqAt.shaped p = true ∧ SeqAt.shaped (.list qs) = true ∧ (qs.any fun z => PyData.eqv z p) = b := by
  unfold inSq at h
  split at h
  · rename_i hf
    rw [Bool.and_eq_true] at hf
    cases h
    exact .inl ⟨flat_rel rx hf.2, flats_rel ry hf.1, any_rel rx hf.2 ry hf.1⟩
  · unfold inDeep at h
    cases e1 : pd lh 65 x with
    | none => simp only [e1] at h; cases h
    | some p =>
      cases e2 : pdA (pd lh 65) ys with
      | none => simp only [e1, e2] at h; cases h
      | some qs =>
        simp only [e1, e2] at h
        split at h
        · rename_i hs
          rw [Bool.and_eq_true] at hs
          cases h
          exact .inr ⟨p, qs, pd_ok r _ _ _ _ rx e1, pdA_ok (pd_ok r _) ry e2, hs.1, hs.2, rfl⟩
        · cases h
end
section
variable {X : Cx}
theorem op_inDT (hu : X.A.units + 65 < cLine) : OpR X (compareOp .In) (fun x y H Q => ∃ d ds, Dp X.K H x d ∧ Dp X.K H y (.tuple ds) ∧ SeqAt.shaped d = true ∧ SeqAt.shaped (.list ds) = true ∧ Q (.bl (ds.any fun z => PyData.eqv z d)) H) := by
  intro pins s σ H x y v u Q I rx ry h
  obtain ⟨d, ds, hd, he, sd, se, q⟩ := h
  obtain ⟨as, r1⟩ := Dp.reads I d x v hd rx
  obtain ⟨bs, r2⟩ := Dp.reads I (.tuple ds) y u he ry
  exact SeqAt.in_tuple_reads r2 r1 (SeqAt.canLay_of_shaped (d := .list ds) se) (SeqAt.canLay_of_shaped sd) (PyProof.Rows.room_in_shaped sd hu) ⟨.bl _, H, I, rfl, q⟩
theorem op_notInDT (hu : X.A.units + 65 < cLine) : OpR X (compareOp .NotIn) (fun x y H Q => ∃ d ds, Dp X.K H x d ∧ Dp X.K H y (.tuple ds) ∧ SeqAt.shaped d = true ∧ SeqAt.shaped (.list ds) = true ∧ Q (.bl (!ds.any fun z => PyData.eqv z d)) H) := by
  intro pins s σ H x y v u Q I rx ry h
  obtain ⟨d, ds, hd, he, sd, se, q⟩ := h
  obtain ⟨as, r1⟩ := Dp.reads I d x v hd rx
  obtain ⟨bs, r2⟩ := Dp.reads I (.tuple ds) y u he ry
  exact SeqAt.notIn_tuple_reads r2 r1 (SeqAt.canLay_of_shaped (d := .list ds) se) (SeqAt.canLay_of_shaped sd) (PyProof.Rows.room_in_shaped sd hu) ⟨.bl _, H, I, rfl, q⟩
theorem inD_ok {K : PySem.W.Frag} {mp : List Addr} {H : Hp} {lh : LH} {x y : D} {vx vy : V} {b : Bool} {A B C E : Prop} (r : Rep K mp lh H) (rx : RelD K mp H x vx) (ry : RelD K mp H y vy) (h : inD x y lh = some b)
    (kA : ∀ (c : Nat) (z : Str), vx = .str ⟨#[c]⟩ → vy = .str z → decide (c ∈ z.cps.toList) = b → A)
    (kB : ∀ p xs, vy = .ref p → (SqL K H p xs ∨ SqT K H p xs) → flatV vx = true → xs.all flatV = true → inV vx xs = b → B)
    (kC : ∀ d ds, Dp K H vx d → Dp K H vy (.list ds) → SeqAt.shaped d = true → SeqAt.shaped (.list ds) = true → (ds.any fun z => PyData.eqv z d) = b → C)
    (kE : ∀ d ds, Dp K H vx d → Dp K H vy (.tuple ds) → SeqAt.shaped d = true → SeqAt.shaped (.list ds) = true → (ds.any fun z => PyData.eqv z d) = b → E) : A ∨ (B ∨ (C ∨ E)) := by
  unfold inD at h
  cases ry with
  | str l =>
    cases rx with
    | str a =>
      match a, h with
      | [c], h => cases h; exact .inl (kA c _ rfl rfl rfl)
    | _ => cases h
  | @tup ys a vs ha ra =>
    rcases inSq_ok r rx ra h with ⟨h1, h2, h3⟩ | ⟨p, qs, h1, h2, h3, h4, h5⟩
    · exact .inr (.inl (kB a vs rfl (.inr ha.sq) h1 h2 h3))
    · exact .inr (.inr (.inr (kE p qs h1 (.tup ha.sq h2) h3 h4 h5)))
  | @ktp ys a vs ha ra =>
    rcases inSq_ok r rx ra h with ⟨h1, h2, h3⟩ | ⟨p, qs, h1, h2, h3, h4, h5⟩
    · exact .inr (.inl (kB a vs rfl (.inr ha.sq) h1 h2 h3))
    · exact .inr (.inr (.inr (kE p qs h1 (.tup ha.sq h2) h3 h4 h5)))
  | @ref n a hn =>
    dsimp only at h
    cases e : asRd (.ref n) lh with
    | none => rw [e] at h; cases h
    | some ys =>
      rw [e] at h
      obtain ⟨_, a', vs, e1, e2, _, h2, h3⟩ := asRd_of r (.ref hn) e
      cases e1; cases e2
      rcases inSq_ok r rx h3 h with ⟨g1, g2, g3⟩ | ⟨p, qs, g1, g2, g3, g4, g5⟩
      · exact .inr (.inl (kB a vs rfl (.inl h2) g1 g2 g3))
      · exact .inr (.inr (.inl (kC p qs g1 (.lst h2 g2) g3 g4 g5)))
  | _ => cases h
theorem o_in (hu : X.A.units + 65 < cLine) : ROp X (compareOp .In) dIn := by
  refine ⟨_, OpR.or op_in_sign (OpR.or op_in_seq (OpR.or (op_inD hu) (op_inDT hu))), fun mp lh H x y vx vy Q E rp rx ry q => ?_⟩
  unfold dIn at q
  cases e : inD x y lh with
  | none => simp only [e] at q; exact q.elim
  | some b =>
    simp only [e] at q
    have q := q.now rp (.bl b)
    exact inD_ok rp rx ry e (fun c z h1 h2 h3 => ⟨c, z, h1, h2, by rw [h3]; exact q⟩) (fun p xs h1 h2 h3 h4 h5 => ⟨p, xs, h1, h2, h3, h4, by rw [if_neg (by decide), h5]; exact q⟩)
      (fun d ds h1 h2 h3 h4 h5 => ⟨d, ds, h1, h2, h3, h4, by rw [h5]; exact q⟩) (fun d ds h1 h2 h3 h4 h5 => ⟨d, ds, h1, h2, h3, h4, by rw [h5]; exact q⟩)
theorem o_notIn (hu : X.A.units + 65 < cLine) : ROp X (compareOp .NotIn) dNotIn := by
  refine ⟨_, OpR.or op_notIn_sign (OpR.or op_notIn_seq (OpR.or (op_notInD hu) (op_notInDT hu))), fun mp lh H x y vx vy Q E rp rx ry q => ?_⟩
  unfold dNotIn at q
  cases e : inD x y lh with
  | none => simp only [e] at q; exact q.elim
  | some b =>
    simp only [e] at q
    have q := q.now rp (.bl (!b))
    exact inD_ok rp rx ry e (fun c z h1 h2 h3 => ⟨c, z, h1, h2, by rw [h3]; exact q⟩) (fun p xs h1 h2 h3 h4 h5 => ⟨p, xs, h1, h2, h3, h4, by rw [if_pos rfl, h5]; exact q⟩)
      (fun d ds h1 h2 h3 h4 h5 => ⟨d, ds, h1, h2, h3, h4, by rw [h5]; exact q⟩) (fun d ds h1 h2 h3 h4 h5 => ⟨d, ds, h1, h2, h3, h4, by rw [h5]; exact q⟩)
end
end Rf
set_option Elab.async false
set_option linter.all false
set_option maxRecDepth 100000
set_option maxHeartbeats 4000000
set_option autoImplicit false
namespace Rf
open PySem PySem.Spec L2
inductive Tg where
  | non | bool | int | str | list | tuple | dict | ins (c : Nat) | exc (c : Nat)
  deriving DecidableEq
def tgV (K : PySem.W.Frag) : Tg → Value
  | .non => .type "NoneType"
  | .bool => .type "bool"
  | .int => .type "int"
  | .str => .type "str"
  | .list => .type "list"
  | .tuple => .type "tuple"
  | .dict => .type "dict"
  | .ins c => .ref (clsA K c)
  | .exc c => .ref (clsA K c)
def tgOf (d : D) (h : LH) : Option Tg := match d with
  | .non => some .non
  | .bl _ => some .bool
  | .int _ => some .int
  | .str _ => some .str
  | .tup _ => some .tuple
  | .rol _ => none
  | .ktp _ => some .tuple
  | .fn _ _ => none
  | .ref n => (match h[n]? with
    | some (.lst _) => some .list
    | some (.dic _ _) => some .dict
    | some (.ins c _) => some (.ins c)
    | some (.exc c []) => some (.exc c)
    | _ => none)
structure InsOk (K : PySem.W.Frag) (C : Addr) : Prop where
  cl : Cls K C
  ha : PySem.W.findIn K (.ref C) "__class__" = some (some (.builtin "object.__class__"))
  hn : PySem.W.specialIn K (.builtin "object.__class__") "__get__" = some (some (.builtin "getset_descriptor.__get__"))
  htk : PySem.W.takesIn K (.builtin "object.__class__") = some true
  hm : PySem.W.mroIn K C (.type "object") = some true
def rIsX (K : PySem.W.Frag) : List V → Hp → VK → Prop := fun xs H Q => ∃ (a D : Addr) (c : V) (u : Value) (b : Bool), xs = [.ref a, c] ∧ H a = some (ExcO a (.ref D) none) ∧ ExcC K D ∧ ClsV c u ∧ PySem.W.kitOne K (.ref D) u = some b ∧ Q (.bl b) H
theorem call_isX {X : Cx} : CallR X (.builtin "isinstance") (rIsX X.K) := by
  intro pins s σ H xs us Q I r h
  obtain ⟨a, D, c, u, b, rfl, ha, C, k, e, q⟩ := h
  cases r with
  | cons rx rr =>
    cases rr with
    | cons rt rr =>
      cases rr
      cases rx
      have e2 := k.eq rt
      subst e2
      obtain ⟨oe, vs, hget, hz, hv⟩ := (I.hok a _ ha).1
      have J : PySem.W.InstAt s.heap a oe D none := by
        obtain ⟨oc, od, oda, osl⟩ := oe
        obtain ⟨h1, h2⟩ := hz
        dsimp only at h1 h2 hv
        subst h1 h2 hv
        exact ⟨hget, rfl, rfl, trivial⟩
      exact PySem.W.kia_one (PySem.W.handS_kitx_exc C.hg C.hk C.hs C.hd C.ha C.hn C.ht C.hm) I.kIn J e (fun z => nomatch z) fun tk => ⟨.bl b, H, I.tok tk, rfl, q⟩
def mIsi (sub : Tg → Option Bool) (me : EM) : EM := fun ls h => (me ls h).bind fun d h1 => match tgOf d h1 with
  | some t => (match sub t with
    | some b => .ok (.bl b) h1
    | none => .bad)
  | none => .bad
section
variable {X : Cx} {K : PySem.W.Frag} {mp : List Addr} {H : Hp} {lh : LH}
theorem tg_ok {d : D} {v : V} {t : Tg} (r : Rep K mp lh H) (rd : RelD K mp H d v) (h : tgOf d lh = some t) (hI : ∀ c, t = .ins c → InsOk K (clsA K c)) :
    TyX K H v (tgV K t) ∨ ∃ c a, t = .exc c ∧ v = .ref a ∧ H a = some (ExcO a (.ref (clsA K c)) none) := by
  cases rd with
  | non => cases h; exact .inl (.base .non)
  | bl b => cases h; exact .inl (.base (.bl b))
  | int i => cases h; exact .inl (.base (.int i))
  | str l => cases h; exact .inl (.base (.str _))
  | @tup ds a vs hs rs =>
    have h := Option.some.inj h
    subst h
    rcases hs with hs | ⟨_, o, its, n, hk, hc, _⟩
    · exact .inl (.base (.tup hs))
    · exact .inl (.kTuple hk hc)
  | @ktp ds a vs hs rs =>
    have h := Option.some.inj h
    subst h
    obtain ⟨o, its, n, hk, hc, _⟩ := hs
    exact .inl (.kTuple hk hc)
  | rol _ _ => cases h
  | @ref n a ha =>
    unfold tgOf at h
    cases hn : lh[n]? with
    | none => simp only [hn] at h; cases h
    | some o =>
      have ro := r.obj n o a hn ha
      cases o with
      | lst xs => simp only [hn] at h; cases h; obtain ⟨vs, h1, _⟩ := ro; exact .inl (.base (.lst h1))
      | dic b kvs =>
        simp only [hn] at h; cases h
        cases b with
        | false => obtain ⟨ks, h1, _⟩ := ro; exact .inl (.base (.dK h1))
        | true => obtain ⟨ks, h1, _⟩ := ro; exact .inl (.base (.dT h1))
      | ins c fs =>
        simp only [hn] at h; cases h
        obtain ⟨dx, gs, h1, _⟩ := ro
        have i := hI c rfl
        exact .inl (.base (.ins h1 i.cl i.ha i.hn i.htk i.hm))
      | exc c fs =>
        cases fs with
        | cons p q => simp only [hn] at h; cases h
        | nil =>
          simp only [hn] at h; cases h
          obtain ⟨d, h1, h2⟩ := ro
          rcases h2.2 with ⟨_, e⟩ | ⟨dd, fs, ne, _⟩
          · subst e; exact .inr ⟨c, a, rfl, rfl, h1⟩
          · exact absurd rfl ne
      | dlk t kvs => simp only [hn] at h; cases h
end
section
variable {X : Cx} {W : WX} {e : Expr} {me : EM} {p p2 pos : Pos} {sub : Tg → Option Bool} {t : Str} {cv : V} {u : Value}
theorem re_isi (he : RE X W e me) (hT : PE X (.Name t p2) (tC cv)) (hcv : ClsV cv u) (hg : Gl X "isinstance") (hm : X.mg "isinstance" = none)
    (hsub : ∀ g b, sub g = some b → PySem.W.kitOne X.K (tgV X.K g) u = some b) (hI : ∀ c b, sub (.ins c) = some b → InsOk X.K (clsA X.K c)) (hE : ∀ c b, sub (.exc c) = some b → ExcC X.K (clsA X.K c))
    (hs : starEach [e, .Name t p2] X.env = (false, eval e X.env) :: starEach [.Name t p2] X.env := by rfl) (hs2 : starEach [.Name t p2] X.env = (false, eval (.Name t p2) X.env) :: starEach [] X.env := by rfl)
    (hpl : (backTo pos (starEach [.Name t p2] X.env)).any (·.1) = false := by rfl) :
    RE X W (.Call (.Name "isinstance" p) [e, .Name t p2] [] pos) (mIsi sub me) := by
  obtain ⟨te, a1, a2⟩ := he
  have hcr : CallR X (.builtin "isinstance") (fun xs H Q => rIsi X.K xs H Q ∨ rIsX X.K xs H Q) := fun pins s σ H xs us Q I r h => h.elim (call_isi pins s σ H xs us Q I r) (call_isX pins s σ H xs us Q I r)
  refine ⟨_, pe_callB (p := p) (pos := pos) hcr hg hm (by decide +kernel) (pa_cons a1 (pa_cons hT pa_nil hs2) hs) (he := hs) (hpl := hpl), fun mp lh ls σ H Q r rs q => ?_⟩
  refine a2 mp lh ls σ H _ r rs (q.bind fun mp1 H1 lh1 d v e1 r1 rl1 q1 => ?_)
  cases ht : tgOf d lh1 with
  | none => simp only [ht] at q1; exact q1.elim
  | some g =>
    cases hb : sub g with
    | none => simp only [ht, hb] at q1; exact q1.elim
    | some b =>
      simp only [ht, hb] at q1
      rcases tg_ok r1 rl1 ht (fun c ec => hI c b (by rw [← ec]; exact hb)) with h | ⟨c, a, rfl, rfl, ha⟩
      · exact .inl ⟨v, cv, _, u, b, rfl, hcv, h, hsub _ _ hb, q1.now r1 (.bl b)⟩
      · exact .inr ⟨a, _, cv, u, b, rfl, ha, hE c b hb, hcv, hsub _ _ hb, q1.now r1 (.bl b)⟩
end
def dIx : D → D → LH → R D := fun x y h => match y with
  | .int i => (match x with
    | .str l => if szOk l.length = true then (match atI l i with
      | some c => .ok (.str [c]) h
      | none => .bad) else .bad
    | .tup xs => (match atI xs i with
      | some d => .ok d h
      | none => .bad)
    | .ref n => (match asRd (.ref n) h with
      | some xs => (match atI xs i with
        | some d => .ok d h
        | none => .bad)
      | none => .bad)
    | _ => .bad)
  | _ => .bad
def RIx (X : Cx) (f : D → D → LH → R D) : Prop := ∃ r, IxR X r ∧ RefOp X.K r f
theorem atI_rel {K : PySem.W.Frag} {mp : List Addr} {H : Hp} {xs : List D} {vs : List V} {i : Int} {d : D} (r : RelDs K mp H xs vs) (h : atI xs i = some d) : ∃ v, atI vs i = some v ∧ RelD K mp H d v := by
  unfold atI at h ⊢
  rw [← r.length]
  cases e : ixN xs.length i with
  | none => rw [e] at h; cases h
  | some j => rw [e] at h; exact r.get h
theorem o_ix {X : Cx} : RIx X dIx := by
  refine ⟨_, ix_seq, fun mp lh H x y vx vy Q E rp rx ry q => ?_⟩
  cases ry with
  | int i =>
    cases rx with
    | str l =>
      simp only [dIx] at q
      cases hz : szOk l.length with
      | false => simp only [hz] at q; exact q.elim
      | true =>
        cases e : atI l i with
        | none => simp only [hz, e] at q; exact q.elim
        | some c => simp only [hz, e] at q; exact .inr (.inr ⟨_, i, c, rfl, rfl, by rw [str_len]; exact szOk_le hz, e, q.now rp (.str [c])⟩)
    | @tup ds a vs hs rs =>
      simp only [dIx] at q
      cases e : atI ds i with
      | none => simp only [e] at q; exact q.elim
      | some d =>
        simp only [e] at q
        obtain ⟨v, h1, h2⟩ := atI_rel rs e
        exact .inr (.inl ⟨a, vs, i, v, rfl, rfl, hs.sq, h1, q.now rp h2⟩)
    | @ref n a hn =>
      simp only [dIx] at q
      cases e1 : asRd (.ref n) lh with
      | none => simp only [e1] at q; exact q.elim
      | some xs =>
        cases e : atI xs i with
        | none => simp only [e1, e] at q; exact q.elim
        | some d =>
          simp only [e1, e] at q
          obtain ⟨_, a', vs, z1, z2, _, h2, h3⟩ := asRd_of rp (.ref hn) e1
          cases z1; cases z2
          obtain ⟨v, g1, g2⟩ := atI_rel h3 e
          exact .inl ⟨a, vs, i, v, rfl, rfl, h2, g1, q.now rp g2⟩
    | _ => exact q.elim
  | _ => cases rx <;> exact q.elim
section
variable {X : Cx} {W : WX} {a b : Expr} {ma mb : EM} {pos : Pos}
theorem re_ix (ha : RE X W a ma) (hb : RE X W b mb) (hs : PlainIx b := by exact fun _ _ => rfl) : RE X W (.Subscript a b pos) (mBin dIx ma mb) := by
  obtain ⟨r, h1, h2⟩ := o_ix (X := X)
  obtain ⟨ta, a1, a2⟩ := ha
  obtain ⟨tb, b1, b2⟩ := hb
  exact ⟨_, pe_ix h1 a1 b1 hs, ref_bin h2 a2 b2⟩
end
end Rf
set_option Elab.async false
set_option linter.all false
set_option maxRecDepth 100000
set_option maxHeartbeats 4000000
set_option autoImplicit false
namespace Rf
open PySem PySem.Spec L2
abbrev OM := Ls → LH → R (Option Int)
def mNoPart : OM := fun _ h => .ok none h
def mPart (e : EM) : OM := fun ls h => (e ls h).bind fun d h1 => match d with
  | .int i => .ok (some i) h1
  | _ => .bad
abbrev RelOI : List Addr → Hp → Option Int → Option Int → Prop := fun _ _ a b => a = b
def ROp' (X : Cx) (W : WX) (e : Option Expr) (m : OM) : Prop := ∃ t, PO X e t ∧ ∀ mp lh ls σ H Q, Rep X.K mp lh H → RelS X.K mp H ls σ → PostG X.K RelOI mp H (m ls lh) Q (WE W σ) → t σ H Q
def cutL {α : Type} (xs : List α) (lo hi : Option Int) : List α := (xs.drop (HT.sIx xs.length 0 lo)).take (HT.sIx xs.length xs.length hi - HT.sIx xs.length 0 lo)
def dSl (x : D) (lo hi : Option Int) (h : LH) : R D := match x with
  | .str l => if szOk l.length = true then .ok (.str (cutL l lo hi)) h else .bad
  | .tup xs => .ok (.tup (cutL xs lo hi)) h
  | .ref n => (match asRd (.ref n) h with
    | some xs => .ok (.ref h.length) (h ++ [.lst (cutL xs lo hi)])
    | none => .bad)
  | _ => .bad
def mSl (me : EM) (ml mh : OM) : EM := fun ls h => (me ls h).bind fun x h1 => (ml ls h1).bind fun lo h2 => (mh ls h2).bind fun hi h3 => dSl x lo hi h3
theorem relDs_cut {K : PySem.W.Frag} {mp : List Addr} {H : Hp} {xs : List D} {vs : List V} {lo hi : Option Int} (r : RelDs K mp H xs vs) : RelDs K mp H (cutL xs lo hi) (cutV vs lo hi) := by
  unfold cutL cutV
  rw [r.length]
  exact (r.drop _).take _
section
variable {X : Cx} {W : WX} {e : Expr} {me : EM} {lo hi : Option Expr} {ml mh : OM} {p2 pos : Pos}
theorem ro_none : ROp' X W none mNoPart := ⟨_, po_none, fun _ _ _ _ _ _ r _ q => q.now r rfl⟩
theorem ro_some (he : RE X W e me) : ROp' X W (some e) (mPart me) := by
  obtain ⟨t, a1, a2⟩ := he
  refine ⟨_, po_some a1, fun mp lh ls σ H Q r rs q => a2 mp lh ls σ H _ r rs (q.bind fun mp1 H1 lh1 d v e1 r1 rl1 q1 => ?_)⟩
  cases rl1 with
  | int i => exact ⟨i, rfl, q1.now r1 rfl⟩
  | _ => exact q1.elim
theorem re_slice (he : RE X W e me) (hl : ROp' X W lo ml) (hh : ROp' X W hi mh) : RE X W (.Subscript e (.Slice lo hi none p2) pos) (mSl me ml mh) := by
  obtain ⟨t, a1, a2⟩ := he
  obtain ⟨tl, l1, l2⟩ := hl
  obtain ⟨th, h1, h2⟩ := hh
  refine ⟨_, pe_slice (SlR.or sl_str (SlR.or sl_tupA sl_list)) a1 l1 h1, fun mp lh ls σ H Q r rs q => a2 mp lh ls σ H _ r rs (q.bind fun mp1 H1 lh1 x vx e1 r1 rl1 q1 => ?_)⟩
  refine l2 mp1 lh1 ls σ H1 _ r1 (rs.ext e1) (q1.bind fun mp2 H2 lh2 lo vlo e2 r2 rl2 q2 => ?_)
  refine h2 mp2 lh2 ls σ H2 _ r2 ((rs.ext e1).ext e2) (q2.bind fun mp3 H3 lh3 hi vhi e3 r3 rl3 q3 => ?_)
  cases rl2; cases rl3
  have rx := (rl1.ext e2).ext e3
  cases rx with
  | str l =>
    simp only [dSl] at q3
    cases hz : szOk l.length with
    | false => simp only [hz] at q3; exact q3.elim
    | true => simp only [hz] at q3; exact .inl ⟨_, rfl, by rw [str_len]; exact szOk_le hz, by
        have : cutS ⟨l.toArray⟩ lo hi = ⟨(cutL l lo hi).toArray⟩ := by unfold cutS cutL; rw [str_len]
        rw [this]; exact q3.now r3 (.str _)⟩
  | @tup ds a vs hs rs' =>
    simp only [dSl] at q3
    refine .inr (.inl ⟨a, vs, rfl, hs.sq, fun hw => ?_, fun hw p hp => ?_⟩)
    · have : cutL ds lo hi = ds := by
        unfold cutL; rw [rs'.length, hw.1, hw.2]; simp [← rs'.length]
      rw [this] at q3
      exact q3.now r3 (.tup hs rs')
    · exact q3 mp3 _ _ (.free hp) (r3.free hp) (.tup (.inl upd_same) ((relDs_cut rs').ext (.free hp)))
  | @ref n a hn =>
    simp only [dSl] at q3
    cases e1 : asRd (.ref n) lh3 with
    | none => simp only [e1] at q3; exact q3.elim
    | some xs =>
      simp only [e1] at q3
      obtain ⟨_, a', vs, z1, z2, _, h2, h3⟩ := asRd_of r3 (.ref hn) e1
      cases z1; cases z2
      exact .inr (.inr ⟨a, vs, rfl, h2, fun p hp => q3 (mp3 ++ [p]) _ _ (.alloc r3 hp) (r3.alloc hp ⟨_, upd_same, (relDs_cut h3).ext (.alloc r3 hp)⟩) (.ref (by rw [← r3.len]; simp))⟩)
  | _ => exact q3.elim
end
def RefC (K : PySem.W.Frag) (r : List V → Hp → VK → Prop) (f : List D → LH → R D) : Prop := ∀ mp lh H xs vs Q E, Rep K mp lh H → RelDs K mp H xs vs → Post K mp H (f xs lh) Q E → r vs H Q
def RC (X : Cx) (g : Value) (f : List D → LH → R D) : Prop := ∃ r, CallR X g r ∧ RefC X.K r f
section
variable {X : Cx} {W : WX} {x : Str} {e : Expr} {es : List Expr} {ma : AM} {p pos : Pos} {f : List D → LH → R D} {id T : String}
theorem re_callB (hc : RC X (.builtin id) f) (hg : Gl X x) (hm : X.mg x = none) (hv : bootBuiltins x = some (.builtin id)) (ha : RA X W (e :: es) ma) (hn : x ≠ "__name__" := by decide) (hdb : (x == ("__debug__" : Str)) = false := by decide)
    (he : starEach (e :: es) X.env = (false, eval e X.env) :: starEach es X.env := by rfl) (hpl : (backTo pos (starEach es X.env)).any (·.1) = false := by rfl) : RE X W (.Call (.Name x p) (e :: es) [] pos) (mCall f ma) := by
  obtain ⟨r, c1, c2⟩ := hc
  obtain ⟨t, a1, a2, _⟩ := ha
  exact ⟨_, pe_callB (p := p) (pos := pos) c1 hg hm hv a1 (he := he) (hn := hn) (hdb := hdb) (hpl := hpl), fun mp lh ls σ H Q r rs q => a2 mp lh ls σ H _ r rs (q.bind fun mp1 H1 lh1 ds vs e1 r1 rl1 q1 => c2 mp1 lh1 H1 ds vs Q _ r1 rl1 q1)⟩
theorem re_callTy (hc : RC X (.type T) f) (hg : Gl X x) (hm : X.mg x = none) (hv : bootBuiltins x = some (.type T)) (ha : RA X W (e :: es) ma)
    (he : starEach (e :: es) X.env = (false, eval e X.env) :: starEach es X.env := by rfl) (hn : x ≠ "__name__" := by decide) (hdb : (x == ("__debug__" : Str)) = false := by decide) (hpl : (backTo pos (starEach es X.env)).any (·.1) = false := by rfl) : RE X W (.Call (.Name x p) (e :: es) [] pos) (mCall f ma) := by
  obtain ⟨r, c1, c2⟩ := hc
  obtain ⟨t, a1, a2, _⟩ := ha
  exact ⟨_, pe_callTy (p := p) (pos := pos) c1 hg hm hv a1 (he := he) (hn := hn) (hdb := hdb) (hpl := hpl), fun mp lh ls σ H Q r rs q => a2 mp lh ls σ H _ r rs (q.bind fun mp1 H1 lh1 ds vs e1 r1 rl1 q1 => c2 mp1 lh1 H1 ds vs Q _ r1 rl1 q1)⟩
end
theorem CallR.or {X : Cx} {g : Value} {r r' : List V → Hp → VK → Prop} (a : CallR X g r) (b : CallR X g r') : CallR X g (fun xs H Q => r xs H Q ∨ r' xs H Q) := fun pins s σ H xs us Q I rr h => h.elim (a pins s σ H xs us Q I rr) (b pins s σ H xs us Q I rr)
def f1 (g : D → LH → R D) : List D → LH → R D := fun ds h => match ds with
  | [d] => g d h
  | _ => .bad
theorem refC1 {K : PySem.W.Frag} {r : List V → Hp → VK → Prop} {g : D → LH → R D} (h : ∀ mp lh H x v Q E, Rep K mp lh H → RelD K mp H x v → Post K mp H (g x lh) Q E → r [v] H Q) : RefC K r (f1 g) := fun mp lh H xs vs Q E rp rs q => by
  cases rs with
  | nil => exact q.elim
  | cons a b =>
    cases b with
    | nil => exact h _ _ _ _ _ Q E rp a q
    | cons _ _ => exact q.elim
def dLen : D → LH → R D := fun d h => match d with
  | .str l => if szOk l.length = true then .ok (.int l.length) h else .bad
  | .tup xs => .ok (.int xs.length) h
  | .ktp xs => .ok (.int xs.length) h
  | .ref n => (match h[n]? with
    | some (.lst xs) => .ok (.int xs.length) h
    | some (.dic false kvs) => .ok (.int kvs.length) h
    | _ => .bad)
  | _ => .bad
section
variable {X : Cx}
theorem c_len : RC X (.builtin "len") (f1 dLen) := by
  refine ⟨_, CallR.or call_len call_lenD, refC1 fun mp lh H x v Q E rp rx q => ?_⟩
  cases rx with
  | str l =>
    simp only [dLen] at q
    cases hz : szOk l.length with
    | false => simp only [hz] at q; exact q.elim
    | true => simp only [hz] at q; exact .inl ⟨_, l.length, rfl, ⟨by rw [str_len]; exact szOk_le hz, by rw [str_len]⟩, q.now rp (.int _)⟩
  | @tup ds a vs hs rs => exact .inl ⟨_, ds.length, rfl, .inr ⟨vs, hs.sq, rs.length⟩, q.now rp (.int _)⟩
  | @ktp ds a vs hs rs => exact .inl ⟨_, ds.length, rfl, .inr ⟨vs, hs.sq, rs.length⟩, q.now rp (.int _)⟩
  | @ref n a hn =>
    simp only [dLen] at q
    cases ho : lh[n]? with
    | none => simp only [ho] at q; exact q.elim
    | some o =>
      have ro := rp.obj n o a ho hn
      cases o with
      | lst xs => simp only [ho] at q; obtain ⟨vs, h1, h2⟩ := ro; exact .inl ⟨_, xs.length, rfl, .inl ⟨vs, SqL.of h1, h2.length⟩, q.now rp (.int _)⟩
      | dic b kvs =>
        cases b with
        | false => simp only [ho] at q; obtain ⟨ks, h1, h2⟩ := ro; exact .inr ⟨a, ks, rfl, h1, by rw [← paired_len h2]; exact q.now rp (.int _)⟩
        | true => simp only [ho] at q; exact q.elim
      | _ => simp only [ho] at q; exact q.elim
  | _ => exact q.elim
def dList : D → LH → R D := fun d h => match d with
  | .tup xs => .ok (.ref h.length) (h ++ [.lst xs])
  | .ktp xs => .ok (.ref h.length) (h ++ [.lst xs])
  | .rol xs => .ok (.ref h.length) (h ++ [.lst xs])
  | .ref n => (match asRd (.ref n) h with
    | some xs => .ok (.ref h.length) (h ++ [.lst xs])
    | none => .bad)
  | _ => .bad
theorem c_list : RC X (.type "list") (f1 dList) := by
  refine ⟨_, call_list_of, refC1 fun mp lh H x v Q E rp rx q => ?_⟩
  cases rx with
  | @rol ds a vs hs rs => exact ⟨a, vs, rfl, .inl hs.sq, fun p hp => q (mp ++ [p]) _ _ (.alloc rp hp) (rp.alloc hp ⟨_, upd_same, rs.ext (.alloc rp hp)⟩) (.ref (by rw [← rp.len]; simp))⟩
  | @ktp ds a vs hs rs => exact ⟨a, vs, rfl, .inr hs.sq, fun p hp => q (mp ++ [p]) _ _ (.alloc rp hp) (rp.alloc hp ⟨_, upd_same, rs.ext (.alloc rp hp)⟩) (.ref (by rw [← rp.len]; simp))⟩
  | @tup ds a vs hs rs => exact ⟨a, vs, rfl, .inr hs.sq, fun p hp => q (mp ++ [p]) _ _ (.alloc rp hp) (rp.alloc hp ⟨_, upd_same, rs.ext (.alloc rp hp)⟩) (.ref (by rw [← rp.len]; simp))⟩
  | @ref n a hn =>
    simp only [dList] at q
    cases e1 : asRd (.ref n) lh with
    | none => simp only [e1] at q; exact q.elim
    | some xs =>
      simp only [e1] at q
      obtain ⟨_, a', vs, z1, z2, _, h2, h3⟩ := asRd_of rp (.ref hn) e1
      cases z1; cases z2
      exact ⟨a, vs, rfl, .inl h2, fun p hp => q (mp ++ [p]) _ _ (.alloc rp hp) (rp.alloc hp ⟨_, upd_same, h3.ext (.alloc rp hp)⟩) (.ref (by rw [← rp.len]; simp))⟩
  | _ => exact q.elim
def dTuple : D → LH → R D := fun d h => match d with
  | .tup xs => .ok (.tup xs) h
  | .ref n => (match asRd (.ref n) h with
    | some xs => .ok (.tup xs) h
    | none => .bad)
  | _ => .bad
theorem c_tuple : RC X (.type "tuple") (f1 dTuple) := by
  refine ⟨_, call_tuple_of, refC1 fun mp lh H x v Q E rp rx q => ?_⟩
  cases rx with
  | @tup ds a vs hs rs => exact ⟨a, vs, rfl, .inr ⟨hs.sq, q.now rp (.tup hs rs)⟩⟩
  | @ref n a hn =>
    simp only [dTuple] at q
    cases e1 : asRd (.ref n) lh with
    | none => simp only [e1] at q; exact q.elim
    | some xs =>
      simp only [e1] at q
      obtain ⟨_, a', vs, z1, z2, _, h2, h3⟩ := asRd_of rp (.ref hn) e1
      cases z1; cases z2
      exact ⟨a, vs, rfl, .inl ⟨h2, fun p hp => q mp _ _ (.free hp) (rp.free hp) (.tup (.inl upd_same) (h3.ext (.free hp)))⟩⟩
  | _ => exact q.elim
def allB : List D → Option (List Bool)
  | [] => some []
  | .bl b :: r => (allB r).map (b :: ·)
  | _ => none
def allI : List D → Option (List Int)
  | [] => some []
  | .int i :: r => (allI r).map (i :: ·)
  | _ => none
def allS : List D → Option (List (List Nat))
  | [] => some []
  | .str l :: r => (allS r).map (l :: ·)
  | _ => none
theorem allB_rel {K : PySem.W.Frag} {mp : List Addr} {H : Hp} : ∀ {xs : List D} {vs : List V} {bs : List Bool}, RelDs K mp H xs vs → allB xs = some bs → vs = bs.map V.bl
  | _, _, _, .nil, h => by cases h; rfl
  | _, _, bs, .cons (d := d) (ds := ds) a b, h => by
    cases a with
    | bl c =>
      unfold allB at h
      cases e : allB ds with
      | none => rw [e] at h; cases h
      | some cs => rw [e] at h; cases h; rw [allB_rel b e]; rfl
    | _ => cases h
theorem allI_rel {K : PySem.W.Frag} {mp : List Addr} {H : Hp} : ∀ {xs : List D} {vs : List V} {bs : List Int}, RelDs K mp H xs vs → allI xs = some bs → vs = bs.map V.int
  | _, _, _, .nil, h => by cases h; rfl
  | _, _, bs, .cons (d := d) (ds := ds) a b, h => by
    cases a with
    | int c =>
      unfold allI at h
      cases e : allI ds with
      | none => rw [e] at h; cases h
      | some cs => rw [e] at h; cases h; rw [allI_rel b e]; rfl
    | _ => cases h
theorem allS_rel {K : PySem.W.Frag} {mp : List Addr} {H : Hp} : ∀ {xs : List D} {vs : List V} {bs : List (List Nat)}, RelDs K mp H xs vs → allS xs = some bs → vs = (bs.map fun l => (⟨l.toArray⟩ : Str)).map V.str
  | _, _, _, .nil, h => by cases h; rfl
  | _, _, bs, .cons (d := d) (ds := ds) a b, h => by
    cases a with
    | str c =>
      unfold allS at h
      cases e : allS ds with
      | none => rw [e] at h; cases h
      | some cs => rw [e] at h; cases h; rw [allS_rel b e]; rfl
    | _ => cases h
def dAll : D → LH → R D := fun d h => match asRd d h with
  | some xs => (match allB xs with
    | some bs => .ok (.bl (bs.all id)) h
    | none => .bad)
  | none => .bad
def dSum : D → LH → R D := fun d h => match asRd d h with
  | some xs => (match allI xs with
    | some bs => .ok (.int bs.sum) h
    | none => .bad)
  | none => .bad
theorem c_all (hc : X.calm = true) : RC X (.builtin "all") (f1 dAll) := by
  refine ⟨_, cr_all hc, refC1 fun mp lh H x v Q E rp rx q => ?_⟩
  unfold dAll at q
  cases e1 : asRd x lh with
  | none => simp only [e1] at q; exact q.elim
  | some xs =>
    cases e2 : allB xs with
    | none => simp only [e1, e2] at q; exact q.elim
    | some bs =>
      simp only [e1, e2] at q
      obtain ⟨n, a, vs, rfl, rfl, _, h2, h3⟩ := asRd_of rp rx e1
      exact ⟨a, bs, rfl, by rw [← allB_rel h3 e2]; exact h2, q.now rp (.bl _)⟩
theorem c_sum (hc : X.calm = true) : RC X (.builtin "sum") (f1 dSum) := by
  refine ⟨_, cr_sum hc, refC1 fun mp lh H x v Q E rp rx q => ?_⟩
  unfold dSum at q
  cases e1 : asRd x lh with
  | none => simp only [e1] at q; exact q.elim
  | some xs =>
    cases e2 : allI xs with
    | none => simp only [e1, e2] at q; exact q.elim
    | some bs =>
      simp only [e1, e2] at q
      obtain ⟨n, a, vs, rfl, rfl, _, h2, h3⟩ := asRd_of rp rx e1
      exact ⟨a, bs, rfl, by rw [← allI_rel h3 e2]; exact h2, q.now rp (.int _)⟩
end
def RefM (K : PySem.W.Frag) (T : String) (r : V → List V → Hp → VK → Prop) (ty : D → LH → Bool) (f : D → List D → LH → R D) : Prop :=
  (∀ mp lh H x v, Rep K mp lh H → RelD K mp H x v → ty x lh = true → tyV K T v H) ∧
  ∀ mp lh H x v xs vs Q E, Rep K mp lh H → RelD K mp H x v → RelDs K mp H xs vs → Post K mp H (f x xs lh) Q E → r v vs H Q
def mBM (ty : D → LH → Bool) (f : D → List D → LH → R D) (mo : EM) (ma : AM) : EM := fun ls h => (mo ls h).bind fun x h1 => if ty x h1 = true then (ma ls h1).bind fun xs h2 => f x xs h2 else .bad
def isLst (d : D) (h : LH) : Bool := (asRd d h).isSome
def isStr (d : D) (_ : LH) : Bool := match d with
  | .str _ => true
  | _ => false
theorem ty_str {K : PySem.W.Frag} : ∀ mp lh H x v, Rep K mp lh H → RelD K mp H x v → isStr x lh = true → tyV K "str" v H := fun mp lh H x v rp rx h => by
  cases rx with
  | str l => exact rfl
  | _ => cases h
section
variable {X : Cx} {W : WX} {o e : Expr} {es : List Expr} {name : Str} {id T : String} {mo : EM} {ma : AM} {apos cpos : Pos} {r : V → List V → Hp → VK → Prop} {ty : D → LH → Bool} {f : D → List D → LH → R D}
theorem re_bm (pa : PlainAttrs T) (slot : Slot T name id) (hty : typeOf (.builtin id) = pure (.type "method_descriptor")) (hm : MtR X id r) (hr : RefM X.K T r ty f) (ho : RE X W o mo) (ha : RA X W (e :: es) ma)
    (hbase : attributeBase o name X.env (eval o X.env) = eval o X.env := by rfl)
    (hfew : ((backTo cpos (starEach (e :: es) X.env)).all (fun x => !x.1) && (backToKw cpos (keywordEach [] X.env)).all (fun x => x.1.isSome)
      && decide ((e :: es).length + ([] : List Keyword).length + (if ([] : List Keyword).isEmpty then 0 else 1) < 30)) = true := by rfl)
    (hline : (apos.endLine == cpos.line) = true := by rfl) (hs : starEach (e :: es) X.env = (false, eval e X.env) :: starEach es X.env := by rfl) (hplain : (backTo cpos (starEach es X.env)).any (·.1) = false := by rfl) :
    RE X W (.Call (.Attribute o name apos) (e :: es) [] cpos) (mBM ty f mo ma) := by
  obtain ⟨to, o1, o2⟩ := ho
  obtain ⟨t, a1, a2, _⟩ := ha
  refine ⟨_, pe_bm pa slot hty hm o1 a1 hbase hfew hline hs hplain, fun mp lh ls σ H Q rp rs q => o2 mp lh ls σ H _ rp rs (q.bind fun mp1 H1 lh1 x v e1 r1 rl1 q1 => ?_)⟩
  cases ht : ty x lh1 with
  | false => simp only [ht] at q1; exact q1.elim
  | true =>
    simp only [ht, if_true] at q1
    exact ⟨hr.1 _ _ _ _ _ r1 rl1 ht, a2 mp1 lh1 ls σ H1 _ r1 (rs.ext e1) (q1.bind fun mp2 H2 lh2 xs vs e2 r2 rl2 q2 => hr.2 mp2 lh2 H2 x v xs vs Q _ r2 (rl1.ext e2) rl2 q2)⟩
end
def dAppend : D → List D → LH → R D := fun x as h => match x, as with
  | .ref n, [d] => (match h[n]? with
    | some (.lst xs) => if szOk (xs.length + 1) = true then .ok .non (h.set n (.lst (xs ++ [d]))) else .bad
    | _ => .bad)
  | _, _ => .bad
def joinT (sep : List Nat) : List (List Nat) → List Nat
  | [] => []
  | [x] => x
  | x :: r => x ++ sep ++ joinT sep r
def dJoin : D → List D → LH → R D := fun x as h => match x, as with
  | .str sep, [d] => (match (match d with
      | .tup xs => some xs
      | _ => asRd d h) with
    | some xs => (match allS xs with
      | some ss => if Nat.ble ((ss.map (·.length)).sum + ss.length * sep.length) 16777216 = true then .ok (.str (joinT sep ss)) h else .bad
      | none => .bad)
    | none => .bad)
  | _, _ => .bad
theorem join_aux (sep : List Nat) : ∀ ss : List (List Nat), Str.join ⟨sep.toArray⟩ (ss.map fun l => (⟨l.toArray⟩ : Str)) = ⟨(joinT sep ss).toArray⟩
  | [] => rfl
  | [x] => rfl
  | x :: y :: r => by
    have ih := join_aux sep (y :: r)
    show (⟨x.toArray⟩ : Str) ++ ⟨sep.toArray⟩ ++ Str.join ⟨sep.toArray⟩ ((y :: r).map fun l => (⟨l.toArray⟩ : Str)) = ⟨(x ++ sep ++ joinT sep (y :: r)).toArray⟩
    rw [ih]
    have ap : ∀ a b : List Nat, (⟨a.toArray⟩ : Str) ++ ⟨b.toArray⟩ = ⟨(a ++ b).toArray⟩ := fun a b => by
      show (⟨a.toArray ++ b.toArray⟩ : Str) = _
      simp
    rw [ap, ap]
theorem join_is (sep : List Nat) (ss : List (List Nat)) : Txt.join ⟨sep.toArray⟩ (ss.map fun l => (⟨l.toArray⟩ : Str)) = ⟨(joinT sep ss).toArray⟩ := (TL.join_eq _ _).trans (join_aux sep ss)
theorem m_join {X : Cx} : ∃ r, MtR X "str.join" r ∧ RefM X.K "str" r isStr dJoin := by
  refine ⟨_, mt_join, ty_str, fun mp lh H x v xs vs Q E rp rx rs q => ?_⟩
  have key : ∀ (sep : List Nat) (p : Addr) (us : List V) (ds : List D), (SqL X.K H p us ∨ SqT X.K H p us) → RelDs X.K mp H ds us → Post X.K mp H (match allS ds with
      | some ss => if Nat.ble ((ss.map (·.length)).sum + ss.length * sep.length) 16777216 = true then .ok (.str (joinT sep ss)) lh else .bad
      | none => .bad) Q E → ∃ (a : Str) (p' : Addr), ∃ ys : List Str, V.str ⟨sep.toArray⟩ = .str a ∧ [V.ref p] = [V.ref p'] ∧ (SqL X.K H p' (ys.map V.str) ∨ SqT X.K H p' (ys.map V.str)) ∧
    (ys.map (·.length)).sum + ys.length * a.length ≤ 16777216 ∧ Q (.str (Txt.join a ys)) H := fun sep p us ds hp rd q => by
    cases e : allS ds with
    | none => simp only [e] at q; exact q.elim
    | some ss =>
      simp only [e] at q
      cases hz : Nat.ble ((ss.map (·.length)).sum + ss.length * sep.length) 16777216 with
      | false => simp only [hz] at q; exact q.elim
      | true =>
        simp only [hz] at q
        refine ⟨_, p, ss.map fun l => (⟨l.toArray⟩ : Str), rfl, rfl, by rw [← allS_rel rd e]; exact hp, ?_, by rw [join_is]; exact q.now rp (.str _)⟩
        have := Nat.le_of_ble_eq_true hz
        have e1 : ((ss.map fun l => (⟨l.toArray⟩ : Str)).map (·.length)) = ss.map (·.length) := by
          rw [List.map_map]
          exact List.map_congr_left fun l _ => str_len l
        rw [e1, List.length_map, str_len]; exact this
  cases rx with
  | str sep =>
    cases rs with
    | nil => exact q.elim
    | @cons d y ds ys r1 r2 =>
      cases r2 with
      | cons _ _ => exact q.elim
      | nil =>
        unfold dJoin at q
        cases r1 with
        | @tup ds a us hs rd => exact key sep a us ds (.inr hs.sq) rd q
        | @ref n a hn =>
          cases e1 : asRd (.ref n) lh with
          | none => simp only [e1] at q; exact q.elim
          | some zs =>
            simp only [e1] at q
            obtain ⟨_, a', vs, z1, z2, _, h2, h3⟩ := asRd_of rp (.ref hn) e1
            cases z1; cases z2
            exact key sep a vs zs (.inl h2) h3 q
        | _ => simp only [asRd] at q; exact q.elim
  | _ => exact q.elim
end Rf
set_option Elab.async false
set_option linter.all false
set_option maxRecDepth 100000
set_option maxHeartbeats 4000000
set_option autoImplicit false
namespace Rf
open PySem PySem.Spec L2
def RM (X : Cx) (T id : String) (ty : D → LH → Bool) (f : D → List D → LH → R D) : Prop := ∃ r, MtR X id r ∧ RefM X.K T r ty f
section
variable {X : Cx} {W : WX} {o e : Expr} {es : List Expr} {name : Str} {id T : String} {mo : EM} {ma : AM} {apos cpos : Pos} {ty : D → LH → Bool} {f : D → List D → LH → R D}
theorem re_bmR (hr : RM X T id ty f) (pa : PlainAttrs T) (slot : Slot T name id) (ho : RE X W o mo) (ha : RA X W (e :: es) ma)
    (hty : typeOf (.builtin id) = pure (.type "method_descriptor") := by rfl)
    (hbase : attributeBase o name X.env (eval o X.env) = eval o X.env := by rfl)
    (hfew : ((backTo cpos (starEach (e :: es) X.env)).all (fun x => !x.1) && (backToKw cpos (keywordEach [] X.env)).all (fun x => x.1.isSome)
      && decide ((e :: es).length + ([] : List Keyword).length + (if ([] : List Keyword).isEmpty then 0 else 1) < 30)) = true := by rfl)
    (hline : (apos.endLine == cpos.line) = true := by rfl) (hs : starEach (e :: es) X.env = (false, eval e X.env) :: starEach es X.env := by rfl) (hplain : (backTo cpos (starEach es X.env)).any (·.1) = false := by rfl) :
    RE X W (.Call (.Attribute o name apos) (e :: es) [] cpos) (mBM ty f mo ma) := by
  obtain ⟨r, h1, h2⟩ := hr
  exact re_bm pa slot hty h1 h2 ho ha hbase hfew hline hs hplain
end
def ixT (c : Nat) : List Nat → Option Nat
  | [] => none
  | x :: r => if x = c then some 0 else (ixT c r).map (· + 1)
def RSt (X : Cx) (f : D → D → D → LH → Option LH) : Prop := ∃ t, PSet X t ∧ ∀ mp lh lh' H o i x vo vi vx Q, Rep X.K mp lh H → RelD X.K mp H o vo → RelD X.K mp H i vi → RelD X.K mp H x vx → f o i x lh = some lh' → (∀ H', Ext X.K mp H mp H' → Rep X.K mp lh' H' → Q H') → t vo vi vx H Q
def mSetSub (f : D → D → D → LH → Option LH) (me mo mi : EM) : SM := fun ls h => liftE (me ls h) ls fun x h1 => liftE (mo ls h1) ls fun o h2 => liftE (mi ls h2) ls fun i h3 => match f o i x h3 with
  | some h4 => .nx ls h4
  | none => .bad
section
variable {X : Cx} {W : WX} {o i e : Expr} {me mo mi : EM} {pos pos' : Pos} {f : D → D → D → LH → Option LH}
theorem rs_setSub (hf : RSt X f) (he : RE X W e me) (ho : RE X W o mo) (hi : RE X W i mi)
    (ha : ∀ v, assign (.Subscript o i pos') X.env v = (do
      let ov ← holding [v] (eval o X.env)
      let iv ← holding [v, ov] (eval i X.env)
      standAt pos'
      holding [v, ov, iv] (setItem ov iv v)
      release [v, ov, iv] []) := by intro _; rfl) (hs : swapsWithSole [.Subscript o i pos'] e pos.line X.env = pure false := by rfl) (hw : swappedStores [.Subscript o i pos'] e X.env = pure none := by rfl)
    (h1 : (assignEach [.Subscript o i pos'] X.env).map (·.2) = [assign (.Subscript o i pos') X.env] := by rfl) : RS X W (.Assign [.Subscript o i pos'] e pos) (mSetSub f me mo mi) := by
  obtain ⟨ts, s1, s2⟩ := hf
  obtain ⟨te, e1, e2⟩ := he
  obtain ⟨to, o1, o2⟩ := ho
  obtain ⟨ti, i1, i2⟩ := hi
  refine ⟨_, ps_asg e1 (pg_sub o1 i1 s1 ha) hs hw h1, fun mp lh ls σ H De r rs q => e2 mp lh ls σ H _ r rs (q.lift rs fun mp1 H1 lh1 x vx x1 r1 rl1 q1 => ?_)⟩
  refine o2 mp1 lh1 ls σ H1 _ r1 (rs.ext x1) (q1.lift (rs.ext x1) fun mp2 H2 lh2 o vo x2 r2 rl2 q2 => ?_)
  refine i2 mp2 lh2 ls σ H2 _ r2 ((rs.ext x1).ext x2) (q2.lift ((rs.ext x1).ext x2) fun mp3 H3 lh3 i vi x3 r3 rl3 q3 => ?_)
  have rs3 := ((rs.ext x1).ext x2).ext x3
  cases hf : f o i x lh3 with
  | none => simp only [hf] at q3; exact q3.elim
  | some lh4 =>
    simp only [hf] at q3
    exact s2 mp3 lh3 lh4 H3 o i x vo vi vx _ r3 (rl2.ext x3) rl3 ((rl1.ext x2).ext x3) hf fun H4 x4 r4 => q3 mp3 H4 σ x4 r4 (rs3.ext x4)
end
def dSetL : D → D → D → LH → Option LH := fun o i x h => match o, i with
  | .ref n, .int k => (match h[n]? with
    | some (.lst xs) => (ixN xs.length k).map fun j => h.set n (.lst (xs.set j x))
    | _ => none)
  | _, _ => none
theorem s_list {X : Cx} : RSt X dSetL := by
  refine ⟨_, set_list, fun mp lh lh' H o i x vo vi vx Q rp ro ri rx hf q => ?_⟩
  cases ro with
  | @ref n a hn =>
    cases ri with
    | int k =>
      unfold dSetL at hf
      cases ho : lh[n]? with
      | none => simp only [ho] at hf; cases hf
      | some ob =>
        cases ob with
        | lst xs =>
          simp only [ho] at hf
          obtain ⟨vs, h1, h2⟩ := rp.obj n _ a ho hn
          cases hj : ixN xs.length k with
          | none => rw [hj] at hf; cases hf
          | some j =>
            rw [hj] at hf; cases hf
            have ew : Ext X.K mp H mp (upd H a (.lst (vs.set j vx))) := .write rp hn ho rfl
            exact ⟨a, vs, k, j, rfl, rfl, h1, by rw [← h2.length]; exact hj, q _ ew (rp.write hn ho rfl ⟨_, upd_same, (RelDs.set rx j h2).ext ew⟩)⟩
        | _ => simp only [ho] at hf; cases hf
    | _ => cases hf
  | _ => cases ri <;> cases hf
def mAug (f : D → D → LH → R D) (i : Nat) (me : EM) : SM := fun ls h => match ls[i]? with
  | some (some (.fn _ _)) => .bad
  | some (some x) => liftE ((me ls h).bind fun y h1 => f x y h1) ls fun z h2 => .nx (ls.set i (some z)) h2
  | _ => .bad
def mPar (i j : Nat) (ma : AM) : SM := fun ls h => liftE (ma ls h) ls fun ds h1 => match ds with
  | [x, y] => .nx ((ls.set i (some x)).set j (some y)) h1
  | _ => .bad
theorem pip_of {X : Cx} {op : Operator} {r : R2} (h : OpR X (inplaceOp op) r) : PIp X op r := fun pins s σ H x y v u Q I r1 r2 hh => h pins s σ H x y v u Q I r1 r2 hh
section
variable {X : Cx} {W : WX} {e a b c : Expr} {me : EM} {ma : AM} {pos pos' : Pos} {f : D → D → LH → R D}
theorem rs_aug {i : Nat} {x : Str} {op : Operator} (hN : X.N.Nodup) (hi : X.N[i]? = some x) (hx : Loc X.env.scope x) (ho : ROp X (inplaceOp op) f) (he : RE X W e me)
    (hf : X.fn x = true ∨ X.env.scope.names.lookup x = some .local := by first | exact .inl rfl | exact .inr rfl | assumption) : RS X W (.AugAssign (.Name x pos') op e pos) (mAug f i me) := by
  obtain ⟨r, o1, o2⟩ := ho
  obtain ⟨t, a1, a2⟩ := he
  refine ⟨_, ps_aug hN hi hx a1 (pip_of o1) hf, fun mp lh ls σ H De rp rs q => ?_⟩
  unfold mAug at q
  cases hl : ls[i]? with
  | none => rw [hl] at q; exact q.elim
  | some o =>
    cases o with
    | none => rw [hl] at q; exact q.elim
    | some d =>
      obtain ⟨v, hv, rv⟩ := rs.2 i d hl
      have nf : isFn d = false := by
        cases d with
        | fn _ _ => rw [hl] at q; exact q.elim
        | _ => rfl
      have q : PostS X.K mp H (liftE ((me ls lh).bind fun y h1 => f d y h1) ls fun z h2 => .nx (ls.set i (some z)) h2) De W := by
        rw [hl] at q
        cases d with
        | fn _ _ => cases nf
        | _ => exact q
      have rv := rv.d nf
      refine ⟨v, hv, a2 mp lh ls σ H _ rp rs ?_⟩
      have q' : PostG X.K (RelD X.K) mp H ((me ls lh).bind fun y h1 => f d y h1) (fun z H2 => De.nx (σ.set i (some z)) H2) (WE W σ) :=
        q.lift rs fun mp1 H1 lh1 z vz e1 r1 rl1 q1 => q1 mp1 H1 _ .refl r1 ((rs.ext e1).set rl1)
      exact q'.bind fun mp1 H1 lh1 y vy e1 r1 rl1 q1 => o2 mp1 lh1 H1 d y v vy _ _ r1 (rv.ext e1) rl1 q1
theorem rs_par {i j : Nat} {x y : Str} {px py pt : Pos} {kt k2 pt2} (hc : X.calm = true) (hN : X.N.Nodup) (hi : X.N[i]? = some x) (hj : X.N[j]? = some y) (hij : i ≠ j)
    (hx : X.env.scope.names.lookup x = some .local) (hy : X.env.scope.names.lookup y = some .local) (ha : RA X W [a, b] ma)
    (hw : swappedStores [.Tuple [.Name x px, .Name y py] kt pt] (.Tuple [a, b] k2 pt2) X.env = pure (some [x, y]) := by rfl)
    (hs : swapsWithSole [.Tuple [.Name x px, .Name y py] kt pt] (.Tuple [a, b] k2 pt2) pos.line X.env = pure false := by rfl) :
    RS X W (.Assign [.Tuple [.Name x px, .Name y py] kt pt] (.Tuple [a, b] k2 pt2) pos) (mPar i j ma) := by
  obtain ⟨t, a1, a2, _⟩ := ha
  refine ⟨_, ps_par hc hN hi hj hij hx hy a1 hw hs, fun mp lh ls σ H De r rs q => a2 mp lh ls σ H _ r rs (q.lift rs fun mp1 H1 lh1 ds vs e1 r1 rl1 q1 => ?_)⟩
  match ds, vs, rl1, q1 with
  | [x, y], _, .cons (v := v) r1' (.cons (v := w) r2' .nil), q1 => exact ⟨v, w, rfl, q1 mp1 H1 _ .refl r1 (((rs.ext e1).set r1').set r2')⟩
  | [], _, _, q1 => exact q1.elim
  | [_], _, _, q1 => exact q1.elim
  | _ :: _ :: _ :: _, _, _, q1 => exact q1.elim
end
theorem oi_add {X : Cx} : ROp X (inplaceOp .Add) (fun x y h => match x, y with
    | .int i, .int j => .ok (.int (i + j)) h
    | .str a, .str b => if szOk (a.length + b.length) = true then .ok (.str (a ++ b)) h else .bad
    | _, _ => .bad) := by
  refine ⟨_, OpR.or iop_add iop_add_str, fun mp lh H x y vx vy Q E rp rx ry q => ?_⟩
  cases rx with
  | int i =>
    cases ry with
    | int j => exact .inl ⟨i, j, rfl, rfl, q.now rp (.int _)⟩
    | _ => exact q.elim
  | str a =>
    cases ry with
    | str b =>
      cases hz : szOk (a.length + b.length) with
      | false => simp only [hz] at q; exact q.elim
      | true =>
        simp only [hz] at q
        refine .inr ⟨_, _, rfl, rfl, by rw [str_len, str_len]; exact szOk_le hz, ?_⟩
        have ap : (⟨a.toArray⟩ : Str) ++ ⟨b.toArray⟩ = ⟨(a ++ b).toArray⟩ := by
          show (⟨a.toArray ++ b.toArray⟩ : Str) = _
          simp
        rw [ap]; exact q.now rp (.str _)
    | _ => exact q.elim
  | _ => cases ry <;> exact q.elim
end Rf
set_option Elab.async false
set_option linter.all false
set_option maxRecDepth 100000
set_option maxHeartbeats 4000000
set_option autoImplicit false
namespace Rf
open PySem PySem.Spec L2
def WF : WX := fun _ _ _ _ => False
theorem takesF {X : Cx} (h : X.xe = fun _ _ => False) : Takes X WF := fun u s' ⟨_, _, _, _, _, _, _, _, _, _, _, _, _, _, _, _, w⟩ => w.elim
def cE (K : PySem.W.Frag) (W : WX) (m : EM) : TE := fun σ H Q => ∃ mp lh ls, Rep K mp lh H ∧ RelS K mp H ls σ ∧ Post K mp H (m ls lh) Q (WE W σ)
def cT (K : PySem.W.Frag) (W : WX) (m : TM) : TT := fun σ H Q => ∃ mp lh ls, Rep K mp lh H ∧ RelS K mp H ls σ ∧ PostB K mp H (m ls lh) Q (WE W σ)
def RefGw (K : PySem.W.Frag) (g : TG) (m : GM) (vs : List Nat) : Prop := ∀ mp lh ls ls' σ H d v Q, Rep K mp lh H → RelS K mp H ls σ → RelD K mp H d v → m d ls = some ls' → (∀ σ', RelS K mp H ls' σ' → wipe σ' vs = wipe σ vs → Q σ' H) → g v σ H Q
def RGw (X : Cx) (e : Expr) (m : GM) (vs : List Nat) : Prop := ∃ g, PG X e g ∧ RefGw X.K g m vs
def cG (K : PySem.W.Frag) (m : GM) (vs : List Nat) : TG := fun v σ H Q => ∃ mp lh ls ls' d, Rep K mp lh H ∧ RelS K mp H ls σ ∧ RelD K mp H d v ∧ m d ls = some ls' ∧ ∀ σ', RelS K mp H ls' σ' → wipe σ' vs = wipe σ vs → Q σ' H
theorem wipe_set {σ : L2.St} {i : Nat} {x : Option V} : ∀ {vs : List Nat}, i ∈ vs → wipe (σ.set i x) vs = wipe σ vs
  | [], h => by cases h
  | v :: vs, h => by
    unfold wipe
    by_cases e : i = v
    · subst e
      by_cases h2 : i ∈ vs
      · rw [wipe_set h2]
      · have : ∀ {vs : List Nat}, i ∉ vs → ∀ σ : L2.St, (wipe (σ.set i x) vs).set i none = (wipe σ vs).set i none := by
          intro vs
          induction vs with
          | nil => intro _ σ; unfold wipe; rw [List.set_set]
          | cons w ws ih =>
            intro h σ
            have h1 : w ≠ i := fun z => h (by rw [z]; exact List.mem_cons_self)
            have h2 : i ∉ ws := fun m => h (List.mem_cons_of_mem _ m)
            unfold wipe
            rw [List.set_comm _ _ h1, ih h2, List.set_comm _ _ h1]
        exact this h2 σ
    · have h2 : i ∈ vs := by
        rcases List.mem_cons.mp h with z | z
        · exact absurd z e
        · exact z
      rw [wipe_set h2]
theorem wipe_set_none {σ : L2.St} : ∀ (vs : List Nat) (i : Nat), (wipe σ vs).set i none = wipe (σ.set i none) vs
  | [], i => rfl
  | v :: vs, i => by
    show ((wipe σ vs).set v none).set i none = (wipe (σ.set i none) vs).set v none
    rw [← wipe_set_none vs i]
    by_cases e : v = i
    · subst e; rfl
    · rw [List.set_comm _ _ e]
theorem wipe_idem {σ : L2.St} : ∀ vs : List Nat, wipe (wipe σ vs) vs = wipe σ vs
  | [] => rfl
  | v :: vs => by
    show (wipe ((wipe σ vs).set v none) vs).set v none = (wipe σ vs).set v none
    rw [← wipe_set_none, wipe_idem vs, List.set_set]
section
variable {X : Cx} {W : WX} {e : Expr} {es : List Expr} {me : EM} {mt : TM} {mi : IM} {m : GM} {r : List D → Ls → Option Ls} {vs : List Nat} {pos : Pos} {tg iter : Expr}
theorem RE.pe (h : RE X W e me) : PE X e (cE X.K W me) := by
  obtain ⟨t, a, b⟩ := h
  exact ⟨fun pins s σ H Q I ⟨mp, lh, ls, r, rs, q⟩ => a.run pins s σ H Q I (b mp lh ls σ H Q r rs q)⟩
theorem RT.pt (h : RT X W e mt) : PT X e (cT X.K W mt) := by
  obtain ⟨t, a, b⟩ := h
  exact ⟨fun pins s σ H Q I ⟨mp, lh, ls, r, rs, q⟩ => a.run pins s σ H Q I (b mp lh ls σ H Q r rs q)⟩
theorem RGw.pg (h : RGw X e m vs) : PG X e (cG X.K m vs) := by
  obtain ⟨t, a, b⟩ := h
  exact ⟨fun pins s σ H v u Q I rv ⟨mp, lh, ls, ls', d, r, rs, rd, hm, q⟩ => a.run pins s σ H v u Q I rv (b mp lh ls ls' σ H d v Q r rs rd hm q)⟩
theorem rgw_name {i : Nat} {x : Str} (hN : X.N.Nodup) (hi : X.N[i]? = some x) (hx : Loc X.env.scope x) (hv : i ∈ vs) (hf : X.fn x = true ∨ X.env.scope.names.lookup x = some .local := by first | exact .inl rfl | exact .inr rfl | assumption) : RGw X (.Name x pos) (gmName i) vs :=
  ⟨_, pg_name hN hi hx hf, fun mp lh ls ls' σ H d v Q rp rs rd h q => by cases h; exact q _ (rs.set rd) (wipe_set hv)⟩
def RTs (X : Cx) (W : WX) (ifs : List Expr) (m : TM) : Prop := PTs X ifs (cT X.K W m)
def mYes : TM := fun _ h => .ok true h
theorem rts_nil : RTs X W [] mYes := ⟨fun pins s σ H Q I ⟨mp, lh, ls, r, rs, q⟩ => pts_nil.run pins s σ H Q I (q.now r rfl)⟩
theorem rts_one (h : RT X W e mt) : RTs X W [e] mt := pts_one h.pt
end
section
variable {K : PySem.W.Frag} {mp mp' mp1 : List Addr} {H H' H1 : Hp} {lh : LH} {p : Addr}
theorem sub_upd {xs : List V} {o' : HO} (hp : H p = some (.lst xs)) : Sub K mp H mp (upd H p o') := by
  refine ⟨fun h => h, fun a vs h => ?_, fun a ob u h => ?_⟩
  · rw [upd_ne (fun z => by subst z; rw [hp] at h; cases h)]; exact h
  · rw [upd_ne (fun z => by subst z; rw [hp] at h; cases h)]; exact h
theorem Ext.acc {xs : List V} {o : HO} (e : Ext K mp1 H1 mp H) (h1 : H1 p = none) (hp : H p = some (.lst xs)) : Ext K mp1 H1 mp (upd H p o) :=
  ⟨e.pre, fun a u h hn ht => by rw [upd_ne (ne_of_none h h1)]; exact e.frame a u h hn ht, e.new, fun a vs h => (sub_upd (mp := mp) (K := K) hp).tup a vs (e.tup a vs h), fun a ob u h => by rw [upd_ne (fun z => by subst z; have := e.frz _ _ _ h; rw [hp] at this; cases this)]; exact e.frz a ob u h,
    fun a ps h hn => by rw [upd_ne (ne_of_none h h1)]; exact e.tbl a ps h hn⟩
theorem TabOk.put (t : TabOk K mp H) {u o : HO} (hp : H p = some u) (h1 : ∀ ps, u ≠ .tbl ps) (h2 : ∀ φ, u ≠ .ext φ) : TabOk K mp (upd H p o) := ⟨fun q hq => by
  obtain ⟨ps, k1, k2, k3⟩ := t.all q hq
  refine ⟨ps, by rw [upd_ne (fun z => by rw [z, hp] at k1; exact h1 ps (Option.some.inj k1))]; exact k1, k2, fun pos cv e => ?_⟩
  obtain ⟨c, e1, e2, e3⟩ := k3 pos cv e
  exact ⟨c, e1, by rw [upd_ne (fun z => by rw [z, hp] at e2; exact h2 _ (Option.some.inj e2))]; exact e2, e3⟩⟩
theorem TabOk.wide (t : TabOk K mp H) {u : HO} (hp : H p = some u) (h2 : ∀ φ, u ≠ .ext φ) : TabOk K (mp ++ [p]) H := ⟨fun q hq => by
  obtain ⟨ps, k1, k2, k3⟩ := t.all q hq
  refine ⟨ps, k1, k2, fun pos cv e => ?_⟩
  obtain ⟨c, e1, e2, e3⟩ := k3 pos cv e
  exact ⟨c, e1, e2, fun z => by
    rcases List.mem_append.mp z with z | z
    · exact e3 z
    · rw [List.mem_singleton.mp z, hp] at e2; exact h2 _ (Option.some.inj e2)⟩⟩
theorem RelO.turn (t : SubW mp H mp H') {o : LO} {a : Addr} (hs : H' a = H a) (hx : ∀ dd fs, H dd = Option.some (.xd fs) → H' dd = Option.some (.xd fs)) (h : RelO K mp H o a) : RelO K mp H' o a := by
  cases o with
  | lst ds => obtain ⟨vs, q, r⟩ := h; exact ⟨vs, hs.trans q, r.subw t⟩
  | dic b kvs => cases b with
    | false => obtain ⟨ks, q, r⟩ := h; exact ⟨ks, hs.trans q, Paired.imp (fun p q z => ⟨z.1, z.2.subw t⟩) r⟩
    | true => obtain ⟨ks, q, r⟩ := h; exact ⟨ks, hs.trans q, Paired.imp (fun p q z => ⟨z.1, z.2.subw t⟩) r⟩
  | ins c fs => obtain ⟨dx, gs, q, r⟩ := h; exact ⟨dx, gs, hs.trans q, Paired.imp (fun p q z => ⟨z.1, z.2.subw t⟩) r⟩
  | exc c fs =>
    obtain ⟨d, q, r1, r2⟩ := h
    refine ⟨d, hs.trans q, r1, ?_⟩
    rcases r2 with r2 | ⟨dd, fs, ne, e1, e2, e3, e4⟩
    · exact .inl r2
    · exact .inr ⟨dd, fs, ne, e1, hx _ _ e2, e3, Paired.imp (fun p q z => ⟨z.1, z.2.subw t⟩) e4⟩
  | dlk b kvs => cases b with
    | false => obtain ⟨o, ks, q, r⟩ := h; exact ⟨o, ks, hs.trans q, Paired.imp (fun p q z => ⟨z.1, z.2.subw t⟩) r⟩
    | true => obtain ⟨o, ks, q, r⟩ := h; exact ⟨o, ks, hs.trans q, Paired.imp (fun p q z => ⟨z.1, z.2.subw t⟩) r⟩
theorem Rep.acc {xs : List V} {o : HO} (r : Rep K mp lh H) (hm : p ∉ mp) (hp : H p = some (.lst xs)) : Rep K mp lh (upd H p o) :=
  ⟨r.len, r.nd, fun n u a h1 h2 => (r.obj n u a h1 h2).turn (sub_upd (K := K) hp).w (upd_ne fun z => hm (z ▸ List.mem_of_getElem? h2))
    fun dd fs h => (upd_ne (show dd ≠ p from fun z => by rw [z, hp] at h; cases h)).trans h, r.tab.put hp (fun _ z => by cases z) (fun _ z => by cases z)⟩
theorem Ext.adopt (r : Rep K mp lh H) (e : Ext K mp1 H1 mp H) (h1 : H1 p = none) : Ext K mp1 H1 (mp ++ [p]) H := by
  obtain ⟨more, em⟩ := e.pre
  refine ⟨⟨more ++ [p], by rw [em]; simp⟩, e.frame, fun a ha hn => ?_, e.tup, e.frz, e.tbl⟩
  rcases List.mem_append.mp ha with h | h
  · exact e.new a h hn
  · rw [List.mem_singleton.mp h]; exact h1
theorem Ext.more (hm : p ∉ mp) : (∀ (n : Nat) (a : Addr), mp[n]? = some a → (mp ++ [p])[n]? = some a) := fun n a h => by
  rw [List.getElem?_append_left (List.getElem?_eq_some_iff.mp h).1]; exact h
mutual
theorem RelD.wide : ∀ {d : D} {v : V}, RelD K mp H d v → RelD K (mp ++ [p]) H d v
  | _, _, .non => .non
  | _, _, .bl b => .bl b
  | _, _, .int i => .int i
  | _, _, .str l => .str l
  | _, _, .tup h r => .tup h (RelDs.wide r)
  | _, _, .ktp h r => .ktp h (RelDs.wide r)
  | _, _, .rol h r => .rol h (RelDs.wide r)
  | _, _, .ref h => .ref (by rw [List.getElem?_append_left (List.getElem?_eq_some_iff.mp h).1]; exact h)
theorem RelDs.wide : ∀ {d : List D} {v : List V}, RelDs K mp H d v → RelDs K (mp ++ [p]) H d v
  | _, _, .nil => .nil
  | _, _, .cons h r => .cons (RelD.wide h) (RelDs.wide r)
end
theorem RelO.wide {o : LO} {a : Addr} (hx : ∀ fs, H p ≠ Option.some (.xd fs)) (h : RelO K mp H o a) : RelO K (mp ++ [p]) H o a := by
  cases o with
  | lst ds => obtain ⟨vs, q, r⟩ := h; exact ⟨vs, q, r.wide⟩
  | dic b kvs => cases b with
    | false => obtain ⟨ks, q, r⟩ := h; exact ⟨ks, q, Paired.imp (fun p q z => ⟨z.1, z.2.wide⟩) r⟩
    | true => obtain ⟨ks, q, r⟩ := h; exact ⟨ks, q, Paired.imp (fun p q z => ⟨z.1, z.2.wide⟩) r⟩
  | ins c fs => obtain ⟨dx, gs, q, r⟩ := h; exact ⟨dx, gs, q, Paired.imp (fun p q z => ⟨z.1, z.2.wide⟩) r⟩
  | exc c fs =>
    obtain ⟨d, q, r1, r2⟩ := h
    refine ⟨d, q, r1, ?_⟩
    rcases r2 with r2 | ⟨dd, fs, ne, e1, e2, e3, e4⟩
    · exact .inl r2
    · refine .inr ⟨dd, fs, ne, e1, e2, fun z => ?_, Paired.imp (fun p q z => ⟨z.1, z.2.wide⟩) e4⟩
      rcases List.mem_append.mp z with z | z
      · exact e3 z
      · rw [List.mem_singleton.mp z] at e2; exact hx _ e2
  | dlk b kvs => cases b with
    | false => obtain ⟨o, ks, q, r⟩ := h; exact ⟨o, ks, q, Paired.imp (fun p q z => ⟨z.1, z.2.wide⟩) r⟩
    | true => obtain ⟨o, ks, q, r⟩ := h; exact ⟨o, ks, q, Paired.imp (fun p q z => ⟨z.1, z.2.wide⟩) r⟩
theorem Rep.adopt {xs : List V} {ds : List D} (r : Rep K mp lh H) (hm : p ∉ mp) (hp : H p = some (.lst xs)) (rd : RelDs K mp H ds xs) : Rep K (mp ++ [p]) (lh ++ [.lst ds]) H := by
  refine ⟨by simp [r.len], ?_, fun n u a h1 h2 => ?_, r.tab.wide hp (fun _ z => by cases z)⟩
  · refine List.nodup_append.mpr ⟨r.nd, (by simp), fun a ha b hb => ?_⟩
    rw [List.mem_singleton.mp hb]
    intro z; exact hm (z ▸ ha)
  · by_cases hl : n < mp.length
    · rw [List.getElem?_append_left hl] at h2
      rw [List.getElem?_append_left (by rw [← r.len]; exact hl)] at h1
      exact (r.obj n u a h1 h2).wide (fun fs z => by rw [hp] at z; cases z)
    · have h2l := (List.getElem?_eq_some_iff.mp h2).1
      have en : n = mp.length := by simp at h2l; omega
      subst en
      rw [List.getElem?_append_right (Nat.le_refl _)] at h2
      rw [List.getElem?_append_right (by rw [r.len]; exact Nat.le_refl _), r.len] at h1
      simp at h1 h2
      subst h1 h2; exact ⟨xs, hp, rd.wide⟩
theorem CloA.put {id : Nat} {a : Addr} {vs : List V} {u o : HO} (hp : H p = some u) (hn : ∀ φ, u ≠ .ext φ) (h : CloA K mp H id a vs) : CloA K mp (upd H p o) id a vs := by
  have ne : ∀ {b : Addr} {φ : Heap → Prop}, H b = Option.some (.ext φ) → upd H p o b = Option.some (.ext φ) := fun {b φ} e => by
    rw [upd_ne (fun z => by rw [z, hp] at e; exact hn φ (Option.some.inj e))]; exact e
  obtain ⟨st, name, qual, cl, c, h1, h2, h3, h4, h5, C⟩ := h
  refine ⟨st, name, qual, cl, c, h1, ne h2, h3, ne h4, h5, C.len, C.all, C.inj, fun i y hi => ?_⟩
  obtain ⟨c, o, u, v, k1, k2, k3, k4, k5, k6⟩ := C.has i y hi
  exact ⟨c, o, u, v, k1, ne k2, k3, k4, k5, k6⟩
theorem RelF.put {d : D} {v : V} {u o : HO} (hp : H p = some u) (hn : ∀ φ, u ≠ .ext φ) (t : Sub K mp H mp (upd H p o)) (h : RelF K mp H d v) : RelF K mp (upd H p o) d v := by
  cases d with
  | fn id caps =>
    obtain ⟨a, vs, h1, h2, h3⟩ := h
    exact ⟨a, vs, h1, h2.put hp hn, RelDs.sub t h3⟩
  | _ => exact (RelD.sub t h).f
theorem Ext.out (e : Ext K mp H mp' H') {o : HO} (hp : H p = some o) (hm : p ∉ mp) (ht : ∀ ps, o ≠ .tbl ps := by intro _ z; cases z) : H' p = some o ∧ p ∉ mp' := ⟨e.frame _ _ hp hm ht, fun z => by
  have := e.new p z hm
  rw [hp] at this; cases this⟩
end
def wipeL (ls : Ls) : List Nat → Ls
  | [] => ls
  | v :: vs => (wipeL ls vs).set v none
theorem RelS.wipe {K : PySem.W.Frag} {mp : List Addr} {H : Hp} {ls : Ls} {σ : L2.St} (rs : RelS K mp H ls σ) : ∀ vs : List Nat, RelS K mp H (wipeL ls vs) (L2.wipe σ vs)
  | [] => rs
  | _ :: vs => (RelS.wipe rs vs).unset
def mLcGo (g : GM) (tt : TM) (te : EM) (L : LI) (ls0 : Ls) : Nat → Nat → List D → LH → R (List D)
  | 0, _, _, _ => .bad
  | n + 1, i, acc, h => match L i h with
    | .done => .ok acc h
    | .bad => .bad
    | .item d => match g d ls0 with
      | none => .bad
      | some ls1 => match tt ls1 h with
        | .ok true h1 => (match te ls1 h1 with
          | .ok y h2 => if szOk (acc.length + 1) = true then mLcGo g tt te L ls0 n (i + 1) (acc ++ [y]) h2 else .bad
          | _ => .bad)
        | .ok false h1 => mLcGo g tt te L ls0 n (i + 1) acc h1
        | _ => .bad
def mkL (r : R (List D)) : R D := r.bind fun acc h => .ok (.ref h.length) (h ++ [.lst acc])
def mLc (n : Nat) (wi : IM) (g : GM) (tt : TM) (te : EM) (vs : List Nat) : EM := fun ls h => (wi ls h).bind fun L h1 => mkL (mLcGo g tt te L (wipeL ls vs) n 0 [] h1)
section
variable {X : Cx} {W : WX} {elt tg iter : Expr} {ifs : List Expr} {scope : Scope} {own : List (Str × Nat)} {pos : Pos} {wi : IM} {g : GM} {mt : TM} {me : EM}
theorem lc_run {K : PySem.W.Frag} {vs : List Nat} (n : Nat) {tI : TI} (hi : RefI K W tI wi) : RefE K W (tLc tI (cG K g vs) (cT K WF mt) (cE K WF me) vs) (mLc n wi g mt me vs) := by
  intro mp0 lh0 ls σ H0 Q r0 rs0 q0
  refine hi mp0 lh0 ls σ H0 _ r0 rs0 (q0.bind fun mp1 H1 lh1 L J e1 r1 rl1 q1 => ?_)
  intro Dd hD
  have rs1 := rs0.ext e1
  refine ⟨fun i k H => ∃ mp lh acc xs, Ext K mp1 H1 mp H ∧ Rep K mp lh H ∧ Dd ∉ mp ∧ H Dd = some (.lst xs) ∧ RelDs K mp H acc xs ∧ PostG K (RelD K) mp1 H1 (mkL (mLcGo g mt me L (wipeL ls vs) k i acc lh)) Q (WE W σ), ⟨n, mp1, lh1, [], [], ?_, r1.free hD, r1.free_ne hD, upd_same, .nil, q1⟩, ?_⟩
  · exact .free hD
  rintro i k H ⟨mp, lh, acc, xs, ex, r, hm, hp, ra, q⟩
  cases k with
  | zero => exact q.elim
  | succ k =>
    unfold mLcGo at q
    have rii := (rl1.ext ex) i mp lh H .refl r
    cases hL : L i lh with
    | done =>
      rw [hL] at rii q
      exact .inl ⟨rii, q (mp ++ [Dd]) H _ (.adopt r ex hD) (r.adopt hm hp ra) (.ref (by rw [← r.len]; simp))⟩
    | bad => rw [hL] at q; exact q.elim
    | item d =>
      rw [hL] at rii q
      refine .inr ⟨rii.1, fun H' => ∃ mp lh acc xs, Ext K mp1 H1 mp H' ∧ Rep K mp lh H' ∧ Dd ∉ mp ∧ H' Dd = some (.lst xs) ∧ RelDs K mp H' acc xs ∧ PostG K (RelD K) mp1 H1 (mkL (mLcGo g mt me L (wipeL ls vs) k (i + 1) acc lh)) Q (WE W σ), fun H' z => ⟨k, Nat.lt_succ_self _, z⟩, fun x H' y => ?_⟩
      obtain ⟨e2, r2, rd⟩ := rii.2 x H' y
      obtain ⟨hp2, hm2⟩ := e2.out hp hm
      have ra2 := ra.ext e2
      have ex2 := ex.trans e2
      cases hg : g d (wipeL ls vs) with
      | none => simp only [hg] at q; exact q.elim
      | some ls1 =>
        simp only [hg] at q
        refine ⟨mp, lh, wipeL ls vs, ls1, d, r2, (rs1.wipe vs).ext ex2, rd, hg, fun σ2 rs2 w2 => ⟨w2.trans (wipe_idem vs), mp, lh, ls1, r2, rs2, ?_⟩⟩
        cases ht : mt ls1 lh with
        | bad => simp only [ht] at q; exact q.elim
        | ex x lh' => simp only [ht] at q; exact q.elim
        | ok b lh3 =>
          intro mp3 H3 b' e3 r3 eb
          cases eb
          obtain ⟨hp3, hm3⟩ := e3.out hp2 hm2
          cases b with
          | false =>
            simp only [ht] at q
            exact iteF ⟨mp3, lh3, acc, xs, ex2.trans e3, r3, hm3, hp3, ra2.ext e3, q⟩
          | true =>
            simp only [ht] at q
            refine iteT ⟨mp3, lh3, ls1, r3, rs2.ext e3, ?_⟩
            cases hy : me ls1 lh3 with
            | bad => simp only [hy] at q; exact q.elim
            | ex x lh' => simp only [hy] at q; exact q.elim
            | ok y lh4 =>
              simp only [hy] at q
              intro mp4 H4 vy e4 r4 ry
              obtain ⟨hp4, hm4⟩ := e4.out hp3 hm3
              have ra4 := (ra2.ext e3).ext e4
              cases hz : szOk (acc.length + 1) with
              | false => simp only [hz] at q; exact q.elim
              | true =>
                simp only [hz] at q
                refine ⟨xs, hp4, by rw [← ra4.length]; exact Nat.lt_of_succ_le (szOk_le hz), mp4, lh4, acc ++ [y], xs ++ [vy], ((ex2.trans e3).trans e4).acc hD hp4, r4.acc hm4 hp4, hm4, upd_same, ?_, q⟩
                exact (ra4.append (.cons ry .nil)).sub (sub_upd hp4)
theorem re_lc (n : Nat) (hc : X.calm = true) (hN : X.N.Nodup) (ok : BlkOk X.N X.env.scope scope own) (hi : RI X W tg iter wi)
    (hg : ∀ (s : Shared) (H : Hp) (C : Addr) (cl : List (Str × Addr)) (fp : List Addr), RGw (X.blk s H scope (compEnvC scope cl C X.env) fp) tg g (own.map (·.2))) (ht : ∀ (s : Shared) (H : Hp) (C : Addr) (cl : List (Str × Addr)) (fp : List Addr), RTs (X.blk s H scope (compEnvC scope cl C X.env) fp) WF ifs mt)
    (he : ∀ (s : Shared) (H : Hp) (C : Addr) (cl : List (Str × Addr)) (fp : List Addr), RE (X.blk s H scope (compEnvC scope cl C X.env) fp) WF elt me) (hs : ∀ x, foldedSetIterable iter X.env x = pure x := by intro _; rfl) :
    RE X W (.ListComp elt [⟨tg, iter, ifs, 0⟩] scope pos) (mLc n wi g mt me (own.map (·.2))) := by
  obtain ⟨t, i1, i2⟩ := hi
  exact ⟨_, pe_lc hc hN i1 ok (fun s H C cl fp => show PG _ _ (cG X.K g (own.map (·.2))) from (hg s H C cl fp).pg) (fun s H C cl fp => show PTs _ _ (cT X.K WF mt) from ht s H C cl fp) (fun s H C cl fp => show PE _ _ (cE X.K WF me) from (he s H C cl fp).pe) hs, lc_run n i2⟩
end
section
variable {X : Cx} {W : WX} {elt tg iter tg1 iter1 : Expr} {ifs ifs1 : List Expr} {scope : Scope} {own : List (Str × Nat)} {pos : Pos} {wi wi1 : IM} {g g1 : GM} {mt mt1 : TM} {me : EM} {vs1 : List Nat}
end
end Rf
set_option Elab.async false
set_option linter.all false
set_option maxRecDepth 100000
set_option maxHeartbeats 4000000
set_option autoImplicit false
namespace Rf
open PySem PySem.Spec L2
def kdA (f : D → Value → Bool) : List D → List Value → Bool
  | [], [] => true
  | d :: ds, v :: vs => f d v && kdA f ds vs
  | _, _ => false
def kdB (K : PySem.W.Frag) : Nat → D → Value → Bool
  | 0, _, _ => false
  | n + 1, d, v => match d, v with
    | .non, .none => true
    | .bl a, .bool b => a == b
    | .int i, .int j _ => decide (i = j)
    | .str l, .str y _ => decide (y = ⟨l.toArray⟩)
    | .tup ds, .ref a => kc ds && (match K.lookup a with
      | some o => decide (o.cls = .type "tuple") && (match o.data with
        | .seq its _ => decide (its.size ≤ sizeLine) && kdA (kdB K n) ds its.toList
        | _ => false)
      | none => false)
    | .ktp ds, .ref a => (match K.lookup a with
      | some o => decide (o.cls = .type "tuple") && (match o.data with
        | .seq its _ => decide (its.size ≤ sizeLine) && kdA (kdB K n) ds its.toList
        | _ => false)
      | none => false)
    | _, _ => false
theorem kdA_ok {K : PySem.W.Frag} {f : D → Value → Bool} (hf : ∀ d u, f d u = true → ∃ v, RelV v u ∧ ∀ mp H, RelD K mp H d v) : ∀ {ds : List D} {us : List Value}, kdA f ds us = true → ∃ vs, Vals vs us ∧ ∀ mp H, RelDs K mp H ds vs
  | [], [], _ => ⟨[], .nil, fun _ _ => .nil⟩
  | [], _ :: _, h => by cases h
  | _ :: _, [], h => by cases h
  | d :: ds, u :: us, h => by
    rw [kdA, Bool.and_eq_true] at h
    obtain ⟨v, h1, h2⟩ := hf d u h.1
    obtain ⟨vs, h3, h4⟩ := kdA_ok hf h.2
    exact ⟨v :: vs, .cons h1 h3, fun mp H => .cons (h2 mp H) (h4 mp H)⟩
theorem kdB_ok {K : PySem.W.Frag} : ∀ (n : Nat) (d : D) (u : Value), kdB K n d u = true → ∃ v, RelV v u ∧ ∀ mp H, RelD K mp H d v
  | 0, _, _, h => by cases h
  | n + 1, d, u, h => by
    unfold kdB at h
    cases d with
    | non => cases u with
      | none => exact ⟨.non, rfl, fun _ _ => .non⟩
      | _ => cases h
    | bl a => cases u with
      | bool b => obtain rfl : a = b := by simpa using h
                  exact ⟨.bl a, rfl, fun _ _ => .bl a⟩
      | _ => cases h
    | int i => cases u with
      | int j t => obtain rfl : i = j := of_decide_eq_true h
                   exact ⟨.int i, ⟨t, rfl⟩, fun _ _ => .int i⟩
      | _ => cases h
    | str l => cases u with
      | str y t => obtain rfl : y = ⟨l.toArray⟩ := of_decide_eq_true h
                   exact ⟨.str ⟨l.toArray⟩, ⟨t, rfl⟩, fun _ _ => .str l⟩
      | _ => cases h
    | ktp ds => cases u with
      | ref a =>
        dsimp only at h
        cases hk : K.lookup a with
        | none => rw [hk] at h; cases h
        | some o =>
          rw [hk] at h
          dsimp only at h
          rw [Bool.and_eq_true] at h
          obtain ⟨h1, h2⟩ := h
          cases hd : o.data with
          | seq its m =>
            rw [hd] at h2
            dsimp only at h2
            rw [Bool.and_eq_true] at h2
            obtain ⟨vs, r1, r2⟩ := kdA_ok (K := K) (fun d u => kdB_ok n d u) h2.2
            exact ⟨.ref a, rfl, fun mp H => .ktp ⟨o, its, m, hk, of_decide_eq_true h1, hd, of_decide_eq_true h2.1, r1⟩ (r2 mp H)⟩
          | _ => rw [hd] at h2; cases h2
      | _ => cases h
    | fn _ _ => cases u <;> cases h
    | tup ds => cases u with
      | ref a =>
        dsimp only at h
        rw [Bool.and_eq_true] at h
        obtain ⟨hkc, h⟩ := h
        cases hk : K.lookup a with
        | none => rw [hk] at h; cases h
        | some o =>
          rw [hk] at h
          dsimp only at h
          rw [Bool.and_eq_true] at h
          obtain ⟨h1, h2⟩ := h
          cases hd : o.data with
          | seq its m =>
            rw [hd] at h2
            dsimp only at h2
            rw [Bool.and_eq_true] at h2
            obtain ⟨vs, r1, r2⟩ := kdA_ok (K := K) (fun d u => kdB_ok n d u) h2.2
            exact ⟨.ref a, rfl, fun mp H => .tup (.inr ⟨hkc, o, its, m, hk, of_decide_eq_true h1, hd, of_decide_eq_true h2.1, r1⟩) (r2 mp H)⟩
          | _ => rw [hd] at h2; cases h2
      | _ => cases h
    | rol _ => cases u <;> cases h
    | ref _ => cases u <;> cases h
def gval (x : Str) (K : PySem.W.Frag) : Option Value := match PySem.W.nsIn K mainGlobals x with
  | some (some u) => some u
  | _ => none
def datB (p : PySem.W.Frag → Option Value) (d : D) (K : PySem.W.Frag) : Bool := match p K with
  | some u => kdB K 12 d u
  | none => false
theorem datB_ok {K : PySem.W.Frag} {p : PySem.W.Frag → Option Value} {d : D} (h : datB p d K = true) : ∃ u v, p K = some u ∧ RelV v u ∧ ∀ mp H, RelD K mp H d v := by
  unfold datB at h
  cases e : p K with
  | none => rw [e] at h; cases h
  | some u =>
    rw [e] at h
    obtain ⟨v, h1, h2⟩ := kdB_ok 12 d u h
    exact ⟨u, v, rfl, h1, h2⟩
inductive Cn where
  | ty (s : String) | cl (c : Nat)
def Cn.val (K : PySem.W.Frag) : Cn → Value
  | .ty s => .type s
  | .cl c => .ref (clsA K c)
def Cn.v (K : PySem.W.Frag) : Cn → V
  | .ty s => .ty s
  | .cl c => .ref (clsA K c)
def luk {α β : Type} [DecidableEq α] : List (α × β) → α → Option β
  | [], _ => none
  | (a, b) :: r, x => if a = x then some b else luk r x
theorem luk_all {α β : Type} [DecidableEq α] {f : α → β → Bool} : ∀ {l : List (α × β)} {x : α} {y : β}, (l.all fun p => f p.1 p.2) = true → luk l x = some y → f x y = true
  | [], _, _, _, h => by cases h
  | (a, b) :: r, x, y, ha, h => by
    rw [List.all_cons, Bool.and_eq_true] at ha
    unfold luk at h
    split at h
    · rename_i e; subst e; cases h; exact ha.1
    · exact luk_all ha.2 h
inductive Fx where
  | kit (u : Cn) (tab : List (Tg × Bool)) | exm (c : Nat) (tab : List (Nat × Bool)) | excC (c : Nat) | insC (c : Nat) | dat (p : PySem.W.Frag → Option Value) (d : D) | kit2 (a b : String) (tab : List (Tg × Bool)) | tabx (x : String)
def oo (a b : Option (Option Value)) : Bool := decide (a = b)
def Fx.ok (K : PySem.W.Frag) : Fx → Bool
  | .kit u tab => tab.all fun p => decide (PySem.W.kitOne K (tgV K p.1) (u.val K) = some p.2)
  | .exm c tab => tab.all fun p => decide (PySem.W.exmOne K (.ref (clsA K p.1)) (.ref (clsA K c)) = some p.2)
  | .excC c => oo (PySem.W.findIn K (.ref (clsA K c)) "__getattribute__") (some (some (.builtin "BaseException.__getattribute__"))) && (oo (PySem.W.findIn K (.ref (clsA K c)) "__getattr__") (some none) && (decide (PySem.W.subIn K (.ref (clsA K c)) (.type "BaseException") = some true) && (PySem.W.hasDictIn K (clsA K c)
      && (oo (PySem.W.findIn K (.ref (clsA K c)) "__class__") (some (some (.builtin "object.__class__"))) && (oo (PySem.W.specialIn K (.builtin "object.__class__") "__get__") (some (some (.builtin "getset_descriptor.__get__"))) && (decide (PySem.W.takesIn K (.builtin "object.__class__") = some true) && decide (PySem.W.mroIn K (clsA K c) (.type "object") = some true)))))))
  | .insC c => oo (PySem.W.findIn K (.ref (clsA K c)) "__class__") (some (some (.builtin "object.__class__"))) && (oo (PySem.W.specialIn K (.builtin "object.__class__") "__get__") (some (some (.builtin "getset_descriptor.__get__"))) && (decide (PySem.W.takesIn K (.builtin "object.__class__") = some true) && decide (PySem.W.mroIn K (clsA K c) (.type "object") = some true)))
  | .dat p d => datB p d K
  | .kit2 a b tab => tab.all fun p => decide (PySem.W.kitAny K (tgV K p.1) [.type a, .type b] = some p.2)
  | .tabx x => (match fdOf K x with
    | some fd => (tabA K fd).isSome
    | none => false)
def fxAll (l : List Fx) (K : PySem.W.Frag) : Bool := l.all (Fx.ok K)
section
variable {K : PySem.W.Frag}
theorem kit_ok {u : Cn} {tab : List (Tg × Bool)} (h : (Fx.kit u tab).ok K = true) : ∀ g b, luk tab g = some b → PySem.W.kitOne K (tgV K g) (u.val K) = some b := fun g b e => of_decide_eq_true (luk_all (f := fun g b => decide (PySem.W.kitOne K (tgV K g) (u.val K) = some b)) h e)
end
abbrev AlX : Type := Bool × He.AlD
mutual
def pureD : D → Bool
  | .tup xs => pureDs xs
  | .rol _ => false
  | .ktp xs => pureDs xs
  | .fn _ _ => false
  | .ref _ => false
  | _ => true
def pureDs : List D → Bool
  | [] => true
  | d :: ds => pureD d && pureDs ds
end
mutual
theorem RelD.pure {K : PySem.W.Frag} {mp mp' : List Addr} {H : Hp} : ∀ {d : D} {v : V}, pureD d = true → RelD K mp H d v → RelD K mp' H d v
  | _, _, _, .non => .non
  | _, _, _, .bl b => .bl b
  | _, _, _, .int i => .int i
  | _, _, _, .str l => .str l
  | _, _, h, .tup hs r => .tup hs (RelDs.pure (by simpa [pureD] using h) r)
  | _, _, h, .ktp hs r => .ktp hs (RelDs.pure (by simpa [pureD] using h) r)
  | _, _, h, .rol _ _ => by simp [pureD] at h
  | _, _, h, .ref _ => by simp [pureD] at h
theorem RelDs.pure {K : PySem.W.Frag} {mp mp' : List Addr} {H : Hp} : ∀ {d : List D} {v : List V}, pureDs d = true → RelDs K mp H d v → RelDs K mp' H d v
  | _, _, _, .nil => .nil
  | _, _, h, .cons a b => by
    rw [pureDs, Bool.and_eq_true] at h
    exact .cons (RelD.pure h.1 a) (RelDs.pure h.2 b)
end
mutual
def D.up (k : Nat) : D → D
  | .tup xs => .tup (upDs k xs)
  | .rol xs => .rol (upDs k xs)
  | .ktp xs => .ktp (upDs k xs)
  | .fn i xs => .fn i (upDs k xs)
  | .ref n => .ref (k + n)
  | .non => .non
  | .bl b => .bl b
  | .int i => .int i
  | .str l => .str l
def upDs (k : Nat) : List D → List D
  | [] => []
  | d :: ds => D.up k d :: upDs k ds
end
def upF (k : Nat) : List (Nat × D) → List (Nat × D)
  | [] => []
  | (i, d) :: r => (i, D.up k d) :: upF k r
def upK (k : Nat) : List (D × D) → List (D × D)
  | [] => []
  | (i, d) :: r => (i, D.up k d) :: upK k r
def LO.up (k : Nat) : LO → LO
  | .lst xs => .lst (upDs k xs)
  | .dic t kvs => .dic t (upK k kvs)
  | .ins c fs => .ins c (upF k fs)
  | .exc c fs => .exc c (upF k fs)
  | .dlk t kvs => .dlk t (upK k kvs)
def upH (k : Nat) : LH → LH
  | [] => []
  | o :: r => o.up k :: upH k r
def runA (m : FM) : FM := fun ds h => if pureDs ds = true then (match m ds [] with
  | .ok d h' => if pureD d = true then .ok d h else (match d with
    | .ref n => (match h'[n]? with
      | some (.lst xs) => if pureDs xs = true then .ok (.ref h.length) (h ++ [.lst xs]) else .ok (d.up h.length) (h ++ upH h.length h')
      | _ => .ok (d.up h.length) (h ++ upH h.length h'))
    | _ => .ok (d.up h.length) (h ++ upH h.length h'))
  | .ex x _ => (match x.fs with
    | [] => .ex ⟨x.cls, []⟩ h
    | _ => m ds h)
  | .bad => .bad) else m ds h
section
variable {K : PySem.W.Frag} {mp mp' : List Addr} {H H' : Hp} {lh lh' : LH}
theorem Ext.drop (e : Ext K [] H mp' H') : Ext K mp H mp H' := ⟨⟨[], by simp⟩, fun a o h _ ht => e.frame a o h (by simp) ht, fun a h1 h2 => absurd h1 h2, e.tup, e.frz, fun a ps h _ => e.tbl a ps h (by simp)⟩
theorem Rep.drop (r : Rep K mp lh H) (e : Ext K [] H mp' H') (r' : Rep K mp' lh' H') : Rep K mp lh H' := r.same e.drop (fun a ha => by
  obtain ⟨n, o, _, _, q⟩ := r.at ha
  obtain ⟨u, hu⟩ := q.some
  rw [hu]; exact e.frame a u hu (by simp) (q.nt hu).2) (TabOk.back r e r'.tab)
theorem kc_map {g : D → D} {gs : List D → List D} (hn : gs [] = []) (hc : ∀ d r, gs (d :: r) = g d :: gs r) (hs : ∀ l, g (.str l) = .str l) (ht : ∀ xs, g (.tup xs) = .tup (gs xs)) : ∀ {ds : List D}, kc ds = true → kc (gs ds) = true := by
  intro ds h
  unfold kc at h
  split at h <;> first
    | (simp only [hc, hn, hs, ht]; exact h)
    | (simp only [hc, hn, hs, ht]; rfl)
    | cases h
theorem TpA.map {a : Addr} {ds es : List D} {vs : List V} (h : TpA K H a ds vs) (k : kc ds = true → kc es = true) : TpA K H a es vs := h.imp id fun z => ⟨k z.1, z.2⟩
theorem Rep.none (t : TabOk K mp H) : Rep K [] [] H := ⟨rfl, by simp, fun n o a h => by simp at h, t.less (fun a h => by simp at h)⟩
mutual
theorem RelD.up : ∀ {d : D} {v : V}, RelD K mp' H d v → RelD K (mp ++ mp') H (d.up mp.length) v
  | _, _, .non => .non
  | _, _, .bl b => .bl b
  | _, _, .int i => .int i
  | _, _, .str l => .str l
  | _, _, .tup h r => .tup (h.map (kc_map (g := D.up mp.length) (gs := upDs mp.length) rfl (fun _ _ => rfl) (fun _ => rfl) (fun _ => rfl))) (RelDs.up r)
  | _, _, .ktp h r => .ktp h (RelDs.up r)
  | _, _, .rol h r => .rol h (RelDs.up r)
  | _, _, .ref h => .ref (by rw [List.getElem?_append_right (Nat.le_add_right _ _), Nat.add_sub_cancel_left]; exact h)
theorem RelDs.up : ∀ {d : List D} {v : List V}, RelDs K mp' H d v → RelDs K (mp ++ mp') H (upDs mp.length d) v
  | _, _, .nil => .nil
  | _, _, .cons h r => .cons (RelD.up h) (RelDs.up r)
end
theorem upF_rel : ∀ {fs : List (Nat × D)} {gs : List (Str × V)}, Paired (fun (p : Nat × D) (q : Str × V) => q.1 = nm p.1 ∧ RelD K mp' H p.2 q.2) fs gs → Paired (fun (p : Nat × D) (q : Str × V) => q.1 = nm p.1 ∧ RelD K (mp ++ mp') H p.2 q.2) (upF mp.length fs) gs
  | _, _, .nil => .nil
  | _, _, .cons h r => .cons ⟨h.1, h.2.up⟩ (upF_rel r)
theorem upK_rel {κ : Type} {KR : D → κ → Prop} : ∀ {fs : List (D × D)} {gs : List (κ × V)}, Paired (fun (p : D × D) (q : κ × V) => KR p.1 q.1 ∧ RelD K mp' H p.2 q.2) fs gs → Paired (fun (p : D × D) (q : κ × V) => KR p.1 q.1 ∧ RelD K (mp ++ mp') H p.2 q.2) (upK mp.length fs) gs
  | _, _, .nil => .nil
  | _, _, .cons h r => .cons ⟨h.1, h.2.up⟩ (upK_rel r)
theorem RelO.notX {o : LO} {a : Addr} (h : RelO K mp H o a) : ∀ fs, H a ≠ Option.some (.xd fs) := fun fs z => by
  cases o with
  | lst ds => obtain ⟨vs, q, _⟩ := h; rw [q] at z; cases z
  | dic t kvs => cases t with
    | false => obtain ⟨ks, q, _⟩ := h; rw [q] at z; cases z
    | true => obtain ⟨ks, q, _⟩ := h; rw [q] at z; cases z
  | ins c fs => obtain ⟨dx, gs, q, _⟩ := h; rw [q] at z; cases z
  | exc c fs => obtain ⟨d, q, _⟩ := h; rw [q] at z; cases z
  | dlk t kvs => cases t with
    | false => obtain ⟨o, ks, q, _⟩ := h; rw [q] at z; cases z
    | true => obtain ⟨o, ks, q, _⟩ := h; rw [q] at z; cases z
theorem RelO.up {o : LO} {a : Addr} (r : Rep K mp lh H) (h : RelO K mp' H o a) : RelO K (mp ++ mp') H (o.up mp.length) a := by
  cases o with
  | lst ds => obtain ⟨vs, q, r⟩ := h; exact ⟨vs, q, r.up⟩
  | dic t kvs => cases t with
    | false => obtain ⟨ks, q, r⟩ := h; exact ⟨ks, q, upK_rel r⟩
    | true => obtain ⟨ks, q, r⟩ := h; exact ⟨ks, q, upK_rel r⟩
  | ins c fs => obtain ⟨dx, gs, q, r⟩ := h; exact ⟨dx, gs, q, upF_rel r⟩
  | exc c fs =>
    obtain ⟨d, q, r1, r2⟩ := h
    refine ⟨d, q, r1, ?_⟩
    rcases r2 with ⟨e1, e2⟩ | ⟨dd, fs', ne, e1, e2, e3, e4⟩
    · have : fs = [] := e1
      subst this; exact .inl ⟨rfl, e2⟩
    · refine .inr ⟨dd, fs', ?_, e1, e2, fun z => ?_, upF_rel e4⟩
      · cases fs with
        | nil => exact absurd rfl ne
        | cons p q => intro z; cases z
      · rcases List.mem_append.mp z with z | z
        · obtain ⟨n, o, _, _, q⟩ := r.at z
          exact q.notX _ e2
        · exact e3 z
  | dlk t kvs => cases t with
    | false => obtain ⟨o, ks, q, r⟩ := h; exact ⟨o, ks, q, upK_rel r⟩
    | true => obtain ⟨o, ks, q, r⟩ := h; exact ⟨o, ks, q, upK_rel r⟩
theorem RelO.wider {o : LO} {a : Addr} (r' : Rep K mp' lh' H) (h : RelO K mp H o a) : RelO K (mp ++ mp') H o a := by
  have s : Sub K mp H (mp ++ mp') H := ⟨fun {n a} h => by rw [List.getElem?_append_left (List.getElem?_eq_some_iff.mp h).1]; exact h, fun _ _ h => h, fun _ _ _ h => h⟩
  cases o with
  | lst ds => obtain ⟨vs, q, r⟩ := h; exact ⟨vs, q, r.sub s⟩
  | dic b kvs => cases b with
    | false => obtain ⟨ks, q, r⟩ := h; exact ⟨ks, q, Paired.imp (fun p q z => ⟨z.1, z.2.sub s⟩) r⟩
    | true => obtain ⟨ks, q, r⟩ := h; exact ⟨ks, q, Paired.imp (fun p q z => ⟨z.1, z.2.sub s⟩) r⟩
  | ins c fs => obtain ⟨dx, gs, q, r⟩ := h; exact ⟨dx, gs, q, Paired.imp (fun p q z => ⟨z.1, z.2.sub s⟩) r⟩
  | exc c fs =>
    obtain ⟨d, q, r1, r2⟩ := h
    refine ⟨d, q, r1, ?_⟩
    rcases r2 with r2 | ⟨dd, fs, ne, e1, e2, e3, e4⟩
    · exact .inl r2
    · refine .inr ⟨dd, fs, ne, e1, e2, fun z => ?_, Paired.imp (fun p q z => ⟨z.1, z.2.sub s⟩) e4⟩
      rcases List.mem_append.mp z with z | z
      · exact e3 z
      · obtain ⟨n, o, _, _, q⟩ := r'.at z
        exact q.notX _ e2
  | dlk b kvs => cases b with
    | false => obtain ⟨o, ks, q, r⟩ := h; exact ⟨o, ks, q, Paired.imp (fun p q z => ⟨z.1, z.2.sub s⟩) r⟩
    | true => obtain ⟨o, ks, q, r⟩ := h; exact ⟨o, ks, q, Paired.imp (fun p q z => ⟨z.1, z.2.sub s⟩) r⟩
theorem upH_len {k : Nat} : ∀ h : LH, (upH k h).length = h.length
  | [] => rfl
  | _ :: r => congrArg Nat.succ (upH_len r)
theorem upH_get {k : Nat} : ∀ {h : LH} {n : Nat} {o : LO}, (upH k h)[n]? = Option.some o → ∃ o', h[n]? = Option.some o' ∧ o = o'.up k
  | [], n, o, h => by simp [upH] at h
  | x :: r, 0, o, h => by simp [upH] at h; exact ⟨x, by simp, h.symm⟩
  | x :: r, n + 1, o, h => by
    obtain ⟨o', h1, h2⟩ := upH_get (h := r) (n := n) (o := o) (by simpa [upH] using h)
    exact ⟨o', by simpa using h1, h2⟩
theorem Ext.join (e : Ext K [] H mp' H') : Ext K mp H (mp ++ mp') H' := ⟨⟨mp', rfl⟩, fun a o h _ ht => e.frame a o h (by simp) ht, fun a h1 h2 => by
  rcases List.mem_append.mp h1 with z | z
  · exact absurd z h2
  · exact e.new a z (by simp), e.tup, e.frz, fun a ps h _ => e.tbl a ps h (by simp)⟩
theorem Rep.join (r : Rep K mp lh H) (e : Ext K [] H mp' H') (r' : Rep K mp' lh' H') : Rep K (mp ++ mp') (lh ++ upH lh.length lh') H' := by
  have rd := r.drop e r'
  refine ⟨by rw [List.length_append, List.length_append, upH_len, r.len, r'.len], ?_, fun n o a h1 h2 => ?_, rd.tab.both r'.tab⟩
  · refine List.nodup_append.mpr ⟨r.nd, r'.nd, fun a ha b hb z => ?_⟩
    subst z
    obtain ⟨n, o, _, _, q⟩ := r.at ha
    obtain ⟨u, hu⟩ := q.some
    have := e.new a hb (by simp)
    rw [hu] at this; cases this
  · by_cases hl : n < mp.length
    · rw [List.getElem?_append_left hl] at h2
      rw [List.getElem?_append_left (by rw [← r.len]; exact hl)] at h1
      exact (rd.obj n o a h1 h2).wider r'
    · have hl2 : mp.length ≤ n := Nat.le_of_not_lt hl
      rw [List.getElem?_append_right hl2] at h2
      rw [List.getElem?_append_right (by rw [← r.len]; exact hl2)] at h1
      obtain ⟨o', h3, h4⟩ := upH_get h1
      rw [h4, ← r.len]
      exact (r'.obj _ o' a (by rw [r.len]; exact h3) h2).up rd
theorem FnRef.pure {P : Program} {w : World} {mg : Str → Option Value} {base : Heap} {k : Nat} {f : Addr} {fd : FuncData} {ps : List Str} {m : FM} (F : FnRef P w K mg base k f fd ps m) : FnRef P w K mg base k f fd ps (runA m) := FnOk.imp F fun vs H Q E ⟨mp, lh, ds, rp, rd, hl, q⟩ => by
  unfold runA at q
  by_cases hp : pureDs ds = true
  · rw [if_pos hp] at q
    cases hm : m ds [] with
    | bad => rw [hm] at q; exact q.elim
    | ok d lh' =>
      simp only [hm] at q
      refine ⟨[], [], ds, Rep.none rp.tab, rd.pure hp, hl, ?_⟩
      rw [hm]
      intro mp' H' v e r rl
      by_cases hd : pureD d = true
      · rw [if_pos hd] at q
        exact q mp H' v e.drop (rp.drop e r) (rl.pure hd)
      · rw [if_neg hd] at q
        have all : Post K mp H (R.ok (d.up lh.length) (lh ++ upH lh.length lh')) Q E → Q v H' := fun q => q (mp ++ mp') H' v e.join (rp.join e r) (by rw [← rp.len]; exact rl.up)
        cases rl with
        | @ref n a hn =>
          dsimp only at q
          cases ho : lh'[n]? with
          | none => rw [ho] at q; exact all q
          | some o =>
            cases o with
            | lst xs =>
              simp only [ho] at q
              by_cases hx : pureDs xs = true
              · rw [if_pos hx] at q
                obtain ⟨ws, h1, h2⟩ := r.obj n _ a ho hn
                have ha : a ∈ mp' := List.mem_of_getElem? hn
                have hH : H a = none := e.new a ha (by simp)
                refine q (mp ++ [a]) H' (.ref a) (.adopt (rp.drop e r) e.drop hH) ((rp.drop e r).adopt (rp.free_ne hH) h1 (h2.pure hx)) (.ref (by rw [← rp.len]; simp))
              · rw [if_neg hx] at q; exact all q
            | _ => simp only [ho] at q; exact all q
        | _ => exact all q
    | ex x lh' =>
      simp only [hm] at q
      cases hx : x.fs with
      | cons a b => rw [hx] at q; exact ⟨mp, lh, ds, rp, rd, hl, q⟩
      | nil =>
        rw [hx] at q
        refine ⟨[], [], ds, Rep.none rp.tab, rd.pure hp, hl, ?_⟩
        rw [hm]
        intro mp' H' c dd e r rx
        refine q mp H' c dd e.drop (rp.drop e r) ⟨rx.1, .inl ⟨rfl, ?_⟩⟩
        rcases rx.2 with ⟨_, z⟩ | ⟨_, _, ne, _⟩
        · exact z
        · exact absurd hx ne
  · rw [if_neg hp] at q
    exact ⟨mp, lh, ds, rp, rd, hl, q⟩
end
structure Fc (fx : List Fx) (fa : List He.Fa) (fn : List He.DefD) (K : PySem.W.Frag) (mg : Str → Option Value) (base : Heap) : Prop where
  x : fxAll fx K = true
  c : He.SaysD fa fn K
  hp : ∃ h : Heap, K.In h ∧ h.Ns mainGlobals mg
  tb : ∀ x fd c P, x ∈ ndL → fdOf K x = some fd → fd.code = .ref c → tabA K fd = some P → LamX.TabB base mg c P
  tn : ((tabsOf K).map (·.1)).Nodup
section
variable {fx : List Fx} {fa : List He.Fa} {fn : List He.DefD} {K : PySem.W.Frag} {mg : Str → Option Value} {base : Heap}
theorem Fc.fx_ (h : Fc fx fa fn K mg base) (i : Nat) {f : Fx} (e : fx[i]? = some f := by rfl) : f.ok K = true := List.all_eq_true.mp h.x f (List.mem_of_getElem? e)
theorem Fc.glo (h : Fc fx fa fn K mg base) (i : Nat) {x : Str} (e : fa[i]? = some (.glo x) := by rfl) : mg x = some (.ref (He.ga K x)) := let ⟨_, X, G⟩ := h.hp; He.glo_ok X G (h.c.fact i e)
theorem Fc.free (h : Fc fx fa fn K mg base) (i : Nat) {x : Str} (e : fa[i]? = some (.free x) := by rfl) : mg x = none := let ⟨_, X, G⟩ := h.hp; He.free_ok X G (h.c.fact i e)
theorem Fc.int (h : Fc fx fa fn K mg base) (i : Nat) {x : Str} {n : Int} (e : fa[i]? = some (.int x n) := by rfl) : ∃ t, mg x = some (.int n t) := let ⟨_, X, G⟩ := h.hp; He.int_ok X G (h.c.fact i e)
theorem Fc.str (h : Fc fx fa fn K mg base) (i : Nat) {x z : Str} (e : fa[i]? = some (.str x z) := by rfl) : ∃ t, mg x = some (.str z t) := let ⟨_, X, G⟩ := h.hp; He.str_ok X G (h.c.fact i e)
end
def Cal (P : Program) (w : World) (K : PySem.W.Frag) (mg : Str → Option Value) (base : Heap) (k : Nat) (x : Str) (ps : List Str) (n : Nat) (ks : List Str) (gd : List D → List D → List D) (mf : FM) : Prop :=
  ∃ fd, FnRef P w K mg base k (He.ga K x) fd ps mf ∧ BindD K fd ps n ks gd ∧ PySem.W.keepIn K (.ref (He.ga K x)) = true ∧ mg x = some (.ref (He.ga K x))
abbrev gd0 : List D → List D → List D := fun ds _ => ds
abbrev gdA : List D → List D → List D := fun ds es => ds ++ es
section
variable {P : Program} {w : World} {K : PySem.W.Frag} {mg : Str → Option Value} {base : Heap} {x qual : Str} {params : Arguments} {body : List Stmt} {scope : Scope} {N ps ks : List Str} {k n : Nat} {b : SM} {fd : FuncData} {mf : FM} {gd : List D → List D → List D}
theorem bindD_kw {f : Addr} (F : FunD K x qual params body scope [] [] f fd) (hps : n + ks.length = ps.length)
    (h : ∀ (kV doc pm : Value) (an : Option Addr) (cdv ct : Value) (us ws : List Value), us.length = n → ws.length = ks.length → bindArgs (PySem.W.fnOf x qual params body scope .none kV doc pm an cdv ct) ⟨us, ks.zip ws⟩ = pure (ps.zip (us ++ ws))) : BindD K fd ps n ks gdA := by
  obtain ⟨oc, od, dV, kV, doc, pm, an, cdv, ct, osl, rfl, lk, hcd, hD, hK⟩ := F.ex
  have eD : dV = .none := by
    rcases hD with ⟨_, e⟩ | ⟨e, _⟩
    · exact e
    · exact absurd rfl e
  subst eD
  exact ⟨fun us ws => us ++ ws, fun vs zs => vs ++ zs, fun s us ws hk h1 h2 => .of_eq (h kV doc pm an cdv ct us ws h1 h2), fun vs us zs ws r1 r2 => r1.append r2, fun mp H ds vs es zs h1 h2 r1 r2 => ⟨r1.append r2, by show (ds ++ es).length = _; rw [List.length_append, h1, h2]; exact hps⟩⟩
theorem takesC {f : Addr} {cdv : Value} {A : Around} {outer : List Env} {s : Shared} {H : Hp} {E : XK} : Takes (cxOf (L2.CX P w) P w K mg base N qual scope f cdv A outer s H E) (fun c d _ H' => E c d H') := takes_of rfl rfl rfl rfl
theorem passC {f : Addr} {cdv : Value} {A : Around} {outer : List Env} {s : Shared} {H : Hp} {E : XK} : PassesOwn (model P w) (cxOf (L2.CX P w) P w K mg base N qual scope f cdv A outer s H E).A (cxOf (L2.CX P w) P w K mg base N qual scope f cdv A outer s H E).env (cxOf (L2.CX P w) P w K mg base N qual scope f cdv A outer s H E).xe := passes_of rfl
theorem cal_of (F : FunD K x qual params body scope [] [] (He.ga K x) fd) (hm : mg x = some (.ref (He.ga K x))) (S : FnScope N ps scope) (hbd : BindD K fd ps n ks gd)
    (hb : ∀ (cdv : Value) (A : Around) (outer : List Env) (s : Shared) (H : Hp) (E : XK), Room k (A.deeper (PyProof.Rows.envOfC qual scope s.heap.objs.size (He.ga K x) cdv)) →
      RSs (cxOf (L2.CX P w) P w K mg base N qual scope (He.ga K x) cdv A outer s H E) (fun c d _ H' => E c d H') body b) : Cal P w K mg base (k + 1) x ps n ks gd (runA (fm N.length b)) :=
  ⟨fd, (fnref F S hb).pure, hbd, F.kp, hm⟩
theorem bindD_no {f : Addr} (F : FunD K x qual params body scope [] [] f fd)
    (h : ∀ (kV doc pm : Value) (an : Option Addr) (cdv ct : Value) (us : List Value), us.length = ps.length → bindArgs (PySem.W.fnOf x qual params body scope .none kV doc pm an cdv ct) ⟨us, []⟩ = pure (ps.zip us)) : BindD K fd ps ps.length [] gd0 := bindD_all (F.bindsN h)
end
section
variable {X : Cx} {W : WX} {k n : Nat} {ps ks : List Str} {x : Str} {p pos : Pos} {e : Expr} {es : List Expr} {kws : List Keyword} {ma mk : AM} {gd : List D → List D → List D} {mf : FM}
theorem re_cal (C : Cal X.prog X.w X.K X.mg X.base k x ps n ks gd mf) (hr : Room k X.A) (hg : Gl X x) (tkx : Takes X W)
    (ha : RA X W (e :: es) ma) (hkw : RK X W kws mk) (hn : (e :: es).length = n := by rfl) (hkn : kws.length = ks.length := by rfl) (hall : (backToKw pos (keywordEach kws X.env)).all (·.1.isSome) = true := by rfl) (hks : (backToKw pos (keywordEach kws X.env)).filterMap (·.1) = ks := by rfl)
    (hdb : (x == ("__debug__" : Str)) = false := by decide) (he : starEach (e :: es) X.env = (false, eval e X.env) :: starEach es X.env := by rfl)
    (hpl : ((backTo pos (starEach (e :: es) X.env)).any (·.1) || (backToKw pos (keywordEach kws X.env)).any (·.1.isNone)) = false := by rfl) :
    RE X W (.Call (.Name x p) (e :: es) kws pos) (mCallK gd mf ma mk) := by
  obtain ⟨fd, F, hb, hk, hm⟩ := C
  exact re_callK F hr hg hm hk tkx hb ha hkw hn hkn hall hks hdb he hpl
theorem re_gint {x : Str} {i : Int} {pos : Pos} (hg : Gl X x) (h : ∃ t, X.mg x = some (.int i t)) (hd : (x == ("__debug__" : Str)) = false := by decide) : RE X W (.Name x pos) (mC (.int i)) := by
  obtain ⟨t, h⟩ := h
  exact re_glob (v := .int i) (pe_glob hg h ⟨t, rfl⟩ hd) fun _ _ => .int _
theorem re_gstr {x z : Str} (l : List Nat) {pos : Pos} (hg : Gl X x) (h : ∃ t, X.mg x = some (.str z t)) (hz : z = ⟨l.toArray⟩) (hd : (x == ("__debug__" : Str)) = false := by decide) : RE X W (.Name x pos) (mC (.str l)) := by
  obtain ⟨t, h⟩ := h
  subst hz
  exact re_glob (v := .str ⟨l.toArray⟩) (pe_glob hg h ⟨t, rfl⟩ hd) fun _ _ => .str _
theorem re_isiT {t : Str} {T : String} {p2 : Pos} {me : EM} {tab : List (Tg × Bool)} (he : RE X W e me) (hg : Gl X "isinstance") (hm : X.mg "isinstance" = none) (hgT : Gl X t) (hmT : X.mg t = none) (hv : bootBuiltins t = some (.type T)) (hx : (Fx.kit (.ty T) tab).ok X.K = true)
    (hI : ∀ c b, luk tab (.ins c) = some b → InsOk X.K (clsA X.K c)) (hE : ∀ c b, luk tab (.exc c) = some b → ExcC X.K (clsA X.K c)) (hn : t ≠ "__name__" := by decide) (hd : (t == ("__debug__" : Str)) = false := by decide)
    (hs : starEach [e, .Name t p2] X.env = (false, eval e X.env) :: starEach [.Name t p2] X.env := by rfl) (hs2 : starEach [.Name t p2] X.env = (false, eval (.Name t p2) X.env) :: starEach [] X.env := by rfl)
    (hpl : (backTo pos (starEach [.Name t p2] X.env)).any (·.1) = false := by rfl) :
    RE X W (.Call (.Name "isinstance" p) [e, .Name t p2] [] pos) (mIsi (luk tab) me) :=
  re_isi he (pe_bltn (v := .ty T) hgT hmT hv rfl hn hd) (.ty T) hg hm (kit_ok hx) hI hE hs hs2 hpl
theorem re_sv (i : Nat) {x : Str} {pos : Pos} (hN : X.N[i]? = some x := by rfl) (hv : Vis X.env.scope x := by first | exact Or.inl rfl | exact Or.inr (Or.inl rfl) | exact Or.inr (Or.inr rfl)) (hd : (x == ("__debug__" : Str)) = false := by decide)
    (hcd : (x == ("__classdict__" : Str)) = false := by decide) : RE X W (.Name x pos) (mV i) := re_var (pv i hN hv hd hcd)
end
end Rf
set_option Elab.async false
set_option linter.all false
set_option maxRecDepth 100000
set_option maxHeartbeats 4000000
set_option autoImplicit false
namespace Rf
open PySem PySem.Spec L2
abbrev fSub : D → D → LH → R D := oI0 fun i j => .int (i - j)
abbrev fDiv : D → D → LH → R D := oI (fun _ j => decide (0 < j) && decide (j < 1073741824)) fun i j => .int (i / j)
abbrev fMod : D → D → LH → R D := oI (fun _ j => decide (0 < j)) fun i j => .int (i % j)
abbrev fPow : D → D → LH → R D := oI (fun i j => decide (0 ≤ j) && (decide (j ≤ 1000000) && Nat.blt i.natAbs 18446744073709551616)) fun i j => .int (i ^ j.toNat)
abbrev fLe : D → D → LH → R D := oI0 fun i j => .bl (decide (i ≤ j))
abbrev fGt : D → D → LH → R D := oI0 fun i j => .bl (decide (j < i))
abbrev fGe : D → D → LH → R D := oI0 fun i j => .bl (decide (j ≤ i))
def fIAdd : D → D → LH → R D := fun x y h => match x, y with
    | .int i, .int j => .ok (.int (i + j)) h
    | .str a, .str b => if szOk (a.length + b.length) = true then .ok (.str (a ++ b)) h else .bad
    | _, _ => .bad
theorem Room.u64 {k : Nat} {A : Around} (r : Room k A) : A.units + 64 < cLine := by have := r.un; omega
theorem Room.u65 {k : Nat} {A : Around} (r : Room k A) : A.units + 65 < cLine := by have := r.un; omega
section
variable {X : Cx} {W : WX} {e : Expr} {ma mb : EM}
end
def imAny (e : EM) : IM := fun ls h => (e ls h).bind fun d h1 => match d with
  | .ref n => (match h1[n]? with
    | some (.lst _) => .ok (liList n) h1
    | _ => .bad)
  | .tup xs => .ok (liSeq xs) h1
  | .ktp xs => .ok (liSeq xs) h1
  | .str l => .ok (liStr l) h1
  | _ => .bad
section
variable {X : Cx} {W : WX} {tg l : Expr} {me : EM}
theorem ri_any (he : RE X W l me) : RI X W tg l (imAny me) := by
  obtain ⟨t1, a1, a2⟩ := ri_list (tg := tg) he
  obtain ⟨t2, b1, b2⟩ := ri_tup (tg := tg) he
  obtain ⟨t3, c1, c2⟩ := ri_str (tg := tg) he
  refine ⟨fun σ H Q => t1 σ H Q ∨ t2 σ H Q ∨ t3 σ H Q, ⟨fun pins s σ H Q I h => h.elim (a1.run pins s σ H Q I) fun h => h.elim (b1.run pins s σ H Q I) (c1.run pins s σ H Q I)⟩, fun mp lh ls σ H Q r rs q => ?_⟩
  unfold imAny at q
  cases hm : me ls lh with
  | bad => rw [hm] at q; exact q.elim
  | ex x h => rw [hm] at q; exact .inl (a2 mp lh ls σ H Q r rs (by unfold imSeq; rw [hm]; exact q))
  | ok d h =>
    rw [hm] at q
    cases d with
    | ref n => exact .inl (a2 mp lh ls σ H Q r rs (by unfold imSeq; rw [hm]; exact q))
    | tup xs => exact .inr (.inl (b2 mp lh ls σ H Q r rs (by unfold imTup; rw [hm]; exact q)))
    | ktp xs => exact .inr (.inl (b2 mp lh ls σ H Q r rs (by unfold imTup; rw [hm]; exact q)))
    | str l => exact .inr (.inr (c2 mp lh ls σ H Q r rs (by unfold imStr; rw [hm]; exact q)))
    | _ => exact q.elim
end
section
variable {fx : List Fx} {fa : List He.Fa} {fn : List He.DefD} {K : PySem.W.Frag} {mg : Str → Option Value} {base : Heap}
theorem Fc.gloC (h : Fc fx fa fn K mg base) (i c : Nat) {x : Str} (e : fa[i]? = some (.glo x) := by rfl) (ex : x = nm c := by rfl) : mg x = some (.ref (clsA K c)) := by
  subst ex; exact h.glo i e
theorem Fc.exc (h : Fc fx fa fn K mg base) (i c : Nat) {x : Str} (e : fa[i]? = some (.exc x) := by rfl) (ex : x = nm c := by rfl) : PySem.W.excIn K (clsA K c) He.veBase "ValueError.__new__" = true ∧ PySem.W.keepIn K (.ref (clsA K c)) = true ∧ PySem.W.subIn K (.ref (clsA K c)) (.type "BaseException") = some true ∧
    PySem.W.typeIn K (.ref (clsA K c)) = some (.type "type") := by
  subst ex; exact He.exc_ok (h.c.fact i e)
end
section
variable {X : Cx} {W : WX} {c : Nat} {x m : Str} {j} {p p2 pos2 pos : Pos}
theorem rs_raiseF (hc : X.calm = true) (tkx : Takes X W) (q : PySem.W.excIn X.K (clsA X.K c) He.veBase "ValueError.__new__" = true ∧ PySem.W.keepIn X.K (.ref (clsA X.K c)) = true ∧ PySem.W.subIn X.K (.ref (clsA X.K c)) (.type "BaseException") = some true ∧
    PySem.W.typeIn X.K (.ref (clsA X.K c)) = some (.type "type")) (gC : X.mg x = some (.ref (clsA X.K c))) (hg : Gl X x) (hdb : (x == ("__debug__" : Str)) = false := by decide) :
    RS X W (.Raise (some (.Call (.Name x p) [.Constant (.str m) j p2] [] pos2)) none pos) (mRaise c) := rs_raise hc tkx q.1 gC q.2.1 q.2.2.1 q.2.2.2 hg hdb
end
def mNeg (me : EM) : EM := fun ls h => (me ls h).bind fun d h1 => match d with
  | .int i => .ok (.int (-i)) h1
  | _ => .bad
theorem exc_tab {K : PySem.W.Frag} {L : List Nat} {tab : List (Tg × Bool)} (hL : ∀ c ∈ L, ExcC K (clsA K c)) (ht : (tab.all fun p => match p.1 with
    | .exc c => decide (c ∈ L)
    | _ => true) = true) : ∀ c b, luk tab (.exc c) = some b → ExcC K (clsA K c) := fun c b e => hL c (of_decide_eq_true (luk_all (f := fun g _ => match g with
    | .exc c => decide (c ∈ L)
    | _ => true) ht e))
theorem ins_tab {K : PySem.W.Frag} {L : List Nat} {tab : List (Tg × Bool)} (hL : ∀ c ∈ L, InsOk K (clsA K c)) (ht : (tab.all fun p => match p.1 with
    | .ins c => decide (c ∈ L)
    | _ => true) = true) : ∀ c b, luk tab (.ins c) = some b → InsOk K (clsA K c) := fun c b e => hL c (of_decide_eq_true (luk_all (f := fun g _ => match g with
    | .ins c => decide (c ∈ L)
    | _ => true) ht e))
theorem excs_nil {K : PySem.W.Frag} : ∀ c ∈ ([] : List Nat), ExcC K (clsA K c) := fun _ h => by cases h
theorem inss_nil {K : PySem.W.Frag} : ∀ c ∈ ([] : List Nat), InsOk K (clsA K c) := fun _ h => by cases h
end Rf
set_option Elab.async false
set_option linter.all false
set_option maxRecDepth 100000
set_option maxHeartbeats 4000000
set_option autoImplicit false
namespace Rf
open PySem PySem.Spec L2
def drawB : SM := mSeq (mSet 2 (mBin dIx (mV 0) (mC (.int 0)))) (mSeq (mSetSub dSetL (mBin dAdd (mBin dIx (mV 0) (mC (.int 1))) (mC (.int 1))) (mV 0) (mC (.int 1))) (mSeq (mSet 3 (mBin fMod (mBin dIx (mV 0) (mC (.int 1))) (mCall (f1 dLen) (mCons (mV 2) (mNil))))) (mSeq (mSet 4 (mBin dIx (mV 2) (mV 3))) (mSeq (mIfS (mTest (mBin fGe (mV 4) (mC (.int 1000000000000000000)))) (mSeq (mSetSub dSetL (mBin fDiv (mV 4) (mV 1)) (mV 2) (mV 3)) (mRet (mBin fMod (mV 4) (mV 1)))) (mNext)) (mSeq (mSet 5 (mBin fMod (mBin dAdd (mV 4) (mBin dMul (mC (.int 104729)) (mBin dIx (mV 0) (mC (.int 1))))) (mC (.int 4294967291)))) (mSeq (mSet 5 (mBin fMod (mBin fPow (mV 5) (mC (.int 5))) (mC (.int 4294967279)))) (mRet (mBin fMod (mBin fDiv (mBin fMod (mBin dAdd (mBin dMul (mBin fDiv (mV 5) (mC (.int 64))) (mC (.int 69621))) (mV 5)) (mC (.int 4294967231))) (mC (.int 8))) (mV 1)))))))))
def drawM : FM := fm 6 drawB
structure Town (h : LH) (t r : Nat) (row : List Int) (c : Int) : Prop where
  tn : h[t]? = some (.lst [.ref r, .int c])
  rw_ : h[r]? = some (.lst (row.map D.int))
  ne : row ≠ []
  tr : t ≠ r
theorem ixN_lt {n : Nat} {j : Nat} (h : j < n) : ixN n (j : Int) = some j := by
  unfold ixN
  rw [if_pos (by omega), if_pos (by omega)]; simp
theorem atI_lt {α : Type} {xs : List α} {j : Nat} {x : α} (h : xs[j]? = some x) : atI xs (j : Int) = some x := by
  unfold atI
  rw [ixN_lt (List.getElem?_eq_some_iff.mp h).1]; exact h
theorem draw_ok {h : LH} {t r : Nat} {row : List Int} {c n : Int} (T : Town h t r row c) (hn : 1 ≤ n) (hn2 : n < 1073741824) :
    ∃ (v : Int) (row' : List Int), 0 ≤ v ∧ v < n ∧ row'.length = row.length ∧ drawM [.ref t, .int n] h = .ok (.int v) ((h.set t (.lst [.ref r, .int (c + 1)])).set r (.lst (row'.map D.int))) := by
  obtain ⟨ht, hr, hne, htr⟩ := T
  have lt : t < h.length := (List.getElem?_eq_some_iff.mp ht).1
  have lr : r < h.length := (List.getElem?_eq_some_iff.mp hr).1
  have h1t : (h.set t (.lst [.ref r, .int (c + 1)]))[t]? = some (.lst [.ref r, .int (c + 1)]) := by rw [List.getElem?_set_self lt]
  have h1r : (h.set t (.lst [.ref r, .int (c + 1)]))[r]? = some (.lst (row.map D.int)) := by rw [List.getElem?_set_ne htr]; exact hr
  have hlen : 0 < row.length := List.length_pos_iff.mpr hne
  obtain ⟨j, hj⟩ : ∃ j : Nat, (c + 1) % (row.length : Int) = (j : Int) := ⟨((c + 1) % (row.length : Int)).toNat, by rw [Int.toNat_of_nonneg (Int.emod_nonneg _ (by omega))]⟩
  have jl : j < row.length := by have := Int.emod_lt_of_pos (c + 1) (show (0 : Int) < row.length by omega); omega
  obtain ⟨cell, hcell⟩ : ∃ cell, row[j]? = some cell := ⟨row[j], List.getElem?_eq_getElem jl⟩
  have hcD : (row.map D.int)[j]? = some (.int cell) := by rw [List.getElem?_map, hcell]; rfl
  have a1 : atI (row.map D.int) (j : Int) = some (.int cell) := atI_lt hcD
  have i1 : ixN (row.map D.int).length (j : Int) = some j := ixN_lt (by simpa using jl)
  generalize eh1 : h.set t (.lst [.ref r, .int (c + 1)]) = h1 at h1t h1r ⊢
  have s1 : drawB [some (.ref t), some (.int n), none, none, none, none] h = (mSeq (mIfS (mTest (mBin fGe (mV 4) (mC (.int 1000000000000000000)))) (mSeq (mSetSub dSetL (mBin fDiv (mV 4) (mV 1)) (mV 2) (mV 3)) (mRet (mBin fMod (mV 4) (mV 1)))) (mNext)) (mSeq (mSet 5 (mBin fMod (mBin dAdd (mV 4) (mBin dMul (mC (.int 104729)) (mBin dIx (mV 0) (mC (.int 1))))) (mC (.int 4294967291)))) (mSeq (mSet 5 (mBin fMod (mBin fPow (mV 5) (mC (.int 5))) (mC (.int 4294967279)))) (mRet (mBin fMod (mBin fDiv (mBin fMod (mBin dAdd (mBin dMul (mBin fDiv (mV 5) (mC (.int 64))) (mC (.int 69621))) (mV 5)) (mC (.int 4294967231))) (mC (.int 8))) (mV 1))))))
      [some (.ref t), some (.int n), some (.ref r), some (.int j), some (.int cell), none] h1 := by
    have hlen' : (0 : Int) < (row.map D.int).length := by simpa using hlen
    have hj' : (c + 1) % ((row.map D.int).length : Int) = j := by simpa using hj
    simp only [drawB, mSeq, mSet, liftE, mBin, mV, mC, R.bind, dIx, asRd, ht, List.getElem?_cons_zero, List.getElem?_cons_succ, List.set_cons_zero, List.set_cons_succ]
    have z0 : atI [D.ref r, .int c] 0 = some (.ref r) := rfl
    have z1 : atI [D.ref r, .int c] 1 = some (.int c) := rfl
    have z2 : atI [D.ref r, .int (c + 1)] 1 = some (.int (c + 1)) := rfl
    have y1 : ixN [D.ref r, .int c].length 1 = some 1 := rfl
    simp only [z0, mSetSub, liftE, mBin, mV, mC, R.bind, dIx, asRd, ht, z1, dAdd, dSetL, y1, Option.map_some, List.getElem?_cons_zero, List.getElem?_cons_succ, List.set_cons_zero, List.set_cons_succ, eh1, h1t, h1r, z2, mCall, mCons, mNil, f1, dLen, oI, hlen', decide_true, if_true, hj', a1]
  have s2 : drawM [.ref t, .int n] h = fin (drawB [some (.ref t), some (.int n), none, none, none, none] h) := rfl
  rw [s2, s1]
  by_cases hb : (1000000000000000000 : Int) ≤ cell
  · refine ⟨cell % n, row.set j (cell / n), Int.emod_nonneg _ (by omega), Int.emod_lt_of_pos _ (by omega), by simp, ?_⟩
    have n1 : decide (0 < n) = true := decide_eq_true (by omega)
    have n2 : decide (n < 1073741824) = true := decide_eq_true hn2
    have b1 : decide ((1000000000000000000 : Int) ≤ cell) = true := decide_eq_true hb
    have l1 : ∀ x : LO, (h1.set r x).length = h1.length := fun x => by simp
    simp only [mSeq, mIfS, mTest, mSetSub, mRet, liftE, mBin, mV, mC, R.bind, List.getElem?_cons_zero, List.getElem?_cons_succ, oI0, oI, b1, if_true, n1, n2, Bool.and_self, dSetL, h1r, i1, Option.map_some, fin]
    rw [List.map_set]
  · have b1 : decide ((1000000000000000000 : Int) ≤ cell) = false := decide_eq_false hb
    have z2 : atI [D.ref r, .int (c + 1)] 1 = some (.int (c + 1)) := rfl
    obtain ⟨m1, e1⟩ : ∃ m1, (cell + 104729 * (c + 1)) % 4294967291 = m1 := ⟨_, rfl⟩
    have g1 : 0 ≤ m1 := by rw [← e1]; exact Int.emod_nonneg _ (by omega)
    have g2 : m1 < 4294967291 := by rw [← e1]; exact Int.emod_lt_of_pos _ (by omega)
    obtain ⟨m2, e2⟩ : ∃ m2, m1 ^ (5 : Int).toNat % 4294967279 = m2 := ⟨_, rfl⟩
    have nb : Nat.blt m1.natAbs 18446744073709551616 = true := by
      have : m1.natAbs < 18446744073709551616 := by omega
      exact Nat.ble_eq_true_of_le this
    have n1 : decide (0 < n) = true := decide_eq_true (by omega)
    have w1 : (bnd64 104729 || bnd64 (c + 1)) = true := by
      have : bnd64 104729 = true := by decide
      rw [this]; rfl
    have w2 : ∀ i, (bnd64 i || bnd64 69621) = true := fun i => by
      have : bnd64 69621 = true := by decide
      rw [this]; simp
    refine ⟨((m2 / 64 * 69621 + m2) % 4294967231 / 8) % n, row, Int.emod_nonneg _ (by omega), Int.emod_lt_of_pos _ (by omega), rfl, ?_⟩
    have d1 : decide ((0 : Int) < 4294967291) = true := by decide
    have d2 : decide ((0 : Int) < 4294967279) = true := by decide
    have d3 : (decide ((0 : Int) < 64) && decide ((64 : Int) < 1073741824)) = true := by decide
    have d4 : decide ((0 : Int) < 4294967231) = true := by decide
    have d5 : (decide ((0 : Int) < 8) && decide ((8 : Int) < 1073741824)) = true := by decide
    have d6 : (decide ((0 : Int) ≤ 5) && (decide ((5 : Int) ≤ 1000000) && true)) = true := by decide
    simp only [mSeq, mIfS, mTest, mSetSub, mSet, mNext, mRet, liftE, mBin, mV, mC, R.bind, List.getElem?_cons_zero, List.getElem?_cons_succ, List.set_cons_zero, List.set_cons_succ, oI0, oI, b1, Bool.false_eq_true, if_false, if_true, dIx, asRd, h1t, z2, dMul, w1, dAdd, d1, e1, nb, d6, e2, d2, d3, w2, d4, d5, n1, fin]
    congr 1
    have : h1.set r (.lst (row.map D.int)) = h1 := by
      apply List.ext_getElem?
      intro i
      by_cases e : r = i
      · subst e
        have lr1 : r < h1.length := (List.getElem?_eq_some_iff.mp h1r).1
        rw [List.getElem?_set_self lr1, h1r]
      · rw [List.getElem?_set_ne e]
    rw [this]
theorem Town.next {h : LH} {t r : Nat} {row row' : List Int} {c : Int} (T : Town h t r row c) (hl : row'.length = row.length) : Town ((h.set t (.lst [.ref r, .int (c + 1)])).set r (.lst (row'.map D.int))) t r row' (c + 1) := by
  obtain ⟨ht, hr, hne, htr⟩ := T
  have lt : t < h.length := (List.getElem?_eq_some_iff.mp ht).1
  have lr : r < h.length := (List.getElem?_eq_some_iff.mp hr).1
  refine ⟨?_, ?_, ?_, htr⟩
  · rw [List.getElem?_set_ne (Ne.symm htr), List.getElem?_set_self lt]
  · rw [List.getElem?_set_self (by simpa using lr)]
  · intro e; subst e; simp at hl; exact hne (List.length_eq_zero_iff.mp hl.symm)
def pickB (dm : FM) : SM := mRet (mBin dIx (mV 1) (mCallK gd0 dm (mCons (mV 0) (mCons (mCall (f1 dLen) (mCons (mV 1) (mNil))) (mNil))) (mNil)))
def pickM : FM := runA (fm 2 (pickB (runA drawM)))
theorem Town.get {h : LH} {t r : Nat} {row row' : List Int} {c c' : Int} (T : Town h t r row c) {p : Nat} {o : LO} (hp : h[p]? = some o) (h1 : p ≠ t) (h2 : p ≠ r) : ((h.set t (.lst [.ref r, .int c'])).set r (.lst (row'.map D.int)))[p]? = some o := by
  rw [List.getElem?_set_ne (Ne.symm h2), List.getElem?_set_ne (Ne.symm h1)]; exact hp
theorem pick_ok {h : LH} {t r p : Nat} {row : List Int} {c : Int} {xs : List D} (T : Town h t r row c) (hp : h[p]? = some (.lst xs)) (h1 : p ≠ t) (h2 : p ≠ r) (hx : 1 ≤ xs.length) (hx2 : xs.length < 1073741824) :
    ∃ (v : Nat) (x : D) (row' : List Int), xs[v]? = some x ∧ row'.length = row.length ∧ pickM [.ref t, .ref p] h = .ok x ((h.set t (.lst [.ref r, .int (c + 1)])).set r (.lst (row'.map D.int))) := by
  obtain ⟨v, row', v0, vn, hl, e⟩ := draw_ok (n := (xs.length : Int)) T (by omega) (by omega)
  obtain ⟨k, rfl⟩ : ∃ k : Nat, v = (k : Int) := ⟨v.toNat, (Int.toNat_of_nonneg v0).symm⟩
  have kl : k < xs.length := by omega
  have hk : xs[k]? = some xs[k] := List.getElem?_eq_getElem kl
  refine ⟨k, xs[k], row', hk, hl, ?_⟩
  have s1 : pickM [.ref t, .ref p] h = fin (pickB (runA drawM) [some (.ref t), some (.ref p)] h) := rfl
  have s2 : runA drawM [.ref t, .int xs.length] h = drawM [.ref t, .int xs.length] h := rfl
  rw [s1]
  have g := T.get (row' := row') (c' := c + 1) hp h1 h2
  have a1 := atI_lt hk
  simp only [pickB, mRet, liftE, mBin, mV, R.bind, mCallK, mCons, mNil, mCall, f1, dLen, List.getElem?_cons_zero, List.getElem?_cons_succ, hp, gd0, s2, e, dIx, asRd, g, a1, fin]
end Rf
set_option Elab.async false
set_option linter.all false
set_option maxRecDepth 100000
set_option maxHeartbeats 200000
set_option autoImplicit false
namespace Rf
open PySem PySem.Spec L2
def townB : SM := mRet (mLst (mCons (mIf (mTest (mBin dNe (mV 0) (mLst (mNil)))) (mCall (f1 dList) (mCons (mV 0) (mNil))) (mLst (mCons (mC (.int 0)) (mNil)))) (mCons (mC (.int 0)) (mNil))))
def townM : FM := runA (fm 1 townB)
theorem pdA_int {f : D → Option PyData} (hf : ∀ i, f (.int i) = some (.int i)) : ∀ ns : List Int, pdA f (ns.map D.int) = some (ns.map PyData.int)
  | [] => rfl
  | n :: ns => by
    rw [List.map_cons, pdA, hf, pdA_int hf ns]; rfl
theorem canLayI : ∀ ns : List Int, PyData.canLayAll0 (ns.map PyData.int) = true
  | [] => by rw [List.map_nil, PyData.canLayAll0]
  | n :: ns => by rw [List.map_cons, PyData.canLayAll0, canLayI ns, PyData.canLay0]; rfl
theorem depthI : ∀ ns : List Int, PyData.depthAll (ns.map PyData.int) = 0
  | [] => by rw [List.map_nil, PyData.depthAll]
  | n :: ns => by rw [List.map_cons, PyData.depthAll, depthI ns, PyData.depth]; rfl
theorem pd_rol (h : LH) (n : Nat) (xs : List D) : pd h (n + 1) (.rol xs) = (pdA (pd h n) xs).map .list := by rw [pd]
theorem pd_ref (h : LH) (n k : Nat) : pd h (n + 1) (.ref k) = (asRd (.ref k) h).bind fun xs => (pdA (pd h n) xs).map .list := by rw [pd]
theorem pd_int (h : LH) (n : Nat) (i : Int) : pd h (n + 1) (.int i) = some (.int i) := by rw [pd]
theorem ne_script (ns : List Int) (h : LH) : dNe (.rol (ns.map D.int)) (.ref h.length) (h ++ [.lst []]) = .ok (.bl (!ns.isEmpty)) (h ++ [.lst []]) := by
  have e1 : (h ++ [LO.lst []])[h.length]? = some (.lst []) := by simp
  have p1 : pd (h ++ [.lst []]) 66 (.rol (ns.map D.int)) = some (.list (ns.map PyData.int)) := by
    rw [show (66 : Nat) = 65 + 1 from rfl, pd_rol, pdA_int (fun i => by rw [show (65 : Nat) = 64 + 1 from rfl, pd_int])]; rfl
  have p2 : pd (h ++ [.lst []]) 66 (.ref h.length) = some (.list []) := by
    rw [show (66 : Nat) = 65 + 1 from rfl, pd_ref]
    simp only [asRd, e1, Option.bind_some, pdA, Option.map_some]
  have sh : SeqAt.shaped (.list (ns.map PyData.int)) = true := by
    unfold SeqAt.shaped
    rw [PyData.canLay0, canLayI, PyData.depth, depthI]; rfl
  have sh2 : SeqAt.shaped (.list []) = true := by
    unfold SeqAt.shaped
    rw [PyData.canLay0, PyData.canLayAll0, PyData.depth, PyData.depthAll]; rfl
  have ev : PyData.eqv (.list (ns.map PyData.int)) (.list []) = ns.isEmpty := by
    cases ns with
    | nil => rw [List.map_nil, PyData.eqv, PyData.eqvAll]; rfl
    | cons n ns => rw [List.map_cons, PyData.eqv, PyData.eqvAll]; rfl
  have es : eqS (.rol (ns.map D.int)) (.ref h.length) = none := rfl
  simp only [dNe, eqD, es, p1, p2, sh, sh2, ev, Bool.and_self, if_true]
theorem town_ok (ns : List Int) : ∃ row : List Int, row ≠ [] ∧ townM [.rol (ns.map D.int)] [] = .ok (.ref 2) [.lst [], .lst (row.map D.int), .lst [.ref 1, .int 0]] := by
  have s1 : townM [.rol (ns.map D.int)] [] = fin (townB [some (.rol (ns.map D.int))] []) := rfl
  have e := ne_script ns []
  have e' : dNe (.rol (ns.map D.int)) (.ref 0) [.lst []] = .ok (.bl (!ns.isEmpty)) [.lst []] := e
  cases ns with
  | nil =>
    refine ⟨[0], by simp, ?_⟩
    rw [s1]
    have z : (szOk [D.ref 1, D.int 0].length) = true := rfl
    simp only [townB, mRet, liftE, mLst, mCons, mNil, mIf, mTest, mBin, mV, mC, R.bind, List.getElem?_cons_zero, List.length_nil, List.nil_append, e', List.map_nil, List.isEmpty_nil, Bool.not_true, Bool.false_eq_true, if_false, fin]
    rfl
  | cons n ns =>
    refine ⟨n :: ns, by simp, ?_⟩
    rw [s1]
    have z0 : szOk 0 = true := rfl
    simp only [townB, mRet, liftE, mLst, mCons, mNil, mIf, mTest, mBin, mV, mC, R.bind, List.getElem?_cons_zero, List.length_nil, List.nil_append, z0, if_true, e', List.isEmpty_cons, Bool.not_false, mCall, f1, dList, fin]
    rfl
theorem law_of {K : PySem.W.Frag} {m : FM} (hm : ∀ ns : List Int, ∃ h', m [.rol (ns.map D.int)] [] = .ok (.bl true) h') (H : Hp) (a : Addr) (ns : List Int) (hT : TabOk K [] H) (hF : SqF K H a (ns.map V.int)) : spOf K 1 m [.ref a] H (fun v _ => v = .bl true) fun _ _ _ => False := by
  obtain ⟨h', e⟩ := hm ns
  have rl : ∀ ns : List Int, RelDs K [] H (ns.map D.int) (ns.map V.int) := fun ns => by
    induction ns with
    | nil => exact .nil
    | cons n ns ih => exact .cons (.int n) ih
  refine ⟨[], [], [.rol (ns.map D.int)], Rep.none hT, .cons (.rol hF (rl ns)) .nil, rfl, ?_⟩
  rw [e]
  intro mp' H' v ex r rv
  cases rv; rfl
def CXn : CXT := fun _ _ _ _ _ _ => False
theorem fn_no {P : Program} {w : World} {K : PySem.W.Frag} {mg : Str → Option Value} {base : Heap} {k : Nat} {f : Addr} {fd : FuncData} {ps : List Str} {sp : Sp} (F : FnOk P w K mg base (L2.CX P w) k f fd ps sp) : FnOk P w K mg base CXn k f fd ps (fun vs H Q _ => sp vs H Q fun _ _ _ => False) :=
  ⟨fun vs H Q E h => F.len vs H Q _ h, fun A outer s H args us vs Q E hr he hb hv hs => codeAny_mono (F.run A outer s H args us vs Q (fun _ _ _ => False) hr he hb hv hs) fun r s' h => by
    cases r with
    | error e => obtain ⟨_, _, _, _, _, _, _, _, _, _, _, _, z⟩ := h; exact z.elim
    | ok fl => cases fl <;> exact h⟩
def spLaw (K : PySem.W.Frag) : Sp := fun vs H Q _ => ∃ (a : Addr) (ns : List Int), vs = [.ref a] ∧ TabOk K [] H ∧ SqL K H a (ns.map V.int) ∧ ∀ H', Q (.bl true) H'
theorem fn_law {P : Program} {w : World} {K : PySem.W.Frag} {mg : Str → Option Value} {base : Heap} {k : Nat} {f : Addr} {fd : FuncData} {x : Str} {m : FM} (F : FnRef P w K mg base k f fd [x] m) (hm : ∀ ns : List Int, ∃ h', m [.rol (ns.map D.int)] [] = .ok (.bl true) h') : FnOk P w K mg base CXn k f fd [x] (spLaw K) := by
  have G := fn_no F
  refine ⟨fun vs H Q E h => by obtain ⟨a, ns, rfl, _⟩ := h; rfl, fun A outer s H args us vs Q E hr he hb hv hs => ?_⟩
  obtain ⟨a, ns, rfl, hT, hS, hQ⟩ := hs
  have go : ∀ H0 : Hp, Env0 P w K mg base A outer s H0 → TabOk K [] H0 → SqF K H0 a (ns.map V.int) → codeAny (model P w) A (.call (.ref f) args) (CR CXn outer P w H0 s Q E) s := fun H0 he0 ht hf =>
    codeAny_mono (G.run A outer s H0 args us [.ref a] (fun v _ => v = .bl true) E hr he0 hb hv (law_of hm H0 a ns ht hf)) fun r s' h => by
      cases r with
      | error e => exact h
      | ok fl =>
        cases fl with
        | ret u =>
          obtain ⟨v, H', h1, h2, h3, h4, h5, h6⟩ := h
          have h6 : v = .bl true := h6
          subst h6
          exact ⟨_, H', h1, h2, h3, h4, h5, hQ H'⟩
        | _ => exact h
  rcases hS with (hS | ⟨o, hS⟩) | hS
  · obtain ⟨hz, its, n, hi, ho⟩ := he.hok a _ hS
    have same : ∀ b u, H b = some u → b ≠ a → upd H a (.frz { cls := .type "list", data := .seq its.toArray n } (.lst (ns.map V.int))) b = some u := fun b u e ne => by rw [upd_ne ne]; exact e
    have no : ∀ b, H b = none → upd H a (.frz { cls := .type "list", data := .seq its.toArray n } (.lst (ns.map V.int))) b = none := fun b e => by rw [upd_ne (fun z => by rw [z, hS] at e; cases e)]; exact e
    have he' : Env0 P w K mg base A outer s (upd H a (.frz { cls := .type "list", data := .seq its.toArray n } (.lst (ns.map V.int)))) := by
      refine ⟨he.frames, he.mod, fun b ob e => ⟨(he.bs b ob e).1, no b (he.bs b ob e).2⟩, he.bsz, he.funs, fun b hb => no b (he.frf b hb), fun b u e => ?_, he.bare⟩
      by_cases hba : b = a
      · subst hba
        rw [upd_same] at e
        cases e
        exact ⟨ho, hz, its, n, hi, ho⟩
      · rw [upd_ne hba] at e
        exact (he.hok b u e).stay (fun _ _ _ e => e) (fun c e => same c _ e fun z => by rw [z, hS] at e; cases e) (fun c xs e => same c _ e fun z => by rw [z, hS] at e; cases e)
    refine codeAny_mono (go _ he' (hT.put hS (fun _ z => by cases z) (fun _ z => by cases z)) (.inl ⟨_, upd_same⟩)) fun r s' h => ?_
    cases r with
    | error e => exact h
    | ok fl =>
      cases fl with
      | ret u =>
        obtain ⟨v, H', h1, h2, h3, h4, h5, h6⟩ := h
        refine ⟨v, H', h1, h2, ⟨fun b ob e n => h3.keep b ob e (no b n), fun b ob e n => h3.slot b ob e (no b n), fun b ob e n => h3.free b ob e (no b n), h3.there, fun b xs e => h3.tups b xs (same b _ e fun z => by rw [z, hS] at e; cases e), fun b ob u e => h3.frzs b ob u (same b _ e fun z => by rw [z, hS] at e; cases e), fun b ps e => h3.tbls b ps (same b _ e fun z => by rw [z, hS] at e; cases e)⟩, h4, h5, h6⟩
      | _ => exact h
  · exact go H he hT (.inl ⟨o, hS⟩)
  · exact go H he hT (.inr hS)
end Rf
set_option Elab.async false
set_option linter.all false
set_option maxRecDepth 100000
set_option maxHeartbeats 400000
set_option autoImplicit false
namespace Rf
open PySem PySem.Spec L2
theorem runA_pure {m : FM} {ds : List D} {d : D} {h h' : LH} (hp : pureDs ds = true) (e : m ds [] = .ok d h') (hd : pureD d = true) : runA m ds h = .ok d h := by
  unfold runA
  rw [if_pos hp, e]
  simp only [hd, if_true]
theorem all_true {α : Type} (l : List α) : allB (l.map fun _ => D.bl true) = some (l.map fun _ => true) := by
  induction l with
  | nil => rfl
  | cons a l ih => rw [List.map_cons, allB, ih]; rfl
def Kp (t r : Nat) (h h' : LH) : Prop := ∀ (p : Nat) (o : LO), h[p]? = some o → p ≠ t → p ≠ r → h'[p]? = some o
theorem Kp.refl {t r : Nat} {h : LH} : Kp t r h h := fun _ _ h _ _ => h
theorem Kp.trans {t r : Nat} {h h1 h2 : LH} (a : Kp t r h h1) (b : Kp t r h1 h2) : Kp t r h h2 := fun p o e n1 n2 => b p o (a p o e n1 n2) n1 n2
theorem Kp.app {t r : Nat} {h more : LH} : Kp t r h (h ++ more) := fun p o e _ _ => by rw [List.getElem?_append_left (List.getElem?_eq_some_iff.mp e).1]; exact e
theorem Town.app {h more : LH} {t r : Nat} {row : List Int} {c : Int} (T : Town h t r row c) : Town (h ++ more) t r row c :=
  ⟨by rw [List.getElem?_append_left (List.getElem?_eq_some_iff.mp T.tn).1]; exact T.tn, by rw [List.getElem?_append_left (List.getElem?_eq_some_iff.mp T.rw_).1]; exact T.rw_, T.ne, T.tr⟩
theorem drawK {h : LH} {t r : Nat} {row : List Int} {c n : Int} (T : Town h t r row c) (hn : 1 ≤ n) (hn2 : n < 1073741824) :
    ∃ (v : Nat) (h' : LH) (row' : List Int), (v : Int) < n ∧ runA drawM [.ref t, .int n] h = .ok (.int v) h' ∧ Town h' t r row' (c + 1) ∧ Kp t r h h' ∧ h'.length = h.length := by
  obtain ⟨v, row', v0, vn, hl, e⟩ := draw_ok T hn hn2
  obtain ⟨k, rfl⟩ : ∃ k : Nat, v = (k : Int) := ⟨v.toNat, (Int.toNat_of_nonneg v0).symm⟩
  exact ⟨k, _, row', vn, e, T.next hl, fun p o hp h1 h2 => T.get hp h1 h2, by simp⟩
theorem pickK {h : LH} {t r p : Nat} {row : List Int} {c : Int} {xs : List D} (T : Town h t r row c) (hp : h[p]? = some (.lst xs)) (h1 : p ≠ t) (h2 : p ≠ r) (hx : 1 ≤ xs.length) (hx2 : xs.length < 1073741824) :
    ∃ (v : Nat) (x : D) (h' : LH) (row' : List Int), xs[v]? = some x ∧ pickM [.ref t, .ref p] h = .ok x h' ∧ Town h' t r row' (c + 1) ∧ Kp t r h h' ∧ h'.length = h.length := by
  obtain ⟨v, x, row', hv, hl, e⟩ := pick_ok T hp h1 h2 hx hx2
  exact ⟨v, x, _, row', hv, e, T.next hl, fun p o hp h1 h2 => T.get hp h1 h2, by simp⟩
theorem pickS {h : LH} {t r : Nat} {row : List Int} {c : Int} {al : List Nat} (T : Town h t r row c) (hx : 1 ≤ al.length) (hx2 : al.length < 1000000) :
    ∃ (x : Nat) (h' : LH) (row' : List Int), x ∈ al ∧ pickM [.ref t, .str al] h = .ok (.str [x]) h' ∧ Town h' t r row' (c + 1) ∧ Kp t r h h' ∧ h'.length = h.length := by
  obtain ⟨k, h', row', kn, e, T', kp, hl⟩ := drawK (n := (al.length : Int)) T (by omega) (by omega)
  have kl : k < al.length := by omega
  have hk : al[k]? = some al[k] := List.getElem?_eq_getElem kl
  refine ⟨al[k], h', row', List.mem_of_getElem? hk, ?_, T', kp, hl⟩
  have s1 : pickM [.ref t, .str al] h = fin (pickB (runA drawM) [some (.ref t), some (.str al)] h) := rfl
  have z : szOk al.length = true := Nat.ble_eq_true_of_le (by omega)
  rw [s1]
  have a1 := atI_lt hk
  simp only [pickB, mRet, liftE, mBin, mV, R.bind, mCallK, mCons, mNil, mCall, f1, dLen, List.getElem?_cons_zero, List.getElem?_cons_succ, gd0, z, if_true, e, dIx, a1, fin]
def wordB : SM := mRet (mBM isStr dJoin (mC (.str [])) (mCons (mLc 100000 (imRange1 (mCons (mCallK gd0 (runA drawM) (mCons (mV 0) (mCons (mBin dAdd (mV 2) (mC (.int 1))) (mNil))) (mNil)) (mNil))) (gmName 3) (mYes) (mCallK gd0 pickM (mCons (mV 0) (mCons (mV 1) (mNil))) (mNil)) [3]) (mNil)))
def wordM : FM := runA (fm 4 wordB)
theorem liRange_at {lo : Int} {n i : Nat} (h : i < n) (hp : LH) : liRange lo n i hp = .item (.int (lo + i)) := by unfold liRange; rw [if_pos h]
theorem liRange_end {lo : Int} {n : Nat} (hp : LH) : liRange lo n n hp = .done := by unfold liRange; rw [if_neg (Nat.lt_irrefl _)]
theorem word_loop {t r : Nat} {al : List Nat} {m : D} (ha : 1 ≤ al.length) (ha2 : al.length < 1000000) (n : Nat) (hn : n ≤ 1000) : ∀ (k : Nat) (i fuel : Nat) (acc : List (List Nat)) (h : LH) (row : List Int) (c : Int), Town h t r row c → i + k = n → acc.length = i → k < fuel →
    ∃ (w : List Nat) (h' : LH) (row' : List Int) (c' : Int), w.length = k ∧ (∀ x ∈ w, x ∈ al) ∧ mLcGo (gmName 3) mYes (mCallK gd0 pickM (mCons (mV 0) (mCons (mV 1) (mNil))) (mNil)) (liRange 0 n) [some (.ref t), some (.str al), some m, none] fuel i (acc.map D.str) h = .ok ((acc ++ w.map fun x => [x]).map D.str) h' ∧ Town h' t r row' c' ∧ Kp t r h h' ∧ h'.length = h.length
  | 0, i, fuel, acc, h, row, c, T, e, ea, hf => by
    obtain ⟨fuel, rfl⟩ : ∃ j, fuel = j + 1 := ⟨fuel - 1, by omega⟩
    have : i = n := by omega
    subst this
    refine ⟨[], h, row, c, rfl, (by simp), ?_, T, .refl, rfl⟩
    unfold mLcGo
    rw [liRange_end]; simp
  | k + 1, i, fuel, acc, h, row, c, T, e, ea, hf => by
    obtain ⟨fuel, rfl⟩ : ∃ j, fuel = j + 1 := ⟨fuel - 1, by omega⟩
    obtain ⟨x, h1, row1, hx, ex, T1, kp1, hl1⟩ := pickS (al := al) T ha ha2
    obtain ⟨w, h', row', c', wl, wm, ew, T', kp', hl'⟩ := word_loop (m := m) ha ha2 n hn k (i + 1) fuel (acc ++ [[x]]) h1 row1 (c + 1) T1 (by omega) (by simp [ea]) (by omega)
    refine ⟨x :: w, h', row', c', by simp [wl], ?_, ?_, T', kp1.trans kp', hl'.trans hl1⟩
    · intro y hy
      rcases List.mem_cons.mp hy with z | z
      · rw [z]; exact hx
      · exact wm y z
    · have hz : szOk ((acc.map D.str).length + 1) = true := Nat.ble_eq_true_of_le (by simp; omega)
      unfold mLcGo
      rw [liRange_at (by omega)]
      simp only [gmName, List.set_cons_zero, List.set_cons_succ, mYes, mCallK, mCons, mNil, mV, R.bind, List.getElem?_cons_zero, List.getElem?_cons_succ, gd0, ex, hz, if_true]
      have e1 : acc.map D.str ++ [D.str [x]] = (acc ++ [[x]]).map D.str := by simp
      rw [e1]
      have e2 : acc ++ (x :: w).map (fun x => [x]) = (acc ++ [[x]]) ++ w.map fun x => [x] := by simp
      rw [e2]
      exact ew
theorem allS_map (ss : List (List Nat)) : allS (ss.map D.str) = some ss := by
  induction ss with
  | nil => rfl
  | cons a l ih => rw [List.map_cons, allS, ih]; rfl
theorem join_signs : ∀ w : List Nat, joinT [] (w.map fun x => [x]) = w
  | [] => rfl
  | [x] => rfl
  | x :: y :: r => by
    have := join_signs (y :: r)
    show [x] ++ [] ++ joinT [] ((y :: r).map fun x => [x]) = _
    rw [this]; rfl
theorem sum_ones (w : List Nat) : ((w.map fun x => [x]).map (·.length)).sum = w.length := by
  induction w with
  | nil => rfl
  | cons a l ih => rw [List.map_cons, List.map_cons, List.sum_cons, ih]; simp; omega
theorem word_ok {h : LH} {t r : Nat} {row : List Int} {c : Int} {al : List Nat} {most : Int} (T : Town h t r row c) (ha : 1 ≤ al.length) (ha2 : al.length < 1000000) (hm : 0 ≤ most) (hm2 : most < 1000) :
    ∃ (w : List Nat) (h' : LH) (row' : List Int) (c' : Int), (∀ x ∈ w, x ∈ al) ∧ (w.length : Int) ≤ most ∧ wordM [.ref t, .str al, .int most] h = .ok (.str w) h' ∧ Town h' t r row' c' ∧ Kp t r h h' := by
  obtain ⟨k, h1, row1, kn, ek, T1, kp1, hl1⟩ := drawK (n := most + 1) T (by omega) (by omega)
  obtain ⟨w, h2, row2, c2, wl, wm, ew, T2, kp2, hl2⟩ := word_loop (m := .int most) ha ha2 k (by omega) k 0 100000 [] h1 row1 (c + 1) T1 (by omega) rfl (by omega)
  refine ⟨w, h2 ++ [.lst (w.map fun x => .str [x])], row2, c2, wm, by omega, ?_, T2.app, (kp1.trans kp2).trans .app⟩
  have s1 : wordM [.ref t, .str al, .int most] h = fin (wordB [some (.ref t), some (.str al), some (.int most), none] h) := rfl
  rw [s1]
  have rg : rgOk (k : Int) = true := by
    unfold rgOk
    rw [decide_eq_true (by omega : -(2 ^ 62 : Int) ≤ k), decide_eq_true (by omega : (k : Int) < 2 ^ 62)]; rfl
  have tn : ((k : Int)).toNat = k := by omega
  have wp : wipeL [some (.ref t), some (.str al), some (.int most), none] [3] = [some (.ref t), some (.str al), some (.int most), none] := rfl
  have e0 : ([] : List (List Nat)).map D.str = [] := rfl
  rw [e0] at ew
  have mp : (([] : List (List Nat)) ++ w.map fun x => [x]).map D.str = w.map fun x => .str [x] := by simp
  rw [mp] at ew
  have gl : (h2 ++ [LO.lst (w.map fun x => .str [x])])[h2.length]? = some (.lst (w.map fun x => .str [x])) := by simp
  have al1 : allS (w.map fun x => D.str [x]) = some (w.map fun x => [x]) := by
    have := allS_map (w.map fun x => [x])
    rw [List.map_map] at this
    exact this
  have sz : Nat.ble (((w.map fun x => [x]).map (·.length)).sum + (w.map fun x => [x]).length * ([] : List Nat).length) 16777216 = true := by
    refine Nat.ble_eq_true_of_le ?_
    rw [sum_ones]; simp; omega
  simp only [wordB, mRet, liftE, mBM, mC, R.bind, isStr, if_true, mCons, mNil, mLc, imRange1, mCallK, mV, List.getElem?_cons_zero, List.getElem?_cons_succ, gd0, mBin, dAdd, ek, rg, tn, wp, ew, mkL, dJoin, asRd, gl, al1, sz, join_signs, fin]
def okT (l : List Nat) : Bool := l.all (· < 0x110000)
theorem okT_str {l : List Nat} (h : okT l = true) : PyData.canLay0 (.str ⟨l.toArray⟩) = true := by
  rw [PyData.canLay0]
  unfold PyData.strOk
  simpa [okT] using h
end Rf
set_option Elab.async false
set_option linter.all false
set_option maxRecDepth 100000
set_option maxHeartbeats 400000
set_option autoImplicit false
namespace Rf
open PySem PySem.Spec L2
theorem gval_mg {K : PySem.W.Frag} {mg : Str → Option Value} {h : Heap} {x : Str} {u : Value} (X : K.In h) (G : h.Ns mainGlobals mg) (e : gval x K = some u) : mg x = some u := by
  unfold gval at e
  cases q : PySem.W.nsIn K mainGlobals x with
  | none => rw [q] at e; cases e
  | some o =>
    cases o with
    | none => rw [q] at e; cases e
    | some w => rw [q] at e; cases e; exact PySem.W.mg_of X G q
section
variable {X : Cx} {W : WX} {e : Expr} {me : EM} {p p2 pos : Pos}
theorem re_gdat {x : Str} {d : D} {pos : Pos} (hg : Gl X x) (hp : ∃ h : Heap, X.K.In h ∧ h.Ns mainGlobals X.mg) (hx : (Fx.dat (gval x) d).ok X.K = true) (hd : (x == ("__debug__" : Str)) = false := by decide) : RE X W (.Name x pos) (mC d) := by
  obtain ⟨h, K1, G⟩ := hp
  obtain ⟨u, v, e, r, q⟩ := datB_ok (show datB (gval x) d X.K = true from hx)
  exact re_glob (pe_glob hg (gval_mg K1 G e) r hd) q
end
section
variable {X : Cx} {W : WX} {k n c : Nat} {ps ks : List Str} {x m : Str} {p pos apos : Pos} {e o : Expr} {es : List Expr} {kws : List Keyword} {mo : EM} {ma mk : AM} {gd : List D → List D → List D} {mf : FM}
end
end Rf
set_option Elab.async false
set_option linter.all false
set_option maxRecDepth 100000
set_option maxHeartbeats 4000000
set_option autoImplicit false
namespace Rf
open PySem PySem.Spec L2 PyProof.Rows PySem.Calls
section
variable {P : Program} {w : World} {A : Around} {E : Value → Shared → Prop} {s : Shared}
theorem call_set_tuple {l : Addr} {items : Array Value} (ks : List Key) {Q : Value → Shared → Prop} (hh : A.handled = none) (hl : s.heap.IsTuple l items) (hn : items.size = ks.length) (hkv : ∀ (i : Nat) (v : Value), items[i]? = some v → ∃ k, ks[i]? = some k ∧ keyIs k v = true) (hb : ks.length + 1 < scanBound)
    (h : ∀ (h' : Heap) (tk : Nat), SetM w h' s.heap.objs.size ks → (∀ b o, s.heap.get? b = some o → h'.get? b = some o) → Q (.ref s.heap.objs.size) { s with heap := h', toks := tk }) :
    wpAny (model P w) A (call (.type "set") [.ref l]) Q E s := by
  obtain ⟨c, tl, hmro⟩ := F.called_set.mro
  have hmade := F.called_set.made
  have hsub := F.called_set.sub
  refine wpAny_call (codeAny_of_tree ?_)
  show wpAny _ _ (callAny (.type "set") _) _ _ _
  refine wpAny_pure ⟨Code.quiet_builtin _ (by decide +kernel), codeAny_builtin F.entry_type_call ?_⟩
  rw [Around.under_plain (weight_type_call_type "set" [.ref l] []) rfl]
  have h1 := F.called_set.notType
  have h2 := F.called_set.canCreate
  have hct := F.typeCall_set_1 (.ref l)
  repeat (any_goals (first | assumption | wp_step))
  refine codeAny_mono (L2.code_set_led1 (.ref l) (E := E) (Q₁ := fun obj s₁ => obj = .ref s.heap.objs.size ∧ s₁ = { s with heap := s.heap.push (emptySet w) }) ⟨rfl, rfl⟩) fun r s₁ hr => ?_
  cases r with
  | error e => exact hr
  | ok fl =>
    cases fl with
    | ret obj =>
      obtain ⟨rfl, rfl⟩ := hr
      have hS : (s.heap.push (emptySet w)).get? s.heap.objs.size = some (emptySet w) := Heap.get?_push_size _ rfl
      have hT : Shared.TypeIs { s with heap := s.heap.push (emptySet w) } (.ref s.heap.objs.size) "set" := ⟨_, hS, rfl⟩
      have hli := F.called_set.init.lookup
      have hbi := F.called_set.init.bind (.ref s.heap.objs.size)
      repeat (any_goals (first | assumption | wp_step))
      refine codeAny_mono (codeAny_call_builtin (R := wants (fun r s₂ => r = .none ∧ ∃ h' tk, s₂ = { s with heap := h', toks := tk } ∧ SetM w h' s.heap.objs.size ks ∧
          (∀ b o, s.heap.get? b = some o → h'.get? b = some o)) E) F.called_set.init.plain F.entry_set_init (check_set_init_1 hT ?_)) fun r₂ s₂ hr₂ => ?_
      · obtain ⟨ol, hol, hcl, nl, hdl⟩ := hl
        obtain ⟨ocls, odict, odata, oslots⟩ := ol
        simp only at hcl hdl
        subst hcl; subst hdl
        have hol' : (s.heap.push (emptySet w)).get? l = some { cls := .type "tuple", dict := odict, data := .seq items nl, slots := oslots } := Heap.get?_push_of_some _ hol
        have hsls := F.sub_tuple_set
        have hslf := F.sub_tuple_frozenset
        have hne : (Value.type "tuple" == Value.type "dict") = false := by decide
        have hl1 : (s.heap.push (emptySet w)).IsTuple l items := ⟨_, hol', rfl, nl, rfl⟩
        have hz1 : (s.heap.push (emptySet w)).objs.size = s.heap.objs.size + 1 := Heap.size_push ..
        unfold Builtin.«set.__init__» noKeywords Builtin.Frozenset.updateFrom
        generalize hPI : pyIter = PI
        wp_walk
        subst hPI
        refine wpAny_pyIter_tuple hl1 ?_
        refine wpAny_bind (wpAny_runValue ?_)
        have hlS : l < s.heap.objs.size := Heap.lt_size hol
        have hh3 : A.in1.in1.in1.handled = none := by simp [hh]
        have hneI : l ≠ (s.heap.push (emptySet w)).objs.size := by rw [hz1]; exact Nat.ne_of_lt (Nat.lt_succ_of_lt hlS)
        have hSf : s.heap.objs.size ∉ [(s.heap.push (emptySet w)).objs.size, l] := by
          rw [hz1]; simp only [List.mem_cons, List.not_mem_nil, or_false, not_or]
          exact ⟨Nat.ne_of_lt (Nat.lt_succ_self _), Nat.ne_of_gt hlS⟩
        refine setM_loop ((Walks.tuple hh3 _ l hneI items).toS) s.heap.objs.size hSf ks hn hb hkv (items.size - 0) 0 _ (by omega) (Nat.zero_le _) ⟨⟨_, Heap.get?_push_size _ rfl, rfl, rfl⟩, (hl1.push _)⟩ ?hS0 ?hR
        case hS0 =>
          exact setM_new (Heap.get?_push_of_some _ hS)
        case hR =>
          intro s' hm hS'
          obtain ⟨h', g2, d', tk', os'⟩ := s'
          have eg : g2 = s.gens := hm.gens
          have ed : d' = s.drawn := hm.drawn
          have eo : os' = s.os := hm.os
          subst eg; subst ed; subst eo
          show wpAny _ _ _ _ _ _
          refine wpAny_pure ?_
          show wpAny _ _ (ret Value.none) _ _ _
          refine wpAny_pure ⟨rfl, h', tk', rfl, hS', fun b o e => ?_⟩
          have hb0 : b < s.heap.objs.size := Heap.lt_size e
          exact hm.heap b o (by rw [hz1]; simp only [List.mem_cons, List.mem_singleton, List.not_mem_nil, or_false, not_or]; exact ⟨Nat.ne_of_lt hb0, Nat.ne_of_lt (Nat.lt_succ_of_lt hb0)⟩) (Heap.get?_push_of_some _ (Heap.get?_push_of_some _ e))
      · cases r₂ with
        | error e => exact hr₂
        | ok fl₂ =>
          cases fl₂ with
          | ret r =>
            obtain ⟨rfl, h', tk, rfl, hS', hk'⟩ := hr₂
            repeat (any_goals (first | assumption | wp_step))
            exact h _ _ hS' hk'
          | _ => exact hr₂.elim
    | _ => exact hr.elim
theorem call_set_list {l : Addr} {items : Array Value} (ks : List Key) {Q : Value → Shared → Prop} (hh : A.handled = none) (hl : s.heap.IsList l items) (hn : items.size = ks.length) (hkv : ∀ (i : Nat) (v : Value), items[i]? = some v → ∃ k, ks[i]? = some k ∧ keyIs k v = true) (hb : ks.length + 1 < scanBound)
    (h : ∀ (h' : Heap) (tk : Nat), SetM w h' s.heap.objs.size ks → (∀ b o, s.heap.get? b = some o → h'.get? b = some o) → Q (.ref s.heap.objs.size) { s with heap := h', toks := tk }) :
    wpAny (model P w) A (call (.type "set") [.ref l]) Q E s := by
  obtain ⟨c, tl, hmro⟩ := F.called_set.mro
  have hmade := F.called_set.made
  have hsub := F.called_set.sub
  refine wpAny_call (codeAny_of_tree ?_)
  show wpAny _ _ (callAny (.type "set") _) _ _ _
  refine wpAny_pure ⟨Code.quiet_builtin _ (by decide +kernel), codeAny_builtin F.entry_type_call ?_⟩
  rw [Around.under_plain (weight_type_call_type "set" [.ref l] []) rfl]
  have h1 := F.called_set.notType
  have h2 := F.called_set.canCreate
  have hct := F.typeCall_set_1 (.ref l)
  repeat (any_goals (first | assumption | wp_step))
  refine codeAny_mono (L2.code_set_led1 (.ref l) (E := E) (Q₁ := fun obj s₁ => obj = .ref s.heap.objs.size ∧ s₁ = { s with heap := s.heap.push (emptySet w) }) ⟨rfl, rfl⟩) fun r s₁ hr => ?_
  cases r with
  | error e => exact hr
  | ok fl =>
    cases fl with
    | ret obj =>
      obtain ⟨rfl, rfl⟩ := hr
      have hS : (s.heap.push (emptySet w)).get? s.heap.objs.size = some (emptySet w) := Heap.get?_push_size _ rfl
      have hT : Shared.TypeIs { s with heap := s.heap.push (emptySet w) } (.ref s.heap.objs.size) "set" := ⟨_, hS, rfl⟩
      have hli := F.called_set.init.lookup
      have hbi := F.called_set.init.bind (.ref s.heap.objs.size)
      repeat (any_goals (first | assumption | wp_step))
      refine codeAny_mono (codeAny_call_builtin (R := wants (fun r s₂ => r = .none ∧ ∃ h' tk, s₂ = { s with heap := h', toks := tk } ∧ SetM w h' s.heap.objs.size ks ∧
          (∀ b o, s.heap.get? b = some o → h'.get? b = some o)) E) F.called_set.init.plain F.entry_set_init (check_set_init_1 hT ?_)) fun r₂ s₂ hr₂ => ?_
      · obtain ⟨ol, hol, hcl, nl, hdl⟩ := hl
        obtain ⟨ocls, odict, odata, oslots⟩ := ol
        simp only at hcl hdl
        subst hcl; subst hdl
        have hol' : (s.heap.push (emptySet w)).get? l = some { cls := .type "list", dict := odict, data := .seq items nl, slots := oslots } := Heap.get?_push_of_some _ hol
        have hsls := F.sub_list_set
        have hslf := F.sub_list_frozenset
        have hne : (Value.type "list" == Value.type "dict") = false := by decide
        have hl1 : (s.heap.push (emptySet w)).IsList l items := ⟨_, hol', rfl, nl, rfl⟩
        have hz1 : (s.heap.push (emptySet w)).objs.size = s.heap.objs.size + 1 := Heap.size_push ..
        unfold Builtin.«set.__init__» noKeywords Builtin.Frozenset.updateFrom
        generalize hPI : pyIter = PI
        wp_walk
        subst hPI
        refine wpAny_pyIter_list hl1 ?_
        refine wpAny_bind (wpAny_runValue ?_)
        have hlS : l < s.heap.objs.size := Heap.lt_size hol
        have hh3 : A.in1.in1.in1.handled = none := by simp [hh]
        have hneI : l ≠ (s.heap.push (emptySet w)).objs.size := by rw [hz1]; exact Nat.ne_of_lt (Nat.lt_succ_of_lt hlS)
        have hSf : s.heap.objs.size ∉ [(s.heap.push (emptySet w)).objs.size, l] := by
          rw [hz1]; simp only [List.mem_cons, List.not_mem_nil, or_false, not_or]
          exact ⟨Nat.ne_of_lt (Nat.lt_succ_self _), Nat.ne_of_gt hlS⟩
        refine setM_loop ((Walks.list hh3 _ l hneI items).toS) s.heap.objs.size hSf ks hn hb hkv (items.size - 0) 0 _ (by omega) (Nat.zero_le _) ⟨⟨_, Heap.get?_push_size _ rfl, rfl, rfl⟩, (hl1.push _)⟩ ?hS0 ?hR
        case hS0 =>
          exact setM_new (Heap.get?_push_of_some _ hS)
        case hR =>
          intro s' hm hS'
          obtain ⟨h', g2, d', tk', os'⟩ := s'
          have eg : g2 = s.gens := hm.gens
          have ed : d' = s.drawn := hm.drawn
          have eo : os' = s.os := hm.os
          subst eg; subst ed; subst eo
          show wpAny _ _ _ _ _ _
          refine wpAny_pure ?_
          show wpAny _ _ (ret Value.none) _ _ _
          refine wpAny_pure ⟨rfl, h', tk', rfl, hS', fun b o e => ?_⟩
          have hb0 : b < s.heap.objs.size := Heap.lt_size e
          exact hm.heap b o (by rw [hz1]; simp only [List.mem_cons, List.mem_singleton, List.not_mem_nil, or_false, not_or]; exact ⟨Nat.ne_of_lt hb0, Nat.ne_of_lt (Nat.lt_succ_of_lt hb0)⟩) (Heap.get?_push_of_some _ (Heap.get?_push_of_some _ e))
      · cases r₂ with
        | error e => exact hr₂
        | ok fl₂ =>
          cases fl₂ with
          | ret r =>
            obtain ⟨rfl, h', tk, rfl, hS', hk'⟩ := hr₂
            repeat (any_goals (first | assumption | wp_step))
            exact h _ _ hS' hk'
          | _ => exact hr₂.elim
    | _ => exact hr.elim
end
end Rf
set_option Elab.async false
set_option linter.all false
set_option maxRecDepth 100000
set_option maxHeartbeats 4000000
set_option autoImplicit false
namespace Rf
open PySem PySem.Spec L2 PyProof.Rows PySem.Calls
theorem ints_of_keys : ∀ (l : List Value), (∀ v ∈ l, ∃ x, keyIs (.inl x) v = true) → ∃ ss : List Int, IntsAre l ss ∧ l.map kyV = ss.map Sum.inl
  | [], _ => ⟨[], .nil, rfl⟩
  | v :: l, h => by
    obtain ⟨ss, h1, h2⟩ := ints_of_keys l fun u hu => h u (List.mem_cons_of_mem _ hu)
    obtain ⟨x, hx⟩ := h v List.mem_cons_self
    rcases keyIs_shape hx with ⟨i, t, e, rfl⟩ | ⟨y, t, e, rfl⟩
    · cases e; exact ⟨x :: ss, .cons x t h1, by simp [h2, kyV]⟩
    · cases e
section
variable {P : Program} {w : World} {A : Around} {E : Value → Shared → Prop} {s : Shared} {a : Addr}
theorem sorted_setI {ss : List Int} {Q : Value → Shared → Prop} (R : SetM w s.heap a (ss.map Sum.inl)) (hh : A.handled = none)
    (hQ : ∀ s' p (out : Array Value) (c : Nat) (ys : List Int), (∀ b o, s.heap.get? b = some o → s'.heap.get? b = some o) → s'.gens = s.gens → s'.os = s.os → s.heap.objs.size ≤ p →
      s'.heap.get? p = some (seqObj "list" out c) → IntsAre out.toList ys → ys.Pairwise (· ≤ ·) → ys.Nodup → (∀ k, k ∈ ys ↔ k ∈ ss) → ys.length ≤ sizeLine → Q (.ref p) s') :
    wpAny (model P w) A (call (.builtin "sorted") [.ref a]) Q E s := by
  obtain ⟨o, es, ep, t, ho, hex, hd, g, nd, hm, hb, hf, hn, hr, hl⟩ := R
  refine Calls.call_function_entry kind_sorted plain_sorted entry_sorted (args_sorted1 _) ?_
  unfold Builtin.«sorted»
  refine wpAny_bind (m := checkCount "sorted" 1 1 _) (wpAny_pure ?_)
  refine wpAny_bind (L2.collect_set (A := A.in1) hh ⟨o, ho, hex.1, hd⟩ hf hb hr hl fun s1 vs k1 hz g1 o1 pm => ?_)
  have hvk : (vs.map kyV).Perm (es.toList.map kyE) := by
    have q := pm.map kyV
    rw [List.map_map] at q
    exact q
  obtain ⟨ts, hS, ets⟩ := ints_of_keys vs fun v hv => by
    obtain ⟨e, he, q⟩ := List.mem_map.mp (pm.mem_iff.mp hv)
    have hk : kyE e ∈ es.toList.map kyE := List.mem_map.mpr ⟨e, he, rfl⟩
    obtain ⟨x, _, hx⟩ := List.mem_map.mp ((hm _).1 hk)
    exact ⟨x, by rw [hx, ← q]; exact (g e he).1⟩
  have hvl : vs.length ≤ sizeLine := by
    rw [pm.length_eq, List.length_map, Array.length_toList]
    have : scanBound ≤ sizeLine := by decide
    omega
  refine wpAny_bind (wpAny_newList ?_ hvl)
  have hoL : (s1.heap.push (seqObj "list" vs.toArray 0)).get? s1.heap.objs.size = some (seqObj "list" vs.toArray 0) := Heap.get?_push_size _ rfl
  refine wpAny_bind (wpAny_holding (wpAny_call_entry slot_list_sort ⟨_, hoL, rfl⟩ entry_list_sort (list_sort_treeKAny intKind_oneLt hoL hS.keysOfInt (fun v₁ v₂ rest e => keyKind_ints (by rw [← e]; exact hS)) hvl fun st' hp hs => ⟨_, rfl, ?_⟩) (args_list_sort _)))
  obtain ⟨ys, a1, a2, a3⟩ := sorted_out hS hp (sortedTo_of_int hs)
  obtain ⟨c, hc⟩ := sortedHeap_at (vs := vs) (out := (arrOf st').map (·.2)) hoL
  have pn : (ys.map (Sum.inl : Int → Key)).Perm (es.toList.map kyE) := (a2.map _).trans (ets ▸ hvk)
  refine wpAny_pure ⟨_, rfl, hQ _ s1.heap.objs.size _ c ys (fun b u e => ?_) g1 o1 hz hc a1 a3 ?_ (fun k => ?_) ?_⟩
  · have q := k1 b u e
    have hlt := Heap.lt_size q
    show (sortedHeap (s1.heap.push (seqObj "list" vs.toArray 0)) s1.heap.objs.size vs _).get? b = some u
    rw [sortedHeap_old (Nat.ne_of_lt hlt) (by rw [Heap.size_push]; exact Nat.lt_succ_of_lt hlt)]
    exact Heap.get?_push_of_some _ q
  · have := pn.nodup_iff.mpr nd
    exact (List.Pairwise.of_map (S := (· ≠ ·)) (Sum.inl : Int → Key) (fun x y h z => h (by rw [z])) this)
  · have h1 : (Sum.inl k : Key) ∈ ys.map Sum.inl ↔ (Sum.inl k : Key) ∈ ss.map Sum.inl := pn.mem_iff.trans (hm _)
    simpa using h1
  · rw [a2.length_eq, ← IntsAre.length hS]; exact hvl
end
end Rf
set_option Elab.async false
set_option linter.all false
set_option maxRecDepth 100000
set_option maxHeartbeats 400000
set_option autoImplicit false
namespace Rf
open PySem PySem.Spec L2
def insI (x : Int) : List Int → List Int
  | [] => [x]
  | y :: r => if x < y then x :: y :: r else if x = y then y :: r else y :: insI x r
def sdI : List Int → List Int
  | [] => []
  | x :: r => insI x (sdI r)
abbrev RisI (l : List Int) : Prop := l.Pairwise (· < ·)
theorem insI_mem {x z : Int} : ∀ {l : List Int}, z ∈ insI x l ↔ z = x ∨ z ∈ l
  | [] => by simp [insI]
  | y :: r => by
    unfold insI
    split
    · simp
    · split
      · rename_i e; subst e; simp
      · simp [insI_mem (l := r)]
        constructor
        · rintro (h | h | h) <;> simp [h]
        · rintro (h | h | h) <;> simp [h]
theorem insI_ris {x : Int} : ∀ {l : List Int}, RisI l → RisI (insI x l)
  | [], _ => by simp [insI, RisI]
  | y :: r, h => by
    obtain ⟨h1, h2⟩ := List.pairwise_cons.mp h
    unfold insI
    split
    · rename_i hlt
      refine List.pairwise_cons.mpr ⟨fun z hz => ?_, h⟩
      rcases List.mem_cons.mp hz with e | e
      · rw [e]; exact hlt
      · exact Int.lt_trans hlt (h1 z e)
    · split
      · exact h
      · rename_i n1 n2
        refine List.pairwise_cons.mpr ⟨fun z hz => ?_, insI_ris h2⟩
        rcases insI_mem.mp hz with e | e
        · rw [e]; omega
        · exact h1 z e
theorem sdI_mem {z : Int} : ∀ {l : List Int}, z ∈ sdI l ↔ z ∈ l
  | [] => by simp [sdI]
  | x :: r => by rw [sdI, insI_mem, sdI_mem, List.mem_cons]
theorem sdI_ris : ∀ l : List Int, RisI (sdI l)
  | [] => by simp [sdI, RisI]
  | x :: r => insI_ris (sdI_ris r)
theorem risI_eq : ∀ {l m : List Int}, RisI l → RisI m → (∀ z, z ∈ l ↔ z ∈ m) → l = m
  | [], [], _, _, _ => rfl
  | [], y :: m, _, _, h => by have := (h y).mpr List.mem_cons_self; cases this
  | x :: l, [], _, _, h => by have := (h x).mp List.mem_cons_self; cases this
  | x :: l, y :: m, h1, h2, h => by
    obtain ⟨a1, a2⟩ := List.pairwise_cons.mp h1
    obtain ⟨b1, b2⟩ := List.pairwise_cons.mp h2
    have exy : x = y := by
      rcases List.mem_cons.mp ((h x).mp List.mem_cons_self) with e | e
      · exact e
      · rcases List.mem_cons.mp ((h y).mpr List.mem_cons_self) with e' | e'
        · exact e'.symm
        · have := b1 x e; have := a1 y e'; omega
    subst exy
    have : l = m := risI_eq a2 b2 fun z => by
      constructor
      · intro hz
        rcases List.mem_cons.mp ((h z).mp (List.mem_cons_of_mem _ hz)) with e | e
        · have := a1 z hz; omega
        · exact e
      · intro hz
        rcases List.mem_cons.mp ((h z).mpr (List.mem_cons_of_mem _ hz)) with e | e
        · have := b1 z hz; omega
        · exact e
    rw [this]
theorem sortedI_is {ys ss : List Int} (h : ys.Pairwise (· ≤ ·)) (nd : ys.Nodup) (hm : ∀ k, k ∈ ys ↔ k ∈ ss) : ys = sdI ss := by
  refine risI_eq ?_ (sdI_ris ss) fun z => by rw [sdI_mem]; exact hm z
  exact (h.and nd).imp fun ⟨a, b⟩ => by omega
theorem keys_at : ∀ {ks : List Key} {us : List Value}, Vals (ks.map kV) us → ∀ (i : Nat) (v : Value), us[i]? = some v → ∃ k, ks[i]? = some k ∧ keyIs k v = true
  | [], _, .nil, i, v, h => by simp at h
  | k :: ks, _, .cons r rs, 0, v, h => by
    simp at h; subst h
    refine ⟨k, rfl, ?_⟩
    cases k with
    | inl n => obtain ⟨t, rfl⟩ := r; exact keyIs_int _ _
    | inr x => obtain ⟨t, rfl⟩ := r; exact keyIs_str _ _
  | k :: ks, _, .cons r rs, i + 1, v, h => by
    obtain ⟨k', h1, h2⟩ := keys_at rs i v (by simpa using h)
    exact ⟨k', by simpa using h1, h2⟩
def rSetK (K : PySem.W.Frag) (w : World) : List V → Hp → VK → Prop := fun xs H Q => ∃ (a : Addr) (ks : List Key), xs = [.ref a] ∧ (SqL K H a (ks.map kV) ∨ SqT K H a (ks.map kV)) ∧ ks.length < 4000 ∧ ∀ p, H p = none → Q (.ref p) (upd H p (SetMO w p ks))
def rSortedI' (w : World) : List V → Hp → VK → Prop := fun xs H Q => ∃ (a : Addr) (ss : List Int), xs = [.ref a] ∧ H a = some (SetMO w a (ss.map Sum.inl)) ∧ ∀ p, H p = none → Q (.ref p) (upd H p (.lst ((sdI ss).map V.int)))
section
variable {X : Cx}
theorem cr_setK (hc : X.calm = true) : CallR X (.type "set") (rSetK X.K X.w) := by
  intro pins s σ H xs us Q I r h
  obtain ⟨a, ks, rfl, hs, hz, q⟩ := h
  cases r with
  | cons r1 r2 =>
    cases r2
    cases r1
    have fin : ∀ (h' : Heap) (tk : Nat), SetM X.w h' s.heap.objs.size ks → (∀ b o, s.heap.get? b = some o → h'.get? b = some o) → EP X pins σ Q (.ref s.heap.objs.size) { s with heap := h', toks := tk } := fun h' tk hS hk => by
      have hf : H s.heap.objs.size = none := I.hok.fresh (Nat.le_refl _)
      refine ⟨.ref s.heap.objs.size, _, I.laid (t' := tk) hk (Nat.le_refl _) ?_, rfl, q _ hf⟩
      obtain ⟨o, es, ep, t', ho, rest⟩ := id hS
      exact ⟨hS, ⟨o, ho⟩, fun h1 h2 a b => a.at b⟩
    have hb : ks.length + 1 < scanBound := by have : scanBound = 4096 := rfl; omega
    rcases hs with hs | hs
    · obtain ⟨its, rv, ⟨o, n, ho, hcl, hdn, hd⟩, _⟩ := I.list hs
      have hl : its.toArray.size = ks.length := by have := rv.length; simp at this ⊢; omega
      exact call_set_list ks (I.ok.hd hc) ⟨o, ho, hcl, n, hd⟩ hl (fun i v hv => keys_at rv i v (by simpa using hv)) hb fin
    · obtain ⟨its, rv, ht, _⟩ := I.tuple hs
      have hl : its.toArray.size = ks.length := by have := rv.length; simp at this ⊢; omega
      exact call_set_tuple ks (I.ok.hd hc) ht hl (fun i v hv => keys_at rv i v (by simpa using hv)) hb fin
theorem vals_intsI : ∀ {ys : List Int} {us : List Value}, PyProof.Rows.IntsAre us ys → Vals (ys.map V.int) us
  | _, _, .nil => .nil
  | _, _, .cons y t r => .cons ⟨t, rfl⟩ (vals_intsI r)
theorem cr_sorted_setI (hc : X.calm = true) : CallR X (.builtin "sorted") (rSortedI' X.w) := by
  intro pins s σ H xs us Q I r h
  obtain ⟨a, ss, rfl, ha, q⟩ := h
  cases r with
  | cons r1 r2 =>
    cases r2
    cases r1
    refine sorted_setI (I.hok a _ ha).1 (I.ok.hd hc) fun s' p out c ys hk hg ho hp hl hS h1 h2 h3 h4 => ?_
    obtain ⟨hh, gg, dd, tt, oo⟩ := s'
    obtain rfl : gg = s.gens := hg
    obtain rfl : oo = s.os := ho
    have hf : H p = none := I.hok.fresh hp
    have e : ys = sdI ss := sortedI_is h1 h2 h3
    have I2 : Inv X pins σ (upd H p (.lst (ys.map V.int))) { s with heap := hh, toks := tt } := I.laid (t' := tt) hk hp ⟨by rw [List.length_map]; exact h4, out.toList, c, vals_intsI hS, by rw [hl]⟩
    refine ⟨.ref p, _, ?_, rfl, q p hf⟩
    rw [← e]
    exact ⟨I2.ok, I2.os, I2.bare, I2.base, I2.loc, I2.cell, I2.free, I2.freeC, I2.pin, I2.hok, I2.len⟩
end
end Rf
set_option Elab.async false
set_option linter.all false
set_option maxRecDepth 100000
set_option maxHeartbeats 400000
set_option autoImplicit false
namespace Rf
open PySem PySem.Spec L2
def itemsOf (d : D) (h : LH) : Option (List D) := match d with
  | .tup xs => some xs
  | .ktp xs => some xs
  | _ => asRd d h
def mSortSet (m : EM) : EM := fun ls h => (m ls h).bind fun d h1 => match d with
  | .str l => if Nat.blt l.length 4000 = true then .ok (.ref h1.length) (h1 ++ [.lst ((sdT (l.map fun c => [c])).map .str)]) else .bad
  | _ => (match itemsOf d h1 with
    | some xs => if Nat.blt xs.length 4000 = true then (match allI xs with
      | some is => .ok (.ref h1.length) (h1 ++ [.lst ((sdI is).map .int)])
      | none => (match allS xs with
        | some ss => .ok (.ref h1.length) (h1 ++ [.lst ((sdT ss).map .str)])
        | none => .bad)) else .bad
    | none => .bad)
theorem relDs_ints {K : PySem.W.Frag} {mp : List Addr} {H : Hp} : ∀ (l : List Int), RelDs K mp H (l.map .int) (l.map V.int)
  | [] => .nil
  | x :: r => .cons (.int x) (relDs_ints r)
theorem itemsOf_ok {K : PySem.W.Frag} {mp : List Addr} {lh : LH} {H : Hp} {d : D} {v : V} {xs : List D} (r : Rep K mp lh H) (rd : RelD K mp H d v) (e : itemsOf d lh = some xs) : ∃ a vs, v = .ref a ∧ (SqL K H a vs ∨ SqT K H a vs) ∧ RelDs K mp H xs vs := by
  cases rd with
  | @tup ds a vs hs rs =>
    obtain rfl : ds = xs := Option.some.inj e
    exact ⟨a, vs, rfl, .inr hs.sq, rs⟩
  | @ktp ds a vs hs rs =>
    obtain rfl : ds = xs := Option.some.inj e
    exact ⟨a, vs, rfl, .inr hs.sq, rs⟩
  | @ref n a hn =>
    obtain ⟨_, a', vs, z1, z2, _, h2, h3⟩ := asRd_of r (.ref hn) (show asRd (.ref n) lh = some xs from e)
    cases z1; cases z2
    exact ⟨a, vs, rfl, .inl h2, h3⟩
  | _ => cases e
theorem re_sortSet {X : Cx} {W : WX} {e : Expr} {me : EM} {p1 p2 pos1 pos2 : Pos} (hc : X.calm = true) (he : RE X W e me) (hg1 : Gl X "sorted") (hm1 : X.mg "sorted" = none) (hg2 : Gl X "set") (hm2 : X.mg "set" = none)
    (hs1 : starEach [.Call (.Name "set" p2) [e] [] pos2] X.env = [(false, eval (.Call (.Name "set" p2) [e] [] pos2) X.env)] := by rfl) (hs2 : starEach [e] X.env = [(false, eval e X.env)] := by rfl) :
    RE X W (.Call (.Name "sorted" p1) [.Call (.Name "set" p2) [e] [] pos2] [] pos1) (mSortSet me) := by
  obtain ⟨t, a1, a2⟩ := he
  have hset := pe_callTy (p := p2) (pos := pos2) (CallR.or (cr_set_str hc) (cr_setK hc)) hg2 hm2 (by decide +kernel) (pa_cons a1 pa_nil hs2) (he := hs2)
  refine ⟨_, pe_callB (p := p1) (pos := pos1) (CallR.or (cr_sorted_set hc) (cr_sorted_setI hc)) hg1 hm1 (by decide +kernel) (pa_cons hset pa_nil hs1) (he := hs1), fun mp lh ls σ H Q r rs q => ?_⟩
  refine a2 mp lh ls σ H _ r rs (q.bind fun mp1 H1 lh1 d v e1 r1 rl1 q1 => ?_)
  have key : ∀ xs, itemsOf d lh1 = some xs → PostG X.K (RelD X.K) mp1 H1 (if Nat.blt xs.length 4000 = true then (match allI xs with
      | some is => .ok (.ref lh1.length) (lh1 ++ [.lst ((sdI is).map .int)])
      | none => (match allS xs with
        | some ss => .ok (.ref lh1.length) (lh1 ++ [.lst ((sdT ss).map .str)])
        | none => .bad)) else .bad) Q (WE W σ) → (rSetStr X.w [v] H1 (fun x H2 => rSortedSet X.w [x] H2 Q ∨ rSortedI' X.w [x] H2 Q) ∨ rSetK X.K X.w [v] H1 (fun x H2 => rSortedSet X.w [x] H2 Q ∨ rSortedI' X.w [x] H2 Q)) := fun xs hx q1 => by
    obtain ⟨a, vs, rfl, hs, rv⟩ := itemsOf_ok r1 rl1 hx
    cases hz : Nat.blt xs.length 4000 with
    | false => simp only [hz] at q1; exact q1.elim
    | true =>
      simp only [hz, if_true] at q1
      have hl : xs.length < 4000 := Nat.le_of_ble_eq_true hz
      cases hi : allI xs with
      | some is =>
        simp only [hi] at q1
        have ev := allI_rel rv hi
        have il : is.length = xs.length := by have := rv.length; rw [ev] at this; simpa using this.symm
        have ek : vs = (is.map Sum.inl : List Key).map kV := by rw [ev, List.map_map]; rfl
        refine .inr ⟨a, is.map Sum.inl, rfl, by rw [← ek]; exact hs, by simp; omega, fun p hp => .inr ⟨p, is, rfl, upd_same, fun p' hp' => ?_⟩⟩
        have f := Ext.free (K := X.K) (mp := mp1) (o := SetMO X.w p (is.map Sum.inl)) hp
        have r2 := r1.free (o := SetMO X.w p (is.map Sum.inl)) hp
        exact q1 (mp1 ++ [p']) _ _ (f.trans (.alloc r2 hp')) (r2.alloc hp' ⟨_, upd_same, relDs_ints _⟩) (.ref (by rw [← r1.len]; simp))
      | none =>
        simp only [hi] at q1
        cases hss : allS xs with
        | none => simp only [hss] at q1; exact q1.elim
        | some ss =>
          simp only [hss] at q1
          have ev := allS_rel rv hss
          have il : ss.length = xs.length := by have := rv.length; rw [ev] at this; simpa using this.symm
          have ek : vs = ((ss.map fun l => (⟨l.toArray⟩ : Str)).map Sum.inr : List Key).map kV := by rw [ev, List.map_map (f := Sum.inr)]; rfl
          refine .inr ⟨a, (ss.map fun l => (⟨l.toArray⟩ : Str)).map Sum.inr, rfl, by rw [← ek]; exact hs, by simp; omega, fun p hp => .inl ⟨p, ss.map fun l => (⟨l.toArray⟩ : Str), rfl, upd_same, fun p' hp' => ?_⟩⟩
          have f := Ext.free (K := X.K) (mp := mp1) (o := SetMO X.w p ((ss.map fun l => (⟨l.toArray⟩ : Str)).map Sum.inr)) hp
          have r2 := r1.free (o := SetMO X.w p ((ss.map fun l => (⟨l.toArray⟩ : Str)).map Sum.inr)) hp
          have et : (ss.map fun l => (⟨l.toArray⟩ : Str)).map (·.cps.toList) = ss := by rw [List.map_map]; simp [Function.comp_def]
          rw [et]
          exact q1 (mp1 ++ [p']) _ _ (f.trans (.alloc r2 hp')) (r2.alloc hp' ⟨_, upd_same, relDs_strs _⟩) (.ref (by rw [← r1.len]; simp))
  have oth : ∀ o, itemsOf d lh1 = o → PostG X.K (RelD X.K) mp1 H1 (match o with
      | some xs => if Nat.blt xs.length 4000 = true then (match allI xs with
        | some is => .ok (.ref lh1.length) (lh1 ++ [.lst ((sdI is).map .int)])
        | none => (match allS xs with
          | some ss => .ok (.ref lh1.length) (lh1 ++ [.lst ((sdT ss).map .str)])
          | none => .bad)) else .bad
      | none => .bad) Q (WE W σ) → (rSetStr X.w [v] H1 (fun x H2 => rSortedSet X.w [x] H2 Q ∨ rSortedI' X.w [x] H2 Q) ∨ rSetK X.K X.w [v] H1 (fun x H2 => rSortedSet X.w [x] H2 Q ∨ rSortedI' X.w [x] H2 Q)) := fun o ho q => by
    cases o with
    | none => exact q.elim
    | some xs => exact key xs ho q
  cases rl1 with
  | str l =>
    cases hz : Nat.blt l.length 4000 with
    | false => simp only [hz] at q1; exact q1.elim
    | true =>
      simp only [hz] at q1
      refine .inl ⟨_, rfl, by simpa [Nat.blt, Nat.lt_iff_add_one_le] using Nat.le_of_ble_eq_true hz, fun p hp => .inl ?_⟩
      have E1 : Ext X.K mp1 H1 mp1 (upd H1 p (SetMO X.w p (l.toArray.toList.map fun c => .inr ⟨#[c]⟩))) := .free hp
      refine ⟨p, l.map fun c => ⟨#[c]⟩, rfl, by rw [upd_same, List.map_map]; rfl, fun p2 hp2 => ?_⟩
      have R1 := r1.free (o := SetMO X.w p (l.toArray.toList.map fun c => .inr ⟨#[c]⟩)) hp
      refine q1 (mp1 ++ [p2]) _ _ (E1.trans (.alloc R1 hp2)) (R1.alloc hp2 ⟨_, upd_same, ?_⟩) (.ref (by rw [← r1.len]; simp))
      have : (l.map fun c => ([c] : List Nat)) = (l.map fun c => (⟨#[c]⟩ : Str)).map (·.cps.toList) := by rw [List.map_map]; rfl
      rw [this]
      exact relDs_strs _
  | _ => exact oth _ rfl q1
end Rf
set_option Elab.async false
set_option linter.all false
set_option maxRecDepth 100000
set_option maxHeartbeats 400000
set_option autoImplicit false
namespace Rf
open PySem PySem.Spec L2
class KR (α : Type) where
  run : α → LH → Prop
class KX where
  run : Exn → LH → Prop
class KS where
  N : Ls → LH → Prop
  T : D → LH → Prop
  B : Ls → LH → Prop
  C : Ls → LH → Prop
  X : Exn → Ls → LH → Prop
def okR {α : Type} (r : R α) [q : KR α] [y : KX] : Prop := match r with
  | .ok a h => q.run a h
  | .ex x h => y.run x h
  | .bad => False
def okS (r : SR) [k : KS] : Prop := match r with
  | .nx l h => k.N l h
  | .rt d h => k.T d h
  | .bk l h => k.B l h
  | .ct l h => k.C l h
  | .ex x l h => k.X x l h
  | .bad => False
section
variable {α β : Type} {N : Ls → LH → Prop} {T : D → LH → Prop} {B C : Ls → LH → Prop} {X : Exn → Ls → LH → Prop} {Y : Exn → LH → Prop} {ls : Ls} {h : LH}
theorem okR_ok {a : α} {Q : α → LH → Prop} : @okR _ (.ok a h) ⟨Q⟩ ⟨Y⟩ = Q a h := by cases h <;> rfl
theorem okR_ex {x : Exn} {Q : α → LH → Prop} : @okR _ (.ex x h) ⟨Q⟩ ⟨Y⟩ = Y x h := by cases h <;> rfl
theorem okS_nx : @okS (.nx ls h) ⟨N, T, B, C, X⟩ = N ls h := by cases h <;> rfl
theorem okS_rt {d : D} : @okS (.rt d h) ⟨N, T, B, C, X⟩ = T d h := by cases h <;> rfl
theorem okS_bk : @okS (.bk ls h) ⟨N, T, B, C, X⟩ = B ls h := by cases h <;> rfl
theorem okS_ct : @okS (.ct ls h) ⟨N, T, B, C, X⟩ = C ls h := by cases h <;> rfl
theorem okS_ex {x : Exn} : @okS (.ex x ls h) ⟨N, T, B, C, X⟩ = X x ls h := by cases h <;> rfl
theorem okR_bind {r : R α} {f : α → LH → R β} {Q : β → LH → Prop} : @okR _ (r.bind f) ⟨Q⟩ ⟨Y⟩ = @okR _ r ⟨fun a h => @okR _ (f a h) ⟨Q⟩ ⟨Y⟩⟩ ⟨Y⟩ := by cases r <;> rfl
theorem okR_ext {r : R α} {Q Q' : α → LH → Prop} (e : ∀ a h, Q a h = Q' a h) : @okR _ r ⟨Q⟩ ⟨Y⟩ = @okR _ r ⟨Q'⟩ ⟨Y⟩ := by
  have : Q = Q' := funext fun a => funext fun h => e a h
  rw [this]
theorem okS_lift {r : R α} {f : α → LH → SR} : @okS (liftE r ls f) ⟨N, T, B, C, X⟩ = @okR _ r ⟨fun a h => @okS (f a h) ⟨N, T, B, C, X⟩⟩ ⟨fun x h => X x ls h⟩ := by cases r <;> rfl
theorem okS_seq {a b : SM} : @okS (mSeq a b ls h) ⟨N, T, B, C, X⟩ = @okS (a ls h) ⟨(fun l h => @okS (b l h) ⟨N, T, B, C, X⟩), T, B, C, X⟩ := by
  unfold mSeq
  cases a ls h <;> rfl
theorem okS_if {c : TM} {a b : SM} : @okS (mIfS c a b ls h) ⟨N, T, B, C, X⟩ = @okR _ (c ls h) ⟨fun k h => @okS (if k = true then a ls h else b ls h) ⟨N, T, B, C, X⟩⟩ ⟨fun x h => X x ls h⟩ := okS_lift
theorem okS_ret {e : EM} : @okS (mRet e ls h) ⟨N, T, B, C, X⟩ = @okR _ (e ls h) ⟨T⟩ ⟨fun x h => X x ls h⟩ := okS_lift
theorem okS_drop {e : EM} : @okS (mDrop e ls h) ⟨N, T, B, C, X⟩ = @okR _ (e ls h) ⟨fun _ h => N ls h⟩ ⟨fun x h => X x ls h⟩ := okS_lift
theorem okS_set {i : Nat} {e : EM} : @okS (mSet i e ls h) ⟨N, T, B, C, X⟩ = @okR _ (e ls h) ⟨fun d h => N (ls.set i (some d)) h⟩ ⟨fun x h => X x ls h⟩ := okS_lift
theorem okS_next : @okS (mNext ls h) ⟨N, T, B, C, X⟩ = N ls h := by cases h <;> rfl
theorem okS_retN : @okS (mRetN ls h) ⟨N, T, B, C, X⟩ = T .non h := by cases h <;> rfl
theorem okS_brk : @okS (mBreak ls h) ⟨N, T, B, C, X⟩ = B ls h := by cases h <;> rfl
theorem okS_cont : @okS (mCont ls h) ⟨N, T, B, C, X⟩ = C ls h := by cases h <;> rfl
theorem okS_raise {c : Nat} : @okS (mRaise c ls h) ⟨N, T, B, C, X⟩ = X ⟨c, []⟩ ls h := by cases h <;> rfl
theorem okR_fin {r : SR} {Q : D → LH → Prop} : @okR _ (fin r) ⟨Q⟩ ⟨Y⟩ = @okS r ⟨(fun _ h => Q .non h), Q, (fun _ _ => False), (fun _ _ => False), (fun x _ h => Y x h)⟩ := by cases r <;> rfl
theorem okR_bin {f : D → D → LH → R D} {a b : EM} {Q : D → LH → Prop} : @okR _ (mBin f a b ls h) ⟨Q⟩ ⟨Y⟩ = @okR _ (a ls h) ⟨fun x h => @okR _ (b ls h) ⟨fun y h => @okR _ (f x y h) ⟨Q⟩ ⟨Y⟩⟩ ⟨Y⟩⟩ ⟨Y⟩ := okR_bind.trans (okR_ext fun _ _ => okR_bind)
theorem okR_test {m : EM} {Q : Bool → LH → Prop} : @okR _ (mTest m ls h) ⟨Q⟩ ⟨Y⟩ = @okR _ (m ls h) ⟨fun d h => @okR _ (match d with
  | .bl b => .ok b h
  | _ => .bad) ⟨Q⟩ ⟨Y⟩⟩ ⟨Y⟩ := okR_bind
theorem okR_not {m : TM} {Q : Bool → LH → Prop} : @okR _ (mNot m ls h) ⟨Q⟩ ⟨Y⟩ = @okR _ (m ls h) ⟨fun b h => Q (!b) h⟩ ⟨Y⟩ := okR_bind
theorem okR_and {a b : TM} {Q : Bool → LH → Prop} : @okR _ (mAnd a b ls h) ⟨Q⟩ ⟨Y⟩ = @okR _ (a ls h) ⟨fun c h => @okR _ (if c = true then b ls h else .ok false h) ⟨Q⟩ ⟨Y⟩⟩ ⟨Y⟩ := okR_bind
theorem okR_or {a b : TM} {Q : Bool → LH → Prop} : @okR _ (mOr a b ls h) ⟨Q⟩ ⟨Y⟩ = @okR _ (a ls h) ⟨fun c h => @okR _ (if c = true then .ok true h else b ls h) ⟨Q⟩ ⟨Y⟩⟩ ⟨Y⟩ := okR_bind
theorem okR_andV {a b : EM} {Q : D → LH → Prop} : @okR _ (mAndV a b ls h) ⟨Q⟩ ⟨Y⟩ = @okR _ (a ls h) ⟨fun x h => @okR _ (match x with
  | .bl true => b ls h
  | .bl false => .ok (.bl false) h
  | _ => .bad) ⟨Q⟩ ⟨Y⟩⟩ ⟨Y⟩ := okR_bind
theorem okR_orV {a b : EM} {Q : D → LH → Prop} : @okR _ (mOrV a b ls h) ⟨Q⟩ ⟨Y⟩ = @okR _ (a ls h) ⟨fun x h => @okR _ (match x with
  | .bl true => .ok (.bl true) h
  | .bl false => b ls h
  | _ => .bad) ⟨Q⟩ ⟨Y⟩⟩ ⟨Y⟩ := okR_bind
theorem okR_notV {a : EM} {Q : D → LH → Prop} : @okR _ (mNotV a ls h) ⟨Q⟩ ⟨Y⟩ = @okR _ (a ls h) ⟨fun x h => @okR _ (match x with
  | .bl b => .ok (.bl (!b)) h
  | _ => .bad) ⟨Q⟩ ⟨Y⟩⟩ ⟨Y⟩ := okR_bind
theorem okR_mif {c : TM} {a b : EM} {Q : D → LH → Prop} : @okR _ (mIf c a b ls h) ⟨Q⟩ ⟨Y⟩ = @okR _ (c ls h) ⟨fun k h => @okR _ (if k = true then a ls h else b ls h) ⟨Q⟩ ⟨Y⟩⟩ ⟨Y⟩ := okR_bind
theorem okR_C {d : D} {Q : D → LH → Prop} : @okR _ (mC d ls h) ⟨Q⟩ ⟨Y⟩ = Q d h := by cases h <;> rfl
theorem okR_nil {Q : List D → LH → Prop} : @okR _ (mNil ls h) ⟨Q⟩ ⟨Y⟩ = Q [] h := by cases h <;> rfl
theorem okR_yes {Q : Bool → LH → Prop} : @okR _ (mYes ls h) ⟨Q⟩ ⟨Y⟩ = Q true h := by cases h <;> rfl
theorem okR_cons {a : EM} {r : AM} {Q : List D → LH → Prop} : @okR _ (mCons a r ls h) ⟨Q⟩ ⟨Y⟩ = @okR _ (a ls h) ⟨fun x h => @okR _ (r ls h) ⟨fun xs h => Q (x :: xs) h⟩ ⟨Y⟩⟩ ⟨Y⟩ := okR_bind.trans (okR_ext fun _ _ => okR_bind.trans (okR_ext fun _ _ => okR_ok))
theorem okR_call {m : FM} {a : AM} {Q : D → LH → Prop} : @okR _ (mCall m a ls h) ⟨Q⟩ ⟨Y⟩ = @okR _ (a ls h) ⟨fun ds h => @okR _ (m ds h) ⟨Q⟩ ⟨Y⟩⟩ ⟨Y⟩ := okR_bind
theorem okR_callK {gd : List D → List D → List D} {m : FM} {a k : AM} {Q : D → LH → Prop} : @okR _ (mCallK gd m a k ls h) ⟨Q⟩ ⟨Y⟩ = @okR _ (a ls h) ⟨fun ds h => @okR _ (k ls h) ⟨fun es h => @okR _ (m (gd ds es) h) ⟨Q⟩ ⟨Y⟩⟩ ⟨Y⟩⟩ ⟨Y⟩ := okR_bind.trans (okR_ext fun _ _ => okR_bind)
theorem okR_tup {a : AM} {Q : D → LH → Prop} : @okR _ (mTup a ls h) ⟨Q⟩ ⟨Y⟩ = @okR _ (a ls h) ⟨fun xs h => @okR _ (if szOk xs.length = true then .ok (.tup xs) h else .bad) ⟨Q⟩ ⟨Y⟩⟩ ⟨Y⟩ := okR_bind
theorem okR_lst {a : AM} {Q : D → LH → Prop} : @okR _ (mLst a ls h) ⟨Q⟩ ⟨Y⟩ = @okR _ (a ls h) ⟨fun xs h => @okR _ (if szOk xs.length = true then .ok (.ref h.length) (h ++ [.lst xs]) else .bad) ⟨Q⟩ ⟨Y⟩⟩ ⟨Y⟩ := okR_bind
theorem okR_fld {cs : List Nat} {i : Nat} {m : EM} {Q : D → LH → Prop} : @okR _ (mFld cs i m ls h) ⟨Q⟩ ⟨Y⟩ = @okR _ (m ls h) ⟨fun d h => @okR _ (match d with
  | .ref n => (match fldOf cs i n h with
    | some v => .ok v h
    | none => .bad)
  | _ => .bad) ⟨Q⟩ ⟨Y⟩⟩ ⟨Y⟩ := okR_bind
theorem okR_meth {c : Nat} {m : FM} {mo : EM} {ma : AM} {Q : D → LH → Prop} : @okR _ (mMeth c m mo ma ls h) ⟨Q⟩ ⟨Y⟩ = @okR _ (mo ls h) ⟨fun d h => @okR _ (match d with
  | .ref n => if insOf c n h = true then (ma ls h).bind fun ds h2 => m (.ref n :: ds) h2 else .bad
  | _ => .bad) ⟨Q⟩ ⟨Y⟩⟩ ⟨Y⟩ := okR_bind
theorem okR_make {c : Nat} {gd : List D → List D → List D} {m : FM} {ma mk : AM} {Q : D → LH → Prop} : @okR _ (mMake c gd m ma mk ls h) ⟨Q⟩ ⟨Y⟩ = @okR _ (ma ls h) ⟨fun ds h => @okR _ (mk ls h) ⟨fun es h => @okR _ (m (gd (.ref h.length :: ds) es) (h ++ [.ins c []])) ⟨fun r h3 => @okR _ (match r with
  | .non => .ok (.ref h.length) h3
  | _ => .bad) ⟨Q⟩ ⟨Y⟩⟩ ⟨Y⟩⟩ ⟨Y⟩⟩ ⟨Y⟩ := okR_bind.trans (okR_ext fun _ _ => okR_bind.trans (okR_ext fun _ _ => okR_bind))
theorem okR_bm {ty : D → LH → Bool} {f : D → List D → LH → R D} {mo : EM} {ma : AM} {Q : D → LH → Prop} : @okR _ (mBM ty f mo ma ls h) ⟨Q⟩ ⟨Y⟩ = @okR _ (mo ls h) ⟨fun x h => @okR _ (if ty x h = true then (ma ls h).bind fun xs h2 => f x xs h2 else .bad) ⟨Q⟩ ⟨Y⟩⟩ ⟨Y⟩ := okR_bind
theorem okR_isi {sub : Tg → Option Bool} {m : EM} {Q : D → LH → Prop} : @okR _ (mIsi sub m ls h) ⟨Q⟩ ⟨Y⟩ = @okR _ (m ls h) ⟨fun d h => @okR _ (match tgOf d h with
  | some t => (match sub t with
    | some b => .ok (.bl b) h
    | none => .bad)
  | none => .bad) ⟨Q⟩ ⟨Y⟩⟩ ⟨Y⟩ := okR_bind
theorem okS_for {n : Nat} {wi : IM} {g : GM} {b : SM} : @okS (mFor n wi g b ls h) ⟨N, T, B, C, X⟩ = @okR _ (wi ls h) ⟨fun L h => @okS (mForGo g b L n 0 ls h) ⟨N, T, B, C, X⟩⟩ ⟨fun x h => X x ls h⟩ := okS_lift
theorem okR_lc {n : Nat} {wi : IM} {g : GM} {tt : TM} {te : EM} {vs : List Nat} {Q : D → LH → Prop} : @okR _ (mLc n wi g tt te vs ls h) ⟨Q⟩ ⟨Y⟩ = @okR _ (wi ls h) ⟨fun L h => @okR _ (mLcGo g tt te L (wipeL ls vs) n 0 [] h) ⟨fun acc h => Q (.ref h.length) (h ++ [.lst acc])⟩ ⟨Y⟩⟩ ⟨Y⟩ := okR_bind.trans (okR_ext fun _ _ => okR_bind)
theorem okR_any {e : EM} {Q : LI → LH → Prop} : @okR _ (imAny e ls h) ⟨Q⟩ ⟨Y⟩ = @okR _ (e ls h) ⟨fun d h => @okR _ (match d with
  | .ref n => (match h[n]? with
    | some (.lst _) => .ok (liList n) h
    | _ => .bad)
  | .tup xs => .ok (liSeq xs) h
  | .ktp xs => .ok (liSeq xs) h
  | .str l => .ok (liStr l) h
  | _ => .bad) ⟨Q⟩ ⟨Y⟩⟩ ⟨Y⟩ := okR_bind
theorem okS_asg {e : EM} {g : GM} : @okS (mAsg e g ls h) ⟨N, T, B, C, X⟩ = @okR _ (e ls h) ⟨fun d h => @okS (match g d ls with
  | some ls' => .nx ls' h
  | none => .bad) ⟨N, T, B, C, X⟩⟩ ⟨fun x h => X x ls h⟩ := okS_lift
theorem okS_setFld {cs : List Nat} {i : Nat} {mo me : EM} : @okS (mSetFld cs i mo me ls h) ⟨N, T, B, C, X⟩ = @okR _ (me ls h) ⟨fun d h => @okR _ (mo ls h) ⟨fun o h => @okS (match o with
  | .ref n => (match setFld cs i n d h with
    | some h3 => .nx ls h3
    | none => .bad)
  | _ => .bad) ⟨N, T, B, C, X⟩⟩ ⟨fun x h => X x ls h⟩⟩ ⟨fun x h => X x ls h⟩ := okS_lift.trans (okR_ext fun _ _ => okS_lift)
end
def itm (xs : List D) (i : Nat) : Stp := match xs[i]? with
  | some d => .item d
  | none => .done
theorem itm_str {l : List Nat} {i : Nat} {h : LH} : liStr l i h = itm (l.map fun c => .str [c]) i := by
  unfold liStr itm
  rw [List.getElem?_map]
  cases l[i]? <;> rfl
theorem itm_list {n : Nat} {xs : List D} {i : Nat} {h : LH} (e : h[n]? = some (.lst xs)) : liList n i h = itm xs i := by
  unfold liList; rw [e]; rfl
section
variable {N : Ls → LH → Prop} {T : D → LH → Prop} {B C : Ls → LH → Prop} {X : Exn → Ls → LH → Prop} {Y : Exn → LH → Prop}
theorem for_go {g : GM} {b : SM} {L : LI} (xs : List D) (I : Nat → Ls → LH → Prop) (hL : ∀ i ls h, I i ls h → L i h = itm xs i)
    (hs : ∀ i d ls h, xs[i]? = some d → I i ls h → ∃ ls1, g d ls = some ls1 ∧ @okS (b ls1 h) ⟨I (i + 1), T, N, I (i + 1), X⟩)
    (he : ∀ ls h, I xs.length ls h → N ls h) : ∀ (k i fuel : Nat) (ls : Ls) (h : LH), I i ls h → i + k = xs.length → k < fuel → @okS (mForGo g b L fuel i ls h) ⟨N, T, B, C, X⟩
  | 0, i, fuel, ls, h, p, e, hf => by
    obtain ⟨fuel, rfl⟩ : ∃ j, fuel = j + 1 := ⟨fuel - 1, by omega⟩
    have : i = xs.length := by omega
    subst this
    unfold mForGo
    have e0 : itm xs xs.length = .done := by unfold itm; rw [List.getElem?_eq_none (Nat.le_refl _)]
    rw [hL _ _ _ p, e0]
    exact he ls h p
  | k + 1, i, fuel, ls, h, p, e, hf => by
    obtain ⟨fuel, rfl⟩ : ∃ j, fuel = j + 1 := ⟨fuel - 1, by omega⟩
    have hi : xs[i]? = some (xs[i]'(by omega)) := List.getElem?_eq_getElem (by omega)
    obtain ⟨ls1, e1, e2⟩ := hs i _ ls h hi p
    unfold mForGo
    have e0 : itm xs i = .item (xs[i]'(by omega)) := by unfold itm; rw [hi]
    rw [hL _ _ _ p, e0]
    simp only [e1]
    have ih := for_go xs I hL hs he k (i + 1) fuel
    cases hb : b ls1 h with
    | nx l' h' => rw [hb] at e2; exact ih l' h' e2 (by omega) (by omega)
    | ct l' h' => rw [hb] at e2; exact ih l' h' e2 (by omega) (by omega)
    | bk l' h' => rw [hb] at e2; exact e2
    | rt d h' => rw [hb] at e2; exact e2
    | ex x l' h' => rw [hb] at e2; exact e2
    | bad => rw [hb] at e2; exact e2
theorem ok_for {g : GM} {b : SM} {L : LI} {fuel : Nat} {ls : Ls} {h : LH} (xs : List D) (I : Nat → Ls → LH → Prop) (h0 : I 0 ls h) (hf : xs.length < fuel) (hL : ∀ i ls h, I i ls h → L i h = itm xs i)
    (hs : ∀ i d ls h, xs[i]? = some d → I i ls h → ∃ ls1, g d ls = some ls1 ∧ @okS (b ls1 h) ⟨I (i + 1), T, N, I (i + 1), X⟩)
    (he : ∀ ls h, I xs.length ls h → N ls h) : @okS (mForGo g b L fuel 0 ls h) ⟨N, T, B, C, X⟩ := for_go xs I hL hs he xs.length 0 fuel ls h h0 (by omega) hf
theorem lc_go {g : GM} {tt : TM} {te : EM} {L : LI} {ls0 : Ls} {Q : List D → LH → Prop} (xs : List D) (hl : xs.length ≤ 16777216) (I : Nat → List D → LH → Prop) (hL : ∀ i acc h, I i acc h → L i h = itm xs i)
    (hs : ∀ i d acc h, xs[i]? = some d → I i acc h → ∃ ls1, g d ls0 = some ls1 ∧ @okR _ (tt ls1 h) ⟨fun k h => if k = true then @okR _ (te ls1 h) ⟨fun y h => I (i + 1) (acc ++ [y]) h⟩ ⟨fun _ _ => False⟩ else I (i + 1) acc h⟩ ⟨fun _ _ => False⟩)
    (he : ∀ acc h, I xs.length acc h → Q acc h) : ∀ (k i fuel : Nat) (acc : List D) (h : LH), I i acc h → acc.length ≤ i → i + k = xs.length → k < fuel → @okR _ (mLcGo g tt te L ls0 fuel i acc h) ⟨Q⟩ ⟨Y⟩
  | 0, i, fuel, acc, h, p, ea, e, hf => by
    obtain ⟨fuel, rfl⟩ : ∃ j, fuel = j + 1 := ⟨fuel - 1, by omega⟩
    have : i = xs.length := by omega
    subst this
    unfold mLcGo
    have e0 : itm xs xs.length = .done := by unfold itm; rw [List.getElem?_eq_none (Nat.le_refl _)]
    rw [hL _ _ _ p, e0]
    exact he acc h p
  | k + 1, i, fuel, acc, h, p, ea, e, hf => by
    obtain ⟨fuel, rfl⟩ : ∃ j, fuel = j + 1 := ⟨fuel - 1, by omega⟩
    have hi : xs[i]? = some (xs[i]'(by omega)) := List.getElem?_eq_getElem (by omega)
    obtain ⟨ls1, e1, e2⟩ := hs i _ acc h hi p
    unfold mLcGo
    have e0 : itm xs i = .item (xs[i]'(by omega)) := by unfold itm; rw [hi]
    rw [hL _ _ _ p, e0]
    simp only [e1]
    have ih := lc_go (ls0 := ls0) xs hl I hL hs he k (i + 1) fuel
    cases hb : tt ls1 h with
    | bad => rw [hb] at e2; exact e2.elim
    | ex x h' => rw [hb] at e2; exact e2.elim
    | ok c h1 =>
      rw [hb] at e2
      cases c with
      | false => exact ih acc h1 e2 (by omega) (by omega) (by omega)
      | true =>
        change @okR _ (te ls1 h1) ⟨_⟩ ⟨_⟩ at e2
        have hz : szOk (acc.length + 1) = true := Nat.ble_eq_true_of_le (by omega)
        cases ht : te ls1 h1 with
        | bad => rw [ht] at e2; exact e2.elim
        | ex x h' => rw [ht] at e2; exact e2.elim
        | ok y h2 =>
          rw [ht] at e2
          simp only [ht, hz, if_true]
          exact ih (acc ++ [y]) h2 e2 (by simp; omega) (by omega) (by omega)
theorem ok_lc {g : GM} {tt : TM} {te : EM} {L : LI} {ls0 : Ls} {Q : List D → LH → Prop} {fuel : Nat} {h : LH} (xs : List D) (I : Nat → List D → LH → Prop) (h0 : I 0 [] h) (hf : xs.length < fuel) (hl : xs.length ≤ 16777216) (hL : ∀ i acc h, I i acc h → L i h = itm xs i)
    (hs : ∀ i d acc h, xs[i]? = some d → I i acc h → ∃ ls1, g d ls0 = some ls1 ∧ @okR _ (tt ls1 h) ⟨fun k h => if k = true then @okR _ (te ls1 h) ⟨fun y h => I (i + 1) (acc ++ [y]) h⟩ ⟨fun _ _ => False⟩ else I (i + 1) acc h⟩ ⟨fun _ _ => False⟩)
    (he : ∀ acc h, I xs.length acc h → Q acc h) : @okR _ (mLcGo g tt te L ls0 fuel 0 [] h) ⟨Q⟩ ⟨Y⟩ := lc_go xs hl I hL hs he xs.length 0 fuel [] h h0 (by simp) (by omega) hf
theorem ok_while {c : TM} {b : SM} (I : Nat → Ls → LH → Prop) (hs : ∀ k ls h, I k ls h → @okR _ (c ls h) ⟨fun t h => if t = true then @okS (b ls h) ⟨(fun l h => ∃ j, j < k ∧ I j l h), T, N, (fun l h => ∃ j, j < k ∧ I j l h), X⟩ else N ls h⟩ ⟨fun x h => X x ls h⟩) :
    ∀ (fuel k : Nat) (ls : Ls) (h : LH), I k ls h → k < fuel → @okS (mWhile fuel c b ls h) ⟨N, T, B, C, X⟩
  | 0, k, ls, h, p, hf => by omega
  | fuel + 1, k, ls, h, p, hf => by
    have e := hs k ls h p
    unfold mWhile
    rw [okS_lift]
    cases hc : c ls h with
    | bad => rw [hc] at e; exact e.elim
    | ex x h' => rw [hc] at e; exact e
    | ok t h1 =>
      rw [hc] at e
      change if t = true then _ else _ at e
      show @okS (if t = true then _ else _) ⟨N, T, B, C, X⟩
      cases t with
      | false => exact e
      | true =>
        simp only [if_true] at e ⊢
        cases hb : b ls h1 with
        | nx l' h' => rw [hb] at e; obtain ⟨j, hj, q⟩ := e; exact ok_while I hs fuel j l' h' q (by omega)
        | ct l' h' => rw [hb] at e; obtain ⟨j, hj, q⟩ := e; exact ok_while I hs fuel j l' h' q (by omega)
        | bk l' h' => rw [hb] at e; exact e
        | rt d h' => rw [hb] at e; exact e
        | ex x l' h' => rw [hb] at e; exact e
        | bad => rw [hb] at e; exact e
end
theorem lc_pure {g : GM} {tt : TM} {te : EM} {L : LI} {ls0 : Ls} {h : LH} {fuel : Nat} (xs : List D) (b : D → Bool) (f : D → D) (hL : ∀ i, L i h = itm xs i) (hf : xs.length < fuel) (hl : xs.length ≤ 16777216)
    (hs : ∀ d ∈ xs, ∃ ls1, g d ls0 = some ls1 ∧ tt ls1 h = .ok (b d) h ∧ (b d = true → te ls1 h = .ok (f d) h)) : mLcGo g tt te L ls0 fuel 0 [] h = .ok ((xs.filter b).map f) h := by
  have key : @okR _ (mLcGo g tt te L ls0 fuel 0 [] h) ⟨fun acc h' => acc = (xs.filter b).map f ∧ h' = h⟩ ⟨fun _ _ => False⟩ := by
    refine ok_lc xs (fun i acc h' => acc = ((xs.take i).filter b).map f ∧ h' = h) ⟨by simp, rfl⟩ hf hl (fun i acc h' p => by rw [p.2]; exact hL i) (fun i d acc h' hd p => ?_) (fun acc h' p => ⟨by simpa using p.1, p.2⟩)
    obtain ⟨rfl, rfl⟩ := p
    obtain ⟨ls1, e1, e2, e3⟩ := hs d (List.mem_of_getElem? hd)
    refine ⟨ls1, e1, ?_⟩
    rw [e2]
    have ht : xs.take (i + 1) = xs.take i ++ [d] := by
      rw [List.take_add_one, hd]; rfl
    show if b d = true then _ else _
    cases hb : b d with
    | true =>
      rw [if_pos rfl, e3 hb]
      exact ⟨by rw [ht]; simp [hb], rfl⟩
    | false =>
      rw [if_neg (by simp)]
      exact ⟨by rw [ht]; simp [hb], rfl⟩
  cases hr : mLcGo g tt te L ls0 fuel 0 [] h with
  | bad => rw [hr] at key; exact key.elim
  | ex x h' => rw [hr] at key; exact key.elim
  | ok a h' => rw [hr] at key; obtain ⟨rfl, rfl⟩ := key; rfl
theorem lc_map {g : GM} {te : EM} {L : LI} {ls0 : Ls} {h : LH} {fuel : Nat} (xs : List D) (f : D → D) (hL : ∀ i, L i h = itm xs i) (hf : xs.length < fuel) (hl : xs.length ≤ 16777216)
    (hs : ∀ d ∈ xs, ∃ ls1, g d ls0 = some ls1 ∧ te ls1 h = .ok (f d) h) : mLcGo g mYes te L ls0 fuel 0 [] h = .ok (xs.map f) h := by
  have := lc_pure (tt := mYes) (te := te) xs (fun _ => true) f hL hf hl (fun d hd => let ⟨l, a, b⟩ := hs d hd; ⟨l, a, rfl, fun _ => b⟩)
  rw [this]
  have : xs.filter (fun _ => true) = xs := List.filter_eq_self.mpr fun _ _ => rfl
  rw [this]
theorem okR_eq {α : Type} {r : R α} {Q : α → LH → Prop} (h : @okR _ r ⟨Q⟩ ⟨fun _ _ => False⟩) : ∃ a h', r = .ok a h' ∧ Q a h' := by
  cases r with
  | ok a h' => exact ⟨a, h', rfl, h⟩
  | ex x h' => exact h.elim
  | bad => exact h.elim
theorem okR_imp {α : Type} {r : R α} {Q Q' : α → LH → Prop} {Y : Exn → LH → Prop} (h : @okR _ r ⟨Q⟩ ⟨fun _ _ => False⟩) (k : ∀ a h, Q a h → Q' a h) : @okR _ r ⟨Q'⟩ ⟨Y⟩ := by
  cases r with
  | ok a h' => exact k a h' h
  | ex x h' => exact h.elim
  | bad => exact h.elim
end Rf
set_option Elab.async false
set_option linter.all false
set_option maxRecDepth 100000
set_option maxHeartbeats 400000
set_option autoImplicit false
namespace Rf
open PySem PySem.Spec L2
theorem luk_c {α β : Type} [DecidableEq α] {a : α} {b : β} {r : List (α × β)} {x : α} : luk ((a, b) :: r) x = if a = x then some b else luk r x := by cases r <;> rfl
def rngK (ds : List D) (h : LH) : R LI := match ds with
  | [.int j] => if rgOk j = true then .ok (liRange 0 j.toNat) h else .bad
  | _ => .bad
def rngK2 (ds : List D) (h : LH) : R LI := match ds with
  | [.int i, .int j] => if (rgOk i && rgOk j) = true then .ok (liRange i (j - i).toNat) h else .bad
  | _ => .bad
theorem rgOk_le {i : Int} (h1 : -1000000 ≤ i) (h2 : i ≤ 1000000) : rgOk i = true := by
  unfold rgOk
  have a : decide (-(2 ^ 62) ≤ i) = true := decide_eq_true (by omega)
  have b : decide (i < 2 ^ 62) = true := decide_eq_true (by omega)
  rw [a, b, Bool.and_self]
theorem rngK_int {j : Int} {h : LH} (h1 : -1000000 ≤ j) (h2 : j ≤ 1000000) : rngK [.int j] h = .ok (liRange 0 j.toNat) h := by
  unfold rngK
  exact if_pos (rgOk_le h1 h2)
theorem rngK_nat {n : Nat} {h : LH} (hn : n ≤ 1000000) : rngK [.int n] h = .ok (liRange 0 n) h := by
  rw [rngK_int (by omega) (by omega), Int.toNat_natCast]
theorem rngK2_int {i j : Int} {h : LH} (h1 : -1000000 ≤ j) (h2 : j ≤ 1000000) (h3 : -1000000 ≤ i) (h4 : i ≤ 1000000) : rngK2 [.int i, .int j] h = .ok (liRange i (j - i).toNat) h := by
  unfold rngK2
  exact if_pos (by rw [rgOk_le h1 h2, rgOk_le h3 h4, Bool.and_self])
def gV (o : Option (Option D)) (h : LH) : R D := match o with
  | some (some (.fn _ _)) => .bad
  | some (some d) => .ok d h
  | _ => .bad
theorem gV_nf {d : D} {h : LH} (hf : isFn d = false) : gV (some (some d)) h = .ok d h := by
  cases d with
  | fn _ _ => cases hf
  | _ => rfl
theorem gV_non {h : LH} : gV (some (some .non)) h = .ok .non h := by cases h <;> rfl
theorem gV_bl {b : Bool} {h : LH} : gV (some (some (.bl b))) h = .ok (.bl b) h := by cases h <;> rfl
theorem gV_int {b : Int} {h : LH} : gV (some (some (.int b))) h = .ok (.int b) h := by cases h <;> rfl
theorem gV_str {b : List Nat} {h : LH} : gV (some (some (.str b))) h = .ok (.str b) h := by cases h <;> rfl
theorem gV_tup {b : List D} {h : LH} : gV (some (some (.tup b))) h = .ok (.tup b) h := by cases h <;> rfl
theorem gV_ktp {b : List D} {h : LH} : gV (some (some (.ktp b))) h = .ok (.ktp b) h := by cases h <;> rfl
theorem gV_rol {b : List D} {h : LH} : gV (some (some (.rol b))) h = .ok (.rol b) h := by cases h <;> rfl
theorem gV_ref {b : Nat} {h : LH} : gV (some (some (.ref b))) h = .ok (.ref b) h := by cases h <;> rfl
theorem mV_gV {i : Nat} {ls : Ls} {h : LH} : mV i ls h = gV ls[i]? h := by
  unfold mV gV
  cases ls[i]? with
  | none => rfl
  | some o =>
    cases o with
    | none => rfl
    | some d => cases d <;> rfl
section
variable {N : Ls → LH → Prop} {T : D → LH → Prop} {B C : Ls → LH → Prop} {X : Exn → Ls → LH → Prop} {Y : Exn → LH → Prop} {ls : Ls} {h : LH}
theorem okR_V {i : Nat} {Q : D → LH → Prop} : @okR _ (mV i ls h) ⟨Q⟩ ⟨Y⟩ = @okR _ (gV ls[i]? h) ⟨Q⟩ ⟨Y⟩ := by rw [mV_gV]
theorem okR_chain {f g : D → D → LH → R D} {a b c : EM} {Q : D → LH → Prop} : @okR _ (mChain f g a b c ls h) ⟨Q⟩ ⟨Y⟩ = @okR _ (a ls h) ⟨fun x h => @okR _ (b ls h) ⟨fun y h => @okR _ (f x y h) ⟨fun z h => @okR _ (match z with
  | .bl true => (c ls h).bind fun u h4 => g y u h4
  | .bl false => .ok (.bl false) h
  | _ => .bad) ⟨Q⟩ ⟨Y⟩⟩ ⟨Y⟩⟩ ⟨Y⟩⟩ ⟨Y⟩ := okR_bind.trans (okR_ext fun _ _ => okR_bind.trans (okR_ext fun _ _ => okR_bind))
theorem okR_rng1 {a : AM} {Q : LI → LH → Prop} : @okR _ (imRange1 a ls h) ⟨Q⟩ ⟨Y⟩ = @okR _ (a ls h) ⟨fun ds h => @okR _ (rngK ds h) ⟨Q⟩ ⟨Y⟩⟩ ⟨Y⟩ := okR_bind
theorem okR_rng2 {a : AM} {Q : LI → LH → Prop} : @okR _ (imRange2 a ls h) ⟨Q⟩ ⟨Y⟩ = @okR _ (a ls h) ⟨fun ds h => @okR _ (rngK2 ds h) ⟨Q⟩ ⟨Y⟩⟩ ⟨Y⟩ := okR_bind
theorem okR_neg {m : EM} {Q : D → LH → Prop} : @okR _ (mNeg m ls h) ⟨Q⟩ ⟨Y⟩ = @okR _ (m ls h) ⟨fun d h => @okR _ (match d with
  | .int i => .ok (.int (-i)) h
  | _ => .bad) ⟨Q⟩ ⟨Y⟩⟩ ⟨Y⟩ := okR_bind
theorem okR_sl {me : EM} {ml mh : OM} {Q : D → LH → Prop} : @okR _ (mSl me ml mh ls h) ⟨Q⟩ ⟨Y⟩ = @okR _ (me ls h) ⟨fun x h => @okR _ (ml ls h) ⟨fun lo h => @okR _ (mh ls h) ⟨fun hi h => @okR _ (dSl x lo hi h) ⟨Q⟩ ⟨Y⟩⟩ ⟨Y⟩⟩ ⟨Y⟩⟩ ⟨Y⟩ := okR_bind.trans (okR_ext fun _ _ => okR_bind.trans (okR_ext fun _ _ => okR_bind))
theorem okR_noPart {Q : Option Int → LH → Prop} : @okR _ (mNoPart ls h) ⟨Q⟩ ⟨Y⟩ = Q none h := by cases h <;> rfl
theorem okR_part {e : EM} {Q : Option Int → LH → Prop} : @okR _ (mPart e ls h) ⟨Q⟩ ⟨Y⟩ = @okR _ (e ls h) ⟨fun d h => @okR _ (match d with
  | .int i => .ok (some i) h
  | _ => .bad) ⟨Q⟩ ⟨Y⟩⟩ ⟨Y⟩ := okR_bind
theorem okS_sub {f : D → D → D → LH → Option LH} {me mo mi : EM} : @okS (mSetSub f me mo mi ls h) ⟨N, T, B, C, X⟩ = @okR _ (me ls h) ⟨fun x h => @okR _ (mo ls h) ⟨fun o h => @okR _ (mi ls h) ⟨fun i h => @okS (match f o i x h with
  | some h4 => .nx ls h4
  | none => .bad) ⟨N, T, B, C, X⟩⟩ ⟨fun x h => X x ls h⟩⟩ ⟨fun x h => X x ls h⟩⟩ ⟨fun x h => X x ls h⟩ := okS_lift.trans (okR_ext fun _ _ => okS_lift.trans (okR_ext fun _ _ => okS_lift))
theorem okS_aug {f : D → D → LH → R D} {i : Nat} {me : EM} {d : D} (e : ls[i]? = some (some d)) (nf : isFn d = false := by rfl) : @okS (mAug f i me ls h) ⟨N, T, B, C, X⟩ = @okR _ (me ls h) ⟨fun y h => @okR _ (f d y h) ⟨fun z h => N (ls.set i (some z)) h⟩ ⟨fun x h => X x ls h⟩⟩ ⟨fun x h => X x ls h⟩ := by
  unfold mAug; rw [e]
  cases d with
  | fn _ _ => cases nf
  | _ => exact okS_lift.trans (okR_bind.trans (okR_ext fun _ _ => okR_ext fun _ _ => rfl))
theorem okS_par {i j : Nat} {ma : AM} : @okS (mPar i j ma ls h) ⟨N, T, B, C, X⟩ = @okR _ (ma ls h) ⟨fun ds h => @okS (match ds with
  | [x, y] => .nx ((ls.set i (some x)).set j (some y)) h
  | _ => .bad) ⟨N, T, B, C, X⟩⟩ ⟨fun x h => X x ls h⟩ := okS_lift
end
structure Fr (S : List Nat) (h h' : LH) : Prop where
  len : h.length ≤ h'.length
  get : ∀ (p : Nat) (o : LO), h[p]? = some o → p ∉ S → h'[p]? = some o
theorem Fr.refl {S : List Nat} {h : LH} : Fr S h h := ⟨Nat.le_refl _, fun _ _ h _ => h⟩
theorem Fr.trans {S : List Nat} {h h1 h2 : LH} (a : Fr S h h1) (b : Fr S h1 h2) : Fr S h h2 := ⟨Nat.le_trans a.len b.len, fun p o e n => b.get p o (a.get p o e n) n⟩
theorem Fr.app {S : List Nat} {h more : LH} : Fr S h (h ++ more) := ⟨by simp, fun p o e _ => by rw [List.getElem?_append_left (List.getElem?_eq_some_iff.mp e).1]; exact e⟩
theorem Fr.set {S : List Nat} {h : LH} {n : Nat} {o : LO} (hn : n ∈ S) : Fr S h (h.set n o) := ⟨by simp, fun p o' e hp => by
  have : n ≠ p := fun z => hp (by rw [← z]; exact hn)
  rw [List.getElem?_set_ne this]; exact e⟩
theorem Fr.mono {S S' : List Nat} {h h' : LH} (a : Fr S h h') (hs : ∀ x ∈ S, x ∈ S') : Fr S' h h' := ⟨a.len, fun p o e n => a.get p o e fun z => n (hs p z)⟩
theorem Fr.cut {S : List Nat} {h h' : LH} {n : Nat} (a : Fr (n :: S) h h') (hn : h.length ≤ n) : Fr S h h' := ⟨a.len, fun p o e hp => a.get p o e fun z => by
  rcases List.mem_cons.mp z with z | z
  · have := (List.getElem?_eq_some_iff.mp e).1; omega
  · exact hp z⟩
theorem Kp.fr {t r : Nat} {h h' : LH} (a : Kp t r h h') (l : h.length ≤ h'.length) : Fr [t, r] h h' := ⟨l, fun p o e n => a p o e (fun z => n (by simp [z])) (fun z => n (by simp [z]))⟩
theorem Town.fr {h h' : LH} {t r : Nat} {row : List Int} {c : Int} {S : List Nat} (T : Town h t r row c) (f : Fr S h h') (h1 : t ∉ S) (h2 : r ∉ S) : Town h' t r row c := ⟨f.get _ _ T.tn h1, f.get _ _ T.rw_ h2, T.ne, T.tr⟩
theorem Town.lt {h : LH} {t r : Nat} {row : List Int} {c : Int} (T : Town h t r row c) : t < h.length := (List.getElem?_eq_some_iff.mp T.tn).1
theorem Town.lr {h : LH} {t r : Nat} {row : List Int} {c : Int} (T : Town h t r row c) : r < h.length := (List.getElem?_eq_some_iff.mp T.rw_).1
theorem Town.fresh {h : LH} {t r : Nat} {row : List Int} {c : Int} (T : Town h t r row c) : h.length ≠ t ∧ h.length ≠ r := ⟨by have := T.lt; omega, by have := T.lr; omega⟩
theorem app_at {h : LH} {o : LO} : (h ++ [o])[h.length]? = some o := by simp
theorem app_lt {h : LH} {o o' : LO} {p : Nat} (e : h[p]? = some o) : (h ++ [o'])[p]? = some o := by rw [List.getElem?_append_left (List.getElem?_eq_some_iff.mp e).1]; exact e
theorem drawF {h : LH} {t r : Nat} {row : List Int} {c n : Int} (T : Town h t r row c) (hn : 1 ≤ n) (hn2 : n < 1073741824) :
    ∃ (v : Nat) (h' : LH) (row' : List Int), (v : Int) < n ∧ runA drawM [.ref t, .int n] h = .ok (.int v) h' ∧ Town h' t r row' (c + 1) ∧ Fr [t, r] h h' ∧ h'.length = h.length := by
  obtain ⟨v, h', row', a, b, c, d, e⟩ := drawK T hn hn2
  exact ⟨v, h', row', a, b, c, d.fr (by omega), e⟩
theorem pickF {h : LH} {t r p : Nat} {row : List Int} {c : Int} {xs : List D} (T : Town h t r row c) (hp : h[p]? = some (.lst xs)) (h1 : p ≠ t) (h2 : p ≠ r) (hx : 1 ≤ xs.length) (hx2 : xs.length < 1073741824) :
    ∃ (v : Nat) (x : D) (h' : LH) (row' : List Int), xs[v]? = some x ∧ pickM [.ref t, .ref p] h = .ok x h' ∧ Town h' t r row' (c + 1) ∧ Fr [t, r] h h' ∧ h'.length = h.length := by
  obtain ⟨v, x, h', row', a, b, c, d, e⟩ := pickK T hp h1 h2 hx hx2
  exact ⟨v, x, h', row', a, b, c, d.fr (by omega), e⟩
theorem pickN {h : LH} {t r : Nat} {row : List Int} {c : Int} (T : Town h t r row c) (xs : List D) (hx : 1 ≤ xs.length) (hx2 : xs.length < 1073741824) :
    ∃ (v : Nat) (x : D) (h' : LH) (row' : List Int), xs[v]? = some x ∧ pickM [.ref t, .ref h.length] (h ++ [.lst xs]) = .ok x h' ∧ Town h' t r row' (c + 1) ∧ Fr [t, r] h h' ∧ h'.length = h.length + 1 := by
  have := T.lt
  have := T.lr
  obtain ⟨v, x, h', row', a, b, c, d, e⟩ := pickF (T.app (more := [.lst xs])) app_at (by omega) (by omega) hx hx2
  exact ⟨v, x, h', row', a, b, c, Fr.app.trans d, by rw [e]; simp⟩
theorem wordF {h : LH} {t r : Nat} {row : List Int} {c : Int} {al : List Nat} {most : Int} (T : Town h t r row c) (ha : 1 ≤ al.length) (ha2 : al.length < 1000000) (hm : 0 ≤ most) (hm2 : most < 1000) :
    ∃ (w : List Nat) (h' : LH) (row' : List Int) (c' : Int), (∀ x ∈ w, x ∈ al) ∧ (w.length : Int) ≤ most ∧ wordM [.ref t, .str al, .int most] h = .ok (.str w) h' ∧ Town h' t r row' c' ∧ Fr [t, r] h h' := by
  obtain ⟨w, h', row', c', a, b, c, d, e⟩ := word_ok T ha ha2 hm hm2
  refine ⟨w, h', row', c', a, b, c, d, e.fr ?_⟩
  by_cases hl : h.length ≤ h'.length
  · exact hl
  · exfalso
    have lt := T.lt
    have lr := T.lr
    have h1 := d.lt
    have h2 := d.lr
    obtain ⟨o, ho⟩ : ∃ o, h[h'.length]? = some o := ⟨h[h'.length]'(by omega), List.getElem?_eq_getElem (by omega)⟩
    have := e h'.length o ho (by omega) (by omega)
    simp at this
theorem pd_tup (h : LH) (n : Nat) (xs : List D) : pd h (n + 1) (.tup xs) = (pdA (pd h n) xs).map .tuple := by rw [pd]
theorem allI_map (ns : List Int) : allI (ns.map D.int) = some ns := by
  induction ns with
  | nil => rfl
  | cons a l ih => rw [List.map_cons, allI, ih]; rfl
end Rf
set_option Elab.async false
set_option linter.all false
set_option maxRecDepth 100000
set_option maxHeartbeats 400000
set_option autoImplicit false
namespace Rf
open PySem PySem.Spec PyProof.Rows L2
def liEnumS (l : List Nat) : LI := fun i _ => match l[i]? with
  | some c => .item (.tup [.int i, .str [c]])
  | none => .done
def liEnumL (n : Nat) : LI := fun i h => match h[n]? with
  | some (.lst xs) => (match xs[i]? with
    | some d => .item (.tup [.int i, d])
    | none => .done)
  | _ => .bad
def imEnum (a : AM) : IM := fun ls h => (a ls h).bind fun ds h1 => match ds with
  | [.str l] => .ok (liEnumS l) h1
  | [.ref n] => (match h1[n]? with
    | some (.lst _) => .ok (liEnumL n) h1
    | _ => .bad)
  | _ => .bad
end Rf
set_option Elab.async false
set_option linter.all false
set_option maxRecDepth 100000
set_option maxHeartbeats 400000
set_option autoImplicit false
namespace Rf
open PySem PySem.Spec PyProof.Rows L2
def eqK : D → D → Bool
  | .int i, .int j => decide (i = j)
  | .str a, .str b => decide (a = b)
  | _, _ => false
def eqKs : List D → List D → Bool
  | [], [] => true
  | a :: r, b :: s => eqK a b && eqKs r s
  | _, _ => false
def eqY : D → D → Bool
  | .tup a, .tup b => eqKs a b
  | a, b => eqK a b
def isK : D → Bool
  | .int _ => true
  | .str _ => true
  | _ => false
def isT : D → Bool
  | .tup xs => xs.all isK && !kc xs
  | _ => false
def keyOk (t : Bool) (k : D) : Bool := match t with
  | true => isT k
  | false => isK k
def getK (kvs : List (D × D)) (k : D) : Option D := (kvs.find? fun p => eqY p.1 k).map (·.2)
def putD (kvs : List (D × D)) (k v : D) : List (D × D) := if (kvs.any fun p => eqY p.1 k) = true then kvs.map (fun p => if eqY p.1 k = true then (p.1, v) else p) else kvs ++ [(k, v)]
def dicW (d : D) (h : LH) : Option (Bool × List (D × D)) := match d with
  | .ref n => (match h[n]? with
    | some (.dic t kvs) => some (t, kvs)
    | _ => none)
  | _ => none
def dicR (d : D) (h : LH) : Option (Bool × List (D × D)) := match d with
  | .ref n => (match h[n]? with
    | some (.dic t kvs) => some (t, kvs)
    | some (.dlk t kvs) => some (t, kvs)
    | _ => none)
  | _ => none
section
variable {K : PySem.W.Frag} {mp : List Addr} {H : Hp} {lh : LH}
abbrev PGr {κ : Type} (KR : D → κ → Prop) (K : PySem.W.Frag) (mp : List Addr) (H : Hp) : List (D × D) → List (κ × V) → Prop := Paired (fun (p : D × D) (q : κ × V) => KR p.1 q.1 ∧ RelD K mp H p.2 q.2)
abbrev PK (K : PySem.W.Frag) (mp : List Addr) (H : Hp) : List (D × D) → List (Key × V) → Prop := PGr KeyR K mp H
theorem eqK_rel : ∀ {a b : D} {ka kb : Key}, KeyR a ka → KeyR b kb → decide (ka = kb) = eqK a b
  | .int i, .int i', .inl j, .inl j', ra, rb => by
    have e1 : i = j := ra
    have e2 : i' = j' := rb
    subst e1 e2
    show decide ((Sum.inl i : Key) = Sum.inl i') = decide (i = i')
    by_cases h : i = i'
    · rw [decide_eq_true h, decide_eq_true (by rw [h])]
    · rw [decide_eq_false h, decide_eq_false (by intro z; cases z; exact h rfl)]
  | .int i, .str b, .inl j, .inr y, _, _ => by
    show decide ((Sum.inl j : Key) = Sum.inr y) = false
    exact decide_eq_false (by intro z; cases z)
  | .str a, .int i, .inr x, .inl j, _, _ => by
    show decide ((Sum.inr x : Key) = Sum.inl j) = false
    exact decide_eq_false (by intro z; cases z)
  | .str a, .str b, .inr x, .inr y, ra, rb => by
    have e1 : x = ⟨a.toArray⟩ := ra
    have e2 : y = ⟨b.toArray⟩ := rb
    subst e1 e2
    show decide ((Sum.inr (⟨a.toArray⟩ : Str) : Key) = Sum.inr ⟨b.toArray⟩) = decide (a = b)
    by_cases h : a = b
    · rw [decide_eq_true h, decide_eq_true (by rw [h])]
    · rw [decide_eq_false h, decide_eq_false (by
        intro z
        injection z with z
        injection z with z
        exact h (by simpa using z))]
theorem eqKs_rel : ∀ {a b : List D} {ka kb : List Key}, Paired KeyR a ka → Paired KeyR b kb → decide (ka = kb) = eqKs a b
  | _, _, _, _, .nil, .nil => rfl
  | _, _, _, _, .nil, .cons _ _ => by exact decide_eq_false (by intro z; cases z)
  | _, _, _, _, .cons _ _, .nil => by exact decide_eq_false (by intro z; cases z)
  | a :: r, b :: s, ka :: kr, kb :: ks, .cons h1 h2, .cons h3 h4 => by
    have e1 := eqK_rel h1 h3
    have e2 := eqKs_rel h2 h4
    show _ = (eqK a b && eqKs r s)
    rw [← e1, ← e2]
    by_cases h : ka = kb
    · by_cases h' : kr = ks
      · rw [decide_eq_true h, decide_eq_true h', decide_eq_true (by rw [h, h'])]; rfl
      · rw [decide_eq_false h', decide_eq_false (by intro z; injection z with _ z; exact h' z), Bool.and_false]
    · rw [decide_eq_false h, decide_eq_false (by intro z; injection z with z; exact h z), Bool.false_and]
class KRel {κ : Type} [DecidableEq κ] (KR : D → κ → Prop) : Prop where
  eq : ∀ {a b : D} {ka kb : κ}, KR a ka → KR b kb → decide (ka = kb) = eqY a b
instance : KRel KeyR := ⟨fun {a b ka kb} ra rb => by
  rw [eqK_rel ra rb]
  cases a with
  | tup xs => exact ra.elim
  | _ => rfl⟩
instance : KRel KeyT := ⟨fun {a b ka kb} ra rb => by
  cases a with
  | tup xs =>
    cases b with
    | tup ys => exact eqKs_rel ra rb
    | _ => exact rb.elim
  | _ => exact ra.elim⟩
section
variable {κ : Type} [DecidableEq κ] {KR : D → κ → Prop} [hE : KRel KR]
theorem PGr.ext {mp' : List Addr} {H' : Hp} {kvs : List (D × D)} {ks : List (κ × V)} (r : PGr KR K mp H kvs ks) (e : Ext K mp H mp' H') : PGr KR K mp' H' kvs ks := Paired.imp (fun _ _ z => ⟨z.1, z.2.ext e⟩) r
end
theorem PK.ext {mp' : List Addr} {H' : Hp} {kvs : List (D × D)} {ks : List (Key × V)} (r : PK K mp H kvs ks) (e : Ext K mp H mp' H') : PK K mp' H' kvs ks := PGr.ext r e
end
def dDGet : D → D → LH → R D := fun x y h => match dicR x h with
  | some (t, kvs) => if keyOk t y = true then (match getK kvs y with
    | some d => .ok d h
    | none => .bad) else .bad
  | none => .bad
section
variable {X : Cx} {W : WX} {o i e value : Expr} {mo mi me : EM} {pos pos' : Pos}
def mDic0 : EM := fun _ h => .ok (.ref h.length) (h ++ [.dic false []])
def mDic1 (mk mv : EM) : EM := fun ls h => (mk ls (h ++ [.dic false []])).bind fun k h1 => (mv ls h1).bind fun v h2 => match h2[h.length]? with
  | some (.dic false []) => if isK k = true then .ok (.ref h.length) (h2.set h.length (.dic false [(k, v)])) else .bad
  | _ => .bad
end
end Rf
set_option Elab.async false
set_option linter.all false
set_option maxRecDepth 100000
set_option maxHeartbeats 400000
set_option autoImplicit false
namespace Rf
open PySem PySem.Spec L2
section
variable {N : Ls → LH → Prop} {T : D → LH → Prop} {B C : Ls → LH → Prop} {X : Exn → Ls → LH → Prop} {Y : Exn → LH → Prop} {ls : Ls} {h : LH}
theorem okR_enum {a : AM} {Q : LI → LH → Prop} : @okR _ (imEnum a ls h) ⟨Q⟩ ⟨Y⟩ = @okR _ (a ls h) ⟨fun ds h => @okR _ (match ds with
  | [.str l] => .ok (liEnumS l) h
  | [.ref n] => (match h[n]? with
    | some (.lst _) => .ok (liEnumL n) h
    | _ => .bad)
  | _ => .bad) ⟨Q⟩ ⟨Y⟩⟩ ⟨Y⟩ := okR_bind
theorem okR_dic0 {Q : D → LH → Prop} : @okR _ (mDic0 ls h) ⟨Q⟩ ⟨Y⟩ = Q (.ref h.length) (h ++ [.dic false []]) := by cases h <;> rfl
theorem okR_dic1 {mk mv : EM} {Q : D → LH → Prop} : @okR _ (mDic1 mk mv ls h) ⟨Q⟩ ⟨Y⟩ = @okR _ (mk ls (h ++ [.dic false []])) ⟨fun k h1 => @okR _ (mv ls h1) ⟨fun v h2 => @okR _ (match h2[h.length]? with
  | some (.dic false []) => if isK k = true then .ok (.ref h.length) (h2.set h.length (.dic false [(k, v)])) else .bad
  | _ => .bad) ⟨Q⟩ ⟨Y⟩⟩ ⟨Y⟩⟩ ⟨Y⟩ := okR_bind.trans (okR_ext fun _ _ => okR_bind)
theorem okS_try {sub : Nat → Option Bool} {i : Nat} {b s : SM} : @okS (mTry sub i b s ls h) ⟨N, T, B, C, X⟩ = @okS (b ls h) ⟨N, T, B, C, fun x ls' h' => match sub x.cls with
  | some true => @okS (s (ls'.set i (some (.ref h'.length))) (h' ++ [.exc x.cls x.fs])) ⟨fun l h => N (l.set i none) h, T, fun l h => B (l.set i none) h, fun l h => C (l.set i none) h, fun _ _ _ => False⟩
  | some false => X x ls' h'
  | none => False⟩ := by
  unfold mTry
  cases hb : b ls h with
  | ex x l' h' =>
    cases hs : sub x.cls with
    | none => simp only [okS, hs]
    | some c => cases c with
      | false => simp only [okS, hs]
      | true =>
        simp only [okS, hs]
        cases s (l'.set i (some (.ref h'.length))) (h' ++ [.exc x.cls x.fs]) <;> rfl
  | _ => rfl
end
theorem cut_to {α : Type} (l : List α) (j : Nat) : cutL l none (some (j : Int)) = l.take j := by
  unfold cutL
  rw [HT.sIx_nat, HT.sIx_none]
  simp
theorem cut_from {α : Type} (l : List α) {c : Nat} (hc : c ≤ l.length) : cutL l (some (c : Int)) none = l.drop c := by
  unfold cutL
  rw [HT.sIx_nat, HT.sIx_none, Nat.min_eq_left hc]
  rw [List.take_of_length_le (by simp)]
theorem exc_cell {K : PySem.W.Frag} {mp : List Addr} {H : Hp} {c : Nat} {a : Addr} (h : RelO K mp H (.exc c []) a) : H a = some (ExcO a (.ref (clsA K c)) none) := by
  obtain ⟨d, h1, h2⟩ := h
  rcases h2.2 with ⟨_, z⟩ | ⟨_, _, ne, _⟩
  · rw [z] at h1; exact h1
  · exact absurd rfl ne
end Rf
set_option Elab.async false
set_option linter.all false
set_option maxRecDepth 100000
set_option maxHeartbeats 400000
set_option autoImplicit false
namespace Rf
open PySem PySem.Spec L2
end Rf
set_option Elab.async false
set_option linter.all false
set_option maxRecDepth 100000
set_option maxHeartbeats 400000
set_option autoImplicit false
namespace Rf
open PySem PySem.Spec L2
def mBad : EM := fun _ _ => .bad
section
variable {X : Cx} {W : WX} {e tg : Expr} {st : Stmt}
theorem re_bad : RE X W e mBad := ⟨fun _ _ _ => False, ⟨fun _ _ _ _ _ _ h => h.elim⟩, fun _ _ _ _ _ _ _ _ q => q.elim⟩
end
end Rf
set_option Elab.async false
set_option linter.all false
set_option maxRecDepth 100000
set_option maxHeartbeats 400000
set_option autoImplicit false
namespace Rf
open PySem PySem.Spec L2
section
variable {X : Cx} {W : WX} {tg a b c : Expr} {ma : AM} {p pos : Pos}
end
def dMin2 : List D → LH → R D := fun ds h => match ds with
  | [.int i, .int j] => .ok (.int (if j < i then j else i)) h
  | _ => .bad
theorem refC2 {K : PySem.W.Frag} {g : Int → Int → Int} {f : List D → LH → R D} (h1 : ∀ ds h, (∀ i j, ds ≠ [.int i, .int j]) → f ds h = .bad) (h2 : ∀ i j h, f [.int i, .int j] h = .ok (.int (g i j)) h) :
    RefC K (fun xs H Q => ∃ i j, xs = [.int i, .int j] ∧ Q (.int (g i j)) H) f := fun mp lh H xs vs Q E rp rs q => by
  by_cases hx : ∃ i j, xs = [.int i, .int j]
  · obtain ⟨i, j, rfl⟩ := hx
    rw [h2] at q
    cases rs with
    | cons x1 y1 =>
      cases y1 with
      | cons x2 y2 =>
        cases y2
        cases x1
        cases x2
        exact ⟨i, j, rfl, q.now rp (.int _)⟩
  · rw [h1 xs lh (fun i j z => hx ⟨i, j, z⟩)] at q
    exact q.elim
theorem c_min2 {X : Cx} (hc : X.calm = true) : RC X (.builtin "min") dMin2 := ⟨_, call_min2 hc, refC2 (g := fun i j => if j < i then j else i) (fun ds h hn => by
  unfold dMin2
  split
  · rename_i i j; exact absurd rfl (hn i j)
  · rfl) (fun _ _ _ => rfl)⟩
section
variable {X : Cx} {x : Str} {c : Nat} {body suite : List Stmt} {b₀ : Stmt} {np pos pos' : Pos} {W : WX} {mb ms : SM} {sub : Nat → Option Bool}
end
section
variable {N : Ls → LH → Prop} {T : D → LH → Prop} {B C : Ls → LH → Prop} {X : Exn → Ls → LH → Prop} {Y : Exn → LH → Prop} {ls : Ls} {h : LH}
end
end Rf
set_option Elab.async false
set_option linter.all false
set_option maxRecDepth 100000
set_option maxHeartbeats 400000
set_option autoImplicit false
namespace Rf
open PySem PySem.Spec L2
theorem tup2 {its : List Value} {i : Int} {x : Str} (r : Vals [.int i, .str x] its) : ∃ t u, its = [.int i t, .str x u] := by
  cases r with
  | cons a r =>
    cases r with
    | cons b r =>
      cases r
      obtain ⟨t, rfl⟩ := a
      obtain ⟨u, rfl⟩ := b
      exact ⟨t, u, rfl⟩
section
variable {N : Ls → LH → Prop} {T : D → LH → Prop} {B C : Ls → LH → Prop} {X : Exn → Ls → LH → Prop} {ls : Ls} {h : LH}
end
end Rf
set_option Elab.async false
set_option linter.all false
set_option maxRecDepth 100000
set_option maxHeartbeats 400000
set_option autoImplicit false
namespace Rf
open PySem PySem.Spec L2
mutual
def refsD : D → List Nat
  | .tup xs => refsDs xs
  | .rol xs => refsDs xs
  | .ktp xs => refsDs xs
  | .fn _ xs => refsDs xs
  | .ref n => [n]
  | _ => []
def refsDs : List D → List Nat
  | [] => []
  | d :: ds => refsD d ++ refsDs ds
end
mutual
def D.ren (f : Nat → Nat) : D → D
  | .tup xs => .tup (renDs f xs)
  | .rol xs => .rol (renDs f xs)
  | .ktp xs => .ktp (renDs f xs)
  | .fn i xs => .fn i (renDs f xs)
  | .ref n => .ref (f n)
  | .non => .non
  | .bl b => .bl b
  | .int i => .int i
  | .str l => .str l
def renDs (f : Nat → Nat) : List D → List D
  | [] => []
  | d :: ds => D.ren f d :: renDs f ds
end
def refsF {α : Type} : List (α × D) → List Nat
  | [] => []
  | (_, d) :: r => refsD d ++ refsF r
def renF {α : Type} (f : Nat → Nat) : List (α × D) → List (α × D)
  | [] => []
  | (i, d) :: r => (i, D.ren f d) :: renF f r
def refsO : LO → List Nat
  | .lst xs => refsDs xs
  | .dic _ kvs => refsF kvs
  | .ins _ fs => refsF fs
  | .exc _ fs => refsF fs
  | .dlk _ kvs => refsF kvs
def LO.ren (f : Nat → Nat) : LO → LO
  | .lst xs => .lst (renDs f xs)
  | .dic t kvs => .dic t (renF f kvs)
  | .ins c fs => .ins c (renF f fs)
  | .exc c fs => .exc c (renF f fs)
  | .dlk t kvs => .dlk t (renF f kvs)
def plainO : LO → Prop
  | .exc _ fs => fs = []
  | .dlk _ _ => False
  | _ => True
section
variable {f g : Nat → Nat}
mutual
theorem ren_back : ∀ {d : D}, (∀ n ∈ refsD d, g (f n) = n) → (d.ren f).ren g = d
  | .tup xs, h => by
    rw [D.ren, D.ren, renDs_back (by simpa [refsD] using h)]
  | .rol xs, h => by
    rw [D.ren, D.ren, renDs_back (by simpa [refsD] using h)]
  | .ktp xs, h => by
    rw [D.ren, D.ren, renDs_back (by simpa [refsD] using h)]
  | .fn _ xs, h => by
    rw [D.ren, D.ren, renDs_back (by simpa [refsD] using h)]
  | .ref n, h => by
    rw [D.ren, D.ren, h n (by simp [refsD])]
  | .non, _ => rfl
  | .bl _, _ => rfl
  | .int _, _ => rfl
  | .str _, _ => rfl
theorem renDs_back : ∀ {ds : List D}, (∀ n ∈ refsDs ds, g (f n) = n) → renDs g (renDs f ds) = ds
  | [], _ => rfl
  | d :: ds, h => by
    rw [renDs, renDs, ren_back (fun n hn => h n (by simp [refsDs, hn])), renDs_back (fun n hn => h n (by simp [refsDs, hn]))]
end
theorem renF_back {α : Type} : ∀ {fs : List (α × D)}, (∀ n ∈ refsF fs, g (f n) = n) → renF g (renF f fs) = fs
  | [], _ => rfl
  | (i, d) :: r, h => by
    rw [renF, renF, ren_back (fun n hn => h n (by simp [refsF, hn])), renF_back (fun n hn => h n (by simp [refsF, hn]))]
theorem renO_back {o : LO} (h : ∀ n ∈ refsO o, g (f n) = n) : (o.ren f).ren g = o := by
  cases o with
  | lst xs => show LO.lst _ = _; rw [renDs_back h]
  | dic t kvs => show LO.dic t _ = _; rw [renF_back h]
  | ins c fs => show LO.ins c _ = _; rw [renF_back h]
  | exc c fs => show LO.exc c _ = _; rw [renF_back h]
  | dlk t kvs => show LO.dlk t _ = _; rw [renF_back h]
mutual
theorem refs_ren : ∀ (d : D), refsD (d.ren f) = (refsD d).map f
  | .tup xs => by rw [D.ren, refsD, refsD, refsDs_ren]
  | .rol xs => by rw [D.ren, refsD, refsD, refsDs_ren]
  | .ktp xs => by rw [D.ren, refsD, refsD, refsDs_ren]
  | .fn _ xs => by rw [D.ren, refsD, refsD, refsDs_ren]
  | .ref n => rfl
  | .non => rfl
  | .bl _ => rfl
  | .int _ => rfl
  | .str _ => rfl
theorem refsDs_ren : ∀ (ds : List D), refsDs (renDs f ds) = (refsDs ds).map f
  | [] => rfl
  | d :: ds => by rw [renDs, refsDs, refsDs, refs_ren, refsDs_ren, List.map_append]
end
theorem refsF_ren {α : Type} : ∀ (fs : List (α × D)), refsF (renF f fs) = (refsF fs).map f
  | [] => rfl
  | (i, d) :: r => by rw [renF, refsF, refsF, refs_ren, refsF_ren, List.map_append]
theorem refsO_ren (o : LO) : refsO (o.ren f) = (refsO o).map f := by
  cases o with
  | lst xs => exact refsDs_ren xs
  | dic t kvs => exact refsF_ren kvs
  | ins c fs => exact refsF_ren fs
  | exc c fs => exact refsF_ren fs
  | dlk t kvs => exact refsF_ren kvs
end
section
variable {K : PySem.W.Frag} {mp mp2 : List Addr} {H : Hp} {f : Nat → Nat}
mutual
theorem RelD.ren : ∀ {d : D} {v : V}, (∀ n ∈ refsD d, ∀ a, mp[n]? = some a → mp2[f n]? = some a) → RelD K mp H d v → RelD K mp2 H (d.ren f) v
  | _, _, _, .non => .non
  | _, _, _, .bl b => .bl b
  | _, _, _, .int i => .int i
  | _, _, _, .str l => .str l
  | _, _, h, .tup hs r => .tup (hs.map (kc_map (g := D.ren f) (gs := renDs f) rfl (fun _ _ => rfl) (fun _ => rfl) (fun _ => rfl))) (RelDs.ren (by simpa [refsD] using h) r)
  | _, _, h, .ktp hs r => .ktp hs (RelDs.ren (by simpa [refsD] using h) r)
  | _, _, h, .rol hs r => .rol hs (RelDs.ren (by simpa [refsD] using h) r)
  | _, _, h, .ref hn => .ref (h _ (by simp [refsD]) _ hn)
theorem RelDs.ren : ∀ {d : List D} {v : List V}, (∀ n ∈ refsDs d, ∀ a, mp[n]? = some a → mp2[f n]? = some a) → RelDs K mp H d v → RelDs K mp2 H (renDs f d) v
  | _, _, _, .nil => .nil
  | _, _, h, .cons a b => .cons (RelD.ren (fun n hn => h n (by simp [refsDs, hn])) a) (RelDs.ren (fun n hn => h n (by simp [refsDs, hn])) b)
end
theorem renF_rel : ∀ {fs : List (Nat × D)} {gs : List (Str × V)}, (∀ n ∈ refsF fs, ∀ a, mp[n]? = some a → mp2[f n]? = some a) → Paired (fun (p : Nat × D) (q : Str × V) => q.1 = nm p.1 ∧ RelD K mp H p.2 q.2) fs gs → Paired (fun (p : Nat × D) (q : Str × V) => q.1 = nm p.1 ∧ RelD K mp2 H p.2 q.2) (renF f fs) gs
  | _, _, _, .nil => .nil
  | (i, d) :: r, _ :: _, h, .cons a b => .cons ⟨a.1, a.2.ren (fun n hn => h n (by simp [refsF, hn]))⟩ (renF_rel (fun n hn => h n (by simp [refsF, hn])) b)
theorem renK_rel {κ : Type} {KR : D → κ → Prop} : ∀ {fs : List (D × D)} {gs : List (κ × V)}, (∀ n ∈ refsF fs, ∀ a, mp[n]? = some a → mp2[f n]? = some a) → Paired (fun (p : D × D) (q : κ × V) => KR p.1 q.1 ∧ RelD K mp H p.2 q.2) fs gs → Paired (fun (p : D × D) (q : κ × V) => KR p.1 q.1 ∧ RelD K mp2 H p.2 q.2) (renF f fs) gs
  | _, _, _, .nil => .nil
  | (i, d) :: r, _ :: _, h, .cons a b => .cons ⟨a.1, a.2.ren (fun n hn => h n (by simp [refsF, hn]))⟩ (renK_rel (fun n hn => h n (by simp [refsF, hn])) b)
theorem RelO.ren {o : LO} {a : Addr} (h : ∀ n ∈ refsO o, ∀ a, mp[n]? = Option.some a → mp2[f n]? = Option.some a) (pl : plainO o) (r : RelO K mp H o a) : RelO K mp2 H (o.ren f) a := by
  cases o with
  | lst ds => obtain ⟨vs, q, r⟩ := r; exact ⟨vs, q, r.ren h⟩
  | dic t kvs => cases t with
    | false => obtain ⟨ks, q, r⟩ := r; exact ⟨ks, q, renK_rel h r⟩
    | true => obtain ⟨ks, q, r⟩ := r; exact ⟨ks, q, renK_rel h r⟩
  | ins c fs => obtain ⟨dx, gs, q, r⟩ := r; exact ⟨dx, gs, q, renF_rel h r⟩
  | exc c fs =>
    have : fs = [] := pl
    subst this
    have := exc_cell r
    exact ⟨none, this, rfl, .inl ⟨rfl, rfl⟩⟩
  | dlk t kvs => exact pl.elim
end
def grow : Nat → LH → List Nat → List Nat → List Nat
  | 0, _, seen, _ => seen
  | _ + 1, _, seen, [] => seen
  | n + 1, h, seen, i :: todo => if i ∈ seen then grow n h seen todo else grow n h (seen ++ [i]) (todo ++ (match h[i]? with
    | some o => refsO o
    | none => []))
structure Valid (h : LH) (ds : List D) (rs : List Nat) : Prop where
  nd : rs.Nodup
  arg : ∀ i ∈ refsDs ds, i ∈ rs
  obj : ∀ i ∈ rs, ∃ o, h[i]? = some o ∧ plainO o ∧ ∀ j ∈ refsO o, j ∈ rs
def ixR (rs : List Nat) (i : Nat) : Nat := rs.idxOf i
def cmpH (rs : List Nat) (h : LH) : LH := rs.map fun i => ((h[i]?).getD (.lst [])).ren (ixR rs)
open Classical in
noncomputable def runC (m : FM) : FM := fun ds h =>
  if Valid h ds (grow 60 h [] (refsDs ds)) then (match m (renDs (ixR (grow 60 h [] (refsDs ds))) ds) (cmpH (grow 60 h [] (refsDs ds)) h) with
    | .ok d g' => if pureD d = true ∧ g'.take (grow 60 h [] (refsDs ds)).length = cmpH (grow 60 h [] (refsDs ds)) h then .ok d h else m ds h
    | .ex x g' => if x.fs = [] ∧ g'.take (grow 60 h [] (refsDs ds)).length = cmpH (grow 60 h [] (refsDs ds)) h then .ex x h else m ds h
    | .bad => m ds h) else m ds h
section
variable {K : PySem.W.Frag} {mp : List Addr} {H : Hp} {lh : LH} {ds : List D} {rs : List Nat}
theorem ixR_get {i : Nat} (hi : i ∈ rs) : rs[ixR rs i]? = some i := by
  unfold ixR
  have := List.idxOf_lt_length_of_mem hi
  rw [List.getElem?_eq_getElem this, List.getElem_idxOf]
theorem ixR_at {i k : Nat} (nd : rs.Nodup) (h : rs[k]? = some i) : ixR rs i = k := by
  have hk := (List.getElem?_eq_some_iff.mp h).1
  have he : rs[k] = i := by rw [List.getElem?_eq_getElem hk] at h; exact Option.some.inj h
  unfold ixR
  rw [← he]
  exact nd.idxOf_getElem k hk
def mpR (rs : List Nat) (mp : List Addr) : List Addr := rs.map fun i => (mp[i]?).getD 0
theorem mpR_get (r : Rep K mp lh H) (V : Valid lh ds rs) {i : Nat} {a : Addr} (hi : i ∈ rs) (ha : mp[i]? = some a) : (mpR rs mp)[ixR rs i]? = some a := by
  unfold mpR
  rw [List.getElem?_map, ixR_get hi]
  simp [ha]
theorem mpR_mem (r : Rep K mp lh H) (V : Valid lh ds rs) {k : Nat} {a : Addr} (h : (mpR rs mp)[k]? = some a) : ∃ i, rs[k]? = some i ∧ mp[i]? = some a := by
  unfold mpR at h
  rw [List.getElem?_map] at h
  obtain ⟨i, h1, h2⟩ := Option.map_eq_some_iff.mp h
  refine ⟨i, h1, ?_⟩
  obtain ⟨o, ho, _⟩ := V.obj i (List.mem_of_getElem? h1)
  have hl : i < mp.length := by rw [r.len]; exact (List.getElem?_eq_some_iff.mp ho).1
  rw [List.getElem?_eq_getElem hl] at h2 ⊢
  rw [← h2]; rfl
theorem mpR_sub (r : Rep K mp lh H) (V : Valid lh ds rs) : ∀ a, a ∈ mpR rs mp → a ∈ mp := fun a ha => by
  obtain ⟨k, hk⟩ := List.getElem?_of_mem ha
  obtain ⟨i, _, h2⟩ := mpR_mem r V hk
  exact List.mem_of_getElem? h2
theorem CloA.less {mp' : List Addr} {id : Nat} {a : Addr} {vs : List V} (s : ∀ a, a ∈ mp' → a ∈ mp) (h : CloA K mp H id a vs) : CloA K mp' H id a vs := by
  obtain ⟨st, name, qual, cl, c, h1, h2, h3, h4, h5, C⟩ := h
  refine ⟨st, name, qual, cl, c, h1, h2, fun z => h3 (s _ z), h4, fun z => h5 (s _ z), C.len, C.all, C.inj, fun i y hi => ?_⟩
  obtain ⟨c, o, u, v, k1, k2, k3, k4, k5, k6⟩ := C.has i y hi
  exact ⟨c, o, u, v, k1, k2, fun z => k3 (s _ z), k4, k5, k6⟩
theorem rep_part (r : Rep K mp lh H) (V : Valid lh ds rs) : Rep K (mpR rs mp) (cmpH rs lh) H := by
  refine ⟨by simp [mpR, cmpH], ?_, fun k o a h1 h2 => ?_, r.tab.less (mpR_sub r V)⟩
  · refine List.pairwise_iff_getElem.mpr fun i j hi hj hij he0 => ?_
    have hjl : j < rs.length := by simpa [mpR] using hj
    obtain ⟨a, ha⟩ : ∃ a, (mpR rs mp)[j]? = some a := ⟨_, List.getElem?_eq_getElem hj⟩
    have he : (mpR rs mp)[i]? = some a := by rw [List.getElem?_eq_getElem hi, he0, ← List.getElem?_eq_getElem hj]; exact ha
    obtain ⟨x, hx1, hx2⟩ := mpR_mem r V he
    obtain ⟨y, hy1, hy2⟩ := mpR_mem r V ha
    have exy : x = y := by
      have hxl := (List.getElem?_eq_some_iff.mp hx2).1
      have hyl := (List.getElem?_eq_some_iff.mp hy2).1
      have e : mp[x] = mp[y] := by
        rw [List.getElem?_eq_getElem hxl] at hx2
        rw [List.getElem?_eq_getElem hyl] at hy2
        rw [Option.some.inj hx2, Option.some.inj hy2]
      exact (List.getElem_inj r.nd).mp e
    subst exy
    have := ixR_at V.nd hx1
    have := ixR_at V.nd hy1
    omega
  · obtain ⟨i, hi, ha⟩ := mpR_mem r V h2
    unfold cmpH at h1
    rw [List.getElem?_map, hi] at h1
    obtain ⟨o', ho', pl, hc⟩ := V.obj i (List.mem_of_getElem? hi)
    simp only [Option.map_some, ho', Option.getD_some, Option.some.injEq] at h1
    subst h1
    exact (r.obj i o' a ho' ha).ren (fun n hn b hb => mpR_get r V (hc n hn) hb) pl
theorem rep_back (r : Rep K mp lh H) (V : Valid lh ds rs) {mp' : List Addr} {H' : Hp} {g' : LH} (e : Ext K (mpR rs mp) H mp' H') (r' : Rep K mp' g' H') (hg : g'.take rs.length = cmpH rs lh) : Ext K mp H mp H' ∧ Rep K mp lh H' := by
  have sub : ∀ a, a ∈ mpR rs mp → a ∈ mp := fun a ha => by
    obtain ⟨k, hk⟩ := List.getElem?_of_mem ha
    obtain ⟨i, _, h2⟩ := mpR_mem r V hk
    exact List.mem_of_getElem? h2
  have ex : Ext K mp H mp H' := ⟨⟨[], by simp⟩, fun b o h1 h2 ht => e.frame b o h1 (fun z => h2 (sub b z)) ht, fun b h1 h2 => absurd h1 h2, e.tup, e.frz, fun b ps h1 h2 => e.tbl b ps h1 (fun z => h2 (sub b z))⟩
  refine ⟨ex, r.len, r.nd, fun i o a h1 h2 => ?_, TabOk.back r e r'.tab⟩
  by_cases hi : i ∈ rs
  · obtain ⟨o', ho', pl, hc⟩ := V.obj i hi
    rw [h1] at ho'
    cases ho'
    have ha' : mp'[ixR rs i]? = some a := e.get (mpR_get r V hi h2)
    have hgk : g'[ixR rs i]? = some (o.ren (ixR rs)) := by
      have hl : ixR rs i < rs.length := (List.getElem?_eq_some_iff.mp (ixR_get hi)).1
      have e1 : (g'.take rs.length)[ixR rs i]? = g'[ixR rs i]? := List.getElem?_take_of_lt hl
      rw [← e1, hg]
      unfold cmpH
      rw [List.getElem?_map, ixR_get hi]
      simp [h1]
    have ro := r'.obj _ _ a hgk ha'
    have pl' : plainO (o.ren (ixR rs)) := by
      cases o with
      | exc c fs => have : fs = [] := pl; subst this; exact rfl
      | dlk t kvs => exact pl.elim
      | _ => trivial
    have back := ro.ren (f := fun k => rs.getD k 0) (mp2 := mp) (fun n hn b hb => by
      rw [refsO_ren] at hn
      obtain ⟨j, hj, rfl⟩ := List.mem_map.mp hn
      have hjr := hc j hj
      have e1 : rs.getD (ixR rs j) 0 = j := by rw [List.getD_eq_getElem?_getD, ixR_get hjr]; rfl
      rw [e1]
      obtain ⟨oj, hoj, _⟩ := V.obj j hjr
      have hjl : j < mp.length := by rw [r.len]; exact (List.getElem?_eq_some_iff.mp hoj).1
      have e2 := e.get (mpR_get r V hjr (List.getElem?_eq_getElem hjl))
      rw [e2] at hb
      rw [List.getElem?_eq_getElem hjl, Option.some.inj hb]) pl'
    rw [renO_back (fun n hn => by
      show rs.getD (ixR rs n) 0 = n
      rw [List.getD_eq_getElem?_getD, ixR_get (hc n hn)]; rfl)] at back
    exact back
  · have ro := r.obj i o a h1 h2
    refine ro.ext ex ?_
    obtain ⟨u, hu⟩ := ro.some
    rw [hu]
    refine e.frame a u hu (fun z => ?_) (ro.nt hu).2
    obtain ⟨k, hk⟩ := List.getElem?_of_mem z
    obtain ⟨j, hj, hb⟩ := mpR_mem r V hk
    have hil := (List.getElem?_eq_some_iff.mp h2).1
    have hjl := (List.getElem?_eq_some_iff.mp hb).1
    have e1 : mp[i] = mp[j] := by
      rw [List.getElem?_eq_getElem hil] at h2
      rw [List.getElem?_eq_getElem hjl] at hb
      rw [Option.some.inj h2, Option.some.inj hb]
    have : i = j := (List.getElem_inj r.nd).mp e1
    exact hi (this ▸ List.mem_of_getElem? hj)
end
theorem FnRef.comp {P : Program} {w : World} {K : PySem.W.Frag} {mg : Str → Option Value} {base : Heap} {k : Nat} {f : Addr} {fd : FuncData} {ps : List Str} {m : FM} (F : FnRef P w K mg base k f fd ps m) : FnRef P w K mg base k f fd ps (runC m) := FnOk.imp F fun vs H Q E ⟨mp, lh, ds, rp, rd, hl, q⟩ => by
  have same : Post K mp H (m ds lh) Q E → spOf K ps.length m vs H Q E := fun q => ⟨mp, lh, ds, rp, rd, hl, q⟩
  unfold runC at q
  generalize grow 60 lh [] (refsDs ds) = rs at q
  split at q
  · rename_i V
    have rlen : ∀ l : List D, (renDs (ixR rs) l).length = l.length := fun l => by
      induction l with
      | nil => rfl
      | cons a l ih => rw [renDs, List.length_cons, List.length_cons, ih]
    have part : Post K (mpR rs mp) H (m (renDs (ixR rs) ds) (cmpH rs lh)) Q E → spOf K ps.length m vs H Q E := fun q => ⟨mpR rs mp, cmpH rs lh, renDs (ixR rs) ds, rep_part rp V, rd.ren (fun n hn a ha => mpR_get rp V (V.arg n hn) ha), by rw [rlen]; exact hl, q⟩
    cases hm : m (renDs (ixR rs) ds) (cmpH rs lh) with
    | bad => rw [hm] at q; exact same q
    | ok d g' =>
      simp only [hm] at q
      split at q
      · rename_i hc
        refine part ?_
        rw [hm]
        intro mp' H' v e r rl
        obtain ⟨ex, re⟩ := rep_back rp V e r hc.2
        exact q mp H' v ex re (rl.pure hc.1)
      · exact same q
    | ex x g' =>
      simp only [hm] at q
      split at q
      · rename_i hc
        refine part ?_
        rw [hm]
        intro mp' H' c dd e r rx
        obtain ⟨ex, re⟩ := rep_back rp V e r hc.2
        refine q mp H' c dd ex re ⟨rx.1, .inl ⟨hc.1, ?_⟩⟩
        rcases rx.2 with ⟨_, z⟩ | ⟨_, _, ne, _⟩
        · exact z
        · exact absurd hc.1 ne
      · exact same q
  · exact same q
theorem Cal.comp {P : Program} {w : World} {K : PySem.W.Frag} {mg : Str → Option Value} {base : Heap} {k : Nat} {x : Str} {ps : List Str} {n : Nat} {ks : List Str} {gd : List D → List D → List D} {mf : FM} (h : Cal P w K mg base k x ps n ks gd mf) : Cal P w K mg base k x ps n ks gd (runC mf) := by
  obtain ⟨fd, F, r⟩ := h
  exact ⟨fd, F.comp, r⟩
end Rf
set_option Elab.async false
set_option linter.all false
set_option maxRecDepth 100000
set_option maxHeartbeats 400000
set_option autoImplicit false
namespace Rf
open PySem PySem.Spec L2
section
variable {K : PySem.W.Frag} {mp mp1 : List Addr} {H H1 : Hp} {lh : LH} {p : Addr}
end
section
variable {X : Cx} {W : WX} {kx vx tg iter : Expr} {ifs : List Expr} {scope : Scope} {own : List (Str × Nat)} {pos : Pos} {wi : IM} {g : GM} {mt : TM} {mk mv : EM}
end
def insLe (x : Int) : List Int → List Int
  | [] => [x]
  | y :: r => if x ≤ y then x :: y :: r else y :: insLe x r
def srtI : List Int → List Int
  | [] => []
  | x :: r => insLe x (srtI r)
theorem insLe_perm (x : Int) : ∀ l : List Int, (insLe x l).Perm (x :: l)
  | [] => .refl _
  | y :: r => by
    unfold insLe
    split
    · exact .refl _
    · exact ((insLe_perm x r).cons y).trans (.swap x y r)
theorem insLe_mem {x z : Int} {l : List Int} : z ∈ insLe x l ↔ z = x ∨ z ∈ l := by
  rw [(insLe_perm x l).mem_iff, List.mem_cons]
theorem insLe_ris {x : Int} : ∀ {l : List Int}, l.Pairwise (· ≤ ·) → (insLe x l).Pairwise (· ≤ ·)
  | [], _ => by simp [insLe]
  | y :: r, h => by
    obtain ⟨h1, h2⟩ := List.pairwise_cons.mp h
    unfold insLe
    split
    · rename_i hle
      refine List.pairwise_cons.mpr ⟨fun z hz => ?_, h⟩
      rcases List.mem_cons.mp hz with e | e
      · rw [e]; exact hle
      · exact Int.le_trans hle (h1 z e)
    · rename_i n1
      refine List.pairwise_cons.mpr ⟨fun z hz => ?_, insLe_ris h2⟩
      rcases insLe_mem.mp hz with e | e
      · rw [e]; omega
      · exact h1 z e
theorem srtI_perm : ∀ l : List Int, (srtI l).Perm l
  | [] => .refl _
  | x :: r => (insLe_perm x _).trans ((srtI_perm r).cons x)
theorem srtI_ris : ∀ l : List Int, (srtI l).Pairwise (· ≤ ·)
  | [] => by simp [srtI]
  | x :: r => insLe_ris (srtI_ris r)
theorem sorted_uniq : ∀ {a b : List Int}, a.Perm b → a.Pairwise (· ≤ ·) → b.Pairwise (· ≤ ·) → a = b := fun p ha hb =>
  p.eq_of_pairwise (fun x y _ _ h1 h2 => Int.le_antisymm h1 h2) ha hb
def dSorted : D → LH → R D := fun d h => match asRd d h with
  | some xs => (match allI xs with
    | some ns => .ok (.ref h.length) (h ++ [.lst ((srtI ns).map .int)])
    | none => .bad)
  | none => .bad
theorem c_sorted {X : Cx} : RC X (.builtin "sorted") (f1 dSorted) := by
  refine ⟨_, cr_sortedI, refC1 fun mp lh H x v Q E rp rx q => ?_⟩
  unfold dSorted at q
  cases e1 : asRd x lh with
  | none => simp only [e1] at q; exact q.elim
  | some xs =>
    simp only [e1] at q
    cases e2 : allI xs with
    | none => simp only [e2] at q; exact q.elim
    | some ns =>
      simp only [e2] at q
      obtain ⟨n, a, us, rfl, rfl, _, h2, h3⟩ := asRd_of rp rx e1
      have hu : us = ns.map V.int := allI_rel h3 e2
      subst hu
      refine ⟨a, ns, rfl, h2, fun ns' p hpm hs hp => ?_⟩
      have : ns' = srtI ns := sorted_uniq (hpm.trans (srtI_perm ns).symm) hs (srtI_ris ns)
      subst this
      exact q (mp ++ [p]) _ _ (.alloc rp hp) (rp.alloc hp ⟨_, upd_same, relDs_ints _⟩) (.ref (by rw [← rp.len]; simp))
end Rf
set_option Elab.async false
set_option linter.all false
set_option maxRecDepth 100000
set_option maxHeartbeats 400000
set_option autoImplicit false
namespace Rf
open PySem PySem.Spec L2
def mAugFld (f : D → D → LH → R D) (c i : Nat) (mo me : EM) : SM := fun ls h => liftE (mo ls h) ls fun o h1 => match o with
  | .ref n => (match fldOf [c] i n h1 with
    | some x => liftE ((me ls h1).bind fun y h2 => f x y h2) ls fun z h3 => (match setFld [c] i n z h3 with
      | some h4 => .nx ls h4
      | none => .bad)
    | none => .bad)
  | _ => .bad
section
variable {X : Cx} {W : WX} {o value : Expr} {fn : Str} {mo me : EM} {pos tpos : Pos} {c i : Nat} {op : Operator} {f : D → D → LH → R D}
end
end Rf
set_option Elab.async false
set_option linter.all false
set_option maxRecDepth 100000
set_option maxHeartbeats 400000
set_option autoImplicit false
namespace Rf
open PySem PySem.Spec L2
section
variable {K : PySem.W.Frag} {W : WX} {t : TS} {m : SM}
end
end Rf
set_option Elab.async false
set_option linter.all false
set_option maxRecDepth 100000
set_option maxHeartbeats 400000
set_option autoImplicit false
namespace Rf
open PySem PySem.Spec L2
end Rf
set_option Elab.async false
set_option linter.all false
set_option maxRecDepth 100000
set_option maxHeartbeats 400000
set_option autoImplicit false
namespace Rf
open PySem PySem.Spec L2
def exT (tf : List He.Defn) (K : PySem.W.Frag) : Bool := (ndL.all fun x => decide ((Str.ofString x, none) ∈ tf) || (fdOf K x).isNone) && decide (((tabsOf K).map (·.1)).Nodup)
def obsT (n : Nat) (fx : List Fx) (fa : List He.Fa) (fn : List He.DefD) (tf : List He.Defn) (g : Addr → Option Obj) : AlX :=
  (fxAll fx (He.frT g (He.asD g n)) && (exT tf (He.frT g (He.asD g n)) && He.tabsB g tf (He.frT g (He.asD g n))), He.obsD fa fn (He.frT g (He.asD g n)))
structure SaysT (fx : List Fx) (fa : List He.Fa) (fn : List He.DefD) (tf : List He.Defn) (h : Heap) (K : PySem.W.Frag) : Prop where
  x : fxAll fx K = true
  c : He.SaysD fa fn K
  ex : exT tf K = true
  hd : ∀ p ∈ tf, PySem.W.codeHdIn K (He.cT K p).1 (He.cT K p).2 = true
  out : ∀ p ∈ tf, K.lookup (He.cT K p).2 = none
  empty : ∀ p ∈ tf, h.get? (He.cT K p).2 = some { cls := .none, data := .fields #[] }
theorem saysT_of {n : Nat} {fx : List Fx} {fa : List He.Fa} {fn : List He.DefD} {tf : List He.Defn} {h : Heap} (e : obsT n fx fa fn tf h.get? = (true, He.valD fn)) : SaysT fx fa fn tf h (He.frT h.get? (He.asD h.get? n)) := by
  have e1 := congrArg Prod.fst e
  have e2 := congrArg Prod.snd e
  simp only [obsT, Bool.and_eq_true] at e1
  obtain ⟨h1, h2, h3⟩ := e1
  have key : ∀ p ∈ tf, PySem.W.codeHdIn (He.frT h.get? (He.asD h.get? n)) (He.cT (He.frT h.get? (He.asD h.get? n)) p).1 (He.cT (He.frT h.get? (He.asD h.get? n)) p).2 = true ∧ ∃ o, h.get? (He.cT (He.frT h.get? (He.asD h.get? n)) p).2 = some o ∧ He.emptyTab o = true := fun p hp => by
    have z := List.all_eq_true.mp h3 p hp
    rw [Bool.and_eq_true] at z
    refine ⟨z.1, ?_⟩
    have z2 := z.2
    split at z2
    · rename_i o q; exact ⟨o, q, z2⟩
    · cases z2
  refine ⟨h1, e2, h2, fun p hp => (key p hp).1, fun p hp => ?_, fun p hp => ?_⟩
  · obtain ⟨_, o, q, z⟩ := key p hp
    exact He.frT_none q z
  · obtain ⟨_, o, q, z⟩ := key p hp
    rw [q, He.emptyTab_eq z]
def hookT (n : Nat) (fx : List Fx) (fa : List He.Fa) (fn : List He.DefD) (tf : List He.Defn) : PySem.W.Hook where
  α := AlX
  obs := fun s => obsT n fx fa fn tf s.heap.get?
  val := fun _ => (true, He.valD fn)
  says := fun _ h => ∃ K : PySem.W.Frag, K.In h ∧ SaysT fx fa fn tf h K
  of := fun _ _ e => ⟨_, He.frT_in, saysT_of e⟩
  keeps := fun _ _ _ ⟨K, hK, c⟩ k => ⟨K, PySem.W.Frag.In.keeps hK k, ⟨c.x, c.c, c.ex, c.hd, c.out, fun p hp => k _ _ (c.empty p hp)⟩⟩
theorem obsT_eq {n : Nat} {fx : List Fx} {fa : List He.Fa} {fn : List He.DefD} {tf : List He.Defn} {g : Addr → Option Obj} {s : Shared} (h : ∀ a, g a = s.heap.get? a) : obsT n fx fa fn tf g = (hookT n fx fa fn tf).obs s := by
  have e : g = s.heap.get? := funext h
  rw [e] <;> rfl
section
variable {fx : List Fx} {fa : List He.Fa} {fn : List He.DefD} {tf : List He.Defn} {h : Heap} {K : PySem.W.Frag} {mg : Str → Option Value} {base : Heap}
theorem ct_of {x : String} {fd : FuncData} {c P : Addr} (h1 : fdOf K x = some fd) (h2 : fd.code = .ref c) (h3 : tabA K fd = some P) : He.cT K (Str.ofString x, none) = (c, P) := by
  unfold fdOf at h1
  split at h1
  · rename_i oc od fd' osl lk
    cases h1
    have e1 : He.codeOf K (Str.ofString x, none) = c := He.codeOf_eq lk h2
    have e2 : He.tabOf K c = P := by
      unfold tabA at h3
      rw [h2] at h3
      dsimp only at h3
      unfold He.tabOf
      split at h3
      · rename_i lk2
        rw [lk2]
        dsimp only
        split at h3
        · rename_i e; rw [e]; exact Option.some.inj h3
        · cases h3
      · cases h3
    unfold He.cT
    rw [e1, e2]
  · cases h1
theorem ex_mem (e : exT tf K = true) {x : String} {fd : FuncData} (hx : x ∈ ndL) (h1 : fdOf K x = some fd) : (Str.ofString x, none) ∈ tf := by
  unfold exT at e
  rw [Bool.and_eq_true] at e
  have z := List.all_eq_true.mp e.1 x hx
  rw [Bool.or_eq_true] at z
  rcases z with z | z
  · exact of_decide_eq_true z
  · rw [h1] at z; cases z
theorem tab_start (e : exT tf K = true) {H : Hp} (hH : ∀ p ∈ tf.map (He.cT K), H p.2 = some (.tbl #[])) : TabOk K [] H := ⟨fun q hq => by
  unfold tabsOf at hq
  obtain ⟨x, hx, hq⟩ := List.mem_filterMap.mp hq
  cases h1 : fdOf K x with
  | none => rw [h1] at hq; cases hq
  | some fd =>
    rw [h1] at hq
    dsimp only at hq
    cases h3 : tabA K fd with
    | none => rw [h3] at hq; cases hq
    | some P =>
      rw [h3] at hq
      cases hq
      have h2 : ∃ c, fd.code = .ref c := by
        unfold tabA at h3
        split at h3
        · rename_i c e; exact ⟨c, e⟩
        · cases h3
      obtain ⟨c, h2⟩ := h2
      have := hH _ (List.mem_map.mpr ⟨_, ex_mem e hx h1, rfl⟩)
      rw [ct_of h1 h2 h3] at this
      exact ⟨#[], this, True.intro, fun pos cv z => by
        have z : codeAmong pos [] = some cv := z
        simp [codeAmong] at z⟩⟩
theorem fc_of (S : SaysT fx fa fn tf h K) (X : K.In h) (G : h.Ns mainGlobals mg) (TB : ∀ p ∈ tf.map (He.cT K), LamX.TabB base mg p.1 p.2) : Fc fx fa fn K mg base := by
  refine ⟨S.x, S.c, ⟨h, X, G⟩, fun x fd c P hx h1 h2 h3 => ?_, ?_⟩
  · have := TB _ (List.mem_map.mpr ⟨_, ex_mem S.ex hx h1, rfl⟩)
    rw [ct_of h1 h2 h3] at this
    exact this
  · have e := S.ex
    unfold exT at e
    rw [Bool.and_eq_true] at e
    exact of_decide_eq_true e.2
theorem law_at {l : PySem.W.OpenLaw} {w : World} {k n : Nat} {x : Str} {f : Addr} {m : FM} {fd : FuncData} (X : K.In h) (S : SaysT fx fa fn tf h K) (hb : ∀ (s : Shared) (v : Value), BindsTo s fd ⟨[v], []⟩ [(x, v)])
    (F : ∀ base : Heap, (∀ p ∈ tf.map (He.cT K), LamX.TabB base mg p.1 p.2) → FnRef l.prog w K mg base k f fd [x] m) (hm : ∀ ns : List Int, ∃ h', m [.rol (ns.map D.int)] [] = .ok (.bl true) h') : LamX.LawAtS l w K CXn k n x mg f h := by
  refine ⟨fd, tf.map (He.cT K), spLaw K, fun p hp => ?_, fun p hp => ?_, fun p hp => ?_, hb, fun H a ns _ _ hH hS => ⟨a, ns, rfl, tab_start S.ex hH, hS, fun _ => rfl⟩, fun base _ _ TB => fn_law (F base TB) hm⟩
  · obtain ⟨q, hq, rfl⟩ := List.mem_map.mp hp
    exact S.empty q hq
  · obtain ⟨q, hq, rfl⟩ := List.mem_map.mp hp
    exact S.out q hq
  · obtain ⟨q, hq, rfl⟩ := List.mem_map.mp hp
    exact PySem.W.codeHd_of_K X (S.hd q hq)
end
end Rf
set_option Elab.async false
set_option linter.all false
set_option maxRecDepth 100000
set_option maxHeartbeats 400000
set_option autoImplicit false
namespace Rf
open PySem PySem.Spec PyProof.Rows L2
def gotD (d : D) (k x : D) (h : LH) : R D := match dicR d h with
  | some (t, kvs) => if keyOk t k = true then .ok ((getK kvs k).getD x) h else .bad
  | none => .bad
def isDic (d : D) (h : LH) : Bool := (dicR d h).isSome
def mGet1 (mo mk : EM) : EM := fun ls h => (mo ls h).bind fun d h1 => if isDic d h1 = true then (mk ls h1).bind fun k h2 => gotD d k .non h2 else .bad
def mGet2 (mo mk mx : EM) : EM := fun ls h => (mo ls h).bind fun d h1 => if isDic d h1 = true then (mk ls h1).bind fun k h2 => (mx ls h2).bind fun x h3 => gotD d k x h3 else .bad
section
variable {X : Cx} {W : WX} {o e f : Expr} {mo mk mx me : EM} {apos cpos : Pos}
end
end Rf
set_option Elab.async false
set_option linter.all false
set_option maxRecDepth 100000
set_option maxHeartbeats 400000
set_option autoImplicit false
namespace Rf
open PySem PySem.Spec PyProof.Rows L2
section
variable {K : PySem.W.Frag} {mp mp' : List Addr} {H H' : Hp} {lh lh1 lh2 lh3 : LH} {n : Nat}
end
section
variable {X : Cx} {W : WX} {e : Expr} {st : Stmt} {me m : EM} {ms : SM}
def imKeys (me : EM) : IM := fun ls h => (me ls h).bind fun d h1 => match d with
  | .ref n => (match h1[n]? with
    | some (.dlk _ kvs) => .ok (liSeq (kvs.map (·.1))) h1
    | _ => .bad)
  | _ => .bad
end
end Rf
set_option Elab.async false
set_option linter.all false
set_option maxRecDepth 100000
set_option maxHeartbeats 400000
set_option autoImplicit false
namespace Rf
open PySem PySem.Spec L2
section
variable {N : Ls → LH → Prop} {T : D → LH → Prop} {B C : Ls → LH → Prop} {X : Exn → Ls → LH → Prop} {Y : Exn → LH → Prop} {ls : Ls} {h : LH}
theorem okR_get1 {mo mk : EM} {Q : D → LH → Prop} : @okR _ (mGet1 mo mk ls h) ⟨Q⟩ ⟨Y⟩ = @okR _ (mo ls h) ⟨fun d h => @okR _ (if isDic d h = true then (mk ls h).bind fun k h2 => gotD d k .non h2 else .bad) ⟨Q⟩ ⟨Y⟩⟩ ⟨Y⟩ := okR_bind
theorem okR_get2 {mo mk mx : EM} {Q : D → LH → Prop} : @okR _ (mGet2 mo mk mx ls h) ⟨Q⟩ ⟨Y⟩ = @okR _ (mo ls h) ⟨fun d h => @okR _ (if isDic d h = true then (mk ls h).bind fun k h2 => (mx ls h2).bind fun x h3 => gotD d k x h3 else .bad) ⟨Q⟩ ⟨Y⟩⟩ ⟨Y⟩ := okR_bind
theorem okR_keys {me : EM} {Q : LI → LH → Prop} : @okR _ (imKeys me ls h) ⟨Q⟩ ⟨Y⟩ = @okR _ (me ls h) ⟨fun d h => @okR _ (match d with
  | .ref n => (match h[n]? with
    | some (.dlk _ kvs) => .ok (liSeq (kvs.map (·.1))) h
    | _ => .bad)
  | _ => .bad) ⟨Q⟩ ⟨Y⟩⟩ ⟨Y⟩ := okR_bind
theorem okS_augFld {f : D → D → LH → R D} {c i : Nat} {mo me : EM} : @okS (mAugFld f c i mo me ls h) ⟨N, T, B, C, X⟩ = @okR _ (mo ls h) ⟨fun o h => @okS (match o with
  | .ref n => (match fldOf [c] i n h with
    | some x => liftE ((me ls h).bind fun y h2 => f x y h2) ls fun z h3 => (match setFld [c] i n z h3 with
      | some h4 => .nx ls h4
      | none => .bad)
    | none => .bad)
  | _ => .bad) ⟨N, T, B, C, X⟩⟩ ⟨fun x h => X x ls h⟩ := okS_lift
end
theorem set_set {h : LH} {n : Nat} {o o' : LO} : (h.set n o).set n o' = h.set n o' := by simp
end Rf
set_option Elab.async false
set_option linter.all false
set_option maxRecDepth 100000
set_option maxHeartbeats 400000
set_option autoImplicit false
namespace Rf
open PySem PySem.Spec PyProof.Rows L2 NdefX LamX
def del (cs : List Addr) (H : Hp) : Hp := fun b => if b ∈ cs then none else H b
def CellsT (cs : List Addr) (H : Hp) : Prop := ∀ c ∈ cs, ∃ o, H c = some (CellO c o)
theorem del_out {cs : List Addr} {H : Hp} {b : Addr} (h : b ∉ cs) : del cs H b = H b := if_neg h
section
variable {P : Program} {w : World} {K : PySem.W.Frag} {mg : Str → Option Value} {base : Heap} {A : Around} {outer : List Env} {s s' : Shared} {H H2 : Hp} {cs : List Addr} {mp mp2 : List Addr} {lh lh2 : LH}
theorem CellsT.ne (C : CellsT cs H) {b : Addr} {u : HO} (h : H b = some u) (hn : ∀ o, u ≠ CellO b o) : b ∉ cs := fun z => by
  obtain ⟨o, e⟩ := C b z
  rw [h] at e
  exact hn o (Option.some.inj e)
theorem CellsT.keep (C : CellsT cs H) {b : Addr} {u : HO} (h : H b = some u) (hn : ∀ o, u ≠ CellO b o) : del cs H b = some u := by rw [del_out (C.ne h hn)]; exact h
end
end Rf
set_option Elab.async false
set_option linter.all false
set_option maxRecDepth 100000
set_option maxHeartbeats 400000
set_option autoImplicit false
namespace Rf
open PySem PySem.Spec PyProof.Rows L2 NdefX LamX
section
variable {P : Program} {w : World} {K : PySem.W.Frag} {mg : Str → Option Value} {base : Heap} {N ps fr : List Str} {F : NF} {f : Addr} {k : Nat} {b : SM}
end
section
variable {X : Cx} {W : WX} {k n i : Nat} {x : Str} {mm : Nat → Option FM} {e : Expr} {es : List Expr} {ma : AM} {p pos : Pos}
end
end Rf
set_option Elab.async false
set_option linter.all false
set_option maxRecDepth 100000
set_option maxHeartbeats 400000
set_option autoImplicit false
namespace Rf
open PySem PySem.Spec PyProof.Rows L2 NdefX LamX
section
variable {X : Cx} {pins : List (Addr × Obj)} {σ : L2.St} {H : Hp} {s : Shared} {cs : List Addr} {ob : Addr → Obj}
end
section
variable {K : PySem.W.Frag} {mp mp2 : List Addr} {lh lh2 : LH} {H H2 : Hp} {cs : List Addr} {ob : Addr → Obj}
end
def MkAt (X : Cx) (mp : List Addr) (H : Hp) (st : Stmt) (name : Str) (a : Addr) : Prop := ∃ c, H a = some (FnO a (NF.of st name (X.env.qual ++ name) (cloFrom X.env.cells (C8.fnScope st).names []) c)) ∧ a ∉ mp ∧ H c = some (CodeO c (X.env.qual ++ name)) ∧ c ∉ mp
theorem MkAt.ext {X : Cx} {mp mp' : List Addr} {H H' : Hp} {st : Stmt} {name : Str} {a : Addr} (h : MkAt X mp H st name a) (e : Ext X.K mp H mp' H') : MkAt X mp' H' st name a := by
  obtain ⟨c, h1, h2, h3, h4⟩ := h
  exact ⟨c, e.frame _ _ h1 h2 nt_fn, e.out0 h1 h2, e.frame _ _ h3 h4 nt_cd, e.out0 h3 h4⟩
structure NdOk (X : Cx) (st : Stmt) (name : Str) (i : Nat) : Prop where
  ex : ∃ (nm : Nat → Nat → Str) (c P : Addr) (pos : Pos), st = .FunctionDef name (C8.fnArgs st) (C8.fnBody st) [] none [] (C8.fnScope st) none name pos ∧ TabB X.base X.mg c P ∧ X.env.code = .ref c ∧ (P, nm) ∈ tabsOf X.K ∧ nm pos.line pos.col = X.env.qual ++ name ∧ (∀ p ∈ tabsOf X.K, p.1 = P → p.2 = nm)
  fr : ∀ y ∈ (C8.fnScope st).names, y.2 = .free → X.env.scope.names.lookup y.1 = some .cell ∨ X.env.scope.names.lookup y.1 = some .free
  d0 : (C8.fnArgs st).defaults = []
  k0 : (C8.fnArgs st).kw_defaults = []
  an : annTrees (C8.fnArgs st) none X.env = []
  nd : X.N.Nodup
  at_ : X.N[i]? = some name
  lc : Loc X.env.scope name
  hf : X.fn name = true ∨ X.env.scope.names.lookup name = some .local
section
variable {X : Cx} {st : Stmt} {name : Str} {i : Nat}
end
end Rf
set_option Elab.async false
set_option linter.all false
set_option maxRecDepth 100000
set_option maxHeartbeats 400000
set_option autoImplicit false
namespace Rf
open PySem PySem.Spec PyProof.Rows L2 NdefX LamX
abbrev RelFs (K : PySem.W.Frag) (mp : List Addr) (H : Hp) : List D → List V → Prop := Paired (RelF K mp H)
theorem RelDs.fs {K : PySem.W.Frag} {mp : List Addr} {H : Hp} : ∀ {ds : List D} {vs : List V}, RelDs K mp H ds vs → RelFs K mp H ds vs
  | _, _, .nil => .nil
  | _, _, .cons a b => .cons a.f (RelDs.fs b)
section
variable {P : Program} {w : World} {K : PySem.W.Frag} {mg : Str → Option Value} {base : Heap} {x qual : Str} {params : Arguments} {body : List Stmt} {scope : Scope} {dvs : List V} {kws : List (Str × V)} {f : Addr} {fd : FuncData} {N ps : List Str} {k : Nat} {b : SM} {m : FM}
end
section
variable {X : Cx} {pins : List (Addr × Obj)} {σ : L2.St} {H : Hp} {s : Shared} {mp : List Addr} {ls : Ls} {st : Stmt} {name : Str} {id : Nat} {js : List Nat} {ds : List D} {a : Addr}
end
structure Two (X : Cx) (mp : List Addr) (H : Hp) (σ : L2.St) (st1 st2 : Stmt) (n1 n2 : Str) (i1 i2 : Nat) : Prop where
  one : ∃ a, σ[i1]? = some (some (.ref a)) ∧ MkAt X mp H st1 n1 a
  two : ∃ a, σ[i2]? = some (some (.ref a)) ∧ MkAt X mp H st2 n2 a
section
variable {X : Cx} {W : WX} {k : Nat} {x n1 n2 : Str} {ps : List Str} {mb : FM} {e1 e2 : Expr} {m1 m2 : EM} {st1 st2 : Stmt} {i1 i2 id1 id2 : Nat} {js1 js2 : List Nat} {p p1 p2 pos : Pos}
end
end Rf
set_option Elab.async false
set_option linter.all false
set_option maxRecDepth 100000
set_option maxHeartbeats 400000
set_option autoImplicit false
namespace Rf
open PySem PySem.Spec PyProof.Rows L2 NdefX LamX
structure FnIs (K : PySem.W.Frag) (x : String) (fd : FuncData) (qual : Str) (body : List Stmt) (cdv : Value) : Prop where
  lk : fdOf K x = some fd
  code : fd.code = cdv
  q : fd.qualname = qual
  b : fnBd fd.body = body
  cd : ∃ c, cdv = .ref c
section
variable {P : Program} {w : World} {K : PySem.W.Frag} {mg : Str → Option Value} {base : Heap} {qual : Str} {params : Arguments} {body : List Stmt} {scope : Scope} {fd : FuncData} {N ps ks : List Str} {k n : Nat} {b : SM} {x : String} {gd : List D → List D → List D}
theorem nodup_fst {α β : Type} {l : List (α × β)} (nd : (l.map (·.1)).Nodup) {p q : α × β} (hp : p ∈ l) (hq : q ∈ l) (e : p.1 = q.1) : p = q := by
  induction l with
  | nil => simp at hp
  | cons a r ih =>
    rw [List.map_cons, List.nodup_cons] at nd
    rcases List.mem_cons.mp hp with z | z <;> rcases List.mem_cons.mp hq with z' | z'
    · rw [z, z']
    · exact absurd (List.mem_map.mpr ⟨q, z', by rw [← e, z]⟩) nd.1
    · exact absurd (List.mem_map.mpr ⟨p, z, by rw [e, z']⟩) nd.1
    · exact ih nd.2 z z'
end
section
variable {X : Cx} {W : WX} {k : Nat} {y : Str} {ps : List Str} {ml : FM} {e : Expr} {m : EM} {st1 st2 : Stmt} {n1 n2 : Str} {i1 i2 : Nat} {p pos : Pos}
end
end Rf
set_option Elab.async false
set_option linter.all false
set_option maxRecDepth 100000
set_option maxHeartbeats 400000
set_option autoImplicit false
namespace Rf
open PySem PySem.Spec PyProof.Rows L2 NdefX LamX
section
variable {P : Program} {w : World} {K : PySem.W.Frag} {mg : Str → Option Value} {base : Heap} {k n id : Nat} {m : FM} {l : List (Nat × FM)} {st : Stmt} {ps : List Str}
end
end Rf
set_option Elab.async false
set_option linter.all false
set_option maxRecDepth 100000
set_option maxHeartbeats 400000
set_option autoImplicit false
namespace Rf
open PySem PySem.Spec L2
def cdT (t : List Int) : Int := TS.code 4096 t
def insC (x : List Int) : List (List Int) → List (List Int)
  | [] => [x]
  | y :: r => if cdT x < cdT y then x :: y :: r else if cdT x = cdT y then y :: r else y :: insC x r
section
variable {S : List Int → Prop} (inj : ∀ x y, S x → S y → cdT x = cdT y → x = y)
include inj
end
section
variable {K : PySem.W.Frag} {mp : List Addr} {H : Hp}
end
end Rf
set_option Elab.async false
set_option linter.all false
set_option maxRecDepth 100000
set_option maxHeartbeats 400000
set_option autoImplicit false
namespace Rf
open PySem PySem.Spec L2
end Rf
set_option Elab.async false
set_option linter.all false
set_option maxRecDepth 100000
set_option maxHeartbeats 400000
set_option autoImplicit false
namespace BL
section dd
variable {α β : Type}
open Classical in
noncomputable def ddA (acc : List α) : List α → List α
  | [] => acc
  | x :: r => ddA (if x ∈ acc then acc else acc ++ [x]) r
noncomputable def dd (l : List α) : List α := ddA [] l
theorem ddA_old {acc : List α} {x : α} {r : List α} (h : x ∈ acc) : ddA acc (x :: r) = ddA acc r := by rw [ddA, if_pos h]
theorem ddA_new {acc : List α} {x : α} {r : List α} (h : x ∉ acc) : ddA acc (x :: r) = ddA (acc ++ [x]) r := by rw [ddA, if_neg h]
theorem ddA_append : ∀ (l m : List α) (acc : List α), ddA acc (l ++ m) = ddA (ddA acc l) m
  | [], m, acc => rfl
  | x :: r, m, acc => by rw [List.cons_append, ddA, ddA, ddA_append r m]
theorem ddA_mem {z : α} : ∀ (l : List α) (acc : List α), z ∈ ddA acc l ↔ z ∈ acc ∨ z ∈ l
  | [], acc => by simp [ddA]
  | x :: r, acc => by
    by_cases h : x ∈ acc
    · rw [ddA_old h, ddA_mem r]
      constructor
      · rintro (a | a)
        · exact .inl a
        · exact .inr (List.mem_cons_of_mem _ a)
      · rintro (a | a)
        · exact .inl a
        · rcases List.mem_cons.mp a with rfl | a
          · exact .inl h
          · exact .inr a
    · rw [ddA_new h, ddA_mem r, List.mem_append, List.mem_singleton, List.mem_cons, or_assoc]
theorem ddA_nodup : ∀ (l : List α) (acc : List α), acc.Nodup → (ddA acc l).Nodup
  | [], acc, h => h
  | x :: r, acc, h => by
    by_cases hx : x ∈ acc
    · rw [ddA_old hx]; exact ddA_nodup r acc h
    · rw [ddA_new hx]
      refine ddA_nodup r _ (List.nodup_append.mpr ⟨h, by simp, fun a ha b hb => ?_⟩)
      rw [List.mem_singleton] at hb; subst hb
      exact fun e => hx (e ▸ ha)
theorem ddA_pre : ∀ (l : List α) (acc : List α), acc <+: ddA acc l
  | [], acc => List.prefix_rfl
  | x :: r, acc => by
    by_cases hx : x ∈ acc
    · rw [ddA_old hx]; exact ddA_pre r acc
    · rw [ddA_new hx]; exact (List.prefix_append acc [x]).trans (ddA_pre r _)
theorem ddA_all : ∀ (l : List α) (acc : List α), (∀ x ∈ l, x ∈ acc) → ddA acc l = acc
  | [], _, _ => rfl
  | x :: r, acc, h => by rw [ddA_old (h x List.mem_cons_self)]; exact ddA_all r acc fun y hy => h y (List.mem_cons_of_mem _ hy)
theorem dd_mem {z : α} {l : List α} : z ∈ dd l ↔ z ∈ l := by unfold dd; rw [ddA_mem]; simp
theorem dd_nodup (l : List α) : (dd l).Nodup := ddA_nodup l [] List.nodup_nil
theorem dd_cons (x : α) (r : List α) : dd (x :: r) = ddA [x] r := by unfold dd; rw [ddA_new (by simp)]; rfl
theorem ddA_of_nodup : ∀ (l acc : List α), l.Nodup → (∀ x ∈ l, x ∉ acc) → ddA acc l = acc ++ l
  | [], acc, _, _ => by simp [ddA]
  | x :: r, acc, h, hn => by
    obtain ⟨h1, h2⟩ := List.nodup_cons.mp h
    rw [ddA_new (hn x List.mem_cons_self), ddA_of_nodup r _ h2, List.append_assoc]; rfl
    intro y hy
    rw [List.mem_append, List.mem_singleton, not_or]
    exact ⟨hn y (List.mem_cons_of_mem _ hy), fun e => h1 (e ▸ hy)⟩
theorem dd_of_nodup {l : List α} (h : l.Nodup) : dd l = l := by unfold dd; rw [ddA_of_nodup l [] h (by simp)]; rfl
theorem ddA_map (f : α → β) : ∀ (l acc : List α) (b : List β), (∀ x ∈ acc, f x ∈ b) → ddA b ((ddA acc l).map f) = ddA b ((acc ++ l).map f)
  | [], acc, b, _ => by simp [ddA]
  | x :: r, acc, b, h => by
    by_cases hx : x ∈ acc
    · rw [ddA_old hx, ddA_map f r acc b h]
      rw [List.map_append, List.map_append, List.map_cons, ddA_append, ddA_append]
      rw [ddA_old]
      exact (ddA_mem _ _).mpr (.inl (h x hx))
    · rw [ddA_new hx]
      have key : ∀ (r acc : List α) (b : List β), ddA b ((ddA acc r).map f) = ddA b ((acc ++ r).map f) := by
        intro r
        induction r with
        | nil => intro acc b; simp [ddA]
        | cons y s ih =>
          intro acc b
          by_cases hy : y ∈ acc
          · rw [ddA_old hy, ih]
            rw [List.map_append, List.map_append, List.map_cons, ddA_append, ddA_append, ddA_old]
            exact (ddA_mem _ _).mpr (.inr (List.mem_map.mpr ⟨y, hy, rfl⟩))
          · rw [ddA_new hy, ih, List.append_assoc]; rfl
      rw [key, List.append_assoc]; rfl
theorem dd_map (f : α → β) (l : List α) (b : List β) : ddA b ((dd l).map f) = ddA b (l.map f) := by
  have := ddA_map f l [] b (by simp); simpa [dd] using this
theorem ddA_flat (g : α → List β) : ∀ (l acc : List α) (b : List β), ddA b ((ddA acc l).flatMap g) = ddA b ((acc ++ l).flatMap g)
  | [], acc, b => by simp [ddA]
  | y :: s, acc, b => by
    by_cases hy : y ∈ acc
    · rw [ddA_old hy, ddA_flat g s]
      rw [List.flatMap_append, List.flatMap_append, List.flatMap_cons, ddA_append, ddA_append, ddA_append, ddA_all (g y)]
      intro x hx
      exact (ddA_mem _ _).mpr (.inr (List.mem_flatMap.mpr ⟨y, hy, hx⟩))
    · rw [ddA_new hy, ddA_flat g s, List.append_assoc]; rfl
theorem dd_flat (g : α → List β) (l : List α) (b : List β) : ddA b ((dd l).flatMap g) = ddA b (l.flatMap g) := by
  have := ddA_flat g l [] b; simpa [dd] using this
end dd
section bfs
variable {α β : Type}
inductive Reach (succ : α → List α) (s : α) : α → Prop
  | base : Reach succ s s
  | step {a b : α} : Reach succ s a → b ∈ succ a → Reach succ s b
structure IsBfs (succ : α → List α) (s : α) (o : List α) : Prop where
  fix : o = ddA [s] (o.flatMap succ)
  rch : ∀ a ∈ o, Reach succ s a
theorem IsBfs.nodup {succ : α → List α} {s : α} {o : List α} (h : IsBfs succ s o) : o.Nodup := by
  rw [h.fix]; exact ddA_nodup _ _ (by simp)
theorem IsBfs.start {succ : α → List α} {s : α} {o : List α} (h : IsBfs succ s o) : [s] <+: o := by
  have := ddA_pre (o.flatMap succ) [s]; rwa [← h.fix] at this
theorem IsBfs.mem_start {succ : α → List α} {s : α} {o : List α} (h : IsBfs succ s o) : s ∈ o := h.start.subset (by simp)
theorem IsBfs.closed {succ : α → List α} {s : α} {o : List α} (h : IsBfs succ s o) {a b : α} (ha : a ∈ o) (hb : b ∈ succ a) : b ∈ o := by
  rw [h.fix]; exact (ddA_mem _ _).mpr (.inr (List.mem_flatMap.mpr ⟨a, ha, hb⟩))
theorem reach_in {succ : α → List α} {s : α} {p : List α} (hs : s ∈ p) (hc : ∀ a ∈ p, ∀ b ∈ succ a, b ∈ p) {a : α} (h : Reach succ s a) : a ∈ p := by
  induction h with
  | base => exact hs
  | step _ hb ih => exact hc _ ih _ hb
theorem IsBfs.mem {succ : α → List α} {s : α} {o : List α} (h : IsBfs succ s o) {a : α} : a ∈ o ↔ Reach succ s a :=
  ⟨h.rch a, reach_in h.mem_start fun _ ha _ hb => h.closed ha hb⟩
theorem IsBfs.map {succ : α → List α} {succ' : β → List β} {s : α} {o : List α} (h : IsBfs succ s o) (f : α → β) (hf : ∀ a ∈ o, (succ a).map f = succ' (f a)) : IsBfs succ' (f s) (dd (o.map f)) := by
  have e1 : (o.flatMap succ).map f = (o.map f).flatMap succ' := by
    have : ∀ l : List α, (∀ a ∈ l, a ∈ o) → (l.flatMap succ).map f = (l.map f).flatMap succ' := by
      intro l
      induction l with
      | nil => intro _; rfl
      | cons x r ih => intro hl; rw [List.flatMap_cons, List.map_append, List.map_cons, List.flatMap_cons, hf x (hl x List.mem_cons_self), ih fun a ha => hl a (List.mem_cons_of_mem _ ha)]
    exact this o fun _ h => h
  constructor
  · rw [dd_flat, ← e1]
    have e2 : o = dd (s :: o.flatMap succ) := by rw [dd_cons]; exact h.fix
    have e3 : dd (o.map f) = dd ((s :: o.flatMap succ).map f) := by
      conv => lhs; rw [e2]
      exact dd_map f _ []
    rw [e3, List.map_cons, dd_cons]
  · intro b hb
    obtain ⟨a, ha, rfl⟩ := List.mem_map.mp (dd_mem.mp hb)
    have : ∀ a, Reach succ s a → Reach succ' (f s) (f a) := fun a ra => by
      induction ra with
      | base => exact .base
      | @step a b r1 hb ih => exact .step ih (by rw [← hf a (h.mem.mpr r1)]; exact List.mem_map.mpr ⟨_, hb, rfl⟩)
    exact this a (h.rch a ha)
structure Bf (succ : α → List α) (s : α) (i : Nat) (o : List α) : Prop where
  fix : o = ddA [s] ((o.take i).flatMap succ)
  rch : ∀ a ∈ o, Reach succ s a
  le : i ≤ o.length
theorem Bf.zero (succ : α → List α) (s : α) : Bf succ s 0 [s] := ⟨rfl, fun a h => by simp at h; subst h; exact .base, by simp⟩
theorem Bf.next {succ : α → List α} {s : α} {i : Nat} {o : List α} (h : Bf succ s i o) {a : α} (ha : o[i]? = some a) : Bf succ s (i + 1) (ddA o (succ a)) := by
  obtain ⟨hi, hae⟩ := List.getElem?_eq_some_iff.mp ha
  have pre := ddA_pre (succ a) o
  have et : (ddA o (succ a)).take (i + 1) = o.take i ++ [a] := by
    obtain ⟨t, e⟩ := pre
    rw [← e, List.take_append_of_le_length (by omega), List.take_add_one, ha]; rfl
  refine ⟨?_, fun b hb => ?_, by have := pre.length_le; omega⟩
  · rw [et, List.flatMap_append, ddA_append, ← h.fix]; simp
  · rcases (ddA_mem _ _).mp hb with hb | hb
    · exact h.rch b hb
    · exact .step (h.rch a (List.mem_of_getElem? ha)) hb
theorem Bf.done {succ : α → List α} {s : α} {o : List α} (h : Bf succ s o.length o) : IsBfs succ s o := ⟨by have := h.fix; rwa [List.take_length] at this, h.rch⟩
end bfs
end BL
set_option Elab.async false
set_option linter.all false
set_option maxRecDepth 100000
set_option maxHeartbeats 400000
set_option autoImplicit false
namespace BL
section count
variable {α γ δ : Type}
theorem ddA_len : ∀ (l acc : List α), (ddA acc l).length ≤ acc.length + l.length ∧ ((ddA acc l).length = acc.length + l.length → ddA acc l = acc ++ l)
  | [], acc => by simp [ddA]
  | x :: r, acc => by
    by_cases hx : x ∈ acc
    · rw [ddA_old hx]
      have := ddA_len r acc
      refine ⟨by simp; omega, fun h => ?_⟩
      simp at h; omega
    · rw [ddA_new hx]
      have := ddA_len r (acc ++ [x])
      refine ⟨by simp at this ⊢; omega, fun h => ?_⟩
      rw [this.2 (by simp at h ⊢; omega)]; simp
theorem dd_len (l : List α) : (dd l).length ≤ l.length := by have := (ddA_len l []).1; simpa [dd] using this
theorem dd_full {l : List α} (h : (dd l).length = l.length) : l.Nodup := by
  have := (ddA_len l []).2 (by simpa [dd] using h)
  have h2 := dd_nodup l
  unfold dd at h2
  rw [this] at h2; simpa using h2
theorem factor [Inhabited δ] (o : List α) (mk' : α → γ) (mk : α → δ) (h : ∀ r ∈ o, ∀ r' ∈ o, mk' r = mk' r' → mk r = mk r') : ∃ φ : γ → δ, ∀ r ∈ o, φ (mk' r) = mk r := by
  classical
  refine ⟨fun c => if e : ∃ r, r ∈ o ∧ mk' r = c then mk e.choose else default, fun r hr => ?_⟩
  have e : ∃ r', r' ∈ o ∧ mk' r' = mk' r := ⟨r, hr, rfl⟩
  simp only [dif_pos e]
  exact h _ e.choose_spec.1 _ hr e.choose_spec.2
theorem map_factor {o : List α} {mk' : α → γ} {mk : α → δ} {φ : γ → δ} (h : ∀ r ∈ o, φ (mk' r) = mk r) : o.map mk = (o.map mk').map φ := by
  rw [List.map_map]; exact List.map_congr_left fun r hr => (h r hr).symm
theorem count_le [Inhabited δ] {o : List α} {mk' : α → γ} {mk : α → δ} (h : ∀ r ∈ o, ∀ r' ∈ o, mk' r = mk' r' → mk r = mk r') :
    (dd (o.map mk)).length ≤ (dd (o.map mk')).length ∧ ((dd (o.map mk)).length = (dd (o.map mk')).length → ∀ r ∈ o, ∀ r' ∈ o, mk r = mk r' → mk' r = mk' r') := by
  obtain ⟨φ, hφ⟩ := factor o mk' mk h
  have e : dd (o.map mk) = dd ((dd (o.map mk')).map φ) := by
    rw [map_factor hφ]; exact (dd_map φ _ []).symm
  have := dd_len ((dd (o.map mk')).map φ)
  rw [List.length_map] at this
  refine ⟨by rw [e]; exact this, fun he r hr r' hr' hm => ?_⟩
  have nd : ((dd (o.map mk')).map φ).Nodup := dd_full (by rw [← e, he, List.length_map])
  have i1 : mk' r ∈ dd (o.map mk') := dd_mem.mpr (List.mem_map.mpr ⟨r, hr, rfl⟩)
  have i2 : mk' r' ∈ dd (o.map mk') := dd_mem.mpr (List.mem_map.mpr ⟨r', hr', rfl⟩)
  obtain ⟨i, hi, ei⟩ := List.mem_iff_getElem.mp i1
  obtain ⟨j, hj, ej⟩ := List.mem_iff_getElem.mp i2
  rcases Nat.lt_trichotomy i j with g | g | g
  · have := List.pairwise_iff_getElem.mp nd i j (by simpa using hi) (by simpa using hj) g
    rw [List.getElem_map, List.getElem_map, ei, ej, hφ r hr, hφ r' hr'] at this
    exact absurd hm this
  · subst g; rw [← ei, ← ej]
  · have := List.pairwise_iff_getElem.mp nd j i (by simpa using hj) (by simpa using hi) g
    rw [List.getElem_map, List.getElem_map, ei, ej, hφ r hr, hφ r' hr'] at this
    exact absurd hm.symm this
end count
abbrev Lang := List Nat → Bool
def der (b : Lang) (k : Nat) : Lang := fun w => b (k :: w)
def sucL (n : Nat) (b : Lang) : List Lang := (List.range n).map (der b)
def stp (rows : List (List Nat)) (r k : Nat) : Nat := (rows.getD r []).getD k 0
def run (rows : List (List Nat)) (r : Nat) (w : List Nat) : Nat := w.foldl (stp rows) r
def inA (n : Nat) (w : List Nat) : Bool := w.all fun k => decide (k < n)
def beh (n : Nat) (rows : List (List Nat)) (st : List Nat) (r : Nat) : Lang := fun w => inA n w && decide (run rows r w ∈ st)
def sucR (n : Nat) (rows : List (List Nat)) (r : Nat) : List Nat := (List.range n).map (stp rows r)
theorem beh_der {n : Nat} {rows : List (List Nat)} {st : List Nat} {r k : Nat} (hk : k < n) : der (beh n rows st r) k = beh n rows st (stp rows r k) := by
  funext w
  have e : inA n (k :: w) = inA n w := by simp only [inA, List.all_cons, decide_eq_true hk, Bool.true_and]
  show (inA n (k :: w) && _) = _
  rw [e]; rfl
theorem beh_nil {n : Nat} {rows : List (List Nat)} {st : List Nat} {r : Nat} : beh n rows st r [] = decide (r ∈ st) := rfl
structure Lay (n : Nat) (o : List Lang) (rows : List (List Nat)) (st : List Nat) : Prop where
  len : rows.length = o.length
  row : ∀ (i : Nat) (r : List Nat) (b : Lang), rows[i]? = some r → o[i]? = some b → r.length = n ∧ ∀ k j, r[k]? = some j → o[j]? = some (der b k)
  ris : st.Pairwise (· < ·)
  ends : ∀ i, i ∈ st ↔ ∃ b : Lang, o[i]? = some b ∧ b [] = true
theorem nodup_at {α : Type} {o : List α} (nd : o.Nodup) {i j : Nat} {b : α} (h1 : o[i]? = some b) (h2 : o[j]? = some b) : i = j := by
  obtain ⟨hi, ei⟩ := List.getElem?_eq_some_iff.mp h1
  obtain ⟨hj, ej⟩ := List.getElem?_eq_some_iff.mp h2
  rcases Nat.lt_trichotomy i j with g | g | g
  · exact absurd (ei.trans ej.symm) (List.pairwise_iff_getElem.mp nd i j hi hj g)
  · exact g
  · exact absurd (ej.trans ei.symm) (List.pairwise_iff_getElem.mp nd j i hj hi g)
def IsLeast (n : Nat) (L : Lang) (rows : List (List Nat)) (st : List Nat) : Prop := ∃ o, IsBfs (sucL n) L o ∧ Lay n o rows st
section moore
variable {n : Nat} {rows : List (List Nat)} {st : List Nat}
def Eq_ (n : Nat) (rows : List (List Nat)) (st : List Nat) (t : Nat) (r r' : Nat) : Prop := ∀ w, w.length ≤ t → beh n rows st r w = beh n rows st r' w
noncomputable def kinds (n : Nat) (rows : List (List Nat)) (st : List Nat) (o : List Nat) (t : Nat) : Nat := (dd (o.map fun r => fun r' => Eq_ n rows st t r r')).length
end moore
section laid
variable {n : Nat} {o : List Lang} {R : List (List Nat)} {S : List Nat} {L : Lang}
theorem Lay.stp (h : Lay n o R S) {i k : Nat} {b : Lang} (hb : o[i]? = some b) (hk : k < n) : o[stp R i k]? = some (der b k) := by
  obtain ⟨hi, _⟩ := List.getElem?_eq_some_iff.mp hb
  have hR : i < R.length := by have := h.len; omega
  have h1 : R[i]? = some R[i] := List.getElem?_eq_getElem hR
  obtain ⟨l1, g1⟩ := h.row i _ _ h1 hb
  unfold BL.stp
  rw [show R.getD i [] = R[i] by rw [List.getD_eq_getElem?_getD, h1, Option.getD_some], List.getD_eq_getElem?_getD, List.getElem?_eq_getElem (show k < R[i].length by omega), Option.getD_some]
  exact g1 k _ (List.getElem?_eq_getElem (by omega))
theorem Lay.beh (h : Lay n o R S) (hL : ∀ b ∈ o, ∀ w, inA n w = false → b w = false) : ∀ (w : List Nat) {i : Nat} {b : Lang}, o[i]? = some b → BL.beh n R S i w = b w
  | [], i, b, hb => by
    have := h.ends i
    rw [beh_nil, Bool.eq_iff_iff, decide_eq_true_iff, this]
    constructor
    · rintro ⟨b', h1, h2⟩; rw [hb] at h1; cases h1; exact h2
    · exact fun e => ⟨b, hb, e⟩
  | k :: w, i, b, hb => by
    by_cases hk : k < n
    · have e := congrFun (beh_der (rows := R) (st := S) (r := i) hk) w
      show der (BL.beh n R S i) k w = der b k w
      rw [e]
      exact Lay.beh h hL w (h.stp hb hk)
    · have e : inA n (k :: w) = false := by simp [inA, hk]
      rw [hL b (List.mem_of_getElem? hb) _ e]
      simp [BL.beh, e]
theorem IsLeast.order (h : IsLeast n L R S) : IsBfs (sucR n R) 0 (List.range R.length) := by
  classical
  obtain ⟨o, b, l⟩ := h
  have ix : ∀ x ∈ o, ∃ i, o[i]? = some x := fun x hx => List.getElem?_of_mem hx
  let f : Lang → Nat := fun x => if e : ∃ i, o[i]? = some x then e.choose else 0
  have hf : ∀ i x, o[i]? = some x → f x = i := fun i x hx => by
    have e : ∃ i, o[i]? = some x := ⟨i, hx⟩
    simp only [f, dif_pos e]
    exact nodup_at b.nodup e.choose_spec hx
  have h0 : f L = 0 := hf 0 L (by obtain ⟨t, e⟩ := b.start; rw [← e]; rfl)
  have := b.map f (succ' := sucR n R) fun x hx => by
    obtain ⟨i, hi⟩ := ix x hx
    rw [hf i x hi]
    unfold sucL sucR
    rw [List.map_map]
    exact List.map_congr_left fun k hk => hf _ _ (l.stp hi (List.mem_range.mp hk))
  rw [h0] at this
  have em : o.map f = List.range R.length := by
    refine List.ext_getElem? fun i => ?_
    rw [List.getElem?_map]
    rcases Nat.lt_or_ge i o.length with hi | hi
    · rw [List.getElem?_eq_getElem hi, Option.map_some, hf i _ (List.getElem?_eq_getElem hi), List.getElem?_range (by have := l.len; omega)]
    · rw [List.getElem?_eq_none hi, List.getElem?_eq_none (by have := l.len; simp; omega)]; rfl
  rwa [em, dd_of_nodup List.nodup_range] at this
end laid
end BL
set_option Elab.async false
set_option linter.all false
set_option maxRecDepth 100000
set_option maxHeartbeats 400000
set_option autoImplicit false
namespace Rf
open PySem PySem.Spec L2
section
variable {ls : Ls} {h : LH} {Y : Exn → LH → Prop}
end
structure Keys {κ : Type} (E : κ → D) (t : Bool) : Prop where
  ok : ∀ x, keyOk t (E x) = true
  eq : ∀ x y, eqY (E x) (E y) = true ↔ x = y
  nf : ∀ x, isFn (E x) = false
section
variable {κ : Type} {E : κ → D} {t : Bool}
end
end Rf
set_option Elab.async false
set_option linter.all false
set_option maxRecDepth 100000
set_option maxHeartbeats 400000
set_option autoImplicit false
namespace Rf
open PySem PySem.Spec L2
section
variable {h : LH} {n : Nat} {xs : List D}
theorem isLst_at (e : h[n]? = some (.lst xs)) : isLst (.ref n) h = true := by simp only [isLst, asRd, e, Option.isSome]
theorem szOk_small {k : Nat} (hk : k ≤ 100000) : szOk k = true := by
  unfold szOk
  exact Nat.ble_eq_true_of_le (by omega)
theorem append_at (e : h[n]? = some (.lst xs)) (hl : xs.length < 1000) (d : D) : dAppend (.ref n) [d] h = .ok .non (h.set n (.lst (xs ++ [d]))) := by
  simp only [dAppend, e, szOk_small (show xs.length + 1 ≤ 100000 by omega), if_true]
theorem set_at {o o' : LO} (e : h[n]? = some o) : (h.set n o')[n]? = some o' := by rw [List.getElem?_set_self (List.getElem?_eq_some_iff.mp e).1]
theorem at_lt' {o : LO} (e : h[n]? = some o) : n < h.length := (List.getElem?_eq_some_iff.mp e).1
end
end Rf
set_option Elab.async false
set_option linter.all false
set_option maxRecDepth 100000
set_option maxHeartbeats 400000
set_option autoImplicit false
namespace Rf
open PySem PySem.Spec L2
def dSortI : D → LH → R D := fun d h1 => match d with
  | .str l => if Nat.blt l.length 4000 = true then .ok (.ref h1.length) (h1 ++ [.lst ((sdT (l.map fun c => [c])).map .str)]) else .bad
  | _ => (match itemsOf d h1 with
    | some xs => if Nat.blt xs.length 4000 = true then (match allI xs with
      | some is => .ok (.ref h1.length) (h1 ++ [.lst ((sdI is).map .int)])
      | none => (match allS xs with
        | some ss => .ok (.ref h1.length) (h1 ++ [.lst ((sdT ss).map .str)])
        | none => .bad)) else .bad
    | none => .bad)
section
variable {ls : Ls} {h : LH} {Y : Exn → LH → Prop}
theorem okR_sortI {m : EM} {Q : D → LH → Prop} : @okR _ (mSortSet m ls h) ⟨Q⟩ ⟨Y⟩ = @okR _ (m ls h) ⟨fun d h1 => @okR _ (dSortI d h1) ⟨Q⟩ ⟨Y⟩⟩ ⟨Y⟩ := okR_bind
end
section
variable {h : LH} {n : Nat}
theorem sortI_at {is : List Int} (e : h[n]? = some (.lst (is.map .int))) (hl : is.length < 4000) : dSortI (.ref n) h = .ok (.ref h.length) (h ++ [.lst ((sdI is).map .int)]) := by
  have e1 : itemsOf (.ref n) h = some (is.map .int) := by show asRd (.ref n) h = _; simp only [asRd, e]
  have e2 : Nat.blt (is.map D.int).length 4000 = true := Nat.ble_eq_true_of_le (by rw [List.length_map]; omega)
  unfold dSortI
  simp only [e1, e2, if_true, allI_map]
end
end Rf
set_option Elab.async false
set_option linter.all false
set_option maxRecDepth 100000
set_option maxHeartbeats 400000
set_option autoImplicit false
namespace Rf
open PySem PySem.Spec L2
section
variable {κ : Type} [DecidableEq κ] {E : κ → D} {t : Bool}
def pA (E : κ → D) (l : List (κ × D)) : List (D × D) := l.map fun p => (E p.1, p.2)
def lkA (l : List (κ × D)) (x : κ) : Option D := (l.find? fun p => decide (p.1 = x)).map (·.2)
def putA (l : List (κ × D)) (x : κ) (v : D) : List (κ × D) := if (l.any fun p => decide (p.1 = x)) = true then l.map (fun p => if p.1 = x then (p.1, v) else p) else l ++ [(x, v)]
theorem Keys.dec (K : Keys E t) (x y : κ) : eqY (E x) (E y) = decide (x = y) := by
  rw [Bool.eq_iff_iff, K.eq x y, decide_eq_true_iff]
theorem pA_find (K : Keys E t) (x : κ) : ∀ l : List (κ × D), (pA E l).find? (fun p => eqY p.1 (E x)) = (l.find? fun p => decide (p.1 = x)).map fun p => (E p.1, p.2)
  | [] => rfl
  | p :: r => by
    unfold pA
    rw [List.map_cons, List.find?_cons, List.find?_cons]
    simp only [K.dec]
    cases decide (p.1 = x) with
    | true => rfl
    | false => exact pA_find K x r
theorem pA_get (K : Keys E t) (x : κ) (l : List (κ × D)) : getK (pA E l) (E x) = lkA l x := by
  unfold getK lkA
  rw [pA_find K, Option.map_map]; rfl
theorem pA_put (K : Keys E t) (x : κ) (v : D) (l : List (κ × D)) : putD (pA E l) (E x) v = pA E (putA l x v) := by
  have ea : ((pA E l).any fun p => eqY p.1 (E x)) = (l.any fun p => decide (p.1 = x)) := by
    unfold pA
    rw [List.any_map]
    congr 1
    funext p
    exact K.dec p.1 x
  unfold putD putA
  rw [ea]
  split
  · unfold pA
    rw [List.map_map, List.map_map]
    refine List.map_congr_left fun p _ => ?_
    simp only [Function.comp, K.dec, decide_eq_true_iff]
    by_cases hp : p.1 = x <;> simp [hp]
  · unfold pA; simp
theorem lkA_put (l : List (κ × D)) (x y : κ) (v : D) : lkA (putA l x v) y = if x = y then some v else lkA l y := by
  unfold putA lkA
  by_cases ha : (l.any fun p => decide (p.1 = x)) = true
  · rw [if_pos ha]
    induction l with
    | nil => simp at ha
    | cons p r ih =>
      rw [List.map_cons, List.find?_cons, List.find?_cons]
      by_cases hp : p.1 = x
      · simp only [hp, if_true]
        by_cases hy : x = y
        · simp [hy]
        · simp only [hy, decide_false, if_false]
          by_cases hr : (r.any fun p => decide (p.1 = x)) = true
          · have := ih hr; simp only [hy, if_false] at this; exact this
          · have : r.map (fun p => if p.1 = x then (p.1, v) else p) = r := by
              conv => rhs; rw [← List.map_id r]
              refine List.map_congr_left fun q hq => ?_
              have : q.1 ≠ x := fun e => hr (List.any_eq_true.mpr ⟨q, hq, by simpa using e⟩)
              simp [this]
            rw [this]
      · simp only [hp, if_false]
        by_cases hy : p.1 = y
        · have : x ≠ y := fun e => hp (hy.trans e.symm)
          simp [hy, this]
        · simp only [hy, decide_false]
          refine ih ?_
          simpa [hp] using ha
  · rw [if_neg ha, List.find?_append]
    by_cases hy : x = y
    · subst hy
      have : l.find? (fun p => decide (p.1 = x)) = none := by
        rw [List.find?_eq_none]
        intro p hp he
        exact ha (List.any_eq_true.mpr ⟨p, hp, he⟩)
      rw [this]; simp
    · have : ([(x, v)] : List (κ × D)).find? (fun p => decide (p.1 = y)) = none := by simp [hy]
      rw [this]; simp [hy]
variable {h : LH} {n : Nat}
theorem get_pA (K : Keys E t) {l : List (κ × D)} (e : h[n]? = some (.dic t (pA E l))) {x : κ} {v : D} (hv : lkA l x = some v) : dDGet (.ref n) (E x) h = .ok v h := by
  have e1 : dicR (.ref n) h = some (t, pA E l) := by unfold dicR; simp only [e]
  unfold dDGet
  simp only [e1, K.ok x, if_true, pA_get K, hv]
end
end Rf
set_option Elab.async false
set_option linter.all false
set_option maxRecDepth 100000
set_option maxHeartbeats 400000
set_option autoImplicit false
namespace Rf
open PySem PySem.Spec L2
end Rf
set_option Elab.async false
set_option linter.all false
set_option maxRecDepth 100000
set_option maxHeartbeats 400000
set_option autoImplicit false
namespace Rf
open PySem PySem.Spec L2
theorem ne_bl {a b : Bool} {h : LH} : dNe (.bl a) (.bl b) h = .ok (.bl (!decide (a = b))) h := by
  cases a <;> cases b <;> rfl
end Rf
set_option Elab.async false
set_option linter.all false
set_option maxRecDepth 100000
set_option maxHeartbeats 400000
set_option autoImplicit false
namespace Rf
open PySem PySem.Spec L2
section
variable {X : Cx} {W : WX} {pos : Pos}
end
section
variable {ls : Ls} {h : LH} {Y : Exn → LH → Prop}
end
end Rf
set_option Elab.async false
set_option linter.all false
set_option maxRecDepth 100000
set_option maxHeartbeats 400000
set_option autoImplicit false
namespace Rf
open PySem PySem.Spec L2 PyProof.Rows
section
variable {X : Cx} {W : WX} {a b c : Expr} {pos : Pos}
end
end Rf
set_option Elab.async false
set_option linter.all false
set_option maxRecDepth 100000
set_option maxHeartbeats 400000
set_option autoImplicit false
namespace Rf
open PySem PySem.Spec L2
section
variable {K : PySem.W.Frag}
end
end Rf
set_option Elab.async false
set_option linter.all false
set_option maxRecDepth 100000
set_option maxHeartbeats 400000
set_option autoImplicit false
namespace Rf
open PySem PySem.Spec L2
inductive Hits (K : PySem.W.Frag) (H : Hp) (kb : List (Key × V)) : List (Key × V) → Bool → Prop
  | nil : Hits K H kb [] true
  | miss {k : Key} {v : V} {r : List (Key × V)} : valV kb k = none → Hits K H kb ((k, v) :: r) false
  | hit {k : Key} {v y : V} {r : List (Key × V)} {p q : PyData} {b : Bool} : valV kb k = some y → Dp K H v p → Dp K H y q → SeqAt.shaped p = true → SeqAt.shaped q = true → Hits K H kb r b → Hits K H kb ((k, v) :: r) (PyData.eqv p q && b)
section
variable {X : Cx} {pins : List (Addr × Obj)} {σ : St} {H : Hp} {s : Shared}
end
section
variable {K : PySem.W.Frag} {mp : List Addr} {H : Hp} {lh : LH}
end
def allSs : List D → Option (List (List Nat))
  | [] => some []
  | .str l :: r => (allSs r).map (l :: ·)
  | _ :: _ => none
section
variable {K : PySem.W.Frag} {mp : List Addr} {H : Hp}
end
end Rf
set_option Elab.async false
set_option linter.all false
set_option maxRecDepth 100000
set_option maxHeartbeats 400000
set_option autoImplicit false
namespace Rf
open PySem PySem.Spec PyProof.Rows L2
section
variable {K : PySem.W.Frag} {mp : List Addr} {H : Hp} {lh : LH}
end
section
variable {X : Cx} {W : WX} {o e : Expr} {mo mk : EM} {apos cpos : Pos}
end
end Rf
set_option Elab.async false
set_option linter.all false
set_option maxRecDepth 100000
set_option maxHeartbeats 400000
set_option autoImplicit false
namespace Rf
open PySem PySem.Spec PyProof.Rows L2
end Rf
set_option Elab.async false
set_option linter.all false
set_option maxRecDepth 100000
set_option maxHeartbeats 800000
set_option autoImplicit false
namespace Rf
open PySem PySem.Spec PyProof.Rows L2
section
variable {X : Cx} {W : WX} {a : Expr} {ma : EM} {p p2 pos pos2 : Pos}
end
section
variable {K : PySem.W.Frag} {mp mp1 : List Addr} {H H1 : Hp} {lh : LH} {p : Addr} {w : World}
end
section
variable {P : Program} {w : World} {A : Around} {E : Value → Shared → Prop} {s : Shared} {a : Addr} {ks : List Key}
end
section
variable {X : Cx}
end
def srtK (r : R (List D)) : R D := r.bind fun acc h => match allI acc with
  | some is => .ok (.ref h.length) (h ++ [.lst ((sdI is).map .int)])
  | none => (match allSs acc with
    | some ss => .ok (.ref h.length) (h ++ [.lst ((sdT ss).map .str)])
    | none => .bad)
section
variable {X : Cx} {W : WX} {elt tg iter : Expr} {ifs : List Expr} {scope : Scope} {own : List (Str × Nat)} {p1 pos pos1 : Pos} {wi : IM} {g : GM} {mt : TM} {me : EM}
end
end Rf
set_option Elab.async false
set_option linter.all false
set_option maxRecDepth 100000
set_option maxHeartbeats 400000
set_option autoImplicit false
namespace Rf
open PySem PySem.Spec PyProof.Rows L2
end Rf
set_option Elab.async false
set_option linter.all false
set_option maxRecDepth 100000
set_option maxHeartbeats 400000
set_option autoImplicit false
namespace Rf
open PySem PySem.Spec L2
section
variable {ls : Ls} {h : LH} {Y : Exn → LH → Prop}
end
section
variable {κ : Type} [DecidableEq κ] {E : κ → D} {t : Bool}
variable {h : LH} {n : Nat}
end
end Rf
set_option Elab.async false
set_option linter.all false
set_option maxRecDepth 100000
set_option maxHeartbeats 400000
set_option autoImplicit false
namespace Rf
open PySem PySem.Spec PyProof.Rows L2
section
variable {prog : Program} {w : World} {K : Type} [DecidableEq K]
end
section
variable {X : Cx}
end
end Rf
set_option Elab.async false
set_option linter.all false
set_option maxRecDepth 100000
set_option maxHeartbeats 400000
set_option autoImplicit false
namespace Rf
open PySem PySem.Spec PyProof.Rows L2
section
open PySem.W PySem.SeqAt
variable {prog : Program} {w : World} {A : Around} {E : Value → Shared → Prop} {s : Shared}
end
abbrev T3 := Int × List Nat × List Nat
def d3 (x : T3) : D := .tup [.int x.1, .str x.2.1, .str x.2.2]
abbrev p3 (x : T3) : PyData := .tuple [.int x.1, .str ⟨x.2.1.toArray⟩, .str ⟨x.2.2.toArray⟩]
section
open PySem.W
end
end Rf
set_option Elab.async false
set_option linter.all false
set_option maxRecDepth 100000
set_option maxHeartbeats 400000
set_option autoImplicit false
namespace Rf
open PySem PySem.Spec L2
section
variable {κ ν : Type} [DecidableEq κ] {E : κ → D} {F : ν → D} {t : Bool}
def asD (E : κ → D) (F : ν → D) (l : List (κ × ν)) : List (D × D) := l.map fun p => (E p.1, F p.2)
def lkW (l : List (κ × ν)) (x : κ) : Option ν := (l.find? fun p => decide (p.1 = x)).map (·.2)
def putW (l : List (κ × ν)) (x : κ) (v : ν) : List (κ × ν) := if (l.any fun p => decide (p.1 = x)) = true then l.map (fun p => if p.1 = x then (p.1, v) else p) else l ++ [(x, v)]
theorem asD_pA (l : List (κ × ν)) : asD E F l = pA E (l.map fun p => (p.1, F p.2)) := by
  unfold asD pA; rw [List.map_map]; rfl
theorem lk_map (l : List (κ × ν)) (x : κ) : lkA (l.map fun p => (p.1, F p.2)) x = (lkW l x).map F := by
  unfold lkA lkW
  induction l with
  | nil => rfl
  | cons p l ih =>
    rw [List.map_cons, List.find?_cons, List.find?_cons]
    by_cases e : p.1 = x
    · simp [e]
    · simp only [e, decide_false]; exact ih
theorem put_map (l : List (κ × ν)) (x : κ) (v : ν) : putA (l.map fun p => (p.1, F p.2)) x (F v) = (putW l x v).map fun p => (p.1, F p.2) := by
  unfold putA putW
  have e : ((l.map fun p => (p.1, F p.2)).any fun p => decide (p.1 = x)) = l.any fun p => decide (p.1 = x) := by rw [List.any_map]; rfl
  rw [e]
  split
  · rw [List.map_map, List.map_map]
    refine List.map_congr_left fun p _ => ?_
    simp only [Function.comp]
    split <;> rfl
  · rw [List.map_append]; rfl
theorem put_new {l : List (κ × ν)} {x : κ} {v : ν} (h : ∀ p ∈ l, p.1 ≠ x) : putW l x v = l ++ [(x, v)] := by
  unfold putW
  rw [if_neg]
  intro e
  obtain ⟨q, hq, e⟩ := List.any_eq_true.mp e
  exact h q hq (of_decide_eq_true e)
theorem lkW_mem {l : List (κ × ν)} {x : κ} {v : ν} (h : lkW l x = some v) : (x, v) ∈ l := by
  unfold lkW at h
  obtain ⟨p, hp, rfl⟩ := Option.map_eq_some_iff.mp h
  have := List.find?_some hp
  rw [decide_eq_true_iff] at this
  rw [← this]; exact List.mem_of_find?_eq_some hp
theorem lkW_none {l : List (κ × ν)} {x : κ} : lkW l x = none ↔ ∀ p ∈ l, p.1 ≠ x := by
  unfold lkW
  rw [Option.map_eq_none_iff, List.find?_eq_none]
  simp
theorem lkW_put {l : List (κ × ν)} {x y : κ} {v : ν} : lkW (putW l x v) y = if x = y then some v else lkW l y := by
  have h := lkA_put (l.map fun p => (p.1, D.int 0)) x y (D.int 0)
  by_cases e : x = y
  · subst e
    rw [if_pos rfl]
    unfold putW
    by_cases ha : (l.any fun p => decide (p.1 = x)) = true
    · rw [if_pos ha]
      clear h
      induction l with
      | nil => simp at ha
      | cons p r ih =>
        unfold lkW at ih ⊢
        rw [List.map_cons, List.find?_cons]
        by_cases hp : p.1 = x
        · simp [hp]
        · simp only [hp, if_false, decide_false]
          exact ih (by simpa [hp] using ha)
    · rw [if_neg ha]
      unfold lkW
      rw [List.find?_append]
      have : l.find? (fun p => decide (p.1 = x)) = none := by
        rw [List.find?_eq_none]
        intro p hp he
        exact ha (List.any_eq_true.mpr ⟨p, hp, he⟩)
      rw [this]; simp
  · rw [if_neg e]
    unfold putW
    by_cases ha : (l.any fun p => decide (p.1 = x)) = true
    · rw [if_pos ha]
      clear h ha
      induction l with
      | nil => rfl
      | cons p r ih =>
        unfold lkW at ih ⊢
        rw [List.map_cons, List.find?_cons, List.find?_cons]
        by_cases hp : p.1 = x
        · have : ¬ p.1 = y := fun z => e (hp.symm.trans z)
          simp only [hp, if_true, e, decide_false]
          exact ih
        · simp only [hp, if_false]
          by_cases hy : p.1 = y
          · simp [hy]
          · simp only [hy, decide_false]; exact ih
    · rw [if_neg ha]
      unfold lkW
      rw [List.find?_append]
      have : ([(x, v)] : List (κ × ν)).find? (fun p => decide (p.1 = y)) = none := by simp [e]
      rw [this]; simp
variable {h : LH} {n : Nat} {l : List (κ × ν)}
theorem get_as (K : Keys E t) (e : h[n]? = some (.dic t (asD E F l))) {x : κ} {v : ν} (hv : lkW l x = some v) : dDGet (.ref n) (E x) h = .ok (F v) h := by
  rw [asD_pA] at e
  exact get_pA K e (by rw [lk_map, hv]; rfl)
end
section
variable {h : LH} {n m : Nat}
end
end Rf
set_option Elab.async false
set_option linter.all false
set_option maxRecDepth 100000
set_option maxHeartbeats 400000
set_option autoImplicit false
namespace Rf
open PySem PySem.Spec L2
section
variable {N : Ls → LH → Prop} {T : D → LH → Prop} {B C : Ls → LH → Prop} {X : Exn → Ls → LH → Prop} {Y : Exn → LH → Prop} {α : Type}
theorem lc_goT {g : GM} {tt : TM} {te : EM} {L : LI} {ls0 : Ls} {h : LH} (l : List α) (E : α → D) (p : α → Bool) (f : α → D) (hL : ∀ i, L i h = itm (l.map E) i) (hl : l.length ≤ 100000)
    (hs : ∀ a ∈ l, ∃ ls1, g (E a) ls0 = some ls1 ∧ tt ls1 h = .ok (p a) h ∧ (p a = true → te ls1 h = .ok (f a) h)) : ∀ (k i fuel : Nat) (acc : List D), i + k = l.length → k < fuel → acc.length ≤ i → mLcGo g tt te L ls0 fuel i acc h = .ok (acc ++ ((l.drop i).filter p).map f) h
  | 0, i, fuel, acc, e, hf, ha => by
    obtain ⟨fuel, rfl⟩ : ∃ j, fuel = j + 1 := ⟨fuel - 1, by omega⟩
    have e0 : itm (l.map E) i = .done := by unfold itm; rw [List.getElem?_eq_none (by rw [List.length_map]; omega)]
    unfold mLcGo
    rw [hL, e0, List.drop_of_length_le (by omega)]
    simp
  | k + 1, i, fuel, acc, e, hf, ha => by
    obtain ⟨fuel, rfl⟩ : ∃ j, fuel = j + 1 := ⟨fuel - 1, by omega⟩
    have hi : i < l.length := by omega
    have e0 : itm (l.map E) i = .item (E l[i]) := by unfold itm; rw [List.getElem?_map, List.getElem?_eq_getElem hi]; rfl
    obtain ⟨ls1, e1, e2, e3⟩ := hs l[i] (List.getElem_mem hi)
    unfold mLcGo
    rw [hL, e0]
    simp only [e1, e2]
    rw [List.drop_eq_getElem_cons hi, List.filter_cons]
    cases hp : p l[i] with
    | false =>
      simp only [Bool.false_eq_true, if_false]
      exact lc_goT l E p f hL hl hs k (i + 1) fuel acc (by omega) (by omega) (by omega)
    | true =>
      have hz : szOk (acc.length + 1) = true := Nat.ble_eq_true_of_le (by omega)
      simp only [if_true, e3 hp, hz]
      rw [lc_goT l E p f hL hl hs k (i + 1) fuel (acc ++ [f l[i]]) (by omega) (by omega) (by simp; omega)]
      simp
theorem lc_T {g : GM} {tt : TM} {te : EM} {L : LI} {ls0 : Ls} {h : LH} {fuel : Nat} (l : List α) (E : α → D) (p : α → Bool) (f : α → D) (hL : ∀ i, L i h = itm (l.map E) i) (hf : l.length < fuel) (hl : l.length ≤ 100000)
    (hs : ∀ a ∈ l, ∃ ls1, g (E a) ls0 = some ls1 ∧ tt ls1 h = .ok (p a) h ∧ (p a = true → te ls1 h = .ok (f a) h)) : mLcGo g tt te L ls0 fuel 0 [] h = .ok ((l.filter p).map f) h := by
  rw [lc_goT l E p f hL hl hs l.length 0 fuel [] (by omega) hf (by simp)]; simp
end
section
variable {κ ν : Type} [DecidableEq κ] {E : κ → D} {F : ν → D} {t : Bool}
theorem putD_as (K : Keys E t) (l : List (κ × ν)) (x : κ) (v : ν) : putD (asD E F l) (E x) (F v) = asD E F (putW l x v) := by
  rw [asD_pA, pA_put K, put_map, ← asD_pA]
end
theorem eq_str {a b : List Nat} {h : LH} : dEq (.str a) (.str b) h = .ok (.bl (decide (a = b))) h := by cases h <;> rfl
theorem cut_mid' {α : Type} (l : List α) (j c : Nat) : cutL l (some (j : Int)) (some (c : Int)) = (l.drop j).take (c - j) := by
  unfold cutL
  rw [HT.sIx_nat, HT.sIx_nat]
  by_cases h : j ≤ l.length
  · rw [Nat.min_eq_left h]
    by_cases h2 : c ≤ l.length
    · rw [Nat.min_eq_left h2]
    · rw [Nat.min_eq_right (by omega), List.take_of_length_le (by simp), List.take_of_length_le (by simp; omega)]
  · rw [show min j l.length = l.length by omega, List.drop_of_length_le (Nat.le_refl _), List.drop_of_length_le (by omega)]
    simp
end Rf
set_option Elab.async false
set_option linter.all false
set_option maxRecDepth 100000
set_option maxHeartbeats 400000
set_option autoImplicit false
namespace Rf
open PySem PySem.Spec L2
section
variable {κ ν : Type} [DecidableEq κ] {E : κ → D} {F : ν → D} {t : Bool} {ls : Ls} {h : LH} {n : Nat}
end
end Rf
set_option Elab.async false
set_option linter.all false
set_option maxRecDepth 100000
set_option maxHeartbeats 400000
set_option autoImplicit false
namespace Rf
open PySem PySem.Spec L2
section
variable {h : LH} {n m : Nat} {xs ys : List D}
def natsD (l : List Nat) : List D := l.map fun (k : Nat) => D.int (k : Nat)
theorem natsD_len (l : List Nat) : (natsD l).length = l.length := by unfold natsD; simp
theorem natsD_at {l : List Nat} {i k : Nat} (e : l[i]? = some k) : (natsD l)[i]? = some (.int (k : Nat)) := by unfold natsD; rw [List.getElem?_map, e]; rfl
theorem allI_natsD : ∀ l : List Nat, allI (natsD l) = some (l.map fun (k : Nat) => (k : Int))
  | [] => rfl
  | k :: l => by
    show Option.map ((k : Int) :: ·) (allI (natsD l)) = _
    rw [allI_natsD l]; rfl
theorem sum_int (l : List Nat) : (l.map fun (k : Nat) => (k : Int)).sum = ((l.sum : Nat) : Int) := by
  induction l with
  | nil => rfl
  | cons a l ih => rw [List.map_cons, List.sum_cons, ih, List.sum_cons]; omega
theorem sum_nats {l : List Nat} (e : h[n]? = some (.lst (natsD l))) : dSum (.ref n) h = .ok (.int (l.sum : Nat)) h := by
  simp only [dSum, asRd, e, allI_natsD, sum_int]
end
end Rf
set_option Elab.async false
set_option linter.all false
set_option maxRecDepth 100000
set_option maxHeartbeats 400000
set_option autoImplicit false
namespace Rf
open PySem PySem.Spec PyProof.Rows L2
def tRevS (te : TE) : TE := fun σ H Q => te σ H fun x H1 => ∃ z : Str, x = .str z ∧ z.length ≤ sizeLine ∧ Q (.str ⟨z.cps.toList.reverse.toArray⟩) H1
theorem rev_pick (z : Str) : (Builtin.Str.strSliceIndices none none (-1) z.length).filterMap (z.cps[·]?) = z.cps.toList.reverse := by
  unfold Builtin.Str.strSliceIndices
  show (sliceRange (((z.cps.size : Nat) : Int) - 1) (-1) (-1)).filterMap (z.cps[·]?) = _
  rw [PySem.W.krv_sliceRange, PySem.W.krv_range, List.filterMap_reverse, PySem.W.krv_all]
section
variable {X : Cx} {W : WX} {e : Expr} {te : TE} {me : EM} {k : Nat} {p1 p2 p3 pos : Pos}
theorem pe_revS (he : PE X e te) : PE X (.Subscript e (.Slice none none (some (.UnaryOp .USub (.Constant (.int 1) k p1) p2)) p3) pos) (tRevS te) := by
  refine ⟨fun pins s σ H Q I h => ?_⟩
  refine Subscript_ (thn (he.run pins s σ H _ I h) fun v s1 ⟨x, H1, I1, r1, q1⟩ => ?_)
  obtain ⟨z, ex, hz, q⟩ := q1
  subst ex
  obtain ⟨t, rfl⟩ := r1
  have hst : PO X (some (.UnaryOp .USub (.Constant (.int 1) k p1) p2)) (tPart (tUn (rU fun i => .int (-i)) (tC (.int 1)))) := po_some (pe_un un_neg pe_int)
  refine wpAny_Slice (thn (po_none.run pins s1 σ H1 (fun o H2 => o = none ∧ H2 = H1) I1 ⟨rfl, rfl⟩) fun vl s2 ⟨l, H2, I2, pl, el, e2⟩ => ?_)
  subst el e2
  refine thn (po_none.run pins s2 σ H2 (fun o H3 => o = none ∧ H3 = H2) I2 ⟨rfl, rfl⟩) fun vu s3 ⟨u, H3, I3, pu, eu, e3⟩ => ?_
  subst eu e3
  refine thn (hst.run pins s3 σ H3 (fun o H4 => o = some (-1) ∧ H4 = H3) I3 ⟨1, rfl, -1, rfl, rfl, rfl⟩) fun vs s4 ⟨o, H4, I4, ps, eo, e4⟩ => ?_
  subst eo e4
  have I5 : Inv X pins σ H4 { s4 with heap := s4.heap.push { cls := .type "slice", data := .fields #[vl, vu, vs] } } := I4.kept (t' := s4.toks) fun b ob q => Heap.get?_push_of_some _ q
  obtain ⟨l, rfl, el⟩ := IsPart.raw pl
  obtain ⟨u, rfl, eu⟩ := IsPart.raw pu
  obtain ⟨st, rfl, es⟩ := IsPart.raw ps
  show wpAny (model X.prog X.w) X.A (subscriptTail e (.Slice none none (some (.UnaryOp .USub (.Constant (.int 1) k p1) p2)) p3) (.str z t) (.ref s4.heap.objs.size)) (EP X pins σ Q) X.xe { s4 with heap := s4.heap.push { cls := .type "slice", data := .fields #[partValue l, partValue u, partValue st] } }
  refine tail_any (ops := [.ref s4.heap.objs.size, .str z t]) (typeIs_str _ _ _) F.slot_str_getitem.lookup ?_ (by with_unfolding_all rfl)
  have e0 : ((st.map (·.1)).getD 1 == 0) = false := by rw [es]; rfl
  refine wpAny_getItem_str_slice (l := l) (u := u) (st := st) ⟨_, Heap.get?_push_size _ rfl, rfl, rfl⟩ e0 ?_
  have e1 : ((st.map (·.1)).getD 1 == 1) = false := by rw [es]; rfl
  unfold sliceMade slicePicked
  rw [e1, Bool.false_and, if_neg (by simp), el, eu, es]
  have ep : (Builtin.Str.strSliceIndices none none ((some (-1 : Int)).getD 1) z.length).filterMap (z.cps[·]?) = z.cps.toList.reverse := rev_pick z
  rw [ep]
  exact ⟨by show (z.cps.toList.reverse.toArray).size ≤ sizeLine; rw [List.size_toArray, List.length_reverse, Array.length_toList]; exact hz, .str _, H4, I5.tok _, ⟨_, rfl⟩, q⟩
def mRevS (me : EM) : EM := fun ls h => (me ls h).bind fun d h1 => match d with
  | .str l => if szOk l.length = true then .ok (.str l.reverse) h1 else .bad
  | _ => .bad
theorem re_revS (he : RE X W e me) : RE X W (.Subscript e (.Slice none none (some (.UnaryOp .USub (.Constant (.int 1) k p1) p2)) p3) pos) (mRevS me) := by
  obtain ⟨t, a1, a2⟩ := he
  refine ⟨_, pe_revS a1, fun mp lh ls σ H Q r rs q => a2 mp lh ls σ H _ r rs (q.bind fun mp1 H1 lh1 x vx e1 r1 rl1 q1 => ?_)⟩
  cases rl1 with
  | str l =>
    cases hz : szOk l.length with
    | false => simp only [hz] at q1; exact q1.elim
    | true =>
      simp only [hz, if_true] at q1
      exact ⟨_, rfl, by rw [str_len]; exact szOk_le hz, by
        have : (⟨(⟨l.toArray⟩ : Str).cps.toList.reverse.toArray⟩ : Str) = ⟨l.reverse.toArray⟩ := by simp
        rw [this]; exact q1.now r1 (.str _)⟩
  | _ => exact q1.elim
end
theorem okR_revS {me : EM} {ls : Ls} {h : LH} {Y : Exn → LH → Prop} {Q : D → LH → Prop} : @okR _ (mRevS me ls h) ⟨Q⟩ ⟨Y⟩ = @okR _ (me ls h) ⟨fun d h1 => @okR _ (match d with
  | .str l => if szOk l.length = true then .ok (.str l.reverse) h1 else .bad
  | _ => .bad) ⟨Q⟩ ⟨Y⟩⟩ ⟨Y⟩ := okR_bind
end Rf
set_option Elab.async false
set_option linter.all false
set_option maxRecDepth 100000
set_option maxHeartbeats 400000
set_option autoImplicit false
namespace Rf
open PySem PySem.Spec L2
section
variable {Y : Exn → LH → Prop} {α β : Type}
end
end Rf
set_option Elab.async false
set_option linter.all false
set_option maxRecDepth 100000
set_option maxHeartbeats 800000
set_option autoImplicit false
namespace Rf
open PySem PySem.Spec PyProof.Rows L2
section
variable {prog : Program} {w : World} {A : Around} {R : Result → Shared → Prop} {s : Shared} {kx vx ta ia tb ib : Expr} {fa fb : List Expr} {scope : Scope} {pos : Pos} {it : Value} {D : Addr} {env : Env}
end
section
variable {X : Cx}
end
end Rf
set_option Elab.async false
set_option linter.all false
set_option maxRecDepth 100000
set_option maxHeartbeats 800000
set_option autoImplicit false
namespace Rf
open PySem PySem.Spec PyProof.Rows L2
section
variable {prog : Program} {w : World} {A : Around} {R : Result → Shared → Prop} {s : Shared} {el ta ia tb ib : Expr} {fa fb : List Expr} {scope : Scope} {pos : Pos} {it : Value} {acc : Value} {env : Env}
end
section
variable {X : Cx}
end
end Rf
set_option Elab.async false
set_option linter.all false
set_option maxRecDepth 100000
set_option maxHeartbeats 800000
set_option autoImplicit false
namespace Rf
open PySem PySem.Spec PyProof.Rows L2
section
variable {X : Cx} {W : WX} {kx vx tg iter tg1 iter1 : Expr} {ifs ifs1 : List Expr} {scope : Scope} {own : List (Str × Nat)} {pos : Pos} {wi wi1 : IM} {g g1 : GM} {mt mt1 : TM} {mk mv : EM} {vs1 : List Nat}
end
end Rf
set_option Elab.async false
set_option linter.all false
set_option maxRecDepth 100000
set_option maxHeartbeats 800000
set_option autoImplicit false
namespace Rf
open PySem PySem.Spec PyProof.Rows L2
section
variable {X : Cx}
end
section
variable {X : Cx} {W : WX} {kx vx tg iter tg1 iter1 : Expr} {ifs ifs1 : List Expr} {scope : Scope} {own : List (Str × Nat)} {pos : Pos} {wi wi1 : IM} {g g1 : GM} {mt mt1 : TM} {mk mv : EM} {vs1 : List Nat}
end
end Rf
set_option Elab.async false
set_option linter.all false
set_option maxRecDepth 100000
set_option maxHeartbeats 400000
set_option autoImplicit false
namespace Rf
open PySem PySem.Spec L2
section
variable {Y : Exn → LH → Prop} {α β : Type}
end
end Rf
set_option Elab.async false
set_option linter.all false
set_option maxRecDepth 100000
set_option maxHeartbeats 800000
set_option autoImplicit false
namespace Rf
open PySem PySem.Spec PyProof.Rows L2
def kn : D → Option Bool
  | .int _ => some true
  | .str _ => some false
  | _ => none
section
variable {α : Type} {le le' : α → α → Bool}
end
def pk : D → PyData
  | .int i => .int i
  | .str l => .str ⟨l.toArray⟩
  | _ => .none
section
open PySem.W
end
section
open PySem.W
end
end Rf
set_option Elab.async false
set_option linter.all false
set_option maxRecDepth 100000
set_option maxHeartbeats 800000
set_option autoImplicit false
namespace Rf
open PySem PySem.Spec PyProof.Rows L2 NdefX LamX
section
variable {M : Model} {A : Around} {E : Value → Shared → Prop} {s₀ s : Shared} {m cm : Str → Option Value} {env : Env} {oc : List (Str × Addr)}
end
structure NScopeC (N ps fr : List Str) (sc : Scope) : Prop where
  kind : sc.kind = .function
  co : sc.isCoroutine = false
  gen : sc.isGenerator = false
  nd : N.Nodup
  pre : N.take (ps.length + fr.length) = ps ++ fr
  par : ∀ x ∈ ps, sc.names.lookup x = some .local ∨ sc.names.lookup x = some .cell
  free : ∀ y ∈ sc.names, y.2 = .free → y.1 ∈ fr
  frk : ∀ x ∈ fr, sc.names.lookup x = some .free ∧ (x, NameKind.cell) ∉ sc.names
section
variable {CX : CXT} {P : Program} {w : World} {K : PySem.W.Frag} {mg : Str → Option Value} {base : Heap} {N ps fr : List Str} {F : NF} {f : Addr} {A : Around} {outer : List Env} {s : Shared} {H : Hp} {E : XK} {us : List Value} {vs : List V} {ws : List (Option V)}
end
section
variable {CX : CXT} {P : Program} {w : World} {K : PySem.W.Frag} {mg : Str → Option Value} {base : Heap} {N ps fr : List Str} {F : NF} {f : Addr} {k j : Nat} {sp sp' : List (Option V) → Sp}
end
section
variable {P : Program} {w : World} {K : PySem.W.Frag} {mg : Str → Option Value} {base : Heap} {N ps fr : List Str} {F : NF} {f : Addr} {k : Nat} {b : SM}
end
end Rf
set_option Elab.async false
set_option linter.all false
set_option maxRecDepth 100000
set_option maxHeartbeats 400000
set_option autoImplicit false
namespace Rf
open PySem PySem.Spec PyProof.Rows L2
def setdD (d k x : D) (h : LH) : R D := match dicW d h, d with
  | some (t, kvs), .ref n => if (keyOk t k && Nat.blt kvs.length 16777216) = true then (match getK kvs k with
    | some v => .ok v h
    | none => .ok x (h.set n (.dic t (putD kvs k x)))) else .bad
  | _, _ => .bad
def mSetd (mo mk mx : EM) : EM := fun ls h => (mo ls h).bind fun d h1 => if isDic d h1 = true then (mk ls h1).bind fun k h2 => (mx ls h2).bind fun x h3 => setdD d k x h3 else .bad
section
variable {X : Cx} {pins : List (Addr × Obj)} {σ : L2.St} {H : Hp} {s : Shared} {a b : Addr} {u r : Value} {d : V} {k : List Key} {A : Around} {E : Value → Shared → Prop}
end
section
variable {X : Cx} {W : WX} {o e f : Expr} {td ty tx : TE} {mo mk mx : EM} {apos cpos : Pos}
end
theorem okR_setd {mo mk mx : EM} {ls : Ls} {h : LH} {Q : D → LH → Prop} {Y : Exn → LH → Prop} : @okR _ (mSetd mo mk mx ls h) ⟨Q⟩ ⟨Y⟩ = @okR _ (mo ls h) ⟨fun d h => @okR _ (if isDic d h = true then (mk ls h).bind fun k h2 => (mx ls h2).bind fun x h3 => setdD d k x h3 else .bad) ⟨Q⟩ ⟨Y⟩⟩ ⟨Y⟩ := okR_bind
end Rf
set_option Elab.async false
set_option linter.all false
set_option maxRecDepth 100000
set_option maxHeartbeats 800000
set_option autoImplicit false
namespace Rf
open PySem PySem.Spec PyProof.Rows L2
section
variable {X : Cx}
end
section
variable {K : PySem.W.Frag} {mp mp1 : List Addr} {H H1 : Hp} {lh : LH} {p : Addr}
end
def mDtGo (g : GM) (tt : TM) (tk tv : EM) (L : LI) (ls0 : Ls) : Nat → Nat → List (D × D) → LH → R (List (D × D))
  | 0, _, _, _ => .bad
  | n + 1, i, acc, h => match L i h with
    | .done => .ok acc h
    | .bad => .bad
    | .item d => match g d ls0 with
      | none => .bad
      | some ls1 => match tt ls1 h with
        | .ok true h1 => (match tk ls1 h1 with
          | .ok k h2 => (match tv ls1 h2 with
            | .ok v h3 => if (isT k && Nat.blt acc.length 16777216) = true then mDtGo g tt tk tv L ls0 n (i + 1) (putD acc k v) h3 else .bad
            | _ => .bad)
          | _ => .bad)
        | .ok false h1 => mDtGo g tt tk tv L ls0 n (i + 1) acc h1
        | _ => .bad
def mkT (r : R (List (D × D))) : R D := r.bind fun acc h => .ok (.ref h.length) (h ++ [.dic true acc])
def mDct (n : Nat) (wi : IM) (g : GM) (tt : TM) (tk tv : EM) (vs : List Nat) : EM := fun ls h => (wi ls h).bind fun L h1 => mkT (mDtGo g tt tk tv L (wipeL ls vs) n 0 [] h1)
section
variable {X : Cx} {W : WX} {kx vx tg iter : Expr} {ifs : List Expr} {scope : Scope} {own : List (Str × Nat)} {pos : Pos} {wi : IM} {g : GM} {mt : TM} {mk mv : EM}
end
end Rf
set_option Elab.async false
set_option linter.all false
set_option maxRecDepth 100000
set_option maxHeartbeats 800000
set_option autoImplicit false
namespace Rf
open PySem PySem.Spec PyProof.Rows L2
def mKcGo (g : GM) (tt : TM) (te : EM) (L : LI) (ls0 : Ls) : Nat → Nat → List D → LH → R (List D)
  | 0, _, _, _ => .bad
  | n + 1, i, acc, h => match L i h with
    | .done => .ok acc h
    | .bad => .bad
    | .item d => match g d ls0 with
      | none => .bad
      | some ls1 => match tt ls1 h with
        | .ok true h1 => (match te ls1 h1 with
          | .ok y h2 => if (isK y && Nat.blt acc.length 4000) = true then mKcGo g tt te L ls0 n (i + 1) (acc ++ [y]) h2 else .bad
          | _ => .bad)
        | .ok false h1 => mKcGo g tt te L ls0 n (i + 1) acc h1
        | _ => .bad
def mKc2Go (g : GM) (tt : TM) (wi1 : IM) (g1 : GM) (tt1 : TM) (te : EM) (vs1 : List Nat) (m : Nat) (L : LI) (ls0 : Ls) : Nat → Nat → List D → LH → R (List D)
  | 0, _, _, _ => .bad
  | n + 1, i, acc, h => match L i h with
    | .done => .ok acc h
    | .bad => .bad
    | .item d => match g d ls0 with
      | none => .bad
      | some ls1 => match tt ls1 h with
        | .ok true h1 => (match wi1 ls1 h1 with
          | .ok L1 h2 => (match mKcGo g1 tt1 te L1 (wipeL ls1 vs1) m 0 acc h2 with
            | .ok acc' h3 => mKc2Go g tt wi1 g1 tt1 te vs1 m L ls0 n (i + 1) acc' h3
            | _ => .bad)
          | _ => .bad)
        | .ok false h1 => mKc2Go g tt wi1 g1 tt1 te vs1 m L ls0 n (i + 1) acc h1
        | _ => .bad
def mSortSc2 (n m : Nat) (wi : IM) (g : GM) (tt : TM) (wi1 : IM) (g1 : GM) (tt1 : TM) (te : EM) (vs vs1 : List Nat) : EM := fun ls h => (wi ls h).bind fun L h1 => srtK (mKc2Go g tt wi1 g1 tt1 te vs1 m L (wipeL ls vs) n 0 [] h1)
section
variable {K : PySem.W.Frag} {mp : List Addr} {H : Hp} {p : Addr} {w : World} {ks : List Key}
end
section
variable {X : Cx} {W : WX} {elt tg iter tg1 iter1 : Expr} {ifs ifs1 : List Expr} {scope : Scope} {own : List (Str × Nat)} {p1 pos pos1 : Pos} {wi wi1 : IM} {g g1 : GM} {mt mt1 : TM} {me : EM} {vs1 : List Nat}
end
theorem Room.u0 {k : Nat} {A : Around} (r : Room k A) : A.units < cLine := by have := r.un; omega
end Rf
set_option Elab.async false
set_option linter.all false
set_option maxRecDepth 100000
set_option maxHeartbeats 800000
set_option autoImplicit false
namespace Rf
open PySem PySem.Spec PyProof.Rows L2
end Rf
set_option Elab.async false
set_option linter.all false
set_option maxRecDepth 100000
set_option maxHeartbeats 800000
set_option autoImplicit false
namespace Rf
open PySem PySem.Spec PyProof.Rows L2 NdefX LamX
section
variable {P : Program} {w : World} {K : PySem.W.Frag} {mg : Str → Option Value} {base : Heap} {qual : Str} {params : Arguments} {body : List Stmt} {scope : Scope} {fd : FuncData} {N ps : List Str} {k n id i : Nat} {js : List Nat} {x : String} {st : Stmt} {name : Str} {p pos : Pos}
end
section
variable {X : Cx} {W : WX} {k k4 : Nat} {x y n1 : Str} {ps ps4 : List Str} {mb : FM} {e1 e2 e4 : Expr} {m1 m2 m4 : EM} {st1 : Stmt} {i1 id1 id2 : Nat} {js1 js2 : List Nat} {p p1 p4 pos4 pos : Pos}
end
end Rf
set_option Elab.async false
set_option linter.all false
set_option maxRecDepth 100000
set_option maxHeartbeats 400000
set_option autoImplicit false
namespace Rf
end Rf
set_option Elab.async false
set_option linter.all false
set_option maxRecDepth 100000
set_option maxHeartbeats 400000
set_option autoImplicit false
namespace Rf
open PySem PySem.Spec PyProof.Rows L2
section
variable {K : PySem.W.Frag} {mp : List Addr} {H : Hp} {lh : LH}
end
end Rf
set_option Elab.async false
set_option linter.all false
set_option maxRecDepth 100000
set_option maxHeartbeats 400000
set_option autoImplicit false
namespace Rf
open PySem PySem.Spec PyProof.Rows L2
section
open PySem.W PySem.SeqAt
variable {prog : Program} {w : World} {A : Around} {E : Value → Shared → Prop} {s : Shared}
end
def minS (x : List Nat) (xs : List (List Nat)) : List Nat := xs.foldl (fun a y => if y < a then y else a) x
def maxS (x : List Nat) (xs : List (List Nat)) : List Nat := xs.foldl (fun a y => if a < y then y else a) x
section
open PySem.W
end
end Rf
set_option Elab.async false
set_option linter.all false
set_option maxRecDepth 100000
set_option maxHeartbeats 400000
set_option autoImplicit false
namespace Rf
open PySem PySem.Spec PyProof.Rows L2
section
variable {X : Cx} {W : WX} {pos : Pos}
abbrev RelPs (K : PySem.W.Frag) (mp : List Addr) (H : Hp) : List (D × D) → List (V × V) → Prop := Paired fun p q => RelD K mp H p.1 q.1 ∧ RelD K mp H p.2 q.2
theorem RelPs.ext {K : PySem.W.Frag} {mp mp' : List Addr} {H H' : Hp} (e : Ext K mp H mp' H') : ∀ {ps : List (D × D)} {vs : List (V × V)}, RelPs K mp H ps vs → RelPs K mp' H' ps vs
  | _, _, .nil => .nil
  | _, _, .cons a b => .cons ⟨a.1.ext e, a.2.ext e⟩ (RelPs.ext e b)
end
end Rf
set_option Elab.async false
set_option linter.all false
set_option maxRecDepth 100000
set_option maxHeartbeats 400000
set_option autoImplicit false
namespace Rf
open PySem PySem.Spec PyProof.Rows L2
open PySem.SeqAt AutoSeq1 MeetsSeq MeetsSeq2 MeetsSeq3 SeqRoads2
section
variable {prog : Program} {w : World}
end
section
variable {X : Cx} {pins : List (Addr × Obj)} {σ : L2.St} {H : Hp} {s : Shared}
end
end Rf
set_option Elab.async false
set_option linter.all false
set_option maxRecDepth 100000
set_option maxHeartbeats 400000
set_option autoImplicit false
namespace Rf
open PySem PySem.Spec PyProof.Rows L2
end Rf
set_option Elab.async false
set_option linter.all false
set_option maxRecDepth 100000
set_option maxHeartbeats 0
set_option autoImplicit false
namespace Lw
open PySem PySem.Spec PyProof.Rows L2 Rf
def top (i : Nat) : Stmt := PySem.Challenge.pw_signworks_k03_whole_fits.main.body.getD i (.Pass ⟨0, 0, 0, 0⟩)
abbrev st__law_town : Stmt := top 33
def N__law_town : List Str := [(Str.ofString "script")]
def b__law_town : SM := mRet (mLst (mCons (mIf (mTest (mBin dNe (mV 0) (mLst (mNil)))) (mCall (f1 dList) (mCons (mV 0) (mNil))) (mLst (mCons (mC (.int 0)) (mNil)))) (mCons (mC (.int 0)) (mNil))))
def m__law_town : FM := runA (fm 1 b__law_town)
def d__law_town : He.DefD := ⟨("_law_town", none), "_law_town", "_law_town", defArgs st__law_town, defBody st__law_town, defScope st__law_town, [], []⟩
abbrev st__law_draw : Stmt := top 34
def N__law_draw : List Str := [(Str.ofString "town"), (Str.ofString "count_of"), (Str.ofString "row"), (Str.ofString "at"), (Str.ofString "cell"), (Str.ofString "mixed")]
def b__law_draw : SM := mSeq (mSet 2 (mBin dIx (mV 0) (mC (.int 0)))) (mSeq (mSetSub dSetL (mBin dAdd (mBin dIx (mV 0) (mC (.int 1))) (mC (.int 1))) (mV 0) (mC (.int 1))) (mSeq (mSet 3 (mBin fMod (mBin dIx (mV 0) (mC (.int 1))) (mCall (f1 dLen) (mCons (mV 2) (mNil))))) (mSeq (mSet 4 (mBin dIx (mV 2) (mV 3))) (mSeq (mIfS (mTest (mBin fGe (mV 4) (mC (.int 1000000000000000000)))) (mSeq (mSetSub dSetL (mBin fDiv (mV 4) (mV 1)) (mV 2) (mV 3)) (mRet (mBin fMod (mV 4) (mV 1)))) (mNext)) (mSeq (mSet 5 (mBin fMod (mBin dAdd (mV 4) (mBin dMul (mC (.int 104729)) (mBin dIx (mV 0) (mC (.int 1))))) (mC (.int 4294967291)))) (mSeq (mSet 5 (mBin fMod (mBin fPow (mV 5) (mC (.int 5))) (mC (.int 4294967279)))) (mRet (mBin fMod (mBin fDiv (mBin fMod (mBin dAdd (mBin dMul (mBin fDiv (mV 5) (mC (.int 64))) (mC (.int 69621))) (mV 5)) (mC (.int 4294967231))) (mC (.int 8))) (mV 1)))))))))
def m__law_draw : FM := runA (fm 6 b__law_draw)
def d__law_draw : He.DefD := ⟨("_law_draw", none), "_law_draw", "_law_draw", defArgs st__law_draw, defBody st__law_draw, defScope st__law_draw, [], []⟩
abbrev st__law_pick : Stmt := top 35
def N__law_pick : List Str := [(Str.ofString "town"), (Str.ofString "some")]
def b__law_pick : SM := mRet (mBin dIx (mV 1) (mCallK gd0 m__law_draw (mCons (mV 0) (mCons (mCall (f1 dLen) (mCons (mV 1) (mNil))) (mNil))) (mNil)))
def m__law_pick : FM := runA (fm 2 b__law_pick)
def d__law_pick : He.DefD := ⟨("_law_pick", none), "_law_pick", "_law_pick", defArgs st__law_pick, defBody st__law_pick, defScope st__law_pick, [], []⟩
abbrev st__law_alphabet : Stmt := top 37
def N__law_alphabet : List Str := [(Str.ofString "town")]
def b__law_alphabet : SM := mRet (mCallK gd0 m__law_pick (mCons (mV 0) (mCons (mLst (mCons (mC (.str [97])) (mCons (mC (.str [97, 98])) (mCons (mC (.str [97, 98])) (mCons (mC (.str [97, 98])) (mCons (mC (.str [97, 98, 99])) (mCons (mC (.str [120, 122])) (mNil)))))))) (mNil))) (mNil))
def m__law_alphabet : FM := runA (fm 1 b__law_alphabet)
def d__law_alphabet : He.DefD := ⟨("_law_alphabet", none), "_law_alphabet", "_law_alphabet", defArgs st__law_alphabet, defBody st__law_alphabet, defScope st__law_alphabet, [], []⟩
abbrev st__law_form : Stmt := top 39
def N__law_form : List Str := [(Str.ofString "town"), (Str.ofString "alphabet"), (Str.ofString "deep"), (Str.ofString "sort_of")]
def b0__law_form : SM := mSeq (mSet 3 (mCallK gd0 m__law_draw (mCons (mV 0) (mCons (mC (.int 11)) (mNil))) (mNil))) (mSeq (mIfS (mOr (mTest (mBin dEq (mV 2) (mC (.int 0)))) (mTest (mBin dLt (mV 3) (mC (.int 3))))) (mRet (mCallK gd0 m__law_pick (mCons (mV 0) (mCons (mBin dAdd (mBin dMul (mLst (mCons (mTup (mCons (mC (.str [115, 105, 103, 110])) (mCons (mCallK gd0 m__law_pick (mCons (mV 0) (mCons (mV 1) (mNil))) (mNil)) (mNil)))) (mNil))) (mC (.int 4))) (mLst (mCons (mTup (mCons (mC (.str [101, 109, 112, 116, 121])) (mNil))) (mCons (mTup (mCons (mC (.str [110, 111, 110, 101])) (mNil))) (mNil))))) (mNil))) (mNil))) (mNext)) (mSeq (mIfS (mTest (mBin dLt (mV 3) (mC (.int 5)))) (mRet (mTup (mCons (mC (.str [111, 114])) (mCons (mBad) (mCons (mBad) (mNil)))))) (mNext)) (mSeq (mIfS (mTest (mBin dLt (mV 3) (mC (.int 8)))) (mRet (mTup (mCons (mC (.str [116, 104, 101, 110])) (mCons (mBad) (mCons (mBad) (mNil)))))) (mNext)) (mSeq (mIfS (mTest (mBin dEq (mV 3) (mC (.int 8)))) (mRet (mTup (mCons (mC (.str [97, 110, 121])) (mCons (mBad) (mNil))))) (mNext)) (mSeq (mIfS (mTest (mBin dEq (mV 3) (mC (.int 9)))) (mRet (mTup (mCons (mC (.str [98, 111, 116, 104])) (mCons (mBad) (mCons (mBad) (mNil)))))) (mNext)) (mRet (mTup (mCons (mC (.str [110, 111, 116])) (mCons (mBad) (mNil))))))))))
def b1__law_form (rc : FM) : SM := mSeq (mSet 3 (mCallK gd0 m__law_draw (mCons (mV 0) (mCons (mC (.int 11)) (mNil))) (mNil))) (mSeq (mIfS (mOr (mTest (mBin dEq (mV 2) (mC (.int 0)))) (mTest (mBin dLt (mV 3) (mC (.int 3))))) (mRet (mCallK gd0 m__law_pick (mCons (mV 0) (mCons (mBin dAdd (mBin dMul (mLst (mCons (mTup (mCons (mC (.str [115, 105, 103, 110])) (mCons (mCallK gd0 m__law_pick (mCons (mV 0) (mCons (mV 1) (mNil))) (mNil)) (mNil)))) (mNil))) (mC (.int 4))) (mLst (mCons (mTup (mCons (mC (.str [101, 109, 112, 116, 121])) (mNil))) (mCons (mTup (mCons (mC (.str [110, 111, 110, 101])) (mNil))) (mNil))))) (mNil))) (mNil))) (mNext)) (mSeq (mIfS (mTest (mBin dLt (mV 3) (mC (.int 5)))) (mRet (mTup (mCons (mC (.str [111, 114])) (mCons (mCallK gd0 rc (mCons (mV 0) (mCons (mV 1) (mCons (mBin fSub (mV 2) (mC (.int 1))) (mNil)))) (mNil)) (mCons (mCallK gd0 rc (mCons (mV 0) (mCons (mV 1) (mCons (mBin fSub (mV 2) (mC (.int 1))) (mNil)))) (mNil)) (mNil)))))) (mNext)) (mSeq (mIfS (mTest (mBin dLt (mV 3) (mC (.int 8)))) (mRet (mTup (mCons (mC (.str [116, 104, 101, 110])) (mCons (mCallK gd0 rc (mCons (mV 0) (mCons (mV 1) (mCons (mBin fSub (mV 2) (mC (.int 1))) (mNil)))) (mNil)) (mCons (mCallK gd0 rc (mCons (mV 0) (mCons (mV 1) (mCons (mBin fSub (mV 2) (mC (.int 1))) (mNil)))) (mNil)) (mNil)))))) (mNext)) (mSeq (mIfS (mTest (mBin dEq (mV 3) (mC (.int 8)))) (mRet (mTup (mCons (mC (.str [97, 110, 121])) (mCons (mCallK gd0 rc (mCons (mV 0) (mCons (mV 1) (mCons (mBin fSub (mV 2) (mC (.int 1))) (mNil)))) (mNil)) (mNil))))) (mNext)) (mSeq (mIfS (mTest (mBin dEq (mV 3) (mC (.int 9)))) (mRet (mTup (mCons (mC (.str [98, 111, 116, 104])) (mCons (mCallK gd0 rc (mCons (mV 0) (mCons (mV 1) (mCons (mBin fSub (mV 2) (mC (.int 1))) (mNil)))) (mNil)) (mCons (mCallK gd0 rc (mCons (mV 0) (mCons (mV 1) (mCons (mBin fSub (mV 2) (mC (.int 1))) (mNil)))) (mNil)) (mNil)))))) (mNext)) (mRet (mTup (mCons (mC (.str [110, 111, 116])) (mCons (mCallK gd0 rc (mCons (mV 0) (mCons (mV 1) (mCons (mBin fSub (mV 2) (mC (.int 1))) (mNil)))) (mNil)) (mNil))))))))))
def M__law_form : Nat → FM | 0 => runA (fm 4 b0__law_form) | n + 1 => runA (fm 4 (b1__law_form (M__law_form n)))
def m__law_form : FM := M__law_form 6
def d__law_form : He.DefD := ⟨("_law_form", none), "_law_form", "_law_form", defArgs st__law_form, defBody st__law_form, defScope st__law_form, [], []⟩
abbrev st_is_signs : Stmt := top 9
def N_is_signs : List Str := [(Str.ofString "thing"), (Str.ofString "sign")]
def b_is_signs : SM := mSeq (mIfS (mOr (mNot (mTest (mIsi (luk [(.non, false), (.bool, false), (.int, false), (.str, true), (.list, false), (.tuple, false), (.dict, false)]) (mV 0)))) (mNot (mTest (mChain fLe fLe (mC (.int 1)) (mCall (f1 dLen) (mCons (mV 0) (mNil))) (mC (.int 4)))))) (mRet (mC (.bl false))) (mNext)) (mRet (mAndV (mCall (f1 dAll) (mCons (mLc 100000 (imAny (mV 0)) (gmName 1) (mYes) (mBin dIn (mV 1) (mC (.str [97, 98, 99, 100, 101, 102, 103, 104, 105, 106, 107, 108, 109, 110, 111, 112, 113, 114, 115, 116, 117, 118, 119, 120, 121, 122]))) [1]) (mNil))) (mBin dEq (mBM isStr dJoin (mC (.str [])) (mCons (mSortSet (mV 0)) (mNil))) (mV 0))))
def m_is_signs : FM := runA (fm 2 b_is_signs)
def d_is_signs : He.DefD := ⟨("is_signs", none), "is_signs", "is_signs", defArgs st_is_signs, defBody st_is_signs, defScope st_is_signs, [], []⟩
abbrev st_look_signs : Stmt := top 10
def N_look_signs : List Str := [(Str.ofString "thing")]
def b_look_signs : SM := mIfS (mNot (mTest (mCallK gd0 m_is_signs (mCons (mV 0) (mNil)) (mNil)))) (mRaise 2) (mNext)
def m_look_signs : FM := runA (fm 1 b_look_signs)
def d_look_signs : He.DefD := ⟨("look_signs", none), "look_signs", "look_signs", defArgs st_look_signs, defBody st_look_signs, defScope st_look_signs, [], []⟩
abbrev st_parts_of : Stmt := top 20
def N_parts_of : List Str := [(Str.ofString "thing"), (Str.ofString "signs"), (Str.ofString "deep"), (Str.ofString "bad"), (Str.ofString "word"), (Str.ofString "many"), (Str.ofString "found"), (Str.ofString "one")]
def b0_parts_of : SM := mSeq (mSet 3 (mBin dAdd (mC (.int 2000)) (mC (.int 1)))) (mSeq (mIfS (mOr (mNot (mTest (mIsi (luk [(.non, false), (.bool, false), (.int, false), (.str, false), (.list, false), (.tuple, true), (.dict, false)]) (mV 0)))) (mOr (mTest (mBin dEq (mV 0) (mTup (mNil)))) (mOr (mNot (mTest (mIsi (luk [(.non, false), (.bool, false), (.int, false), (.str, true), (.list, false), (.tuple, false), (.dict, false)]) (mBin dIx (mV 0) (mC (.int 0)))))) (mTest (mBin fGt (mV 2) (mC (.int 60))))))) (mRet (mV 3)) (mNext)) (mSeq (mSet 4 (mBin dIx (mV 0) (mC (.int 0)))) (mSeq (mIfS (mTest (mBin dIn (mV 4) (mTup (mCons (mC (.str [110, 111, 110, 101])) (mCons (mC (.str [101, 109, 112, 116, 121])) (mNil)))))) (mRet (mIf (mTest (mBin dEq (mCall (f1 dLen) (mCons (mV 0) (mNil))) (mC (.int 1)))) (mC (.int 1)) (mV 3))) (mNext)) (mSeq (mIfS (mTest (mBin dEq (mV 4) (mC (.str [115, 105, 103, 110])))) (mRet (mIf (mAnd (mTest (mBin dEq (mCall (f1 dLen) (mCons (mV 0) (mNil))) (mC (.int 2)))) (mAnd (mTest (mIsi (luk [(.non, false), (.bool, false), (.int, false), (.str, true), (.list, false), (.tuple, false), (.dict, false)]) (mBin dIx (mV 0) (mC (.int 1))))) (mAnd (mTest (mBin dEq (mCall (f1 dLen) (mCons (mBin dIx (mV 0) (mC (.int 1))) (mNil))) (mC (.int 1)))) (mTest (mBin dIn (mBin dIx (mV 0) (mC (.int 1))) (mV 1)))))) (mC (.int 1)) (mV 3))) (mNext)) (mSeq (mSet 5 (mIf (mTest (mBin dIn (mV 4) (mC (.tup [.str [111, 114], .str [116, 104, 101, 110], .str [98, 111, 116, 104]])))) (mC (.int 2)) (mIf (mTest (mBin dIn (mV 4) (mC (.tup [.str [97, 110, 121], .str [110, 111, 116]])))) (mC (.int 1)) (mC (.int 0))))) (mSeq (mIfS (mOr (mTest (mBin dEq (mV 5) (mC (.int 0)))) (mTest (mBin dNe (mCall (f1 dLen) (mCons (mV 0) (mNil))) (mBin dAdd (mV 5) (mC (.int 1)))))) (mRet (mV 3)) (mNext)) (mSeq (mSet 6 (mC (.int 1))) (mSeq (mFor 100000 (imAny (mSl (mV 0) (mPart (mC (.int 1))) mNoPart)) (gmName 7) (mSeq (mAug fIAdd 6 (mBad)) (mIfS (mTest (mBin fGt (mV 6) (mC (.int 2000)))) (mRet (mV 3)) (mNext)))) (mRet (mV 6))))))))))
def b1_parts_of (rc : FM) : SM := mSeq (mSet 3 (mBin dAdd (mC (.int 2000)) (mC (.int 1)))) (mSeq (mIfS (mOr (mNot (mTest (mIsi (luk [(.non, false), (.bool, false), (.int, false), (.str, false), (.list, false), (.tuple, true), (.dict, false)]) (mV 0)))) (mOr (mTest (mBin dEq (mV 0) (mTup (mNil)))) (mOr (mNot (mTest (mIsi (luk [(.non, false), (.bool, false), (.int, false), (.str, true), (.list, false), (.tuple, false), (.dict, false)]) (mBin dIx (mV 0) (mC (.int 0)))))) (mTest (mBin fGt (mV 2) (mC (.int 60))))))) (mRet (mV 3)) (mNext)) (mSeq (mSet 4 (mBin dIx (mV 0) (mC (.int 0)))) (mSeq (mIfS (mTest (mBin dIn (mV 4) (mTup (mCons (mC (.str [110, 111, 110, 101])) (mCons (mC (.str [101, 109, 112, 116, 121])) (mNil)))))) (mRet (mIf (mTest (mBin dEq (mCall (f1 dLen) (mCons (mV 0) (mNil))) (mC (.int 1)))) (mC (.int 1)) (mV 3))) (mNext)) (mSeq (mIfS (mTest (mBin dEq (mV 4) (mC (.str [115, 105, 103, 110])))) (mRet (mIf (mAnd (mTest (mBin dEq (mCall (f1 dLen) (mCons (mV 0) (mNil))) (mC (.int 2)))) (mAnd (mTest (mIsi (luk [(.non, false), (.bool, false), (.int, false), (.str, true), (.list, false), (.tuple, false), (.dict, false)]) (mBin dIx (mV 0) (mC (.int 1))))) (mAnd (mTest (mBin dEq (mCall (f1 dLen) (mCons (mBin dIx (mV 0) (mC (.int 1))) (mNil))) (mC (.int 1)))) (mTest (mBin dIn (mBin dIx (mV 0) (mC (.int 1))) (mV 1)))))) (mC (.int 1)) (mV 3))) (mNext)) (mSeq (mSet 5 (mIf (mTest (mBin dIn (mV 4) (mC (.tup [.str [111, 114], .str [116, 104, 101, 110], .str [98, 111, 116, 104]])))) (mC (.int 2)) (mIf (mTest (mBin dIn (mV 4) (mC (.tup [.str [97, 110, 121], .str [110, 111, 116]])))) (mC (.int 1)) (mC (.int 0))))) (mSeq (mIfS (mOr (mTest (mBin dEq (mV 5) (mC (.int 0)))) (mTest (mBin dNe (mCall (f1 dLen) (mCons (mV 0) (mNil))) (mBin dAdd (mV 5) (mC (.int 1)))))) (mRet (mV 3)) (mNext)) (mSeq (mSet 6 (mC (.int 1))) (mSeq (mFor 100000 (imAny (mSl (mV 0) (mPart (mC (.int 1))) mNoPart)) (gmName 7) (mSeq (mAug fIAdd 6 (mCallK gd0 rc (mCons (mV 7) (mCons (mV 1) (mCons (mBin dAdd (mV 2) (mC (.int 1))) (mNil)))) (mNil))) (mIfS (mTest (mBin fGt (mV 6) (mC (.int 2000)))) (mRet (mV 3)) (mNext)))) (mRet (mV 6))))))))))
def M_parts_of : Nat → FM | 0 => runA (fm 8 b0_parts_of) | n + 1 => runA (fm 8 (b1_parts_of (M_parts_of n)))
def m_parts_of : FM := M_parts_of 62
def d_parts_of : He.DefD := ⟨("parts_of", none), "parts_of", "parts_of", defArgs st_parts_of, defBody st_parts_of, defScope st_parts_of, [], []⟩
abbrev st_look_form : Stmt := top 22
def N_look_form : List Str := [(Str.ofString "thing"), (Str.ofString "signs")]
def b_look_form : SM := mIfS (mTest (mBin fGt (mCallK gd0 m_parts_of (mCons (mV 0) (mCons (mV 1) (mCons (mC (.int 0)) (mNil)))) (mNil)) (mC (.int 2000)))) (mRaise 4) (mNext)
def m_look_form : FM := runA (fm 2 b_look_form)
def d_look_form : He.DefD := ⟨("look_form", none), "look_form", "look_form", defArgs st_look_form, defBody st_look_form, defScope st_look_form, [], []⟩
abbrev st_turned : Stmt := top 31
def N_turned : List Str := [(Str.ofString "form"), (Str.ofString "word"), (Str.ofString "one")]
def b0_turned : SM := mSeq (mSet 1 (mBin dIx (mV 0) (mC (.int 0)))) (mSeq (mIfS (mTest (mBin dIn (mV 1) (mTup (mCons (mC (.str [110, 111, 110, 101])) (mCons (mC (.str [101, 109, 112, 116, 121])) (mCons (mC (.str [115, 105, 103, 110])) (mNil))))))) (mRet (mV 0)) (mNext)) (mSeq (mIfS (mTest (mBin dEq (mV 1) (mC (.str [116, 104, 101, 110])))) (mRet (mTup (mCons (mC (.str [116, 104, 101, 110])) (mCons (mBad) (mCons (mBad) (mNil)))))) (mNext)) (mRet (mBin dAdd (mTup (mCons (mV 1) (mNil))) (mCall (f1 dTuple) (mCons (mLc 100000 (imAny (mSl (mV 0) (mPart (mC (.int 1))) mNoPart)) (gmName 2) (mYes) (mBad) [2]) (mNil)))))))
def b1_turned (rc : FM) : SM := mSeq (mSet 1 (mBin dIx (mV 0) (mC (.int 0)))) (mSeq (mIfS (mTest (mBin dIn (mV 1) (mTup (mCons (mC (.str [110, 111, 110, 101])) (mCons (mC (.str [101, 109, 112, 116, 121])) (mCons (mC (.str [115, 105, 103, 110])) (mNil))))))) (mRet (mV 0)) (mNext)) (mSeq (mIfS (mTest (mBin dEq (mV 1) (mC (.str [116, 104, 101, 110])))) (mRet (mTup (mCons (mC (.str [116, 104, 101, 110])) (mCons (mCallK gd0 rc (mCons (mBin dIx (mV 0) (mC (.int 2))) (mNil)) (mNil)) (mCons (mCallK gd0 rc (mCons (mBin dIx (mV 0) (mC (.int 1))) (mNil)) (mNil)) (mNil)))))) (mNext)) (mRet (mBin dAdd (mTup (mCons (mV 1) (mNil))) (mCall (f1 dTuple) (mCons (mLc 100000 (imAny (mSl (mV 0) (mPart (mC (.int 1))) mNoPart)) (gmName 2) (mYes) (mCallK gd0 rc (mCons (mV 2) (mNil)) (mNil)) [2]) (mNil)))))))
def M_turned : Nat → FM | 0 => runA (fm 3 b0_turned) | n + 1 => runA (fm 3 (b1_turned (M_turned n)))
def m_turned : FM := M_turned 8
def d_turned : He.DefD := ⟨("turned", none), "turned", "turned", defArgs st_turned, defBody st_turned, defScope st_turned, [], []⟩
abbrev st_turned_form : Stmt := top 30
def N_turned_form : List Str := [(Str.ofString "form"), (Str.ofString "signs")]
def b_turned_form : SM := mSeq (mDrop (mCallK gd0 m_look_signs (mCons (mV 1) (mNil)) (mNil))) (mSeq (mDrop (mCallK gd0 m_look_form (mCons (mV 0) (mCons (mV 1) (mNil))) (mNil))) (mRet (mCallK gd0 m_turned (mCons (mV 0) (mNil)) (mNil))))
def m_turned_form : FM := runA (fm 2 b_turned_form)
def d_turned_form : He.DefD := ⟨("turned_form", none), "turned_form", "turned_form", defArgs st_turned_form, defBody st_turned_form, defScope st_turned_form, [], []⟩
abbrev st__law_word : Stmt := top 38
def N__law_word : List Str := [(Str.ofString "town"), (Str.ofString "alphabet"), (Str.ofString "most"), (Str.ofString "k")]
def b__law_word : SM := mRet (mBM isStr dJoin (mC (.str [])) (mCons (mLc 100000 (imRange1 (mCons (mCallK gd0 m__law_draw (mCons (mV 0) (mCons (mBin dAdd (mV 2) (mC (.int 1))) (mNil))) (mNil)) (mNil))) (gmName 3) (mYes) (mCallK gd0 m__law_pick (mCons (mV 0) (mCons (mV 1) (mNil))) (mNil)) [3]) (mNil)))
def m__law_word : FM := runA (fm 4 b__law_word)
def d__law_word : He.DefD := ⟨("_law_word", none), "_law_word", "_law_word", defArgs st__law_word, defBody st__law_word, defScope st__law_word, [], []⟩
abbrev st__law_behind : Stmt := top 41
def N__law_behind : List Str := [(Str.ofString "middles"), (Str.ofString "two"), (Str.ofString "found"), (Str.ofString "middle")]
def b__law_behind : SM := mSeq (mSet 2 (mLst (mNil))) (mSeq (mFor 100000 (imAny (mV 0)) (gmName 3) (mSet 2 (mBin dAdd (mV 2) (mBin dIx (mV 1) (mV 3))))) (mRet (mSortSet (mV 2))))
def m__law_behind : FM := runA (fm 4 b__law_behind)
def d__law_behind : He.DefD := ⟨("_law_behind", none), "_law_behind", "_law_behind", defArgs st__law_behind, defBody st__law_behind, defScope st__law_behind, [], []⟩
abbrev st__law_chain : Stmt := top 42
def N__law_chain : List Str := [(Str.ofString "one"), (Str.ofString "start"), (Str.ofString "found"), (Str.ofString "at"), (Str.ofString "there")]
def b__law_chain : SM := mSeq (mSet 2 (mLst (mCons (mV 1) (mNil)))) (mSeq (mSet 3 (mC (.int 0))) (mSeq (mWhile 100000 (mTest (mBin dLt (mV 3) (mCall (f1 dLen) (mCons (mV 2) (mNil))))) (mSeq (mSet 2 (mBin dAdd (mV 2) (mLc 100000 (imAny (mBin dIx (mV 0) (mBin dIx (mV 2) (mV 3)))) (gmName 4) (mTest (mBin dNotIn (mV 4) (mV 2))) (mV 4) [4]))) (mSet 3 (mBin dAdd (mV 3) (mC (.int 1)))))) (mRet (mCall (f1 dSorted) (mCons (mV 2) (mNil))))))
def m__law_chain : FM := runA (fm 5 b__law_chain)
def d__law_chain : He.DefD := ⟨("_law_chain", none), "_law_chain", "_law_chain", defArgs st__law_chain, defBody st__law_chain, defScope st__law_chain, [], []⟩
abbrev st__law_spans : Stmt := top 40
def N__law_spans : List Str := [(Str.ofString "form"), (Str.ofString "word"), (Str.ofString "length_of"), (Str.ofString "sort_of"), (Str.ofString "one"), (Str.ofString "two"), (Str.ofString "k"), (Str.ofString "j")]
def b0__law_spans : SM := mSeq (mSet 2 (mBin dAdd (mCall (f1 dLen) (mCons (mV 1) (mNil))) (mC (.int 1)))) (mSeq (mSet 3 (mBin dIx (mV 0) (mC (.int 0)))) (mSeq (mIfS (mTest (mBin dEq (mV 3) (mC (.str [110, 111, 110, 101])))) (mRet (mLc 100000 (imRange1 (mCons (mV 2) (mNil))) (gmName 6) (mYes) (mLst (mNil)) [6])) (mNext)) (mSeq (mIfS (mTest (mBin dEq (mV 3) (mC (.str [101, 109, 112, 116, 121])))) (mRet (mLc 100000 (imRange1 (mCons (mV 2) (mNil))) (gmName 6) (mYes) (mLst (mCons (mV 6) (mNil))) [6])) (mNext)) (mSeq (mIfS (mTest (mBin dEq (mV 3) (mC (.str [115, 105, 103, 110])))) (mRet (mLc 100000 (imRange1 (mCons (mV 2) (mNil))) (gmName 6) (mYes) (mIf (mTest (mBin dEq (mSl (mV 1) (mPart (mV 6)) (mPart (mBin dAdd (mV 6) (mC (.int 1))))) (mBin dIx (mV 0) (mC (.int 1))))) (mLst (mCons (mBin dAdd (mV 6) (mC (.int 1))) (mNil))) (mLst (mNil))) [6])) (mNext)) (mSeq (mSet 4 (mBad)) (mSeq (mIfS (mTest (mBin dEq (mV 3) (mC (.str [110, 111, 116])))) (mRet (mLc 100000 (imRange1 (mCons (mV 2) (mNil))) (gmName 6) (mYes) (mLc 100000 (imRange2 (mCons (mV 6) (mCons (mV 2) (mNil)))) (gmName 7) (mTest (mBin dNotIn (mV 7) (mBin dIx (mV 4) (mV 6)))) (mV 7) [7]) [6])) (mNext)) (mSeq (mIfS (mTest (mBin dEq (mV 3) (mC (.str [97, 110, 121])))) (mRet (mLc 100000 (imRange1 (mCons (mV 2) (mNil))) (gmName 6) (mYes) (mCallK gd0 m__law_chain (mCons (mV 4) (mCons (mV 6) (mNil))) (mNil)) [6])) (mNext)) (mSeq (mSet 5 (mBad)) (mSeq (mIfS (mTest (mBin dEq (mV 3) (mC (.str [111, 114])))) (mRet (mLc 100000 (imRange1 (mCons (mV 2) (mNil))) (gmName 6) (mYes) (mSortSet (mBin dAdd (mBin dIx (mV 4) (mV 6)) (mBin dIx (mV 5) (mV 6)))) [6])) (mNext)) (mSeq (mIfS (mTest (mBin dEq (mV 3) (mC (.str [98, 111, 116, 104])))) (mRet (mLc 100000 (imRange1 (mCons (mV 2) (mNil))) (gmName 6) (mYes) (mLc 100000 (imAny (mBin dIx (mV 4) (mV 6))) (gmName 7) (mTest (mBin dIn (mV 7) (mBin dIx (mV 5) (mV 6)))) (mV 7) [7]) [6])) (mNext)) (mRet (mLc 100000 (imRange1 (mCons (mV 2) (mNil))) (gmName 6) (mYes) (mCallK gd0 m__law_behind (mCons (mBin dIx (mV 4) (mV 6)) (mCons (mV 5) (mNil))) (mNil)) [6]))))))))))))
def b1__law_spans (rc : FM) : SM := mSeq (mSet 2 (mBin dAdd (mCall (f1 dLen) (mCons (mV 1) (mNil))) (mC (.int 1)))) (mSeq (mSet 3 (mBin dIx (mV 0) (mC (.int 0)))) (mSeq (mIfS (mTest (mBin dEq (mV 3) (mC (.str [110, 111, 110, 101])))) (mRet (mLc 100000 (imRange1 (mCons (mV 2) (mNil))) (gmName 6) (mYes) (mLst (mNil)) [6])) (mNext)) (mSeq (mIfS (mTest (mBin dEq (mV 3) (mC (.str [101, 109, 112, 116, 121])))) (mRet (mLc 100000 (imRange1 (mCons (mV 2) (mNil))) (gmName 6) (mYes) (mLst (mCons (mV 6) (mNil))) [6])) (mNext)) (mSeq (mIfS (mTest (mBin dEq (mV 3) (mC (.str [115, 105, 103, 110])))) (mRet (mLc 100000 (imRange1 (mCons (mV 2) (mNil))) (gmName 6) (mYes) (mIf (mTest (mBin dEq (mSl (mV 1) (mPart (mV 6)) (mPart (mBin dAdd (mV 6) (mC (.int 1))))) (mBin dIx (mV 0) (mC (.int 1))))) (mLst (mCons (mBin dAdd (mV 6) (mC (.int 1))) (mNil))) (mLst (mNil))) [6])) (mNext)) (mSeq (mSet 4 (mCallK gd0 rc (mCons (mBin dIx (mV 0) (mC (.int 1))) (mCons (mV 1) (mNil))) (mNil))) (mSeq (mIfS (mTest (mBin dEq (mV 3) (mC (.str [110, 111, 116])))) (mRet (mLc 100000 (imRange1 (mCons (mV 2) (mNil))) (gmName 6) (mYes) (mLc 100000 (imRange2 (mCons (mV 6) (mCons (mV 2) (mNil)))) (gmName 7) (mTest (mBin dNotIn (mV 7) (mBin dIx (mV 4) (mV 6)))) (mV 7) [7]) [6])) (mNext)) (mSeq (mIfS (mTest (mBin dEq (mV 3) (mC (.str [97, 110, 121])))) (mRet (mLc 100000 (imRange1 (mCons (mV 2) (mNil))) (gmName 6) (mYes) (mCallK gd0 m__law_chain (mCons (mV 4) (mCons (mV 6) (mNil))) (mNil)) [6])) (mNext)) (mSeq (mSet 5 (mCallK gd0 rc (mCons (mBin dIx (mV 0) (mC (.int 2))) (mCons (mV 1) (mNil))) (mNil))) (mSeq (mIfS (mTest (mBin dEq (mV 3) (mC (.str [111, 114])))) (mRet (mLc 100000 (imRange1 (mCons (mV 2) (mNil))) (gmName 6) (mYes) (mSortSet (mBin dAdd (mBin dIx (mV 4) (mV 6)) (mBin dIx (mV 5) (mV 6)))) [6])) (mNext)) (mSeq (mIfS (mTest (mBin dEq (mV 3) (mC (.str [98, 111, 116, 104])))) (mRet (mLc 100000 (imRange1 (mCons (mV 2) (mNil))) (gmName 6) (mYes) (mLc 100000 (imAny (mBin dIx (mV 4) (mV 6))) (gmName 7) (mTest (mBin dIn (mV 7) (mBin dIx (mV 5) (mV 6)))) (mV 7) [7]) [6])) (mNext)) (mRet (mLc 100000 (imRange1 (mCons (mV 2) (mNil))) (gmName 6) (mYes) (mCallK gd0 m__law_behind (mCons (mBin dIx (mV 4) (mV 6)) (mCons (mV 5) (mNil))) (mNil)) [6]))))))))))))
def M__law_spans : Nat → FM | 0 => runA (fm 8 b0__law_spans) | n + 1 => runA (fm 8 (b1__law_spans (M__law_spans n)))
def m__law_spans : FM := M__law_spans 62
def d__law_spans : He.DefD := ⟨("_law_spans", none), "_law_spans", "_law_spans", defArgs st__law_spans, defBody st__law_spans, defScope st__law_spans, [], []⟩
abbrev st__law_has : Stmt := top 43
def N__law_has : List Str := [(Str.ofString "form"), (Str.ofString "word")]
def b__law_has : SM := mRet (mBin dIn (mCall (f1 dLen) (mCons (mV 1) (mNil))) (mBin dIx (mCallK gd0 m__law_spans (mCons (mV 0) (mCons (mV 1) (mNil))) (mNil)) (mC (.int 0))))
def m__law_has : FM := runA (fm 2 b__law_has)
def d__law_has : He.DefD := ⟨("_law_has", none), "_law_has", "_law_has", defArgs st__law_has, defBody st__law_has, defScope st__law_has, [], []⟩
abbrev st_word_of : Stmt := top 11
def N_word_of : List Str := [(Str.ofString "thing"), (Str.ofString "signs"), (Str.ofString "sign")]
def b_word_of : SM := mRet (mAndV (mIsi (luk [(.non, false), (.bool, false), (.int, false), (.str, true), (.list, false), (.tuple, false), (.dict, false)]) (mV 0)) (mAndV (mBin fLe (mCall (f1 dLen) (mCons (mV 0) (mNil))) (mC (.int 40))) (mCall (f1 dAll) (mCons (mLc 100000 (imAny (mV 0)) (gmName 2) (mYes) (mBin dIn (mV 2) (mV 1)) [2]) (mNil)))))
def m_word_of : FM := runA (fm 3 b_word_of)
def d_word_of : He.DefD := ⟨("word_of", none), "word_of", "word_of", defArgs st_word_of, defBody st_word_of, defScope st_word_of, [], []⟩
abbrev st_look_word : Stmt := top 12
def N_look_word : List Str := [(Str.ofString "thing"), (Str.ofString "signs")]
def b_look_word : SM := mIfS (mNot (mTest (mCallK gd0 m_word_of (mCons (mV 0) (mCons (mV 1) (mNil))) (mNil)))) (mRaise 3) (mNext)
def m_look_word : FM := runA (fm 2 b_look_word)
def d_look_word : He.DefD := ⟨("look_word", none), "look_word", "look_word", defArgs st_look_word, defBody st_look_word, defScope st_look_word, [], []⟩
abbrev st_behind : Stmt := top 26
def N_behind : List Str := [(Str.ofString "one"), (Str.ofString "other")]
def b_behind : SM := mSeq (mIfS (mTest (mBin dIn (mC (.tup [.str [110, 111, 110, 101]])) (mTup (mCons (mV 0) (mCons (mV 1) (mNil)))))) (mRet (mC (.tup [.str [110, 111, 110, 101]]))) (mNext)) (mSeq (mIfS (mTest (mBin dEq (mV 0) (mC (.tup [.str [101, 109, 112, 116, 121]])))) (mRet (mV 1)) (mNext)) (mRet (mIf (mTest (mBin dEq (mV 1) (mC (.tup [.str [101, 109, 112, 116, 121]])))) (mV 0) (mTup (mCons (mC (.str [116, 104, 101, 110])) (mCons (mV 0) (mCons (mV 1) (mNil))))))))
def m_behind : FM := runA (fm 2 b_behind)
def d_behind : He.DefD := ⟨("behind", none), "behind", "behind", defArgs st_behind, defBody st_behind, defScope st_behind, [], []⟩
abbrev st_either : Stmt := top 25
def N_either : List Str := [(Str.ofString "one"), (Str.ofString "other")]
def b_either : SM := mSeq (mIfS (mOr (mTest (mBin dEq (mV 0) (mV 1))) (mTest (mBin dEq (mV 1) (mC (.tup [.str [110, 111, 110, 101]]))))) (mRet (mV 0)) (mNext)) (mRet (mIf (mTest (mBin dEq (mV 0) (mC (.tup [.str [110, 111, 110, 101]])))) (mV 1) (mTup (mCons (mC (.str [111, 114])) (mCons (mV 0) (mCons (mV 1) (mNil)))))))
def m_either : FM := runA (fm 2 b_either)
def d_either : He.DefD := ⟨("either", none), "either", "either", defArgs st_either, defBody st_either, defScope st_either, [], []⟩
abbrev st_has_empty : Stmt := top 24
def N_has_empty : List Str := [(Str.ofString "form"), (Str.ofString "word")]
def b0_has_empty : SM := mSeq (mSet 1 (mBin dIx (mV 0) (mC (.int 0)))) (mSeq (mIfS (mTest (mBin dIn (mV 1) (mTup (mCons (mC (.str [101, 109, 112, 116, 121])) (mCons (mC (.str [97, 110, 121])) (mNil)))))) (mRet (mC (.bl true))) (mNext)) (mSeq (mIfS (mTest (mBin dIn (mV 1) (mTup (mCons (mC (.str [110, 111, 110, 101])) (mCons (mC (.str [115, 105, 103, 110])) (mNil)))))) (mRet (mC (.bl false))) (mNext)) (mSeq (mIfS (mTest (mBin dEq (mV 1) (mC (.str [110, 111, 116])))) (mRet (mNotV (mBad))) (mNext)) (mSeq (mIfS (mTest (mBin dEq (mV 1) (mC (.str [111, 114])))) (mRet (mOrV (mBad) (mBad))) (mNext)) (mRet (mAndV (mBad) (mBad)))))))
def b1_has_empty (rc : FM) : SM := mSeq (mSet 1 (mBin dIx (mV 0) (mC (.int 0)))) (mSeq (mIfS (mTest (mBin dIn (mV 1) (mTup (mCons (mC (.str [101, 109, 112, 116, 121])) (mCons (mC (.str [97, 110, 121])) (mNil)))))) (mRet (mC (.bl true))) (mNext)) (mSeq (mIfS (mTest (mBin dIn (mV 1) (mTup (mCons (mC (.str [110, 111, 110, 101])) (mCons (mC (.str [115, 105, 103, 110])) (mNil)))))) (mRet (mC (.bl false))) (mNext)) (mSeq (mIfS (mTest (mBin dEq (mV 1) (mC (.str [110, 111, 116])))) (mRet (mNotV (mCallK gd0 rc (mCons (mBin dIx (mV 0) (mC (.int 1))) (mNil)) (mNil)))) (mNext)) (mSeq (mIfS (mTest (mBin dEq (mV 1) (mC (.str [111, 114])))) (mRet (mOrV (mCallK gd0 rc (mCons (mBin dIx (mV 0) (mC (.int 1))) (mNil)) (mNil)) (mCallK gd0 rc (mCons (mBin dIx (mV 0) (mC (.int 2))) (mNil)) (mNil)))) (mNext)) (mRet (mAndV (mCallK gd0 rc (mCons (mBin dIx (mV 0) (mC (.int 1))) (mNil)) (mNil)) (mCallK gd0 rc (mCons (mBin dIx (mV 0) (mC (.int 2))) (mNil)) (mNil))))))))
def M_has_empty : Nat → FM | 0 => runA (fm 2 b0_has_empty) | n + 1 => runA (fm 2 (b1_has_empty (M_has_empty n)))
def m_has_empty : FM := M_has_empty 62
def d_has_empty : He.DefD := ⟨("has_empty", none), "has_empty", "has_empty", defArgs st_has_empty, defBody st_has_empty, defScope st_has_empty, [], []⟩
abbrev st_after : Stmt := top 27
def N_after : List Str := [(Str.ofString "form"), (Str.ofString "sign"), (Str.ofString "word"), (Str.ofString "one"), (Str.ofString "other"), (Str.ofString "first")]
def b0_after : SM := mSeq (mSet 2 (mBin dIx (mV 0) (mC (.int 0)))) (mSeq (mIfS (mTest (mBin dIn (mV 2) (mTup (mCons (mC (.str [110, 111, 110, 101])) (mCons (mC (.str [101, 109, 112, 116, 121])) (mNil)))))) (mRet (mC (.tup [.str [110, 111, 110, 101]]))) (mNext)) (mSeq (mIfS (mTest (mBin dEq (mV 2) (mC (.str [115, 105, 103, 110])))) (mRet (mIf (mTest (mBin dEq (mBin dIx (mV 0) (mC (.int 1))) (mV 1))) (mC (.tup [.str [101, 109, 112, 116, 121]])) (mC (.tup [.str [110, 111, 110, 101]])))) (mNext)) (mSeq (mIfS (mTest (mBin dEq (mV 2) (mC (.str [111, 114])))) (mRet (mCallK gd0 m_either (mCons (mBad) (mCons (mBad) (mNil))) (mNil))) (mNext)) (mSeq (mIfS (mTest (mBin dEq (mV 2) (mC (.str [98, 111, 116, 104])))) (mSeq (mPar 3 4 (mCons (mBad) (mCons (mBad) (mNil)))) (mRet (mIf (mTest (mBin dIn (mC (.tup [.str [110, 111, 110, 101]])) (mTup (mCons (mV 3) (mCons (mV 4) (mNil)))))) (mC (.tup [.str [110, 111, 110, 101]])) (mIf (mTest (mBin dEq (mV 3) (mV 4))) (mV 3) (mTup (mCons (mC (.str [98, 111, 116, 104])) (mCons (mV 3) (mCons (mV 4) (mNil))))))))) (mNext)) (mSeq (mIfS (mTest (mBin dEq (mV 2) (mC (.str [110, 111, 116])))) (mRet (mTup (mCons (mC (.str [110, 111, 116])) (mCons (mBad) (mNil))))) (mNext)) (mSeq (mIfS (mTest (mBin dEq (mV 2) (mC (.str [97, 110, 121])))) (mRet (mCallK gd0 m_behind (mCons (mBad) (mCons (mV 0) (mNil))) (mNil))) (mNext)) (mSeq (mSet 5 (mCallK gd0 m_behind (mCons (mBad) (mCons (mBin dIx (mV 0) (mC (.int 2))) (mNil))) (mNil))) (mRet (mIf (mTest (mCallK gd0 m_has_empty (mCons (mBin dIx (mV 0) (mC (.int 1))) (mNil)) (mNil))) (mCallK gd0 m_either (mCons (mV 5) (mCons (mBad) (mNil))) (mNil)) (mV 5))))))))))
def b1_after (rc : FM) : SM := mSeq (mSet 2 (mBin dIx (mV 0) (mC (.int 0)))) (mSeq (mIfS (mTest (mBin dIn (mV 2) (mTup (mCons (mC (.str [110, 111, 110, 101])) (mCons (mC (.str [101, 109, 112, 116, 121])) (mNil)))))) (mRet (mC (.tup [.str [110, 111, 110, 101]]))) (mNext)) (mSeq (mIfS (mTest (mBin dEq (mV 2) (mC (.str [115, 105, 103, 110])))) (mRet (mIf (mTest (mBin dEq (mBin dIx (mV 0) (mC (.int 1))) (mV 1))) (mC (.tup [.str [101, 109, 112, 116, 121]])) (mC (.tup [.str [110, 111, 110, 101]])))) (mNext)) (mSeq (mIfS (mTest (mBin dEq (mV 2) (mC (.str [111, 114])))) (mRet (mCallK gd0 m_either (mCons (mCallK gd0 rc (mCons (mBin dIx (mV 0) (mC (.int 1))) (mCons (mV 1) (mNil))) (mNil)) (mCons (mCallK gd0 rc (mCons (mBin dIx (mV 0) (mC (.int 2))) (mCons (mV 1) (mNil))) (mNil)) (mNil))) (mNil))) (mNext)) (mSeq (mIfS (mTest (mBin dEq (mV 2) (mC (.str [98, 111, 116, 104])))) (mSeq (mPar 3 4 (mCons (mCallK gd0 rc (mCons (mBin dIx (mV 0) (mC (.int 1))) (mCons (mV 1) (mNil))) (mNil)) (mCons (mCallK gd0 rc (mCons (mBin dIx (mV 0) (mC (.int 2))) (mCons (mV 1) (mNil))) (mNil)) (mNil)))) (mRet (mIf (mTest (mBin dIn (mC (.tup [.str [110, 111, 110, 101]])) (mTup (mCons (mV 3) (mCons (mV 4) (mNil)))))) (mC (.tup [.str [110, 111, 110, 101]])) (mIf (mTest (mBin dEq (mV 3) (mV 4))) (mV 3) (mTup (mCons (mC (.str [98, 111, 116, 104])) (mCons (mV 3) (mCons (mV 4) (mNil))))))))) (mNext)) (mSeq (mIfS (mTest (mBin dEq (mV 2) (mC (.str [110, 111, 116])))) (mRet (mTup (mCons (mC (.str [110, 111, 116])) (mCons (mCallK gd0 rc (mCons (mBin dIx (mV 0) (mC (.int 1))) (mCons (mV 1) (mNil))) (mNil)) (mNil))))) (mNext)) (mSeq (mIfS (mTest (mBin dEq (mV 2) (mC (.str [97, 110, 121])))) (mRet (mCallK gd0 m_behind (mCons (mCallK gd0 rc (mCons (mBin dIx (mV 0) (mC (.int 1))) (mCons (mV 1) (mNil))) (mNil)) (mCons (mV 0) (mNil))) (mNil))) (mNext)) (mSeq (mSet 5 (mCallK gd0 m_behind (mCons (mCallK gd0 rc (mCons (mBin dIx (mV 0) (mC (.int 1))) (mCons (mV 1) (mNil))) (mNil)) (mCons (mBin dIx (mV 0) (mC (.int 2))) (mNil))) (mNil))) (mRet (mIf (mTest (mCallK gd0 m_has_empty (mCons (mBin dIx (mV 0) (mC (.int 1))) (mNil)) (mNil))) (mCallK gd0 m_either (mCons (mV 5) (mCons (mCallK gd0 rc (mCons (mBin dIx (mV 0) (mC (.int 2))) (mCons (mV 1) (mNil))) (mNil)) (mNil))) (mNil)) (mV 5))))))))))
def M_after : Nat → FM | 0 => runA (fm 6 b0_after) | n + 1 => runA (fm 6 (b1_after (M_after n)))
def m_after : FM := M_after 62
def d_after : He.DefD := ⟨("after", none), "after", "after", defArgs st_after, defBody st_after, defScope st_after, [], []⟩
abbrev st_rest_form : Stmt := top 29
def N_rest_form : List Str := [(Str.ofString "form"), (Str.ofString "word"), (Str.ofString "signs"), (Str.ofString "sign")]
def b_rest_form : SM := mSeq (mDrop (mCallK gd0 m_look_signs (mCons (mV 2) (mNil)) (mNil))) (mSeq (mDrop (mCallK gd0 m_look_form (mCons (mV 0) (mCons (mV 2) (mNil))) (mNil))) (mSeq (mDrop (mCallK gd0 m_look_word (mCons (mV 1) (mCons (mV 2) (mNil))) (mNil))) (mSeq (mFor 100000 (imAny (mV 1)) (gmName 3) (mSet 0 (mCallK gd0 m_after (mCons (mV 0) (mCons (mV 3) (mNil))) (mNil)))) (mRet (mV 0)))))
def m_rest_form : FM := runA (fm 4 b_rest_form)
def d_rest_form : He.DefD := ⟨("rest_form", none), "rest_form", "rest_form", defArgs st_rest_form, defBody st_rest_form, defScope st_rest_form, [], []⟩
abbrev st_is_form : Stmt := top 21
def N_is_form : List Str := [(Str.ofString "thing"), (Str.ofString "signs")]
def b_is_form : SM := mSeq (mDrop (mCallK gd0 m_look_signs (mCons (mV 1) (mNil)) (mNil))) (mRet (mBin fLe (mCallK gd0 m_parts_of (mCons (mV 0) (mCons (mV 1) (mCons (mC (.int 0)) (mNil)))) (mNil)) (mC (.int 2000))))
def m_is_form : FM := runA (fm 2 b_is_form)
def d_is_form : He.DefD := ⟨("is_form", none), "is_form", "is_form", defArgs st_is_form, defBody st_is_form, defScope st_is_form, [], []⟩
abbrev st_size_of : Stmt := top 23
def N_size_of : List Str := [(Str.ofString "form"), (Str.ofString "signs")]
def b_size_of : SM := mSeq (mDrop (mCallK gd0 m_look_signs (mCons (mV 1) (mNil)) (mNil))) (mSeq (mDrop (mCallK gd0 m_look_form (mCons (mV 0) (mCons (mV 1) (mNil))) (mNil))) (mRet (mCallK gd0 m_parts_of (mCons (mV 0) (mCons (mV 1) (mCons (mC (.int 0)) (mNil)))) (mNil))))
def m_size_of : FM := runA (fm 2 b_size_of)
def d_size_of : He.DefD := ⟨("size_of", none), "size_of", "size_of", defArgs st_size_of, defBody st_size_of, defScope st_size_of, [], []⟩
abbrev st__law_count : Stmt := top 44
def N__law_count : List Str := [(Str.ofString "form"), (Str.ofString "one")]
def b0__law_count : SM := mRet (mBin dAdd (mC (.int 1)) (mCall (f1 dSum) (mCons (mLc 100000 (imAny (mSl (mV 0) (mPart (mC (.int 1))) mNoPart)) (gmName 1) (mTest (mIsi (luk [(.non, false), (.bool, false), (.int, false), (.str, false), (.list, false), (.tuple, true), (.dict, false)]) (mV 1))) (mBad) [1]) (mNil))))
def b1__law_count (rc : FM) : SM := mRet (mBin dAdd (mC (.int 1)) (mCall (f1 dSum) (mCons (mLc 100000 (imAny (mSl (mV 0) (mPart (mC (.int 1))) mNoPart)) (gmName 1) (mTest (mIsi (luk [(.non, false), (.bool, false), (.int, false), (.str, false), (.list, false), (.tuple, true), (.dict, false)]) (mV 1))) (mCallK gd0 rc (mCons (mV 1) (mNil)) (mNil)) [1]) (mNil))))
def M__law_count : Nat → FM | 0 => runA (fm 2 b0__law_count) | n + 1 => runA (fm 2 (b1__law_count (M__law_count n)))
def m__law_count : FM := M__law_count 8
def d__law_count : He.DefD := ⟨("_law_count", none), "_law_count", "_law_count", defArgs st__law_count, defBody st__law_count, defScope st__law_count, [], []⟩
abbrev st__law_is : Stmt := top 36
def N__law_is : List Str := [(Str.ofString "told"), (Str.ofString "due")]
def b__law_is : SM := mRet (mAndV (mIsi (luk [(.non, false), (.bool, true), (.int, false), (.str, false), (.list, false), (.tuple, false), (.dict, false)]) (mV 0)) (mBin dEq (mV 0) (mV 1)))
def m__law_is : FM := runA (fm 2 b__law_is)
def d__law_is : He.DefD := ⟨("_law_is", none), "_law_is", "_law_is", defArgs st__law_is, defBody st__law_is, defScope st__law_is, [], []⟩
abbrev st_fits : Stmt := top 28
def N_fits : List Str := [(Str.ofString "form"), (Str.ofString "word"), (Str.ofString "signs"), (Str.ofString "sign")]
def b_fits : SM := mSeq (mDrop (mCallK gd0 m_look_signs (mCons (mV 2) (mNil)) (mNil))) (mSeq (mDrop (mCallK gd0 m_look_form (mCons (mV 0) (mCons (mV 2) (mNil))) (mNil))) (mSeq (mDrop (mCallK gd0 m_look_word (mCons (mV 1) (mCons (mV 2) (mNil))) (mNil))) (mSeq (mFor 100000 (imAny (mV 1)) (gmName 3) (mSet 0 (mCallK gd0 m_after (mCons (mV 0) (mCons (mV 3) (mNil))) (mNil)))) (mRet (mCallK gd0 m_has_empty (mCons (mV 0) (mNil)) (mNil))))))
def m_fits : FM := runA (fm 4 b_fits)
def d_fits : He.DefD := ⟨("fits", none), "fits", "fits", defArgs st_fits, defBody st_fits, defScope st_fits, [], []⟩
def s_law_0 : SM := mSet 1 (mCallK gd0 m__law_town (mCons (mV 0) (mNil)) (mNil))
def s_law_1 : SM := mSet 2 (mCallK gd0 m__law_alphabet (mCons (mV 1) (mNil)) (mNil))
def s_law_2 : SM := mSet 3 (mCallK gd0 m__law_form (mCons (mV 1) (mCons (mV 2) (mCons (mC (.int 4)) (mNil)))) (mNil))
def s_law_3 : SM := mIfS (mOr (mTest (mBin dNotN (mCallK gd0 m_is_form (mCons (mV 3) (mCons (mV 2) (mNil))) (mNil)) (mC (.bl true)))) (mTest (mBin dNe (mCallK gdA m_size_of (mCons (mV 3) (mNil)) (mCons (mV 2) (mNil))) (mCallK gd0 m__law_count (mCons (mV 3) (mNil)) (mNil))))) (mRet (mC (.bl false))) (mNext)
def s_law_4 : SM := mSet 4 (mCallK gdA m_turned_form (mCons (mV 3) (mNil)) (mCons (mV 2) (mNil)))
def s_law_5_b : SM := mSeq (mSet 6 (mCallK gd0 m__law_word (mCons (mV 1) (mCons (mV 2) (mCons (mC (.int 7)) (mNil)))) (mNil))) (mSeq (mSet 7 (mCallK gd0 m__law_has (mCons (mV 3) (mCons (mV 6) (mNil))) (mNil))) (mSeq (mIfS (mNot (mTest (mCallK gd0 m__law_is (mCons (mCallK gdA m_fits (mCons (mV 3) (mCons (mV 6) (mNil))) (mCons (mV 2) (mNil))) (mCons (mV 7) (mNil))) (mNil)))) (mRet (mC (.bl false))) (mNext)) (mSeq (mSet 8 (mCallK gd0 m__law_draw (mCons (mV 1) (mCons (mBin dAdd (mCall dMin2 (mCons (mCall (f1 dLen) (mCons (mV 6) (mNil))) (mCons (mC (.int 2)) (mNil)))) (mC (.int 1))) (mNil))) (mNil))) (mSeq (mSet 9 (mCallK gdA m_rest_form (mCons (mV 3) (mCons (mSl (mV 6) mNoPart (mPart (mV 8))) (mNil))) (mCons (mV 2) (mNil)))) (mSeq (mIfS (mOr (mTest (mBin dNotN (mCallK gd0 m_is_form (mCons (mV 9) (mCons (mV 2) (mNil))) (mNil)) (mC (.bl true)))) (mTest (mBin dNe (mCallK gd0 m__law_has (mCons (mV 9) (mCons (mSl (mV 6) (mPart (mV 8)) mNoPart) (mNil))) (mNil)) (mV 7)))) (mRet (mC (.bl false))) (mNext)) (mIfS (mTest (mBin dNe (mCallK gd0 m__law_has (mCons (mV 4) (mCons (mRevS (mV 6)) (mNil))) (mNil)) (mV 7))) (mRet (mC (.bl false))) (mNext)))))))
def s_law_5 : SM := mFor 100000 (imRange1 (mCons (mC (.int 14)) (mNil))) (gmName 5) s_law_5_b
def s_law_6 : SM := mRet (mC (.bl true))
abbrev st_law : Stmt := top 45
def N_law : List Str := [(Str.ofString "script"), (Str.ofString "town"), (Str.ofString "alphabet"), (Str.ofString "form"), (Str.ofString "back"), (Str.ofString "turn"), (Str.ofString "word"), (Str.ofString "due"), (Str.ofString "cut"), (Str.ofString "rest")]
def b_law : SM := mSeq s_law_0 (mSeq s_law_1 (mSeq s_law_2 (mSeq s_law_3 (mSeq s_law_4 (mSeq s_law_5 (s_law_6))))))
def m_law : FM := runA (fm 10 b_law)
def d_law : He.DefD := ⟨("law", none), "law", "law", defArgs st_law, defBody st_law, defScope st_law, [], []⟩
def fn : List He.DefD := [d__law_town, d__law_draw, d__law_pick, d__law_alphabet, d__law_form, d_is_signs, d_look_signs, d_parts_of, d_look_form, d_turned, d_turned_form, d__law_word, d__law_behind, d__law_chain, d__law_spans, d__law_has, d_word_of, d_look_word, d_behind, d_either, d_has_empty, d_after, d_rest_form, d_is_form, d_size_of, d__law_count, d__law_is, d_fits, d_law]
def fa : List He.Fa := [.free "list", .glo "_law_town", .free "len", .glo "_law_draw", .glo "_law_pick", .glo "_law_alphabet", .glo "_law_form", .free "isinstance", .free "str", .int "MOST_SIGNS" 4, .str "LETTERS" "abcdefghijklmnopqrstuvwxyz", .free "all", .free "sorted", .free "set", .glo "is_signs", .exc "BadSigns", .glo "BadSigns", .glo "look_signs", .int "MOST_PARTS" 2000, .free "tuple", .int "MOST_DEEP" 60, .glo "parts_of", .exc "BadForm", .glo "BadForm", .glo "look_form", .glo "turned", .glo "turned_form", .free "range", .glo "_law_word", .glo "_law_behind", .glo "_law_chain", .glo "_law_spans", .glo "_law_has", .int "MOST_LONG" 40, .glo "word_of", .exc "BadWord", .glo "BadWord", .glo "look_word", .glo "behind", .glo "either", .glo "has_empty", .glo "after", .glo "rest_form", .glo "is_form", .glo "size_of", .free "sum", .glo "_law_count", .free "bool", .glo "_law_is", .glo "fits", .free "min", .glo "law"]
def fx : List Fx := [.kit (.ty "str") [(.non, false), (.bool, false), (.int, false), (.str, true), (.list, false), (.tuple, false), (.dict, false)], .kit (.ty "tuple") [(.non, false), (.bool, false), (.int, false), (.str, false), (.list, false), (.tuple, true), (.dict, false)], .dat (gval "PAIRS") (.tup [.str [111, 114], .str [116, 104, 101, 110], .str [98, 111, 116, 104]]), .dat (gval "SINGLES") (.tup [.str [97, 110, 121], .str [110, 111, 116]]), .dat (gval "NONE") (.tup [.str [110, 111, 110, 101]]), .dat (gval "EMPTY") (.tup [.str [101, 109, 112, 116, 121]]), .kit (.ty "bool") [(.non, false), (.bool, true), (.int, false), (.str, false), (.list, false), (.tuple, false), (.dict, false)]]
section
set_option maxHeartbeats 0
open PySem PySem.Spec PyProof.Rows L2 Rf PySem.W PySem.Calls
abbrev Rr : PySem.W.OpenRow := PySem.W.OpenLaw.row PySem.Challenge.rw_signworks_k03_whole_fits
def tf : List He.Defn := []
abbrev hk : PySem.W.Hook := hookT 5 fx fa fn tf
def ob (s : PySem.W.SharedT) : AlX := obsT 5 fx fa fn tf (HandSHeadRun.getT s)
theorem ob_eq (s : PySem.W.SharedT) : ob s = hk.obs s.abs := obsT_eq (HandSHeadRun.getT_eq s)
def names : List PySem.Str := ([PySem.Str.ofString "SignError", PySem.Str.ofString "BadSigns", PySem.Str.ofString "BadWord", PySem.Str.ofString "BadForm", PySem.Str.ofString "LETTERS", PySem.Str.ofString "MOST_SIGNS", PySem.Str.ofString "MOST_LONG", PySem.Str.ofString "is_signs", PySem.Str.ofString "look_signs", PySem.Str.ofString "word_of", PySem.Str.ofString "look_word", PySem.Str.ofString "MOST_PARTS", PySem.Str.ofString "MOST_DEEP", PySem.Str.ofString "NONE", PySem.Str.ofString "EMPTY", PySem.Str.ofString "PAIRS", PySem.Str.ofString "SINGLES", PySem.Str.ofString "parts_of", PySem.Str.ofString "is_form", PySem.Str.ofString "look_form"] : List PySem.Str) ++ ([PySem.Str.ofString "size_of", PySem.Str.ofString "has_empty", PySem.Str.ofString "either", PySem.Str.ofString "behind", PySem.Str.ofString "after", PySem.Str.ofString "fits", PySem.Str.ofString "rest_form", PySem.Str.ofString "turned_form", PySem.Str.ofString "turned", PySem.Str.ofString "_law_town", PySem.Str.ofString "_law_draw", PySem.Str.ofString "_law_pick", PySem.Str.ofString "_law_is", PySem.Str.ofString "_law_alphabet", PySem.Str.ofString "_law_word", PySem.Str.ofString "_law_form", PySem.Str.ofString "_law_spans", PySem.Str.ofString "_law_behind", PySem.Str.ofString "_law_chain", PySem.Str.ofString "_law_has"] : List PySem.Str) ++ ([PySem.Str.ofString "_law_count"] : List PySem.Str)
noncomputable abbrev ENDF (w : World) (os : OsState) := HandSHeadRun.endF (HandSHeadRun.stepQ (HandSHeadRun.denQ HandSHeadRun.tabQ) Rr.prog w) 20000 Rr.prog w os
theorem runA_ (w : World) (os : OsState) : (ENDF w os).map (fun s => HandSHeadRun.looksF Rr.prog (boot_heap w.params) s.abs) = some true := by kernel_rfl
theorem runB_ (w : World) (os : OsState) : (ENDF w os).map (fun s => HandSHeadRun.seenQ (PySem.W.view Rr.prog [45]) names (importedModules Rr.prog.main.body) (fun s => xlAt (PySem.W.view Rr.prog [45]) [] s && recOk Rr.toRowW.records s) s.abs) = some (openGood (PySem.W.view Rr.prog [45]) names) := by kernel_rfl
theorem runC_ (w : World) (os : OsState) : (ENDF w os).map (fun s => (ob s).1) = some (hk.val w).1 := by kernel_rfl
theorem runD_ (w : World) (os : OsState) : (ENDF w os).map (fun s => (ob s).2) = some (hk.val w).2 := by kernel_rfl
theorem split4 {α β γ δ ε : Type} (o : Option α) (f : α → β) (g : α → γ) (k : α → δ × ε) {a : β} {b : γ} {c : δ} {d : ε} (h1 : o.map f = some a) (h2 : o.map g = some b) (h3 : o.map (fun s => (k s).1) = some c) (h4 : o.map (fun s => (k s).2) = some d) : o.map (fun s => (f s, g s, k s)) = some (a, b, (c, d)) := by
  cases o with
  | none => cases h1
  | some x =>
    simp only [Option.map_some, Option.some.injEq] at h1 h2 h3 h4 ⊢
    rw [h1, h2, ← h3, ← h4]
theorem run (w : World) : HandSHeadRun.RunEq Rr (PySem.W.view Rr.prog [45]) hk ob 20000 names w := fun os =>
  split4 (ENDF w os) _ _ _ (runA_ w os) (runB_ w os) (runC_ w os) (runD_ w os)
end
section
variable {P : Program} {w : World} {K : PySem.W.Frag} {mg : Str → Option Value} {base : Heap}
theorem sc__law_town : FnScope N__law_town [(Str.ofString "script")] (defScope st__law_town) := C8.fnScope_by (by kernel_rfl)
theorem ok__law_town (h : Fc fx fa fn K mg base) : Cal P w K mg base 1 (Str.ofString "_law_town") [(Str.ofString "script")] 1 [] gd0 m__law_town := by
  obtain ⟨fd, F⟩ := h.c.def_ 0 (d := d__law_town) rfl
  have F : FunD K (Str.ofString "_law_town") (Str.ofString "_law_town") (defArgs st__law_town) (defBody st__law_town) (defScope st__law_town) [] [] (He.ga K (Str.ofString "_law_town")) fd := F
  exact cal_of (k := 0) (b := b__law_town) (N := N__law_town) F (h.glo 1) sc__law_town (bindD_no (ps := [(Str.ofString "script")]) F fun _ _ _ _ _ _ us hl => match us, hl with | [_], _ => rfl) fun cdv A outer s H E hr =>
    (rss_one (rs_ret (re_lst (ra_cons (re_if (rt_cmp (o_ne (Room.u64 hr)) (re_sv 0) (re_lst ra_nil)) (re_callTy (T := "list") c_list rfl (h.free 0) (by decide +kernel) (ra_cons (re_sv 0) ra_nil)) (re_lst (ra_cons re_int ra_nil))) (ra_cons re_int ra_nil)))))
theorem sc__law_draw : FnScope N__law_draw [(Str.ofString "town"), (Str.ofString "count_of")] (defScope st__law_draw) := C8.fnScope_by (by kernel_rfl)
theorem ok__law_draw (h : Fc fx fa fn K mg base) : Cal P w K mg base 1 (Str.ofString "_law_draw") [(Str.ofString "town"), (Str.ofString "count_of")] 2 [] gd0 m__law_draw := by
  obtain ⟨fd, F⟩ := h.c.def_ 1 (d := d__law_draw) rfl
  have F : FunD K (Str.ofString "_law_draw") (Str.ofString "_law_draw") (defArgs st__law_draw) (defBody st__law_draw) (defScope st__law_draw) [] [] (He.ga K (Str.ofString "_law_draw")) fd := F
  exact cal_of (k := 0) (b := b__law_draw) (N := N__law_draw) F (h.glo 3) sc__law_draw (bindD_no (ps := [(Str.ofString "town"), (Str.ofString "count_of")]) F fun _ _ _ _ _ _ us hl => match us, hl with | [_, _], _ => rfl) fun cdv A outer s H E hr =>
    (rss_cons (rs_set (i := 2) sc__law_draw.nd rfl (by first | exact .inl rfl | exact .inr rfl) (re_ix (re_sv 0) re_int))
    (rss_cons (rs_setSub s_list (re_bin o_add (re_ix (re_sv 0) re_int) re_int) (re_sv 0) re_int)
    (rss_cons (rs_set (i := 3) sc__law_draw.nd rfl (by first | exact .inl rfl | exact .inr rfl) (re_bin o_mod (re_ix (re_sv 0) re_int) (re_callB (id := "len") c_len rfl (h.free 2) (by decide +kernel) (ra_cons (re_sv 2) ra_nil))))
    (rss_cons (rs_set (i := 4) sc__law_draw.nd rfl (by first | exact .inl rfl | exact .inr rfl) (re_ix (re_sv 2) (re_sv 3)))
    (rss_cons (rs_if (rt_cmp o_geI (re_sv 4) re_int) (rss_cons (rs_setSub s_list (re_bin o_div (re_sv 4) (re_sv 1)) (re_sv 2) (re_sv 3))
    (rss_one (rs_ret (re_bin o_mod (re_sv 4) (re_sv 1))))) rss_nil)
    (rss_cons (rs_set (i := 5) sc__law_draw.nd rfl (by first | exact .inl rfl | exact .inr rfl) (re_bin o_mod (re_bin o_add (re_sv 4) (re_bin o_mul re_int (re_ix (re_sv 0) re_int))) re_int))
    (rss_cons (rs_set (i := 5) sc__law_draw.nd rfl (by first | exact .inl rfl | exact .inr rfl) (re_bin o_mod (re_bin o_pow (re_sv 5) re_int) re_int))
    (rss_one (rs_ret (re_bin o_mod (re_bin o_div (re_bin o_mod (re_bin o_add (re_bin o_mul (re_bin o_div (re_sv 5) re_int) re_int) (re_sv 5)) re_int) re_int) (re_sv 1)))))))))))
theorem sc__law_pick : FnScope N__law_pick [(Str.ofString "town"), (Str.ofString "some")] (defScope st__law_pick) := C8.fnScope_by (by kernel_rfl)
theorem ok__law_pick (h : Fc fx fa fn K mg base) : Cal P w K mg base 2 (Str.ofString "_law_pick") [(Str.ofString "town"), (Str.ofString "some")] 2 [] gd0 m__law_pick := by
  obtain ⟨fd, F⟩ := h.c.def_ 2 (d := d__law_pick) rfl
  have F : FunD K (Str.ofString "_law_pick") (Str.ofString "_law_pick") (defArgs st__law_pick) (defBody st__law_pick) (defScope st__law_pick) [] [] (He.ga K (Str.ofString "_law_pick")) fd := F
  exact cal_of (k := 1) (b := b__law_pick) (N := N__law_pick) F (h.glo 4) sc__law_pick (bindD_no (ps := [(Str.ofString "town"), (Str.ofString "some")]) F fun _ _ _ _ _ _ us hl => match us, hl with | [_, _], _ => rfl) fun cdv A outer s H E hr =>
    (rss_one (rs_ret (re_ix (re_sv 1) (re_cal (ok__law_draw h) (Room.mono hr (by decide)) rfl takesC (ra_cons (re_sv 0) (ra_cons (re_callB (id := "len") c_len rfl (h.free 2) (by decide +kernel) (ra_cons (re_sv 1) ra_nil)) ra_nil)) rk_nil))))
theorem sc__law_alphabet : FnScope N__law_alphabet [(Str.ofString "town")] (defScope st__law_alphabet) := C8.fnScope_by (by kernel_rfl)
theorem ok__law_alphabet (h : Fc fx fa fn K mg base) : Cal P w K mg base 3 (Str.ofString "_law_alphabet") [(Str.ofString "town")] 1 [] gd0 m__law_alphabet := by
  obtain ⟨fd, F⟩ := h.c.def_ 3 (d := d__law_alphabet) rfl
  have F : FunD K (Str.ofString "_law_alphabet") (Str.ofString "_law_alphabet") (defArgs st__law_alphabet) (defBody st__law_alphabet) (defScope st__law_alphabet) [] [] (He.ga K (Str.ofString "_law_alphabet")) fd := F
  exact cal_of (k := 2) (b := b__law_alphabet) (N := N__law_alphabet) F (h.glo 5) sc__law_alphabet (bindD_no (ps := [(Str.ofString "town")]) F fun _ _ _ _ _ _ us hl => match us, hl with | [_], _ => rfl) fun cdv A outer s H E hr =>
    (rss_one (rs_ret (re_cal (ok__law_pick h) (Room.mono hr (by decide)) rfl takesC (ra_cons (re_sv 0) (ra_cons (re_lst (ra_cons (re_str [97] (by kernel_rfl)) (ra_cons (re_str [97, 98] (by kernel_rfl)) (ra_cons (re_str [97, 98] (by kernel_rfl)) (ra_cons (re_str [97, 98] (by kernel_rfl)) (ra_cons (re_str [97, 98, 99] (by kernel_rfl)) (ra_cons (re_str [120, 122] (by kernel_rfl)) ra_nil))))))) ra_nil)) rk_nil)))
theorem sc__law_form : FnScope N__law_form [(Str.ofString "town"), (Str.ofString "alphabet"), (Str.ofString "deep")] (defScope st__law_form) := C8.fnScope_by (by kernel_rfl)
theorem okr__law_form (h : Fc fx fa fn K mg base) : ∀ n : Nat, Cal P w K mg base (n + 3) (Str.ofString "_law_form") [(Str.ofString "town"), (Str.ofString "alphabet"), (Str.ofString "deep")] 3 [] gd0 (M__law_form n)
  | 0 => by
    obtain ⟨fd, F⟩ := h.c.def_ 4 (d := d__law_form) rfl
    have F : FunD K (Str.ofString "_law_form") (Str.ofString "_law_form") (defArgs st__law_form) (defBody st__law_form) (defScope st__law_form) [] [] (He.ga K (Str.ofString "_law_form")) fd := F
    exact cal_of (k := 2) (b := b0__law_form) (N := N__law_form) F (h.glo 6) sc__law_form (bindD_no (ps := [(Str.ofString "town"), (Str.ofString "alphabet"), (Str.ofString "deep")]) F fun _ _ _ _ _ _ us hl => match us, hl with | [_, _, _], _ => rfl) fun cdv A outer s H E hr =>
    (rss_cons (rs_set (i := 3) sc__law_form.nd rfl (by first | exact .inl rfl | exact .inr rfl) (re_cal (ok__law_draw h) (Room.mono hr (by decide)) rfl takesC (ra_cons (re_sv 0) (ra_cons re_int ra_nil)) rk_nil))
    (rss_cons (rs_if (RW.rt (rw_or (rt_cmp (o_eq (Room.u64 hr)) (re_sv 2) re_int) (rw_or1 (rt_cmp o_lt (re_sv 3) re_int)))) (rss_one (rs_ret (re_cal (ok__law_pick h) (Room.mono hr (by decide)) rfl takesC (ra_cons (re_sv 0) (ra_cons (re_bin o_add (re_bin o_mul (re_lst (ra_cons (re_tup (ra_cons (re_str [115, 105, 103, 110] (by kernel_rfl)) (ra_cons (re_cal (ok__law_pick h) (Room.mono hr (by decide)) rfl takesC (ra_cons (re_sv 0) (ra_cons (re_sv 1) ra_nil)) rk_nil) ra_nil))) ra_nil)) re_int) (re_lst (ra_cons (re_tup (ra_cons (re_str [101, 109, 112, 116, 121] (by kernel_rfl)) ra_nil)) (ra_cons (re_tup (ra_cons (re_str [110, 111, 110, 101] (by kernel_rfl)) ra_nil)) ra_nil)))) ra_nil)) rk_nil))) rss_nil)
    (rss_cons (rs_if (rt_cmp o_lt (re_sv 3) re_int) (rss_one (rs_ret (re_tup (ra_cons (re_str [111, 114] (by kernel_rfl)) (ra_cons re_bad (ra_cons re_bad ra_nil)))))) rss_nil)
    (rss_cons (rs_if (rt_cmp o_lt (re_sv 3) re_int) (rss_one (rs_ret (re_tup (ra_cons (re_str [116, 104, 101, 110] (by kernel_rfl)) (ra_cons re_bad (ra_cons re_bad ra_nil)))))) rss_nil)
    (rss_cons (rs_if (rt_cmp (o_eq (Room.u64 hr)) (re_sv 3) re_int) (rss_one (rs_ret (re_tup (ra_cons (re_str [97, 110, 121] (by kernel_rfl)) (ra_cons re_bad ra_nil))))) rss_nil)
    (rss_cons (rs_if (rt_cmp (o_eq (Room.u64 hr)) (re_sv 3) re_int) (rss_one (rs_ret (re_tup (ra_cons (re_str [98, 111, 116, 104] (by kernel_rfl)) (ra_cons re_bad (ra_cons re_bad ra_nil)))))) rss_nil)
    (rss_one (rs_ret (re_tup (ra_cons (re_str [110, 111, 116] (by kernel_rfl)) (ra_cons re_bad ra_nil)))))))))))
  | n + 1 => by
    obtain ⟨fd, F⟩ := h.c.def_ 4 (d := d__law_form) rfl
    have F : FunD K (Str.ofString "_law_form") (Str.ofString "_law_form") (defArgs st__law_form) (defBody st__law_form) (defScope st__law_form) [] [] (He.ga K (Str.ofString "_law_form")) fd := F
    exact cal_of (k := n + 3) (b := b1__law_form (M__law_form n)) (N := N__law_form) F (h.glo 6) sc__law_form (bindD_no (ps := [(Str.ofString "town"), (Str.ofString "alphabet"), (Str.ofString "deep")]) F fun _ _ _ _ _ _ us hl => match us, hl with | [_, _, _], _ => rfl) fun cdv A outer s H E hr =>
    (rss_cons (rs_set (i := 3) sc__law_form.nd rfl (by first | exact .inl rfl | exact .inr rfl) (re_cal (ok__law_draw h) (Room.mono hr (by omega)) rfl takesC (ra_cons (re_sv 0) (ra_cons re_int ra_nil)) rk_nil))
    (rss_cons (rs_if (RW.rt (rw_or (rt_cmp (o_eq (Room.u64 hr)) (re_sv 2) re_int) (rw_or1 (rt_cmp o_lt (re_sv 3) re_int)))) (rss_one (rs_ret (re_cal (ok__law_pick h) (Room.mono hr (by omega)) rfl takesC (ra_cons (re_sv 0) (ra_cons (re_bin o_add (re_bin o_mul (re_lst (ra_cons (re_tup (ra_cons (re_str [115, 105, 103, 110] (by kernel_rfl)) (ra_cons (re_cal (ok__law_pick h) (Room.mono hr (by omega)) rfl takesC (ra_cons (re_sv 0) (ra_cons (re_sv 1) ra_nil)) rk_nil) ra_nil))) ra_nil)) re_int) (re_lst (ra_cons (re_tup (ra_cons (re_str [101, 109, 112, 116, 121] (by kernel_rfl)) ra_nil)) (ra_cons (re_tup (ra_cons (re_str [110, 111, 110, 101] (by kernel_rfl)) ra_nil)) ra_nil)))) ra_nil)) rk_nil))) rss_nil)
    (rss_cons (rs_if (rt_cmp o_lt (re_sv 3) re_int) (rss_one (rs_ret (re_tup (ra_cons (re_str [111, 114] (by kernel_rfl)) (ra_cons (re_cal (okr__law_form h n) (Room.mono hr (Nat.le_refl _)) rfl takesC (ra_cons (re_sv 0) (ra_cons (re_sv 1) (ra_cons (re_bin o_sub (re_sv 2) re_int) ra_nil))) rk_nil) (ra_cons (re_cal (okr__law_form h n) (Room.mono hr (Nat.le_refl _)) rfl takesC (ra_cons (re_sv 0) (ra_cons (re_sv 1) (ra_cons (re_bin o_sub (re_sv 2) re_int) ra_nil))) rk_nil) ra_nil)))))) rss_nil)
    (rss_cons (rs_if (rt_cmp o_lt (re_sv 3) re_int) (rss_one (rs_ret (re_tup (ra_cons (re_str [116, 104, 101, 110] (by kernel_rfl)) (ra_cons (re_cal (okr__law_form h n) (Room.mono hr (Nat.le_refl _)) rfl takesC (ra_cons (re_sv 0) (ra_cons (re_sv 1) (ra_cons (re_bin o_sub (re_sv 2) re_int) ra_nil))) rk_nil) (ra_cons (re_cal (okr__law_form h n) (Room.mono hr (Nat.le_refl _)) rfl takesC (ra_cons (re_sv 0) (ra_cons (re_sv 1) (ra_cons (re_bin o_sub (re_sv 2) re_int) ra_nil))) rk_nil) ra_nil)))))) rss_nil)
    (rss_cons (rs_if (rt_cmp (o_eq (Room.u64 hr)) (re_sv 3) re_int) (rss_one (rs_ret (re_tup (ra_cons (re_str [97, 110, 121] (by kernel_rfl)) (ra_cons (re_cal (okr__law_form h n) (Room.mono hr (Nat.le_refl _)) rfl takesC (ra_cons (re_sv 0) (ra_cons (re_sv 1) (ra_cons (re_bin o_sub (re_sv 2) re_int) ra_nil))) rk_nil) ra_nil))))) rss_nil)
    (rss_cons (rs_if (rt_cmp (o_eq (Room.u64 hr)) (re_sv 3) re_int) (rss_one (rs_ret (re_tup (ra_cons (re_str [98, 111, 116, 104] (by kernel_rfl)) (ra_cons (re_cal (okr__law_form h n) (Room.mono hr (Nat.le_refl _)) rfl takesC (ra_cons (re_sv 0) (ra_cons (re_sv 1) (ra_cons (re_bin o_sub (re_sv 2) re_int) ra_nil))) rk_nil) (ra_cons (re_cal (okr__law_form h n) (Room.mono hr (Nat.le_refl _)) rfl takesC (ra_cons (re_sv 0) (ra_cons (re_sv 1) (ra_cons (re_bin o_sub (re_sv 2) re_int) ra_nil))) rk_nil) ra_nil)))))) rss_nil)
    (rss_one (rs_ret (re_tup (ra_cons (re_str [110, 111, 116] (by kernel_rfl)) (ra_cons (re_cal (okr__law_form h n) (Room.mono hr (Nat.le_refl _)) rfl takesC (ra_cons (re_sv 0) (ra_cons (re_sv 1) (ra_cons (re_bin o_sub (re_sv 2) re_int) ra_nil))) rk_nil) ra_nil)))))))))))
theorem ok__law_form (h : Fc fx fa fn K mg base) : Cal P w K mg base 9 (Str.ofString "_law_form") [(Str.ofString "town"), (Str.ofString "alphabet"), (Str.ofString "deep")] 3 [] gd0 m__law_form := okr__law_form h 6
theorem sc_is_signs : FnScope N_is_signs [(Str.ofString "thing")] (defScope st_is_signs) := C8.fnScope_by (by kernel_rfl)
theorem ok_is_signs (h : Fc fx fa fn K mg base) : Cal P w K mg base 1 (Str.ofString "is_signs") [(Str.ofString "thing")] 1 [] gd0 m_is_signs := by
  obtain ⟨fd, F⟩ := h.c.def_ 5 (d := d_is_signs) rfl
  have F : FunD K (Str.ofString "is_signs") (Str.ofString "is_signs") (defArgs st_is_signs) (defBody st_is_signs) (defScope st_is_signs) [] [] (He.ga K (Str.ofString "is_signs")) fd := F
  exact cal_of (k := 0) (b := b_is_signs) (N := N_is_signs) F (h.glo 14) sc_is_signs (bindD_no (ps := [(Str.ofString "thing")]) F fun _ _ _ _ _ _ us hl => match us, hl with | [_], _ => rfl) fun cdv A outer s H E hr =>
    (rss_cons (rs_if (RW.rt (rw_or (rt_not (rt_val (re_isiT (T := "str") (tab := [(.non, false), (.bool, false), (.int, false), (.str, true), (.list, false), (.tuple, false), (.dict, false)]) (re_sv 0) rfl (h.free 7) rfl (h.free 8) (by decide +kernel) (h.fx_ 0) (ins_tab inss_nil (by rfl)) (exc_tab excs_nil (by rfl))))) (rw_or1 (rt_not (rt_chain o_leI o_leI re_int (re_callB (id := "len") c_len rfl (h.free 2) (by decide +kernel) (ra_cons (re_sv 0) ra_nil)) (re_gint rfl (h.int 9))))))) (rss_one (rs_ret re_bl)) rss_nil)
    (rss_one (rs_ret (re_and (re_callB (id := "all") (c_all rfl) rfl (h.free 11) (by decide +kernel) (ra_cons (re_lc 100000 (own := [("sign", 1)]) rfl sc_is_signs.nd (blkOk_by (by kernel_rfl)) (ri_any (re_sv 0)) (fun _ _ _ _ _ => (rgw_name sc_is_signs.nd rfl (by first | exact .inl rfl | exact .inr rfl) (by decide))) (fun _ _ _ _ _ => rts_nil) (fun _ _ _ _ _ => (re_cmp (o_in (Room.u65 hr)) (re_sv 1) (re_gstr [97, 98, 99, 100, 101, 102, 103, 104, 105, 106, 107, 108, 109, 110, 111, 112, 113, 114, 115, 116, 117, 118, 119, 120, 121, 122] rfl (h.str 10) (by kernel_rfl))))) ra_nil)) (re_one (re_cmp (o_eq (Room.u64 hr)) (re_bmR (T := "str") (id := "str.join") m_join PySem.F.plainAttrs_str PySem.F.slot_str_join (re_str [] (by kernel_rfl)) (ra_cons (re_sortSet rfl (re_sv 0) rfl (h.free 12) rfl (h.free 13)) ra_nil)) (re_sv 0)))))))
theorem sc_look_signs : FnScope N_look_signs [(Str.ofString "thing")] (defScope st_look_signs) := C8.fnScope_by (by kernel_rfl)
theorem ok_look_signs (h : Fc fx fa fn K mg base) : Cal P w K mg base 2 (Str.ofString "look_signs") [(Str.ofString "thing")] 1 [] gd0 m_look_signs := by
  obtain ⟨fd, F⟩ := h.c.def_ 6 (d := d_look_signs) rfl
  have F : FunD K (Str.ofString "look_signs") (Str.ofString "look_signs") (defArgs st_look_signs) (defBody st_look_signs) (defScope st_look_signs) [] [] (He.ga K (Str.ofString "look_signs")) fd := F
  exact cal_of (k := 1) (b := b_look_signs) (N := N_look_signs) F (h.glo 17) sc_look_signs (bindD_no (ps := [(Str.ofString "thing")]) F fun _ _ _ _ _ _ us hl => match us, hl with | [_], _ => rfl) fun cdv A outer s H E hr =>
    (rss_one (rs_if (rt_not (rt_val (re_cal (ok_is_signs h) (Room.mono hr (by decide)) rfl takesC (ra_cons (re_sv 0) ra_nil) rk_nil))) (rss_one (rs_raiseF (c := 2) rfl takesC (h.exc 15 2) (h.gloC 16 2) rfl)) rss_nil))
theorem sc_parts_of : FnScope N_parts_of [(Str.ofString "thing"), (Str.ofString "signs"), (Str.ofString "deep")] (defScope st_parts_of) := C8.fnScope_by (by kernel_rfl)
theorem okr_parts_of (h : Fc fx fa fn K mg base) : ∀ n : Nat, Cal P w K mg base (n + 1) (Str.ofString "parts_of") [(Str.ofString "thing"), (Str.ofString "signs"), (Str.ofString "deep")] 3 [] gd0 (M_parts_of n)
  | 0 => by
    obtain ⟨fd, F⟩ := h.c.def_ 7 (d := d_parts_of) rfl
    have F : FunD K (Str.ofString "parts_of") (Str.ofString "parts_of") (defArgs st_parts_of) (defBody st_parts_of) (defScope st_parts_of) [] [] (He.ga K (Str.ofString "parts_of")) fd := F
    exact cal_of (k := 0) (b := b0_parts_of) (N := N_parts_of) F (h.glo 21) sc_parts_of (bindD_no (ps := [(Str.ofString "thing"), (Str.ofString "signs"), (Str.ofString "deep")]) F fun _ _ _ _ _ _ us hl => match us, hl with | [_, _, _], _ => rfl) fun cdv A outer s H E hr =>
    (rss_cons (rs_set (i := 3) sc_parts_of.nd rfl (by first | exact .inl rfl | exact .inr rfl) (re_bin o_add (re_gint rfl (h.int 18)) re_int))
    (rss_cons (rs_if (RW.rt (rw_or (rt_not (rt_val (re_isiT (T := "tuple") (tab := [(.non, false), (.bool, false), (.int, false), (.str, false), (.list, false), (.tuple, true), (.dict, false)]) (re_sv 0) rfl (h.free 7) rfl (h.free 19) (by decide +kernel) (h.fx_ 1) (ins_tab inss_nil (by rfl)) (exc_tab excs_nil (by rfl))))) (rw_or (rt_cmp (o_eq (Room.u64 hr)) (re_sv 0) (re_tup ra_nil)) (rw_or (rt_not (rt_val (re_isiT (T := "str") (tab := [(.non, false), (.bool, false), (.int, false), (.str, true), (.list, false), (.tuple, false), (.dict, false)]) (re_ix (re_sv 0) re_int) rfl (h.free 7) rfl (h.free 8) (by decide +kernel) (h.fx_ 0) (ins_tab inss_nil (by rfl)) (exc_tab excs_nil (by rfl))))) (rw_or1 (rt_cmp o_gtI (re_sv 2) (re_gint rfl (h.int 20)))))))) (rss_one (rs_ret (re_sv 3))) rss_nil)
    (rss_cons (rs_set (i := 4) sc_parts_of.nd rfl (by first | exact .inl rfl | exact .inr rfl) (re_ix (re_sv 0) re_int))
    (rss_cons (rs_if (rt_cmp (o_in (Room.u65 hr)) (re_sv 4) (re_tup (ra_cons (re_str [110, 111, 110, 101] (by kernel_rfl)) (ra_cons (re_str [101, 109, 112, 116, 121] (by kernel_rfl)) ra_nil)))) (rss_one (rs_ret (re_if (rt_cmp (o_eq (Room.u64 hr)) (re_callB (id := "len") c_len rfl (h.free 2) (by decide +kernel) (ra_cons (re_sv 0) ra_nil)) re_int) re_int (re_sv 3)))) rss_nil)
    (rss_cons (rs_if (rt_cmp (o_eq (Room.u64 hr)) (re_sv 4) (re_str [115, 105, 103, 110] (by kernel_rfl))) (rss_one (rs_ret (re_if (RW.rt (rw_and (rt_cmp (o_eq (Room.u64 hr)) (re_callB (id := "len") c_len rfl (h.free 2) (by decide +kernel) (ra_cons (re_sv 0) ra_nil)) re_int) (rw_and (rt_val (re_isiT (T := "str") (tab := [(.non, false), (.bool, false), (.int, false), (.str, true), (.list, false), (.tuple, false), (.dict, false)]) (re_ix (re_sv 0) re_int) rfl (h.free 7) rfl (h.free 8) (by decide +kernel) (h.fx_ 0) (ins_tab inss_nil (by rfl)) (exc_tab excs_nil (by rfl)))) (rw_and (rt_cmp (o_eq (Room.u64 hr)) (re_callB (id := "len") c_len rfl (h.free 2) (by decide +kernel) (ra_cons (re_ix (re_sv 0) re_int) ra_nil)) re_int) (rw_and1 (rt_cmp (o_in (Room.u65 hr)) (re_ix (re_sv 0) re_int) (re_sv 1))))))) re_int (re_sv 3)))) rss_nil)
    (rss_cons (rs_set (i := 5) sc_parts_of.nd rfl (by first | exact .inl rfl | exact .inr rfl) (re_if (rt_cmp (o_in (Room.u65 hr)) (re_sv 4) (re_gdat rfl h.hp (h.fx_ 2))) re_int (re_if (rt_cmp (o_in (Room.u65 hr)) (re_sv 4) (re_gdat rfl h.hp (h.fx_ 3))) re_int re_int)))
    (rss_cons (rs_if (RW.rt (rw_or (rt_cmp (o_eq (Room.u64 hr)) (re_sv 5) re_int) (rw_or1 (rt_cmp (o_ne (Room.u64 hr)) (re_callB (id := "len") c_len rfl (h.free 2) (by decide +kernel) (ra_cons (re_sv 0) ra_nil)) (re_bin o_add (re_sv 5) re_int))))) (rss_one (rs_ret (re_sv 3))) rss_nil)
    (rss_cons (rs_set (i := 6) sc_parts_of.nd rfl (by first | exact .inl rfl | exact .inr rfl) re_int)
    (rss_cons (rs_for 100000 passC rfl (ri_any (re_slice (re_sv 0) (ro_some re_int) ro_none)) (rg_name sc_parts_of.nd rfl (by first | exact .inl rfl | exact .inr rfl)) (rss_cons (rs_aug (i := 6) sc_parts_of.nd rfl (by first | exact .inl rfl | exact .inr rfl) oi_add re_bad)
    (rss_one (rs_if (rt_cmp o_gtI (re_sv 6) (re_gint rfl (h.int 18))) (rss_one (rs_ret (re_sv 3))) rss_nil))))
    (rss_one (rs_ret (re_sv 6))))))))))))
  | n + 1 => by
    obtain ⟨fd, F⟩ := h.c.def_ 7 (d := d_parts_of) rfl
    have F : FunD K (Str.ofString "parts_of") (Str.ofString "parts_of") (defArgs st_parts_of) (defBody st_parts_of) (defScope st_parts_of) [] [] (He.ga K (Str.ofString "parts_of")) fd := F
    exact cal_of (k := n + 1) (b := b1_parts_of (M_parts_of n)) (N := N_parts_of) F (h.glo 21) sc_parts_of (bindD_no (ps := [(Str.ofString "thing"), (Str.ofString "signs"), (Str.ofString "deep")]) F fun _ _ _ _ _ _ us hl => match us, hl with | [_, _, _], _ => rfl) fun cdv A outer s H E hr =>
    (rss_cons (rs_set (i := 3) sc_parts_of.nd rfl (by first | exact .inl rfl | exact .inr rfl) (re_bin o_add (re_gint rfl (h.int 18)) re_int))
    (rss_cons (rs_if (RW.rt (rw_or (rt_not (rt_val (re_isiT (T := "tuple") (tab := [(.non, false), (.bool, false), (.int, false), (.str, false), (.list, false), (.tuple, true), (.dict, false)]) (re_sv 0) rfl (h.free 7) rfl (h.free 19) (by decide +kernel) (h.fx_ 1) (ins_tab inss_nil (by rfl)) (exc_tab excs_nil (by rfl))))) (rw_or (rt_cmp (o_eq (Room.u64 hr)) (re_sv 0) (re_tup ra_nil)) (rw_or (rt_not (rt_val (re_isiT (T := "str") (tab := [(.non, false), (.bool, false), (.int, false), (.str, true), (.list, false), (.tuple, false), (.dict, false)]) (re_ix (re_sv 0) re_int) rfl (h.free 7) rfl (h.free 8) (by decide +kernel) (h.fx_ 0) (ins_tab inss_nil (by rfl)) (exc_tab excs_nil (by rfl))))) (rw_or1 (rt_cmp o_gtI (re_sv 2) (re_gint rfl (h.int 20)))))))) (rss_one (rs_ret (re_sv 3))) rss_nil)
    (rss_cons (rs_set (i := 4) sc_parts_of.nd rfl (by first | exact .inl rfl | exact .inr rfl) (re_ix (re_sv 0) re_int))
    (rss_cons (rs_if (rt_cmp (o_in (Room.u65 hr)) (re_sv 4) (re_tup (ra_cons (re_str [110, 111, 110, 101] (by kernel_rfl)) (ra_cons (re_str [101, 109, 112, 116, 121] (by kernel_rfl)) ra_nil)))) (rss_one (rs_ret (re_if (rt_cmp (o_eq (Room.u64 hr)) (re_callB (id := "len") c_len rfl (h.free 2) (by decide +kernel) (ra_cons (re_sv 0) ra_nil)) re_int) re_int (re_sv 3)))) rss_nil)
    (rss_cons (rs_if (rt_cmp (o_eq (Room.u64 hr)) (re_sv 4) (re_str [115, 105, 103, 110] (by kernel_rfl))) (rss_one (rs_ret (re_if (RW.rt (rw_and (rt_cmp (o_eq (Room.u64 hr)) (re_callB (id := "len") c_len rfl (h.free 2) (by decide +kernel) (ra_cons (re_sv 0) ra_nil)) re_int) (rw_and (rt_val (re_isiT (T := "str") (tab := [(.non, false), (.bool, false), (.int, false), (.str, true), (.list, false), (.tuple, false), (.dict, false)]) (re_ix (re_sv 0) re_int) rfl (h.free 7) rfl (h.free 8) (by decide +kernel) (h.fx_ 0) (ins_tab inss_nil (by rfl)) (exc_tab excs_nil (by rfl)))) (rw_and (rt_cmp (o_eq (Room.u64 hr)) (re_callB (id := "len") c_len rfl (h.free 2) (by decide +kernel) (ra_cons (re_ix (re_sv 0) re_int) ra_nil)) re_int) (rw_and1 (rt_cmp (o_in (Room.u65 hr)) (re_ix (re_sv 0) re_int) (re_sv 1))))))) re_int (re_sv 3)))) rss_nil)
    (rss_cons (rs_set (i := 5) sc_parts_of.nd rfl (by first | exact .inl rfl | exact .inr rfl) (re_if (rt_cmp (o_in (Room.u65 hr)) (re_sv 4) (re_gdat rfl h.hp (h.fx_ 2))) re_int (re_if (rt_cmp (o_in (Room.u65 hr)) (re_sv 4) (re_gdat rfl h.hp (h.fx_ 3))) re_int re_int)))
    (rss_cons (rs_if (RW.rt (rw_or (rt_cmp (o_eq (Room.u64 hr)) (re_sv 5) re_int) (rw_or1 (rt_cmp (o_ne (Room.u64 hr)) (re_callB (id := "len") c_len rfl (h.free 2) (by decide +kernel) (ra_cons (re_sv 0) ra_nil)) (re_bin o_add (re_sv 5) re_int))))) (rss_one (rs_ret (re_sv 3))) rss_nil)
    (rss_cons (rs_set (i := 6) sc_parts_of.nd rfl (by first | exact .inl rfl | exact .inr rfl) re_int)
    (rss_cons (rs_for 100000 passC rfl (ri_any (re_slice (re_sv 0) (ro_some re_int) ro_none)) (rg_name sc_parts_of.nd rfl (by first | exact .inl rfl | exact .inr rfl)) (rss_cons (rs_aug (i := 6) sc_parts_of.nd rfl (by first | exact .inl rfl | exact .inr rfl) oi_add (re_cal (okr_parts_of h n) (Room.mono hr (Nat.le_refl _)) rfl takesC (ra_cons (re_sv 7) (ra_cons (re_sv 1) (ra_cons (re_bin o_add (re_sv 2) re_int) ra_nil))) rk_nil))
    (rss_one (rs_if (rt_cmp o_gtI (re_sv 6) (re_gint rfl (h.int 18))) (rss_one (rs_ret (re_sv 3))) rss_nil))))
    (rss_one (rs_ret (re_sv 6))))))))))))
theorem ok_parts_of (h : Fc fx fa fn K mg base) : Cal P w K mg base 63 (Str.ofString "parts_of") [(Str.ofString "thing"), (Str.ofString "signs"), (Str.ofString "deep")] 3 [] gd0 m_parts_of := okr_parts_of h 62
theorem sc_look_form : FnScope N_look_form [(Str.ofString "thing"), (Str.ofString "signs")] (defScope st_look_form) := C8.fnScope_by (by kernel_rfl)
theorem ok_look_form (h : Fc fx fa fn K mg base) : Cal P w K mg base 64 (Str.ofString "look_form") [(Str.ofString "thing"), (Str.ofString "signs")] 2 [] gd0 m_look_form := by
  obtain ⟨fd, F⟩ := h.c.def_ 8 (d := d_look_form) rfl
  have F : FunD K (Str.ofString "look_form") (Str.ofString "look_form") (defArgs st_look_form) (defBody st_look_form) (defScope st_look_form) [] [] (He.ga K (Str.ofString "look_form")) fd := F
  exact cal_of (k := 63) (b := b_look_form) (N := N_look_form) F (h.glo 24) sc_look_form (bindD_no (ps := [(Str.ofString "thing"), (Str.ofString "signs")]) F fun _ _ _ _ _ _ us hl => match us, hl with | [_, _], _ => rfl) fun cdv A outer s H E hr =>
    (rss_one (rs_if (rt_cmp o_gtI (re_cal (ok_parts_of h) (Room.mono hr (by decide)) rfl takesC (ra_cons (re_sv 0) (ra_cons (re_sv 1) (ra_cons re_int ra_nil))) rk_nil) (re_gint rfl (h.int 18))) (rss_one (rs_raiseF (c := 4) rfl takesC (h.exc 22 4) (h.gloC 23 4) rfl)) rss_nil))
theorem sc_turned : FnScope N_turned [(Str.ofString "form")] (defScope st_turned) := C8.fnScope_by (by kernel_rfl)
theorem okr_turned (h : Fc fx fa fn K mg base) : ∀ n : Nat, Cal P w K mg base (n + 1) (Str.ofString "turned") [(Str.ofString "form")] 1 [] gd0 (M_turned n)
  | 0 => by
    obtain ⟨fd, F⟩ := h.c.def_ 9 (d := d_turned) rfl
    have F : FunD K (Str.ofString "turned") (Str.ofString "turned") (defArgs st_turned) (defBody st_turned) (defScope st_turned) [] [] (He.ga K (Str.ofString "turned")) fd := F
    exact cal_of (k := 0) (b := b0_turned) (N := N_turned) F (h.glo 25) sc_turned (bindD_no (ps := [(Str.ofString "form")]) F fun _ _ _ _ _ _ us hl => match us, hl with | [_], _ => rfl) fun cdv A outer s H E hr =>
    (rss_cons (rs_set (i := 1) sc_turned.nd rfl (by first | exact .inl rfl | exact .inr rfl) (re_ix (re_sv 0) re_int))
    (rss_cons (rs_if (rt_cmp (o_in (Room.u65 hr)) (re_sv 1) (re_tup (ra_cons (re_str [110, 111, 110, 101] (by kernel_rfl)) (ra_cons (re_str [101, 109, 112, 116, 121] (by kernel_rfl)) (ra_cons (re_str [115, 105, 103, 110] (by kernel_rfl)) ra_nil))))) (rss_one (rs_ret (re_sv 0))) rss_nil)
    (rss_cons (rs_if (rt_cmp (o_eq (Room.u64 hr)) (re_sv 1) (re_str [116, 104, 101, 110] (by kernel_rfl))) (rss_one (rs_ret (re_tup (ra_cons (re_str [116, 104, 101, 110] (by kernel_rfl)) (ra_cons re_bad (ra_cons re_bad ra_nil)))))) rss_nil)
    (rss_one (rs_ret (re_bin o_add (re_tup (ra_cons (re_sv 1) ra_nil)) (re_callTy (T := "tuple") c_tuple rfl (h.free 19) (by decide +kernel) (ra_cons (re_lc 100000 (own := [("one", 2)]) rfl sc_turned.nd (blkOk_by (by kernel_rfl)) (ri_any (re_slice (re_sv 0) (ro_some re_int) ro_none)) (fun _ _ _ _ _ => (rgw_name sc_turned.nd rfl (by first | exact .inl rfl | exact .inr rfl) (by decide))) (fun _ _ _ _ _ => rts_nil) (fun _ _ _ _ _ => re_bad)) ra_nil))))))))
  | n + 1 => by
    obtain ⟨fd, F⟩ := h.c.def_ 9 (d := d_turned) rfl
    have F : FunD K (Str.ofString "turned") (Str.ofString "turned") (defArgs st_turned) (defBody st_turned) (defScope st_turned) [] [] (He.ga K (Str.ofString "turned")) fd := F
    exact cal_of (k := n + 1) (b := b1_turned (M_turned n)) (N := N_turned) F (h.glo 25) sc_turned (bindD_no (ps := [(Str.ofString "form")]) F fun _ _ _ _ _ _ us hl => match us, hl with | [_], _ => rfl) fun cdv A outer s H E hr =>
    (rss_cons (rs_set (i := 1) sc_turned.nd rfl (by first | exact .inl rfl | exact .inr rfl) (re_ix (re_sv 0) re_int))
    (rss_cons (rs_if (rt_cmp (o_in (Room.u65 hr)) (re_sv 1) (re_tup (ra_cons (re_str [110, 111, 110, 101] (by kernel_rfl)) (ra_cons (re_str [101, 109, 112, 116, 121] (by kernel_rfl)) (ra_cons (re_str [115, 105, 103, 110] (by kernel_rfl)) ra_nil))))) (rss_one (rs_ret (re_sv 0))) rss_nil)
    (rss_cons (rs_if (rt_cmp (o_eq (Room.u64 hr)) (re_sv 1) (re_str [116, 104, 101, 110] (by kernel_rfl))) (rss_one (rs_ret (re_tup (ra_cons (re_str [116, 104, 101, 110] (by kernel_rfl)) (ra_cons (re_cal (okr_turned h n) (Room.mono hr (Nat.le_refl _)) rfl takesC (ra_cons (re_ix (re_sv 0) re_int) ra_nil) rk_nil) (ra_cons (re_cal (okr_turned h n) (Room.mono hr (Nat.le_refl _)) rfl takesC (ra_cons (re_ix (re_sv 0) re_int) ra_nil) rk_nil) ra_nil)))))) rss_nil)
    (rss_one (rs_ret (re_bin o_add (re_tup (ra_cons (re_sv 1) ra_nil)) (re_callTy (T := "tuple") c_tuple rfl (h.free 19) (by decide +kernel) (ra_cons (re_lc 100000 (own := [("one", 2)]) rfl sc_turned.nd (blkOk_by (by kernel_rfl)) (ri_any (re_slice (re_sv 0) (ro_some re_int) ro_none)) (fun _ _ _ _ _ => (rgw_name sc_turned.nd rfl (by first | exact .inl rfl | exact .inr rfl) (by decide))) (fun _ _ _ _ _ => rts_nil) (fun _ _ _ _ _ => (re_cal (okr_turned h n) (Room.mono hr (Nat.le_refl _)) rfl (takesF rfl) (ra_cons (re_sv 2) ra_nil) rk_nil))) ra_nil))))))))
theorem ok_turned (h : Fc fx fa fn K mg base) : Cal P w K mg base 9 (Str.ofString "turned") [(Str.ofString "form")] 1 [] gd0 m_turned := okr_turned h 8
theorem sc_turned_form : FnScope N_turned_form [(Str.ofString "form"), (Str.ofString "signs")] (defScope st_turned_form) := C8.fnScope_by (by kernel_rfl)
theorem ok_turned_form (h : Fc fx fa fn K mg base) : Cal P w K mg base 65 (Str.ofString "turned_form") [(Str.ofString "form"), (Str.ofString "signs")] 1 [(Str.ofString "signs")] gdA m_turned_form := by
  obtain ⟨fd, F⟩ := h.c.def_ 10 (d := d_turned_form) rfl
  have F : FunD K (Str.ofString "turned_form") (Str.ofString "turned_form") (defArgs st_turned_form) (defBody st_turned_form) (defScope st_turned_form) [] [] (He.ga K (Str.ofString "turned_form")) fd := F
  exact cal_of (k := 64) (b := b_turned_form) (N := N_turned_form) F (h.glo 26) sc_turned_form (bindD_kw (n := 1) (ks := [(Str.ofString "signs")]) (ps := [(Str.ofString "form"), (Str.ofString "signs")]) F rfl fun _ _ _ _ _ _ us ws h1 h2 => match us, ws, h1, h2 with | [_], [_], _, _ => rfl) fun cdv A outer s H E hr =>
    (rss_cons (rs_expr (re_cal (ok_look_signs h) (Room.mono hr (by decide)) rfl takesC (ra_cons (re_sv 1) ra_nil) rk_nil))
    (rss_cons (rs_expr (re_cal (ok_look_form h) (Room.mono hr (by decide)) rfl takesC (ra_cons (re_sv 0) (ra_cons (re_sv 1) ra_nil)) rk_nil))
    (rss_one (rs_ret (re_cal (ok_turned h) (Room.mono hr (by decide)) rfl takesC (ra_cons (re_sv 0) ra_nil) rk_nil)))))
theorem sc__law_word : FnScope N__law_word [(Str.ofString "town"), (Str.ofString "alphabet"), (Str.ofString "most")] (defScope st__law_word) := C8.fnScope_by (by kernel_rfl)
theorem ok__law_word (h : Fc fx fa fn K mg base) : Cal P w K mg base 3 (Str.ofString "_law_word") [(Str.ofString "town"), (Str.ofString "alphabet"), (Str.ofString "most")] 3 [] gd0 m__law_word := by
  obtain ⟨fd, F⟩ := h.c.def_ 11 (d := d__law_word) rfl
  have F : FunD K (Str.ofString "_law_word") (Str.ofString "_law_word") (defArgs st__law_word) (defBody st__law_word) (defScope st__law_word) [] [] (He.ga K (Str.ofString "_law_word")) fd := F
  exact cal_of (k := 2) (b := b__law_word) (N := N__law_word) F (h.glo 28) sc__law_word (bindD_no (ps := [(Str.ofString "town"), (Str.ofString "alphabet"), (Str.ofString "most")]) F fun _ _ _ _ _ _ us hl => match us, hl with | [_, _, _], _ => rfl) fun cdv A outer s H E hr =>
    (rss_one (rs_ret (re_bmR (T := "str") (id := "str.join") m_join PySem.F.plainAttrs_str PySem.F.slot_str_join (re_str [] (by kernel_rfl)) (ra_cons (re_lc 100000 (own := [("k", 3)]) rfl sc__law_word.nd (blkOk_by (by kernel_rfl)) (ri_range1 rfl (h.free 27) (ra_cons (re_cal (ok__law_draw h) (Room.mono hr (by decide)) rfl takesC (ra_cons (re_sv 0) (ra_cons (re_bin o_add (re_sv 2) re_int) ra_nil)) rk_nil) ra_nil)) (fun _ _ _ _ _ => (rgw_name sc__law_word.nd rfl (by first | exact .inl rfl | exact .inr rfl) (by decide))) (fun _ _ _ _ _ => rts_nil) (fun _ _ _ _ _ => (re_cal (ok__law_pick h) (Room.mono hr (by decide)) rfl (takesF rfl) (ra_cons (re_sv 0) (ra_cons (re_sv 1) ra_nil)) rk_nil))) ra_nil))))
theorem sc__law_behind : FnScope N__law_behind [(Str.ofString "middles"), (Str.ofString "two")] (defScope st__law_behind) := C8.fnScope_by (by kernel_rfl)
theorem ok__law_behind (h : Fc fx fa fn K mg base) : Cal P w K mg base 1 (Str.ofString "_law_behind") [(Str.ofString "middles"), (Str.ofString "two")] 2 [] gd0 m__law_behind := by
  obtain ⟨fd, F⟩ := h.c.def_ 12 (d := d__law_behind) rfl
  have F : FunD K (Str.ofString "_law_behind") (Str.ofString "_law_behind") (defArgs st__law_behind) (defBody st__law_behind) (defScope st__law_behind) [] [] (He.ga K (Str.ofString "_law_behind")) fd := F
  exact cal_of (k := 0) (b := b__law_behind) (N := N__law_behind) F (h.glo 29) sc__law_behind (bindD_no (ps := [(Str.ofString "middles"), (Str.ofString "two")]) F fun _ _ _ _ _ _ us hl => match us, hl with | [_, _], _ => rfl) fun cdv A outer s H E hr =>
    (rss_cons (rs_set (i := 2) sc__law_behind.nd rfl (by first | exact .inl rfl | exact .inr rfl) (re_lst ra_nil))
    (rss_cons (rs_for 100000 passC rfl (ri_any (re_sv 0)) (rg_name sc__law_behind.nd rfl (by first | exact .inl rfl | exact .inr rfl)) (rss_one (rs_set (i := 2) sc__law_behind.nd rfl (by first | exact .inl rfl | exact .inr rfl) (re_bin o_add (re_sv 2) (re_ix (re_sv 1) (re_sv 3))))))
    (rss_one (rs_ret (re_sortSet rfl (re_sv 2) rfl (h.free 12) rfl (h.free 13))))))
theorem sc__law_chain : FnScope N__law_chain [(Str.ofString "one"), (Str.ofString "start")] (defScope st__law_chain) := C8.fnScope_by (by kernel_rfl)
theorem ok__law_chain (h : Fc fx fa fn K mg base) : Cal P w K mg base 1 (Str.ofString "_law_chain") [(Str.ofString "one"), (Str.ofString "start")] 2 [] gd0 m__law_chain := by
  obtain ⟨fd, F⟩ := h.c.def_ 13 (d := d__law_chain) rfl
  have F : FunD K (Str.ofString "_law_chain") (Str.ofString "_law_chain") (defArgs st__law_chain) (defBody st__law_chain) (defScope st__law_chain) [] [] (He.ga K (Str.ofString "_law_chain")) fd := F
  exact cal_of (k := 0) (b := b__law_chain) (N := N__law_chain) F (h.glo 30) sc__law_chain (bindD_no (ps := [(Str.ofString "one"), (Str.ofString "start")]) F fun _ _ _ _ _ _ us hl => match us, hl with | [_, _], _ => rfl) fun cdv A outer s H E hr =>
    (rss_cons (rs_set (i := 2) sc__law_chain.nd rfl (by first | exact .inl rfl | exact .inr rfl) (re_lst (ra_cons (re_sv 1) ra_nil)))
    (rss_cons (rs_set (i := 3) sc__law_chain.nd rfl (by first | exact .inl rfl | exact .inr rfl) re_int)
    (rss_cons (rs_while 100000 passC (rt_cmp o_lt (re_sv 3) (re_callB (id := "len") c_len rfl (h.free 2) (by decide +kernel) (ra_cons (re_sv 2) ra_nil))) (rss_cons (rs_set (i := 2) sc__law_chain.nd rfl (by first | exact .inl rfl | exact .inr rfl) (re_bin o_add (re_sv 2) (re_lc 100000 (own := [("there", 4)]) rfl sc__law_chain.nd (blkOk_by (by kernel_rfl)) (ri_any (re_ix (re_sv 0) (re_ix (re_sv 2) (re_sv 3)))) (fun _ _ _ _ _ => (rgw_name sc__law_chain.nd rfl (by first | exact .inl rfl | exact .inr rfl) (by decide))) (fun _ _ _ _ _ => (rts_one (rt_cmp (o_notIn (Room.u65 hr)) (re_sv 4) (re_sv 2)))) (fun _ _ _ _ _ => (re_sv 4)))))
    (rss_one (rs_set (i := 3) sc__law_chain.nd rfl (by first | exact .inl rfl | exact .inr rfl) (re_bin o_add (re_sv 3) re_int)))))
    (rss_one (rs_ret (re_callB (id := "sorted") c_sorted rfl (h.free 12) (by decide +kernel) (ra_cons (re_sv 2) ra_nil)))))))
theorem sc__law_spans : FnScope N__law_spans [(Str.ofString "form"), (Str.ofString "word")] (defScope st__law_spans) := C8.fnScope_by (by kernel_rfl)
theorem okr__law_spans (h : Fc fx fa fn K mg base) : ∀ n : Nat, Cal P w K mg base (n + 2) (Str.ofString "_law_spans") [(Str.ofString "form"), (Str.ofString "word")] 2 [] gd0 (M__law_spans n)
  | 0 => by
    obtain ⟨fd, F⟩ := h.c.def_ 14 (d := d__law_spans) rfl
    have F : FunD K (Str.ofString "_law_spans") (Str.ofString "_law_spans") (defArgs st__law_spans) (defBody st__law_spans) (defScope st__law_spans) [] [] (He.ga K (Str.ofString "_law_spans")) fd := F
    exact cal_of (k := 1) (b := b0__law_spans) (N := N__law_spans) F (h.glo 31) sc__law_spans (bindD_no (ps := [(Str.ofString "form"), (Str.ofString "word")]) F fun _ _ _ _ _ _ us hl => match us, hl with | [_, _], _ => rfl) fun cdv A outer s H E hr =>
    (rss_cons (rs_set (i := 2) sc__law_spans.nd rfl (by first | exact .inl rfl | exact .inr rfl) (re_bin o_add (re_callB (id := "len") c_len rfl (h.free 2) (by decide +kernel) (ra_cons (re_sv 1) ra_nil)) re_int))
    (rss_cons (rs_set (i := 3) sc__law_spans.nd rfl (by first | exact .inl rfl | exact .inr rfl) (re_ix (re_sv 0) re_int))
    (rss_cons (rs_if (rt_cmp (o_eq (Room.u64 hr)) (re_sv 3) (re_str [110, 111, 110, 101] (by kernel_rfl))) (rss_one (rs_ret (re_lc 100000 (own := [("k", 6)]) rfl sc__law_spans.nd (blkOk_by (by kernel_rfl)) (ri_range1 rfl (h.free 27) (ra_cons (re_sv 2) ra_nil)) (fun _ _ _ _ _ => (rgw_name sc__law_spans.nd rfl (by first | exact .inl rfl | exact .inr rfl) (by decide))) (fun _ _ _ _ _ => rts_nil) (fun _ _ _ _ _ => (re_lst ra_nil))))) rss_nil)
    (rss_cons (rs_if (rt_cmp (o_eq (Room.u64 hr)) (re_sv 3) (re_str [101, 109, 112, 116, 121] (by kernel_rfl))) (rss_one (rs_ret (re_lc 100000 (own := [("k", 6)]) rfl sc__law_spans.nd (blkOk_by (by kernel_rfl)) (ri_range1 rfl (h.free 27) (ra_cons (re_sv 2) ra_nil)) (fun _ _ _ _ _ => (rgw_name sc__law_spans.nd rfl (by first | exact .inl rfl | exact .inr rfl) (by decide))) (fun _ _ _ _ _ => rts_nil) (fun _ _ _ _ _ => (re_lst (ra_cons (re_sv 6) ra_nil)))))) rss_nil)
    (rss_cons (rs_if (rt_cmp (o_eq (Room.u64 hr)) (re_sv 3) (re_str [115, 105, 103, 110] (by kernel_rfl))) (rss_one (rs_ret (re_lc 100000 (own := [("k", 6)]) rfl sc__law_spans.nd (blkOk_by (by kernel_rfl)) (ri_range1 rfl (h.free 27) (ra_cons (re_sv 2) ra_nil)) (fun _ _ _ _ _ => (rgw_name sc__law_spans.nd rfl (by first | exact .inl rfl | exact .inr rfl) (by decide))) (fun _ _ _ _ _ => rts_nil) (fun _ _ _ _ _ => (re_if (rt_cmp (o_eq (Room.u64 hr)) (re_slice (re_sv 1) (ro_some (re_sv 6)) (ro_some (re_bin o_add (re_sv 6) re_int))) (re_ix (re_sv 0) re_int)) (re_lst (ra_cons (re_bin o_add (re_sv 6) re_int) ra_nil)) (re_lst ra_nil)))))) rss_nil)
    (rss_cons (rs_set (i := 4) sc__law_spans.nd rfl (by first | exact .inl rfl | exact .inr rfl) re_bad)
    (rss_cons (rs_if (rt_cmp (o_eq (Room.u64 hr)) (re_sv 3) (re_str [110, 111, 116] (by kernel_rfl))) (rss_one (rs_ret (re_lc 100000 (own := [("k", 6)]) rfl sc__law_spans.nd (blkOk_by (by kernel_rfl)) (ri_range1 rfl (h.free 27) (ra_cons (re_sv 2) ra_nil)) (fun _ _ _ _ _ => (rgw_name sc__law_spans.nd rfl (by first | exact .inl rfl | exact .inr rfl) (by decide))) (fun _ _ _ _ _ => rts_nil) (fun _ _ _ _ _ => (re_lc 100000 (own := [("j", 7)]) rfl sc__law_spans.nd (blkOk_by (by kernel_rfl)) (ri_range2 rfl (h.free 27) (ra_cons (re_sv 6) (ra_cons (re_sv 2) ra_nil))) (fun _ _ _ _ _ => (rgw_name sc__law_spans.nd rfl (by first | exact .inl rfl | exact .inr rfl) (by decide))) (fun _ _ _ _ _ => (rts_one (rt_cmp (o_notIn (Room.u65 hr)) (re_sv 7) (re_ix (re_sv 4) (re_sv 6))))) (fun _ _ _ _ _ => (re_sv 7))))))) rss_nil)
    (rss_cons (rs_if (rt_cmp (o_eq (Room.u64 hr)) (re_sv 3) (re_str [97, 110, 121] (by kernel_rfl))) (rss_one (rs_ret (re_lc 100000 (own := [("k", 6)]) rfl sc__law_spans.nd (blkOk_by (by kernel_rfl)) (ri_range1 rfl (h.free 27) (ra_cons (re_sv 2) ra_nil)) (fun _ _ _ _ _ => (rgw_name sc__law_spans.nd rfl (by first | exact .inl rfl | exact .inr rfl) (by decide))) (fun _ _ _ _ _ => rts_nil) (fun _ _ _ _ _ => (re_cal (ok__law_chain h) (Room.mono hr (by decide)) rfl (takesF rfl) (ra_cons (re_sv 4) (ra_cons (re_sv 6) ra_nil)) rk_nil))))) rss_nil)
    (rss_cons (rs_set (i := 5) sc__law_spans.nd rfl (by first | exact .inl rfl | exact .inr rfl) re_bad)
    (rss_cons (rs_if (rt_cmp (o_eq (Room.u64 hr)) (re_sv 3) (re_str [111, 114] (by kernel_rfl))) (rss_one (rs_ret (re_lc 100000 (own := [("k", 6)]) rfl sc__law_spans.nd (blkOk_by (by kernel_rfl)) (ri_range1 rfl (h.free 27) (ra_cons (re_sv 2) ra_nil)) (fun _ _ _ _ _ => (rgw_name sc__law_spans.nd rfl (by first | exact .inl rfl | exact .inr rfl) (by decide))) (fun _ _ _ _ _ => rts_nil) (fun _ _ _ _ _ => (re_sortSet rfl (re_bin o_add (re_ix (re_sv 4) (re_sv 6)) (re_ix (re_sv 5) (re_sv 6))) rfl (h.free 12) rfl (h.free 13)))))) rss_nil)
    (rss_cons (rs_if (rt_cmp (o_eq (Room.u64 hr)) (re_sv 3) (re_str [98, 111, 116, 104] (by kernel_rfl))) (rss_one (rs_ret (re_lc 100000 (own := [("k", 6)]) rfl sc__law_spans.nd (blkOk_by (by kernel_rfl)) (ri_range1 rfl (h.free 27) (ra_cons (re_sv 2) ra_nil)) (fun _ _ _ _ _ => (rgw_name sc__law_spans.nd rfl (by first | exact .inl rfl | exact .inr rfl) (by decide))) (fun _ _ _ _ _ => rts_nil) (fun _ _ _ _ _ => (re_lc 100000 (own := [("j", 7)]) rfl sc__law_spans.nd (blkOk_by (by kernel_rfl)) (ri_any (re_ix (re_sv 4) (re_sv 6))) (fun _ _ _ _ _ => (rgw_name sc__law_spans.nd rfl (by first | exact .inl rfl | exact .inr rfl) (by decide))) (fun _ _ _ _ _ => (rts_one (rt_cmp (o_in (Room.u65 hr)) (re_sv 7) (re_ix (re_sv 5) (re_sv 6))))) (fun _ _ _ _ _ => (re_sv 7))))))) rss_nil)
    (rss_one (rs_ret (re_lc 100000 (own := [("k", 6)]) rfl sc__law_spans.nd (blkOk_by (by kernel_rfl)) (ri_range1 rfl (h.free 27) (ra_cons (re_sv 2) ra_nil)) (fun _ _ _ _ _ => (rgw_name sc__law_spans.nd rfl (by first | exact .inl rfl | exact .inr rfl) (by decide))) (fun _ _ _ _ _ => rts_nil) (fun _ _ _ _ _ => (re_cal (ok__law_behind h) (Room.mono hr (by decide)) rfl (takesF rfl) (ra_cons (re_ix (re_sv 4) (re_sv 6)) (ra_cons (re_sv 5) ra_nil)) rk_nil))))))))))))))))
  | n + 1 => by
    obtain ⟨fd, F⟩ := h.c.def_ 14 (d := d__law_spans) rfl
    have F : FunD K (Str.ofString "_law_spans") (Str.ofString "_law_spans") (defArgs st__law_spans) (defBody st__law_spans) (defScope st__law_spans) [] [] (He.ga K (Str.ofString "_law_spans")) fd := F
    exact cal_of (k := n + 2) (b := b1__law_spans (M__law_spans n)) (N := N__law_spans) F (h.glo 31) sc__law_spans (bindD_no (ps := [(Str.ofString "form"), (Str.ofString "word")]) F fun _ _ _ _ _ _ us hl => match us, hl with | [_, _], _ => rfl) fun cdv A outer s H E hr =>
    (rss_cons (rs_set (i := 2) sc__law_spans.nd rfl (by first | exact .inl rfl | exact .inr rfl) (re_bin o_add (re_callB (id := "len") c_len rfl (h.free 2) (by decide +kernel) (ra_cons (re_sv 1) ra_nil)) re_int))
    (rss_cons (rs_set (i := 3) sc__law_spans.nd rfl (by first | exact .inl rfl | exact .inr rfl) (re_ix (re_sv 0) re_int))
    (rss_cons (rs_if (rt_cmp (o_eq (Room.u64 hr)) (re_sv 3) (re_str [110, 111, 110, 101] (by kernel_rfl))) (rss_one (rs_ret (re_lc 100000 (own := [("k", 6)]) rfl sc__law_spans.nd (blkOk_by (by kernel_rfl)) (ri_range1 rfl (h.free 27) (ra_cons (re_sv 2) ra_nil)) (fun _ _ _ _ _ => (rgw_name sc__law_spans.nd rfl (by first | exact .inl rfl | exact .inr rfl) (by decide))) (fun _ _ _ _ _ => rts_nil) (fun _ _ _ _ _ => (re_lst ra_nil))))) rss_nil)
    (rss_cons (rs_if (rt_cmp (o_eq (Room.u64 hr)) (re_sv 3) (re_str [101, 109, 112, 116, 121] (by kernel_rfl))) (rss_one (rs_ret (re_lc 100000 (own := [("k", 6)]) rfl sc__law_spans.nd (blkOk_by (by kernel_rfl)) (ri_range1 rfl (h.free 27) (ra_cons (re_sv 2) ra_nil)) (fun _ _ _ _ _ => (rgw_name sc__law_spans.nd rfl (by first | exact .inl rfl | exact .inr rfl) (by decide))) (fun _ _ _ _ _ => rts_nil) (fun _ _ _ _ _ => (re_lst (ra_cons (re_sv 6) ra_nil)))))) rss_nil)
    (rss_cons (rs_if (rt_cmp (o_eq (Room.u64 hr)) (re_sv 3) (re_str [115, 105, 103, 110] (by kernel_rfl))) (rss_one (rs_ret (re_lc 100000 (own := [("k", 6)]) rfl sc__law_spans.nd (blkOk_by (by kernel_rfl)) (ri_range1 rfl (h.free 27) (ra_cons (re_sv 2) ra_nil)) (fun _ _ _ _ _ => (rgw_name sc__law_spans.nd rfl (by first | exact .inl rfl | exact .inr rfl) (by decide))) (fun _ _ _ _ _ => rts_nil) (fun _ _ _ _ _ => (re_if (rt_cmp (o_eq (Room.u64 hr)) (re_slice (re_sv 1) (ro_some (re_sv 6)) (ro_some (re_bin o_add (re_sv 6) re_int))) (re_ix (re_sv 0) re_int)) (re_lst (ra_cons (re_bin o_add (re_sv 6) re_int) ra_nil)) (re_lst ra_nil)))))) rss_nil)
    (rss_cons (rs_set (i := 4) sc__law_spans.nd rfl (by first | exact .inl rfl | exact .inr rfl) (re_cal (okr__law_spans h n) (Room.mono hr (Nat.le_refl _)) rfl takesC (ra_cons (re_ix (re_sv 0) re_int) (ra_cons (re_sv 1) ra_nil)) rk_nil))
    (rss_cons (rs_if (rt_cmp (o_eq (Room.u64 hr)) (re_sv 3) (re_str [110, 111, 116] (by kernel_rfl))) (rss_one (rs_ret (re_lc 100000 (own := [("k", 6)]) rfl sc__law_spans.nd (blkOk_by (by kernel_rfl)) (ri_range1 rfl (h.free 27) (ra_cons (re_sv 2) ra_nil)) (fun _ _ _ _ _ => (rgw_name sc__law_spans.nd rfl (by first | exact .inl rfl | exact .inr rfl) (by decide))) (fun _ _ _ _ _ => rts_nil) (fun _ _ _ _ _ => (re_lc 100000 (own := [("j", 7)]) rfl sc__law_spans.nd (blkOk_by (by kernel_rfl)) (ri_range2 rfl (h.free 27) (ra_cons (re_sv 6) (ra_cons (re_sv 2) ra_nil))) (fun _ _ _ _ _ => (rgw_name sc__law_spans.nd rfl (by first | exact .inl rfl | exact .inr rfl) (by decide))) (fun _ _ _ _ _ => (rts_one (rt_cmp (o_notIn (Room.u65 hr)) (re_sv 7) (re_ix (re_sv 4) (re_sv 6))))) (fun _ _ _ _ _ => (re_sv 7))))))) rss_nil)
    (rss_cons (rs_if (rt_cmp (o_eq (Room.u64 hr)) (re_sv 3) (re_str [97, 110, 121] (by kernel_rfl))) (rss_one (rs_ret (re_lc 100000 (own := [("k", 6)]) rfl sc__law_spans.nd (blkOk_by (by kernel_rfl)) (ri_range1 rfl (h.free 27) (ra_cons (re_sv 2) ra_nil)) (fun _ _ _ _ _ => (rgw_name sc__law_spans.nd rfl (by first | exact .inl rfl | exact .inr rfl) (by decide))) (fun _ _ _ _ _ => rts_nil) (fun _ _ _ _ _ => (re_cal (ok__law_chain h) (Room.mono hr (by omega)) rfl (takesF rfl) (ra_cons (re_sv 4) (ra_cons (re_sv 6) ra_nil)) rk_nil))))) rss_nil)
    (rss_cons (rs_set (i := 5) sc__law_spans.nd rfl (by first | exact .inl rfl | exact .inr rfl) (re_cal (okr__law_spans h n) (Room.mono hr (Nat.le_refl _)) rfl takesC (ra_cons (re_ix (re_sv 0) re_int) (ra_cons (re_sv 1) ra_nil)) rk_nil))
    (rss_cons (rs_if (rt_cmp (o_eq (Room.u64 hr)) (re_sv 3) (re_str [111, 114] (by kernel_rfl))) (rss_one (rs_ret (re_lc 100000 (own := [("k", 6)]) rfl sc__law_spans.nd (blkOk_by (by kernel_rfl)) (ri_range1 rfl (h.free 27) (ra_cons (re_sv 2) ra_nil)) (fun _ _ _ _ _ => (rgw_name sc__law_spans.nd rfl (by first | exact .inl rfl | exact .inr rfl) (by decide))) (fun _ _ _ _ _ => rts_nil) (fun _ _ _ _ _ => (re_sortSet rfl (re_bin o_add (re_ix (re_sv 4) (re_sv 6)) (re_ix (re_sv 5) (re_sv 6))) rfl (h.free 12) rfl (h.free 13)))))) rss_nil)
    (rss_cons (rs_if (rt_cmp (o_eq (Room.u64 hr)) (re_sv 3) (re_str [98, 111, 116, 104] (by kernel_rfl))) (rss_one (rs_ret (re_lc 100000 (own := [("k", 6)]) rfl sc__law_spans.nd (blkOk_by (by kernel_rfl)) (ri_range1 rfl (h.free 27) (ra_cons (re_sv 2) ra_nil)) (fun _ _ _ _ _ => (rgw_name sc__law_spans.nd rfl (by first | exact .inl rfl | exact .inr rfl) (by decide))) (fun _ _ _ _ _ => rts_nil) (fun _ _ _ _ _ => (re_lc 100000 (own := [("j", 7)]) rfl sc__law_spans.nd (blkOk_by (by kernel_rfl)) (ri_any (re_ix (re_sv 4) (re_sv 6))) (fun _ _ _ _ _ => (rgw_name sc__law_spans.nd rfl (by first | exact .inl rfl | exact .inr rfl) (by decide))) (fun _ _ _ _ _ => (rts_one (rt_cmp (o_in (Room.u65 hr)) (re_sv 7) (re_ix (re_sv 5) (re_sv 6))))) (fun _ _ _ _ _ => (re_sv 7))))))) rss_nil)
    (rss_one (rs_ret (re_lc 100000 (own := [("k", 6)]) rfl sc__law_spans.nd (blkOk_by (by kernel_rfl)) (ri_range1 rfl (h.free 27) (ra_cons (re_sv 2) ra_nil)) (fun _ _ _ _ _ => (rgw_name sc__law_spans.nd rfl (by first | exact .inl rfl | exact .inr rfl) (by decide))) (fun _ _ _ _ _ => rts_nil) (fun _ _ _ _ _ => (re_cal (ok__law_behind h) (Room.mono hr (by omega)) rfl (takesF rfl) (ra_cons (re_ix (re_sv 4) (re_sv 6)) (ra_cons (re_sv 5) ra_nil)) rk_nil))))))))))))))))
theorem ok__law_spans (h : Fc fx fa fn K mg base) : Cal P w K mg base 64 (Str.ofString "_law_spans") [(Str.ofString "form"), (Str.ofString "word")] 2 [] gd0 m__law_spans := okr__law_spans h 62
theorem sc__law_has : FnScope N__law_has [(Str.ofString "form"), (Str.ofString "word")] (defScope st__law_has) := C8.fnScope_by (by kernel_rfl)
theorem ok__law_has (h : Fc fx fa fn K mg base) : Cal P w K mg base 65 (Str.ofString "_law_has") [(Str.ofString "form"), (Str.ofString "word")] 2 [] gd0 m__law_has := by
  obtain ⟨fd, F⟩ := h.c.def_ 15 (d := d__law_has) rfl
  have F : FunD K (Str.ofString "_law_has") (Str.ofString "_law_has") (defArgs st__law_has) (defBody st__law_has) (defScope st__law_has) [] [] (He.ga K (Str.ofString "_law_has")) fd := F
  exact cal_of (k := 64) (b := b__law_has) (N := N__law_has) F (h.glo 32) sc__law_has (bindD_no (ps := [(Str.ofString "form"), (Str.ofString "word")]) F fun _ _ _ _ _ _ us hl => match us, hl with | [_, _], _ => rfl) fun cdv A outer s H E hr =>
    (rss_one (rs_ret (re_cmp (o_in (Room.u65 hr)) (re_callB (id := "len") c_len rfl (h.free 2) (by decide +kernel) (ra_cons (re_sv 1) ra_nil)) (re_ix (re_cal (ok__law_spans h) (Room.mono hr (by decide)) rfl takesC (ra_cons (re_sv 0) (ra_cons (re_sv 1) ra_nil)) rk_nil) re_int))))
theorem sc_word_of : FnScope N_word_of [(Str.ofString "thing"), (Str.ofString "signs")] (defScope st_word_of) := C8.fnScope_by (by kernel_rfl)
theorem ok_word_of (h : Fc fx fa fn K mg base) : Cal P w K mg base 1 (Str.ofString "word_of") [(Str.ofString "thing"), (Str.ofString "signs")] 2 [] gd0 m_word_of := by
  obtain ⟨fd, F⟩ := h.c.def_ 16 (d := d_word_of) rfl
  have F : FunD K (Str.ofString "word_of") (Str.ofString "word_of") (defArgs st_word_of) (defBody st_word_of) (defScope st_word_of) [] [] (He.ga K (Str.ofString "word_of")) fd := F
  exact cal_of (k := 0) (b := b_word_of) (N := N_word_of) F (h.glo 34) sc_word_of (bindD_no (ps := [(Str.ofString "thing"), (Str.ofString "signs")]) F fun _ _ _ _ _ _ us hl => match us, hl with | [_, _], _ => rfl) fun cdv A outer s H E hr =>
    (rss_one (rs_ret (re_and (re_isiT (T := "str") (tab := [(.non, false), (.bool, false), (.int, false), (.str, true), (.list, false), (.tuple, false), (.dict, false)]) (re_sv 0) rfl (h.free 7) rfl (h.free 8) (by decide +kernel) (h.fx_ 0) (ins_tab inss_nil (by rfl)) (exc_tab excs_nil (by rfl))) (re_and (re_cmp o_leI (re_callB (id := "len") c_len rfl (h.free 2) (by decide +kernel) (ra_cons (re_sv 0) ra_nil)) (re_gint rfl (h.int 33))) (re_one (re_callB (id := "all") (c_all rfl) rfl (h.free 11) (by decide +kernel) (ra_cons (re_lc 100000 (own := [("sign", 2)]) rfl sc_word_of.nd (blkOk_by (by kernel_rfl)) (ri_any (re_sv 0)) (fun _ _ _ _ _ => (rgw_name sc_word_of.nd rfl (by first | exact .inl rfl | exact .inr rfl) (by decide))) (fun _ _ _ _ _ => rts_nil) (fun _ _ _ _ _ => (re_cmp (o_in (Room.u65 hr)) (re_sv 2) (re_sv 1)))) ra_nil)))))))
theorem sc_look_word : FnScope N_look_word [(Str.ofString "thing"), (Str.ofString "signs")] (defScope st_look_word) := C8.fnScope_by (by kernel_rfl)
theorem ok_look_word (h : Fc fx fa fn K mg base) : Cal P w K mg base 2 (Str.ofString "look_word") [(Str.ofString "thing"), (Str.ofString "signs")] 2 [] gd0 m_look_word := by
  obtain ⟨fd, F⟩ := h.c.def_ 17 (d := d_look_word) rfl
  have F : FunD K (Str.ofString "look_word") (Str.ofString "look_word") (defArgs st_look_word) (defBody st_look_word) (defScope st_look_word) [] [] (He.ga K (Str.ofString "look_word")) fd := F
  exact cal_of (k := 1) (b := b_look_word) (N := N_look_word) F (h.glo 37) sc_look_word (bindD_no (ps := [(Str.ofString "thing"), (Str.ofString "signs")]) F fun _ _ _ _ _ _ us hl => match us, hl with | [_, _], _ => rfl) fun cdv A outer s H E hr =>
    (rss_one (rs_if (rt_not (rt_val (re_cal (ok_word_of h) (Room.mono hr (by decide)) rfl takesC (ra_cons (re_sv 0) (ra_cons (re_sv 1) ra_nil)) rk_nil))) (rss_one (rs_raiseF (c := 3) rfl takesC (h.exc 35 3) (h.gloC 36 3) rfl)) rss_nil))
theorem sc_behind : FnScope N_behind [(Str.ofString "one"), (Str.ofString "other")] (defScope st_behind) := C8.fnScope_by (by kernel_rfl)
theorem ok_behind (h : Fc fx fa fn K mg base) : Cal P w K mg base 1 (Str.ofString "behind") [(Str.ofString "one"), (Str.ofString "other")] 2 [] gd0 m_behind := by
  obtain ⟨fd, F⟩ := h.c.def_ 18 (d := d_behind) rfl
  have F : FunD K (Str.ofString "behind") (Str.ofString "behind") (defArgs st_behind) (defBody st_behind) (defScope st_behind) [] [] (He.ga K (Str.ofString "behind")) fd := F
  exact cal_of (k := 0) (b := b_behind) (N := N_behind) F (h.glo 38) sc_behind (bindD_no (ps := [(Str.ofString "one"), (Str.ofString "other")]) F fun _ _ _ _ _ _ us hl => match us, hl with | [_, _], _ => rfl) fun cdv A outer s H E hr =>
    (rss_cons (rs_if (rt_cmp (o_in (Room.u65 hr)) (re_gdat rfl h.hp (h.fx_ 4)) (re_tup (ra_cons (re_sv 0) (ra_cons (re_sv 1) ra_nil)))) (rss_one (rs_ret (re_gdat rfl h.hp (h.fx_ 4)))) rss_nil)
    (rss_cons (rs_if (rt_cmp (o_eq (Room.u64 hr)) (re_sv 0) (re_gdat rfl h.hp (h.fx_ 5))) (rss_one (rs_ret (re_sv 1))) rss_nil)
    (rss_one (rs_ret (re_if (rt_cmp (o_eq (Room.u64 hr)) (re_sv 1) (re_gdat rfl h.hp (h.fx_ 5))) (re_sv 0) (re_tup (ra_cons (re_str [116, 104, 101, 110] (by kernel_rfl)) (ra_cons (re_sv 0) (ra_cons (re_sv 1) ra_nil)))))))))
theorem sc_either : FnScope N_either [(Str.ofString "one"), (Str.ofString "other")] (defScope st_either) := C8.fnScope_by (by kernel_rfl)
theorem ok_either (h : Fc fx fa fn K mg base) : Cal P w K mg base 1 (Str.ofString "either") [(Str.ofString "one"), (Str.ofString "other")] 2 [] gd0 m_either := by
  obtain ⟨fd, F⟩ := h.c.def_ 19 (d := d_either) rfl
  have F : FunD K (Str.ofString "either") (Str.ofString "either") (defArgs st_either) (defBody st_either) (defScope st_either) [] [] (He.ga K (Str.ofString "either")) fd := F
  exact cal_of (k := 0) (b := b_either) (N := N_either) F (h.glo 39) sc_either (bindD_no (ps := [(Str.ofString "one"), (Str.ofString "other")]) F fun _ _ _ _ _ _ us hl => match us, hl with | [_, _], _ => rfl) fun cdv A outer s H E hr =>
    (rss_cons (rs_if (RW.rt (rw_or (rt_cmp (o_eq (Room.u64 hr)) (re_sv 0) (re_sv 1)) (rw_or1 (rt_cmp (o_eq (Room.u64 hr)) (re_sv 1) (re_gdat rfl h.hp (h.fx_ 4)))))) (rss_one (rs_ret (re_sv 0))) rss_nil)
    (rss_one (rs_ret (re_if (rt_cmp (o_eq (Room.u64 hr)) (re_sv 0) (re_gdat rfl h.hp (h.fx_ 4))) (re_sv 1) (re_tup (ra_cons (re_str [111, 114] (by kernel_rfl)) (ra_cons (re_sv 0) (ra_cons (re_sv 1) ra_nil))))))))
theorem sc_has_empty : FnScope N_has_empty [(Str.ofString "form")] (defScope st_has_empty) := C8.fnScope_by (by kernel_rfl)
theorem okr_has_empty (h : Fc fx fa fn K mg base) : ∀ n : Nat, Cal P w K mg base (n + 1) (Str.ofString "has_empty") [(Str.ofString "form")] 1 [] gd0 (M_has_empty n)
  | 0 => by
    obtain ⟨fd, F⟩ := h.c.def_ 20 (d := d_has_empty) rfl
    have F : FunD K (Str.ofString "has_empty") (Str.ofString "has_empty") (defArgs st_has_empty) (defBody st_has_empty) (defScope st_has_empty) [] [] (He.ga K (Str.ofString "has_empty")) fd := F
    exact cal_of (k := 0) (b := b0_has_empty) (N := N_has_empty) F (h.glo 40) sc_has_empty (bindD_no (ps := [(Str.ofString "form")]) F fun _ _ _ _ _ _ us hl => match us, hl with | [_], _ => rfl) fun cdv A outer s H E hr =>
    (rss_cons (rs_set (i := 1) sc_has_empty.nd rfl (by first | exact .inl rfl | exact .inr rfl) (re_ix (re_sv 0) re_int))
    (rss_cons (rs_if (rt_cmp (o_in (Room.u65 hr)) (re_sv 1) (re_tup (ra_cons (re_str [101, 109, 112, 116, 121] (by kernel_rfl)) (ra_cons (re_str [97, 110, 121] (by kernel_rfl)) ra_nil)))) (rss_one (rs_ret re_bl)) rss_nil)
    (rss_cons (rs_if (rt_cmp (o_in (Room.u65 hr)) (re_sv 1) (re_tup (ra_cons (re_str [110, 111, 110, 101] (by kernel_rfl)) (ra_cons (re_str [115, 105, 103, 110] (by kernel_rfl)) ra_nil)))) (rss_one (rs_ret re_bl)) rss_nil)
    (rss_cons (rs_if (rt_cmp (o_eq (Room.u64 hr)) (re_sv 1) (re_str [110, 111, 116] (by kernel_rfl))) (rss_one (rs_ret (re_not re_bad))) rss_nil)
    (rss_cons (rs_if (rt_cmp (o_eq (Room.u64 hr)) (re_sv 1) (re_str [111, 114] (by kernel_rfl))) (rss_one (rs_ret (re_or re_bad (re_one re_bad)))) rss_nil)
    (rss_one (rs_ret (re_and re_bad (re_one re_bad)))))))))
  | n + 1 => by
    obtain ⟨fd, F⟩ := h.c.def_ 20 (d := d_has_empty) rfl
    have F : FunD K (Str.ofString "has_empty") (Str.ofString "has_empty") (defArgs st_has_empty) (defBody st_has_empty) (defScope st_has_empty) [] [] (He.ga K (Str.ofString "has_empty")) fd := F
    exact cal_of (k := n + 1) (b := b1_has_empty (M_has_empty n)) (N := N_has_empty) F (h.glo 40) sc_has_empty (bindD_no (ps := [(Str.ofString "form")]) F fun _ _ _ _ _ _ us hl => match us, hl with | [_], _ => rfl) fun cdv A outer s H E hr =>
    (rss_cons (rs_set (i := 1) sc_has_empty.nd rfl (by first | exact .inl rfl | exact .inr rfl) (re_ix (re_sv 0) re_int))
    (rss_cons (rs_if (rt_cmp (o_in (Room.u65 hr)) (re_sv 1) (re_tup (ra_cons (re_str [101, 109, 112, 116, 121] (by kernel_rfl)) (ra_cons (re_str [97, 110, 121] (by kernel_rfl)) ra_nil)))) (rss_one (rs_ret re_bl)) rss_nil)
    (rss_cons (rs_if (rt_cmp (o_in (Room.u65 hr)) (re_sv 1) (re_tup (ra_cons (re_str [110, 111, 110, 101] (by kernel_rfl)) (ra_cons (re_str [115, 105, 103, 110] (by kernel_rfl)) ra_nil)))) (rss_one (rs_ret re_bl)) rss_nil)
    (rss_cons (rs_if (rt_cmp (o_eq (Room.u64 hr)) (re_sv 1) (re_str [110, 111, 116] (by kernel_rfl))) (rss_one (rs_ret (re_not (re_cal (okr_has_empty h n) (Room.mono hr (Nat.le_refl _)) rfl takesC (ra_cons (re_ix (re_sv 0) re_int) ra_nil) rk_nil)))) rss_nil)
    (rss_cons (rs_if (rt_cmp (o_eq (Room.u64 hr)) (re_sv 1) (re_str [111, 114] (by kernel_rfl))) (rss_one (rs_ret (re_or (re_cal (okr_has_empty h n) (Room.mono hr (Nat.le_refl _)) rfl takesC (ra_cons (re_ix (re_sv 0) re_int) ra_nil) rk_nil) (re_one (re_cal (okr_has_empty h n) (Room.mono hr (Nat.le_refl _)) rfl takesC (ra_cons (re_ix (re_sv 0) re_int) ra_nil) rk_nil))))) rss_nil)
    (rss_one (rs_ret (re_and (re_cal (okr_has_empty h n) (Room.mono hr (Nat.le_refl _)) rfl takesC (ra_cons (re_ix (re_sv 0) re_int) ra_nil) rk_nil) (re_one (re_cal (okr_has_empty h n) (Room.mono hr (Nat.le_refl _)) rfl takesC (ra_cons (re_ix (re_sv 0) re_int) ra_nil) rk_nil))))))))))
theorem ok_has_empty (h : Fc fx fa fn K mg base) : Cal P w K mg base 63 (Str.ofString "has_empty") [(Str.ofString "form")] 1 [] gd0 m_has_empty := okr_has_empty h 62
theorem sc_after : FnScope N_after [(Str.ofString "form"), (Str.ofString "sign")] (defScope st_after) := C8.fnScope_by (by kernel_rfl)
theorem okr_after (h : Fc fx fa fn K mg base) : ∀ n : Nat, Cal P w K mg base (n + 64) (Str.ofString "after") [(Str.ofString "form"), (Str.ofString "sign")] 2 [] gd0 (M_after n)
  | 0 => by
    obtain ⟨fd, F⟩ := h.c.def_ 21 (d := d_after) rfl
    have F : FunD K (Str.ofString "after") (Str.ofString "after") (defArgs st_after) (defBody st_after) (defScope st_after) [] [] (He.ga K (Str.ofString "after")) fd := F
    exact cal_of (k := 63) (b := b0_after) (N := N_after) F (h.glo 41) sc_after (bindD_no (ps := [(Str.ofString "form"), (Str.ofString "sign")]) F fun _ _ _ _ _ _ us hl => match us, hl with | [_, _], _ => rfl) fun cdv A outer s H E hr =>
    (rss_cons (rs_set (i := 2) sc_after.nd rfl (by first | exact .inl rfl | exact .inr rfl) (re_ix (re_sv 0) re_int))
    (rss_cons (rs_if (rt_cmp (o_in (Room.u65 hr)) (re_sv 2) (re_tup (ra_cons (re_str [110, 111, 110, 101] (by kernel_rfl)) (ra_cons (re_str [101, 109, 112, 116, 121] (by kernel_rfl)) ra_nil)))) (rss_one (rs_ret (re_gdat rfl h.hp (h.fx_ 4)))) rss_nil)
    (rss_cons (rs_if (rt_cmp (o_eq (Room.u64 hr)) (re_sv 2) (re_str [115, 105, 103, 110] (by kernel_rfl))) (rss_one (rs_ret (re_if (rt_cmp (o_eq (Room.u64 hr)) (re_ix (re_sv 0) re_int) (re_sv 1)) (re_gdat rfl h.hp (h.fx_ 5)) (re_gdat rfl h.hp (h.fx_ 4))))) rss_nil)
    (rss_cons (rs_if (rt_cmp (o_eq (Room.u64 hr)) (re_sv 2) (re_str [111, 114] (by kernel_rfl))) (rss_one (rs_ret (re_cal (ok_either h) (Room.mono hr (by decide)) rfl takesC (ra_cons re_bad (ra_cons re_bad ra_nil)) rk_nil))) rss_nil)
    (rss_cons (rs_if (rt_cmp (o_eq (Room.u64 hr)) (re_sv 2) (re_str [98, 111, 116, 104] (by kernel_rfl))) (rss_cons (rs_par (i := 3) (j := 4) rfl sc_after.nd rfl rfl (by decide) rfl rfl (ra_cons re_bad (ra_cons re_bad ra_nil)))
    (rss_one (rs_ret (re_if (rt_cmp (o_in (Room.u65 hr)) (re_gdat rfl h.hp (h.fx_ 4)) (re_tup (ra_cons (re_sv 3) (ra_cons (re_sv 4) ra_nil)))) (re_gdat rfl h.hp (h.fx_ 4)) (re_if (rt_cmp (o_eq (Room.u64 hr)) (re_sv 3) (re_sv 4)) (re_sv 3) (re_tup (ra_cons (re_str [98, 111, 116, 104] (by kernel_rfl)) (ra_cons (re_sv 3) (ra_cons (re_sv 4) ra_nil))))))))) rss_nil)
    (rss_cons (rs_if (rt_cmp (o_eq (Room.u64 hr)) (re_sv 2) (re_str [110, 111, 116] (by kernel_rfl))) (rss_one (rs_ret (re_tup (ra_cons (re_str [110, 111, 116] (by kernel_rfl)) (ra_cons re_bad ra_nil))))) rss_nil)
    (rss_cons (rs_if (rt_cmp (o_eq (Room.u64 hr)) (re_sv 2) (re_str [97, 110, 121] (by kernel_rfl))) (rss_one (rs_ret (re_cal (ok_behind h) (Room.mono hr (by decide)) rfl takesC (ra_cons re_bad (ra_cons (re_sv 0) ra_nil)) rk_nil))) rss_nil)
    (rss_cons (rs_set (i := 5) sc_after.nd rfl (by first | exact .inl rfl | exact .inr rfl) (re_cal (ok_behind h) (Room.mono hr (by decide)) rfl takesC (ra_cons re_bad (ra_cons (re_ix (re_sv 0) re_int) ra_nil)) rk_nil))
    (rss_one (rs_ret (re_if (rt_val (re_cal (ok_has_empty h) (Room.mono hr (by decide)) rfl takesC (ra_cons (re_ix (re_sv 0) re_int) ra_nil) rk_nil)) (re_cal (ok_either h) (Room.mono hr (by decide)) rfl takesC (ra_cons (re_sv 5) (ra_cons re_bad ra_nil)) rk_nil) (re_sv 5))))))))))))
  | n + 1 => by
    obtain ⟨fd, F⟩ := h.c.def_ 21 (d := d_after) rfl
    have F : FunD K (Str.ofString "after") (Str.ofString "after") (defArgs st_after) (defBody st_after) (defScope st_after) [] [] (He.ga K (Str.ofString "after")) fd := F
    exact cal_of (k := n + 64) (b := b1_after (M_after n)) (N := N_after) F (h.glo 41) sc_after (bindD_no (ps := [(Str.ofString "form"), (Str.ofString "sign")]) F fun _ _ _ _ _ _ us hl => match us, hl with | [_, _], _ => rfl) fun cdv A outer s H E hr =>
    (rss_cons (rs_set (i := 2) sc_after.nd rfl (by first | exact .inl rfl | exact .inr rfl) (re_ix (re_sv 0) re_int))
    (rss_cons (rs_if (rt_cmp (o_in (Room.u65 hr)) (re_sv 2) (re_tup (ra_cons (re_str [110, 111, 110, 101] (by kernel_rfl)) (ra_cons (re_str [101, 109, 112, 116, 121] (by kernel_rfl)) ra_nil)))) (rss_one (rs_ret (re_gdat rfl h.hp (h.fx_ 4)))) rss_nil)
    (rss_cons (rs_if (rt_cmp (o_eq (Room.u64 hr)) (re_sv 2) (re_str [115, 105, 103, 110] (by kernel_rfl))) (rss_one (rs_ret (re_if (rt_cmp (o_eq (Room.u64 hr)) (re_ix (re_sv 0) re_int) (re_sv 1)) (re_gdat rfl h.hp (h.fx_ 5)) (re_gdat rfl h.hp (h.fx_ 4))))) rss_nil)
    (rss_cons (rs_if (rt_cmp (o_eq (Room.u64 hr)) (re_sv 2) (re_str [111, 114] (by kernel_rfl))) (rss_one (rs_ret (re_cal (ok_either h) (Room.mono hr (by omega)) rfl takesC (ra_cons (re_cal (okr_after h n) (Room.mono hr (Nat.le_refl _)) rfl takesC (ra_cons (re_ix (re_sv 0) re_int) (ra_cons (re_sv 1) ra_nil)) rk_nil) (ra_cons (re_cal (okr_after h n) (Room.mono hr (Nat.le_refl _)) rfl takesC (ra_cons (re_ix (re_sv 0) re_int) (ra_cons (re_sv 1) ra_nil)) rk_nil) ra_nil)) rk_nil))) rss_nil)
    (rss_cons (rs_if (rt_cmp (o_eq (Room.u64 hr)) (re_sv 2) (re_str [98, 111, 116, 104] (by kernel_rfl))) (rss_cons (rs_par (i := 3) (j := 4) rfl sc_after.nd rfl rfl (by decide) rfl rfl (ra_cons (re_cal (okr_after h n) (Room.mono hr (Nat.le_refl _)) rfl takesC (ra_cons (re_ix (re_sv 0) re_int) (ra_cons (re_sv 1) ra_nil)) rk_nil) (ra_cons (re_cal (okr_after h n) (Room.mono hr (Nat.le_refl _)) rfl takesC (ra_cons (re_ix (re_sv 0) re_int) (ra_cons (re_sv 1) ra_nil)) rk_nil) ra_nil)))
    (rss_one (rs_ret (re_if (rt_cmp (o_in (Room.u65 hr)) (re_gdat rfl h.hp (h.fx_ 4)) (re_tup (ra_cons (re_sv 3) (ra_cons (re_sv 4) ra_nil)))) (re_gdat rfl h.hp (h.fx_ 4)) (re_if (rt_cmp (o_eq (Room.u64 hr)) (re_sv 3) (re_sv 4)) (re_sv 3) (re_tup (ra_cons (re_str [98, 111, 116, 104] (by kernel_rfl)) (ra_cons (re_sv 3) (ra_cons (re_sv 4) ra_nil))))))))) rss_nil)
    (rss_cons (rs_if (rt_cmp (o_eq (Room.u64 hr)) (re_sv 2) (re_str [110, 111, 116] (by kernel_rfl))) (rss_one (rs_ret (re_tup (ra_cons (re_str [110, 111, 116] (by kernel_rfl)) (ra_cons (re_cal (okr_after h n) (Room.mono hr (Nat.le_refl _)) rfl takesC (ra_cons (re_ix (re_sv 0) re_int) (ra_cons (re_sv 1) ra_nil)) rk_nil) ra_nil))))) rss_nil)
    (rss_cons (rs_if (rt_cmp (o_eq (Room.u64 hr)) (re_sv 2) (re_str [97, 110, 121] (by kernel_rfl))) (rss_one (rs_ret (re_cal (ok_behind h) (Room.mono hr (by omega)) rfl takesC (ra_cons (re_cal (okr_after h n) (Room.mono hr (Nat.le_refl _)) rfl takesC (ra_cons (re_ix (re_sv 0) re_int) (ra_cons (re_sv 1) ra_nil)) rk_nil) (ra_cons (re_sv 0) ra_nil)) rk_nil))) rss_nil)
    (rss_cons (rs_set (i := 5) sc_after.nd rfl (by first | exact .inl rfl | exact .inr rfl) (re_cal (ok_behind h) (Room.mono hr (by omega)) rfl takesC (ra_cons (re_cal (okr_after h n) (Room.mono hr (Nat.le_refl _)) rfl takesC (ra_cons (re_ix (re_sv 0) re_int) (ra_cons (re_sv 1) ra_nil)) rk_nil) (ra_cons (re_ix (re_sv 0) re_int) ra_nil)) rk_nil))
    (rss_one (rs_ret (re_if (rt_val (re_cal (ok_has_empty h) (Room.mono hr (by omega)) rfl takesC (ra_cons (re_ix (re_sv 0) re_int) ra_nil) rk_nil)) (re_cal (ok_either h) (Room.mono hr (by omega)) rfl takesC (ra_cons (re_sv 5) (ra_cons (re_cal (okr_after h n) (Room.mono hr (Nat.le_refl _)) rfl takesC (ra_cons (re_ix (re_sv 0) re_int) (ra_cons (re_sv 1) ra_nil)) rk_nil) ra_nil)) rk_nil) (re_sv 5))))))))))))
theorem ok_after (h : Fc fx fa fn K mg base) : Cal P w K mg base 126 (Str.ofString "after") [(Str.ofString "form"), (Str.ofString "sign")] 2 [] gd0 m_after := okr_after h 62
theorem sc_rest_form : FnScope N_rest_form [(Str.ofString "form"), (Str.ofString "word"), (Str.ofString "signs")] (defScope st_rest_form) := C8.fnScope_by (by kernel_rfl)
theorem ok_rest_form (h : Fc fx fa fn K mg base) : Cal P w K mg base 127 (Str.ofString "rest_form") [(Str.ofString "form"), (Str.ofString "word"), (Str.ofString "signs")] 2 [(Str.ofString "signs")] gdA m_rest_form := by
  obtain ⟨fd, F⟩ := h.c.def_ 22 (d := d_rest_form) rfl
  have F : FunD K (Str.ofString "rest_form") (Str.ofString "rest_form") (defArgs st_rest_form) (defBody st_rest_form) (defScope st_rest_form) [] [] (He.ga K (Str.ofString "rest_form")) fd := F
  exact cal_of (k := 126) (b := b_rest_form) (N := N_rest_form) F (h.glo 42) sc_rest_form (bindD_kw (n := 2) (ks := [(Str.ofString "signs")]) (ps := [(Str.ofString "form"), (Str.ofString "word"), (Str.ofString "signs")]) F rfl fun _ _ _ _ _ _ us ws h1 h2 => match us, ws, h1, h2 with | [_, _], [_], _, _ => rfl) fun cdv A outer s H E hr =>
    (rss_cons (rs_expr (re_cal (ok_look_signs h) (Room.mono hr (by decide)) rfl takesC (ra_cons (re_sv 2) ra_nil) rk_nil))
    (rss_cons (rs_expr (re_cal (ok_look_form h) (Room.mono hr (by decide)) rfl takesC (ra_cons (re_sv 0) (ra_cons (re_sv 2) ra_nil)) rk_nil))
    (rss_cons (rs_expr (re_cal (ok_look_word h) (Room.mono hr (by decide)) rfl takesC (ra_cons (re_sv 1) (ra_cons (re_sv 2) ra_nil)) rk_nil))
    (rss_cons (rs_for 100000 passC rfl (ri_any (re_sv 1)) (rg_name sc_rest_form.nd rfl (by first | exact .inl rfl | exact .inr rfl)) (rss_one (rs_set (i := 0) sc_rest_form.nd rfl (by first | exact .inl rfl | exact .inr rfl) (re_cal (ok_after h) (Room.mono hr (by decide)) rfl takesC (ra_cons (re_sv 0) (ra_cons (re_sv 3) ra_nil)) rk_nil))))
    (rss_one (rs_ret (re_sv 0)))))))
theorem sc_is_form : FnScope N_is_form [(Str.ofString "thing"), (Str.ofString "signs")] (defScope st_is_form) := C8.fnScope_by (by kernel_rfl)
theorem ok_is_form (h : Fc fx fa fn K mg base) : Cal P w K mg base 64 (Str.ofString "is_form") [(Str.ofString "thing"), (Str.ofString "signs")] 2 [] gd0 m_is_form := by
  obtain ⟨fd, F⟩ := h.c.def_ 23 (d := d_is_form) rfl
  have F : FunD K (Str.ofString "is_form") (Str.ofString "is_form") (defArgs st_is_form) (defBody st_is_form) (defScope st_is_form) [] [] (He.ga K (Str.ofString "is_form")) fd := F
  exact cal_of (k := 63) (b := b_is_form) (N := N_is_form) F (h.glo 43) sc_is_form (bindD_no (ps := [(Str.ofString "thing"), (Str.ofString "signs")]) F fun _ _ _ _ _ _ us hl => match us, hl with | [_, _], _ => rfl) fun cdv A outer s H E hr =>
    (rss_cons (rs_expr (re_cal (ok_look_signs h) (Room.mono hr (by decide)) rfl takesC (ra_cons (re_sv 1) ra_nil) rk_nil))
    (rss_one (rs_ret (re_cmp o_leI (re_cal (ok_parts_of h) (Room.mono hr (by decide)) rfl takesC (ra_cons (re_sv 0) (ra_cons (re_sv 1) (ra_cons re_int ra_nil))) rk_nil) (re_gint rfl (h.int 18))))))
theorem sc_size_of : FnScope N_size_of [(Str.ofString "form"), (Str.ofString "signs")] (defScope st_size_of) := C8.fnScope_by (by kernel_rfl)
theorem ok_size_of (h : Fc fx fa fn K mg base) : Cal P w K mg base 65 (Str.ofString "size_of") [(Str.ofString "form"), (Str.ofString "signs")] 1 [(Str.ofString "signs")] gdA m_size_of := by
  obtain ⟨fd, F⟩ := h.c.def_ 24 (d := d_size_of) rfl
  have F : FunD K (Str.ofString "size_of") (Str.ofString "size_of") (defArgs st_size_of) (defBody st_size_of) (defScope st_size_of) [] [] (He.ga K (Str.ofString "size_of")) fd := F
  exact cal_of (k := 64) (b := b_size_of) (N := N_size_of) F (h.glo 44) sc_size_of (bindD_kw (n := 1) (ks := [(Str.ofString "signs")]) (ps := [(Str.ofString "form"), (Str.ofString "signs")]) F rfl fun _ _ _ _ _ _ us ws h1 h2 => match us, ws, h1, h2 with | [_], [_], _, _ => rfl) fun cdv A outer s H E hr =>
    (rss_cons (rs_expr (re_cal (ok_look_signs h) (Room.mono hr (by decide)) rfl takesC (ra_cons (re_sv 1) ra_nil) rk_nil))
    (rss_cons (rs_expr (re_cal (ok_look_form h) (Room.mono hr (by decide)) rfl takesC (ra_cons (re_sv 0) (ra_cons (re_sv 1) ra_nil)) rk_nil))
    (rss_one (rs_ret (re_cal (ok_parts_of h) (Room.mono hr (by decide)) rfl takesC (ra_cons (re_sv 0) (ra_cons (re_sv 1) (ra_cons re_int ra_nil))) rk_nil)))))
theorem sc__law_count : FnScope N__law_count [(Str.ofString "form")] (defScope st__law_count) := C8.fnScope_by (by kernel_rfl)
theorem okr__law_count (h : Fc fx fa fn K mg base) : ∀ n : Nat, Cal P w K mg base (n + 1) (Str.ofString "_law_count") [(Str.ofString "form")] 1 [] gd0 (M__law_count n)
  | 0 => by
    obtain ⟨fd, F⟩ := h.c.def_ 25 (d := d__law_count) rfl
    have F : FunD K (Str.ofString "_law_count") (Str.ofString "_law_count") (defArgs st__law_count) (defBody st__law_count) (defScope st__law_count) [] [] (He.ga K (Str.ofString "_law_count")) fd := F
    exact cal_of (k := 0) (b := b0__law_count) (N := N__law_count) F (h.glo 46) sc__law_count (bindD_no (ps := [(Str.ofString "form")]) F fun _ _ _ _ _ _ us hl => match us, hl with | [_], _ => rfl) fun cdv A outer s H E hr =>
    (rss_one (rs_ret (re_bin o_add re_int (re_callB (id := "sum") (c_sum rfl) rfl (h.free 45) (by decide +kernel) (ra_cons (re_lc 100000 (own := [("one", 1)]) rfl sc__law_count.nd (blkOk_by (by kernel_rfl)) (ri_any (re_slice (re_sv 0) (ro_some re_int) ro_none)) (fun _ _ _ _ _ => (rgw_name sc__law_count.nd rfl (by first | exact .inl rfl | exact .inr rfl) (by decide))) (fun _ _ _ _ _ => (rts_one (rt_val (re_isiT (T := "tuple") (tab := [(.non, false), (.bool, false), (.int, false), (.str, false), (.list, false), (.tuple, true), (.dict, false)]) (re_sv 1) rfl (h.free 7) rfl (h.free 19) (by decide +kernel) (h.fx_ 1) (ins_tab inss_nil (by rfl)) (exc_tab excs_nil (by rfl)))))) (fun _ _ _ _ _ => re_bad)) ra_nil)))))
  | n + 1 => by
    obtain ⟨fd, F⟩ := h.c.def_ 25 (d := d__law_count) rfl
    have F : FunD K (Str.ofString "_law_count") (Str.ofString "_law_count") (defArgs st__law_count) (defBody st__law_count) (defScope st__law_count) [] [] (He.ga K (Str.ofString "_law_count")) fd := F
    exact cal_of (k := n + 1) (b := b1__law_count (M__law_count n)) (N := N__law_count) F (h.glo 46) sc__law_count (bindD_no (ps := [(Str.ofString "form")]) F fun _ _ _ _ _ _ us hl => match us, hl with | [_], _ => rfl) fun cdv A outer s H E hr =>
    (rss_one (rs_ret (re_bin o_add re_int (re_callB (id := "sum") (c_sum rfl) rfl (h.free 45) (by decide +kernel) (ra_cons (re_lc 100000 (own := [("one", 1)]) rfl sc__law_count.nd (blkOk_by (by kernel_rfl)) (ri_any (re_slice (re_sv 0) (ro_some re_int) ro_none)) (fun _ _ _ _ _ => (rgw_name sc__law_count.nd rfl (by first | exact .inl rfl | exact .inr rfl) (by decide))) (fun _ _ _ _ _ => (rts_one (rt_val (re_isiT (T := "tuple") (tab := [(.non, false), (.bool, false), (.int, false), (.str, false), (.list, false), (.tuple, true), (.dict, false)]) (re_sv 1) rfl (h.free 7) rfl (h.free 19) (by decide +kernel) (h.fx_ 1) (ins_tab inss_nil (by rfl)) (exc_tab excs_nil (by rfl)))))) (fun _ _ _ _ _ => (re_cal (okr__law_count h n) (Room.mono hr (Nat.le_refl _)) rfl (takesF rfl) (ra_cons (re_sv 1) ra_nil) rk_nil))) ra_nil)))))
theorem ok__law_count (h : Fc fx fa fn K mg base) : Cal P w K mg base 9 (Str.ofString "_law_count") [(Str.ofString "form")] 1 [] gd0 m__law_count := okr__law_count h 8
theorem sc__law_is : FnScope N__law_is [(Str.ofString "told"), (Str.ofString "due")] (defScope st__law_is) := C8.fnScope_by (by kernel_rfl)
theorem ok__law_is (h : Fc fx fa fn K mg base) : Cal P w K mg base 1 (Str.ofString "_law_is") [(Str.ofString "told"), (Str.ofString "due")] 2 [] gd0 m__law_is := by
  obtain ⟨fd, F⟩ := h.c.def_ 26 (d := d__law_is) rfl
  have F : FunD K (Str.ofString "_law_is") (Str.ofString "_law_is") (defArgs st__law_is) (defBody st__law_is) (defScope st__law_is) [] [] (He.ga K (Str.ofString "_law_is")) fd := F
  exact cal_of (k := 0) (b := b__law_is) (N := N__law_is) F (h.glo 48) sc__law_is (bindD_no (ps := [(Str.ofString "told"), (Str.ofString "due")]) F fun _ _ _ _ _ _ us hl => match us, hl with | [_, _], _ => rfl) fun cdv A outer s H E hr =>
    (rss_one (rs_ret (re_and (re_isiT (T := "bool") (tab := [(.non, false), (.bool, true), (.int, false), (.str, false), (.list, false), (.tuple, false), (.dict, false)]) (re_sv 0) rfl (h.free 7) rfl (h.free 47) (by decide +kernel) (h.fx_ 6) (ins_tab inss_nil (by rfl)) (exc_tab excs_nil (by rfl))) (re_one (re_cmp (o_eq (Room.u64 hr)) (re_sv 0) (re_sv 1))))))
theorem sc_fits : FnScope N_fits [(Str.ofString "form"), (Str.ofString "word"), (Str.ofString "signs")] (defScope st_fits) := C8.fnScope_by (by kernel_rfl)
theorem ok_fits (h : Fc fx fa fn K mg base) : Cal P w K mg base 127 (Str.ofString "fits") [(Str.ofString "form"), (Str.ofString "word"), (Str.ofString "signs")] 2 [(Str.ofString "signs")] gdA m_fits := by
  obtain ⟨fd, F⟩ := h.c.def_ 27 (d := d_fits) rfl
  have F : FunD K (Str.ofString "fits") (Str.ofString "fits") (defArgs st_fits) (defBody st_fits) (defScope st_fits) [] [] (He.ga K (Str.ofString "fits")) fd := F
  exact cal_of (k := 126) (b := b_fits) (N := N_fits) F (h.glo 49) sc_fits (bindD_kw (n := 2) (ks := [(Str.ofString "signs")]) (ps := [(Str.ofString "form"), (Str.ofString "word"), (Str.ofString "signs")]) F rfl fun _ _ _ _ _ _ us ws h1 h2 => match us, ws, h1, h2 with | [_, _], [_], _, _ => rfl) fun cdv A outer s H E hr =>
    (rss_cons (rs_expr (re_cal (ok_look_signs h) (Room.mono hr (by decide)) rfl takesC (ra_cons (re_sv 2) ra_nil) rk_nil))
    (rss_cons (rs_expr (re_cal (ok_look_form h) (Room.mono hr (by decide)) rfl takesC (ra_cons (re_sv 0) (ra_cons (re_sv 2) ra_nil)) rk_nil))
    (rss_cons (rs_expr (re_cal (ok_look_word h) (Room.mono hr (by decide)) rfl takesC (ra_cons (re_sv 1) (ra_cons (re_sv 2) ra_nil)) rk_nil))
    (rss_cons (rs_for 100000 passC rfl (ri_any (re_sv 1)) (rg_name sc_fits.nd rfl (by first | exact .inl rfl | exact .inr rfl)) (rss_one (rs_set (i := 0) sc_fits.nd rfl (by first | exact .inl rfl | exact .inr rfl) (re_cal (ok_after h) (Room.mono hr (by decide)) rfl takesC (ra_cons (re_sv 0) (ra_cons (re_sv 3) ra_nil)) rk_nil))))
    (rss_one (rs_ret (re_cal (ok_has_empty h) (Room.mono hr (by decide)) rfl takesC (ra_cons (re_sv 0) ra_nil) rk_nil)))))))
theorem sc_law : FnScope N_law [(Str.ofString "script")] (defScope st_law) := C8.fnScope_by (by kernel_rfl)
theorem fr_law (h : Fc fx fa fn K mg base) {fd : FuncData} (F : FunD K (Str.ofString "law") (Str.ofString "law") (defArgs st_law) (defBody st_law) (defScope st_law) [] [] (He.ga K (Str.ofString "law")) fd) : FnRef P w K mg base 128 (He.ga K (Str.ofString "law")) fd [(Str.ofString "script")] m_law :=
  FnRef.pure (fnref (k := 127) (b := b_law) (N := N_law) F sc_law fun cdv A outer s H E hr =>
    (rss_cons (rs_set (i := 1) sc_law.nd rfl (by first | exact .inl rfl | exact .inr rfl) (re_cal (ok__law_town h) (Room.mono hr (by decide)) rfl takesC (ra_cons (re_sv 0) ra_nil) rk_nil))
    (rss_cons (rs_set (i := 2) sc_law.nd rfl (by first | exact .inl rfl | exact .inr rfl) (re_cal (ok__law_alphabet h) (Room.mono hr (by decide)) rfl takesC (ra_cons (re_sv 1) ra_nil) rk_nil))
    (rss_cons (rs_set (i := 3) sc_law.nd rfl (by first | exact .inl rfl | exact .inr rfl) (re_cal (ok__law_form h) (Room.mono hr (by decide)) rfl takesC (ra_cons (re_sv 1) (ra_cons (re_sv 2) (ra_cons re_int ra_nil))) rk_nil))
    (rss_cons (rs_if (RW.rt (rw_or (rt_cmp o_isNot (re_cal (ok_is_form h) (Room.mono hr (by decide)) rfl takesC (ra_cons (re_sv 3) (ra_cons (re_sv 2) ra_nil)) rk_nil) re_bl) (rw_or1 (rt_cmp (o_ne (Room.u64 hr)) (re_cal (ok_size_of h) (Room.mono hr (by decide)) rfl takesC (ra_cons (re_sv 3) ra_nil) (rk_cons (re_sv 2) rk_nil)) (re_cal (ok__law_count h) (Room.mono hr (by decide)) rfl takesC (ra_cons (re_sv 3) ra_nil) rk_nil))))) (rss_one (rs_ret re_bl)) rss_nil)
    (rss_cons (rs_set (i := 4) sc_law.nd rfl (by first | exact .inl rfl | exact .inr rfl) (re_cal (ok_turned_form h) (Room.mono hr (by decide)) rfl takesC (ra_cons (re_sv 3) ra_nil) (rk_cons (re_sv 2) rk_nil)))
    (rss_cons (rs_for 100000 passC rfl (ri_range1 rfl (h.free 27) (ra_cons re_int ra_nil)) (rg_name sc_law.nd rfl (by first | exact .inl rfl | exact .inr rfl)) (rss_cons (rs_set (i := 6) sc_law.nd rfl (by first | exact .inl rfl | exact .inr rfl) (re_cal (ok__law_word h) (Room.mono hr (by decide)) rfl takesC (ra_cons (re_sv 1) (ra_cons (re_sv 2) (ra_cons re_int ra_nil))) rk_nil))
    (rss_cons (rs_set (i := 7) sc_law.nd rfl (by first | exact .inl rfl | exact .inr rfl) (re_cal (ok__law_has h) (Room.mono hr (by decide)) rfl takesC (ra_cons (re_sv 3) (ra_cons (re_sv 6) ra_nil)) rk_nil))
    (rss_cons (rs_if (rt_not (rt_val (re_cal (ok__law_is h) (Room.mono hr (by decide)) rfl takesC (ra_cons (re_cal (ok_fits h) (Room.mono hr (by decide)) rfl takesC (ra_cons (re_sv 3) (ra_cons (re_sv 6) ra_nil)) (rk_cons (re_sv 2) rk_nil)) (ra_cons (re_sv 7) ra_nil)) rk_nil))) (rss_one (rs_ret re_bl)) rss_nil)
    (rss_cons (rs_set (i := 8) sc_law.nd rfl (by first | exact .inl rfl | exact .inr rfl) (re_cal (ok__law_draw h) (Room.mono hr (by decide)) rfl takesC (ra_cons (re_sv 1) (ra_cons (re_bin o_add (re_callB (id := "min") (c_min2 rfl) rfl (h.free 50) (by decide +kernel) (ra_cons (re_callB (id := "len") c_len rfl (h.free 2) (by decide +kernel) (ra_cons (re_sv 6) ra_nil)) (ra_cons re_int ra_nil))) re_int) ra_nil)) rk_nil))
    (rss_cons (rs_set (i := 9) sc_law.nd rfl (by first | exact .inl rfl | exact .inr rfl) (re_cal (ok_rest_form h) (Room.mono hr (by decide)) rfl takesC (ra_cons (re_sv 3) (ra_cons (re_slice (re_sv 6) ro_none (ro_some (re_sv 8))) ra_nil)) (rk_cons (re_sv 2) rk_nil)))
    (rss_cons (rs_if (RW.rt (rw_or (rt_cmp o_isNot (re_cal (ok_is_form h) (Room.mono hr (by decide)) rfl takesC (ra_cons (re_sv 9) (ra_cons (re_sv 2) ra_nil)) rk_nil) re_bl) (rw_or1 (rt_cmp (o_ne (Room.u64 hr)) (re_cal (ok__law_has h) (Room.mono hr (by decide)) rfl takesC (ra_cons (re_sv 9) (ra_cons (re_slice (re_sv 6) (ro_some (re_sv 8)) ro_none) ra_nil)) rk_nil) (re_sv 7))))) (rss_one (rs_ret re_bl)) rss_nil)
    (rss_one (rs_if (rt_cmp (o_ne (Room.u64 hr)) (re_cal (ok__law_has h) (Room.mono hr (by decide)) rfl takesC (ra_cons (re_sv 4) (ra_cons (re_revS (re_sv 6)) ra_nil)) rk_nil) (re_sv 7)) (rss_one (rs_ret re_bl)) rss_nil)))))))))
    (rss_one (rs_ret re_bl)))))))))
end
end Lw
set_option Elab.async false
set_option linter.all false
set_option maxRecDepth 100000
set_option maxHeartbeats 1000000
set_option autoImplicit false
namespace Lw
open PySem PySem.Spec L2 Rf
structure Al (al : List Nat) : Prop where
  look : ∀ h, m_look_signs [.str al] h = .ok .non h
  srt : al.Pairwise (· < ·)
  ne : al ≠ []
  len : al.length ≤ 4
def nI (l : List Nat) : List Int := l.map fun (k : Nat) => (k : Int)
def rowD (l : List Nat) : D := .tup ((nI l).map .int)
structure Good (al : List Nat) (rows : List (List Nat)) (f : Nat) (st : List Nat) : Prop where
  n1 : 1 ≤ rows.length
  n2 : rows.length ≤ 300
  row : ∀ r ∈ rows, r.length = al.length ∧ ∀ x ∈ r, x < rows.length
  first : f < rows.length
  stop : ∃ b : Nat → Bool, st = (List.range rows.length).filter b
structure Mach (h : LH) (m r s : Nat) (al : List Nat) (rows : List (List Nat)) (f : Nat) (st : List Nat) : Prop where
  obj : h[m]? = some (.ins 13 [(23, .str al), (24, .ref r), (25, .int f), (26, .ref s)])
  rws : h[r]? = some (.lst (rows.map rowD))
  stp : h[s]? = some (.lst ((List.range rows.length).map fun k => .bl (decide (k ∈ st))))
theorem Mach.fr {h h' : LH} {m r s : Nat} {al : List Nat} {rows : List (List Nat)} {f : Nat} {st : List Nat} {S : List Nat} (M : Mach h m r s al rows f st) (e : Fr S h h') (h1 : m ∉ S) (h2 : r ∉ S) (h3 : s ∉ S) : Mach h' m r s al rows f st := ⟨e.get _ _ M.obj h1, e.get _ _ M.rws h2, e.get _ _ M.stp h3⟩
theorem okR_is {α : Type} {r : R α} {v : α} {h : LH} (e : @okR _ r ⟨fun d h' => d = v ∧ h' = h⟩ ⟨fun _ _ => False⟩) : r = .ok v h := by
  cases r with
  | ok d h' => obtain ⟨rfl, rfl⟩ := e; rfl
  | ex x h' => exact e.elim
  | bad => exact e.elim
theorem runA_is {m : FM} {ds : List D} {v : D} (h : LH) (hp : pureDs ds = true) (e : @okR _ (m ds []) ⟨fun d _ => d = v⟩ ⟨fun _ _ => False⟩) (hd : pureD v = true) : runA m ds h = .ok v h := by
  obtain ⟨d, h', e1, rfl⟩ := okR_eq e
  exact runA_pure hp e1 hd
theorem word_of_ok {w al : List Nat} (hw : ∀ c ∈ w, c ∈ al) (hl : w.length ≤ 40) (h : LH) : m_word_of [.str w, .str al] h = .ok (.bl true) h := by
  refine runA_is h rfl ?_ rfl
  have z : szOk w.length = true := Nat.ble_eq_true_of_le (by omega)
  have d1 : decide ((w.length : Int) ≤ 40) = true := decide_eq_true (by omega)
  show @okR _ (fin (b_word_of [some (.str w), some (.str al), none] [])) ⟨_⟩ ⟨_⟩
  simp only [Rf.okR_ok, Rf.okR_ex, Rf.okS_nx, Rf.okS_rt, Rf.okS_bk, Rf.okS_ct, Rf.okS_ex, Rf.okR_bind, Rf.okS_lift, Rf.okS_seq, Rf.okS_if, Rf.okS_ret, Rf.okS_drop, Rf.okS_set, Rf.okS_next, Rf.okS_retN, Rf.okS_brk, Rf.okS_cont, Rf.okS_raise, Rf.okR_fin, Rf.okR_bin, Rf.okR_test, Rf.okR_not, Rf.okR_and, Rf.okR_or, Rf.okR_andV, Rf.okR_orV, Rf.okR_notV, Rf.okR_mif, Rf.okR_C, Rf.okR_nil, Rf.okR_yes, Rf.okR_cons, Rf.okR_call, Rf.okR_callK, Rf.okR_tup, Rf.okR_lst, Rf.okR_fld, Rf.okR_meth, Rf.okR_make, Rf.okR_bm, Rf.okR_isi, Rf.okS_for, Rf.okR_lc, Rf.okR_any, Rf.okS_asg, Rf.okS_setFld, Rf.okR_V, Rf.okR_chain, Rf.okR_rng1, Rf.okR_rng2, Rf.okR_neg, Rf.okR_sl, Rf.okR_noPart, Rf.okR_part, Rf.okS_sub, Rf.okS_par, List.getElem?_cons_zero, List.getElem?_cons_succ, List.set_cons_zero, List.set_cons_succ, if_true, if_false, Bool.false_eq_true, reduceIte, reduceCtorEq, Rf.tgOf, Rf.luk_c, Rf.f1, Rf.gV_non, Rf.gV_bl, Rf.gV_int, Rf.gV_str, Rf.gV_tup, Rf.gV_ktp, Rf.gV_rol, Rf.gV_ref, Rf.gd0, Rf.gdA, List.cons_append, List.nil_append, List.append_nil, List.take_succ_cons, List.take_zero, List.take_nil, List.drop_succ_cons, List.drop_zero, List.drop_nil, Rf.oI0, Rf.oI, Bool.not_true, Bool.not_false, b_word_of, dLen, z, d1, wipeL]
  rw [lc_map (w.map fun c => .str [c]) (fun _ => .bl true) (fun i => itm_str) (by simp; omega) (by simp; omega) (fun d hd => ?_)]
  · simp only [Rf.okR_ok, Rf.okR_ex, Rf.okS_nx, Rf.okS_rt, Rf.okS_bk, Rf.okS_ct, Rf.okS_ex, Rf.okR_bind, Rf.okS_lift, Rf.okS_seq, Rf.okS_if, Rf.okS_ret, Rf.okS_drop, Rf.okS_set, Rf.okS_next, Rf.okS_retN, Rf.okS_brk, Rf.okS_cont, Rf.okS_raise, Rf.okR_fin, Rf.okR_bin, Rf.okR_test, Rf.okR_not, Rf.okR_and, Rf.okR_or, Rf.okR_andV, Rf.okR_orV, Rf.okR_notV, Rf.okR_mif, Rf.okR_C, Rf.okR_nil, Rf.okR_yes, Rf.okR_cons, Rf.okR_call, Rf.okR_callK, Rf.okR_tup, Rf.okR_lst, Rf.okR_fld, Rf.okR_meth, Rf.okR_make, Rf.okR_bm, Rf.okR_isi, Rf.okS_for, Rf.okR_lc, Rf.okR_any, Rf.okS_asg, Rf.okS_setFld, Rf.okR_V, Rf.okR_chain, Rf.okR_rng1, Rf.okR_rng2, Rf.okR_neg, Rf.okR_sl, Rf.okR_noPart, Rf.okR_part, Rf.okS_sub, Rf.okS_par, List.getElem?_cons_zero, List.getElem?_cons_succ, List.set_cons_zero, List.set_cons_succ, if_true, if_false, Bool.false_eq_true, reduceIte, reduceCtorEq, Rf.tgOf, Rf.luk_c, Rf.f1, Rf.gV_non, Rf.gV_bl, Rf.gV_int, Rf.gV_str, Rf.gV_tup, Rf.gV_ktp, Rf.gV_rol, Rf.gV_ref, Rf.gd0, Rf.gdA, List.cons_append, List.nil_append, List.append_nil, List.take_succ_cons, List.take_zero, List.take_nil, List.drop_succ_cons, List.drop_zero, List.drop_nil, Rf.oI0, Rf.oI, Bool.not_true, Bool.not_false, dAll, asRd, List.length_nil, List.map_map]
    have e : allB (List.map ((fun _ => D.bl true) ∘ fun c => D.str [c]) w) = some (w.map fun _ => true) := all_true w
    rw [e]
    simp [okR]
  · obtain ⟨c, hc, rfl⟩ := List.mem_map.mp hd
    refine ⟨_, rfl, okR_is ?_⟩
    have : decide (c ∈ al) = true := decide_eq_true (hw c hc)
    simp only [Rf.okR_ok, Rf.okR_ex, Rf.okS_nx, Rf.okS_rt, Rf.okS_bk, Rf.okS_ct, Rf.okS_ex, Rf.okR_bind, Rf.okS_lift, Rf.okS_seq, Rf.okS_if, Rf.okS_ret, Rf.okS_drop, Rf.okS_set, Rf.okS_next, Rf.okS_retN, Rf.okS_brk, Rf.okS_cont, Rf.okS_raise, Rf.okR_fin, Rf.okR_bin, Rf.okR_test, Rf.okR_not, Rf.okR_and, Rf.okR_or, Rf.okR_andV, Rf.okR_orV, Rf.okR_notV, Rf.okR_mif, Rf.okR_C, Rf.okR_nil, Rf.okR_yes, Rf.okR_cons, Rf.okR_call, Rf.okR_callK, Rf.okR_tup, Rf.okR_lst, Rf.okR_fld, Rf.okR_meth, Rf.okR_make, Rf.okR_bm, Rf.okR_isi, Rf.okS_for, Rf.okR_lc, Rf.okR_any, Rf.okS_asg, Rf.okS_setFld, Rf.okR_V, Rf.okR_chain, Rf.okR_rng1, Rf.okR_rng2, Rf.okR_neg, Rf.okR_sl, Rf.okR_noPart, Rf.okR_part, Rf.okS_sub, Rf.okS_par, List.getElem?_cons_zero, List.getElem?_cons_succ, List.set_cons_zero, List.set_cons_succ, if_true, if_false, Bool.false_eq_true, reduceIte, reduceCtorEq, Rf.tgOf, Rf.luk_c, Rf.f1, Rf.gV_non, Rf.gV_bl, Rf.gV_int, Rf.gV_str, Rf.gV_tup, Rf.gV_ktp, Rf.gV_rol, Rf.gV_ref, Rf.gd0, Rf.gdA, List.cons_append, List.nil_append, List.append_nil, List.take_succ_cons, List.take_zero, List.take_nil, List.drop_succ_cons, List.drop_zero, List.drop_nil, Rf.oI0, Rf.oI, Bool.not_true, Bool.not_false, dIn, inD, this, and_self]
theorem look_word_ok {w al : List Nat} (hw : ∀ c ∈ w, c ∈ al) (hl : w.length ≤ 40) (h : LH) : m_look_word [.str w, .str al] h = .ok .non h := by
  refine runA_is h rfl ?_ rfl
  show @okR _ (fin (b_look_word [some (.str w), some (.str al)] [])) ⟨_⟩ ⟨_⟩
  simp only [Rf.okR_ok, Rf.okR_ex, Rf.okS_nx, Rf.okS_rt, Rf.okS_bk, Rf.okS_ct, Rf.okS_ex, Rf.okR_bind, Rf.okS_lift, Rf.okS_seq, Rf.okS_if, Rf.okS_ret, Rf.okS_drop, Rf.okS_set, Rf.okS_next, Rf.okS_retN, Rf.okS_brk, Rf.okS_cont, Rf.okS_raise, Rf.okR_fin, Rf.okR_bin, Rf.okR_test, Rf.okR_not, Rf.okR_and, Rf.okR_or, Rf.okR_andV, Rf.okR_orV, Rf.okR_notV, Rf.okR_mif, Rf.okR_C, Rf.okR_nil, Rf.okR_yes, Rf.okR_cons, Rf.okR_call, Rf.okR_callK, Rf.okR_tup, Rf.okR_lst, Rf.okR_fld, Rf.okR_meth, Rf.okR_make, Rf.okR_bm, Rf.okR_isi, Rf.okS_for, Rf.okR_lc, Rf.okR_any, Rf.okS_asg, Rf.okS_setFld, Rf.okR_V, Rf.okR_chain, Rf.okR_rng1, Rf.okR_rng2, Rf.okR_neg, Rf.okR_sl, Rf.okR_noPart, Rf.okR_part, Rf.okS_sub, Rf.okS_par, List.getElem?_cons_zero, List.getElem?_cons_succ, List.set_cons_zero, List.set_cons_succ, if_true, if_false, Bool.false_eq_true, reduceIte, reduceCtorEq, Rf.tgOf, Rf.luk_c, Rf.f1, Rf.gV_non, Rf.gV_bl, Rf.gV_int, Rf.gV_str, Rf.gV_tup, Rf.gV_ktp, Rf.gV_rol, Rf.gV_ref, Rf.gd0, Rf.gdA, List.cons_append, List.nil_append, List.append_nil, List.take_succ_cons, List.take_zero, List.take_nil, List.drop_succ_cons, List.drop_zero, List.drop_nil, Rf.oI0, Rf.oI, Bool.not_true, Bool.not_false, b_look_word, word_of_ok hw hl]
def ix (al : List Nat) (c : Nat) : Nat := (ixT c al).getD 0
theorem ixT_mem {c : Nat} : ∀ {l : List Nat}, c ∈ l → ∃ i, ixT c l = some i ∧ i < l.length
  | x :: r, h => by
    unfold ixT
    by_cases e : x = c
    · rw [if_pos e]; exact ⟨0, rfl, by simp⟩
    · rw [if_neg e]
      obtain ⟨i, h1, h2⟩ := ixT_mem (l := r) (by
        rcases List.mem_cons.mp h with z | z
        · exact absurd z.symm e
        · exact z)
      exact ⟨i + 1, by rw [h1]; rfl, by simp; omega⟩
theorem ix_eq {al : List Nat} {c : Nat} (h : c ∈ al) : ixT c al = some (ix al c) ∧ ix al c < al.length := by
  obtain ⟨i, h1, h2⟩ := ixT_mem h
  unfold ix
  rw [h1]; exact ⟨rfl, h2⟩
def step1 (al : List Nat) (rows : List (List Nat)) (room c : Nat) : Nat := (rows.getD room []).getD (ix al c) 0
def ledN (al : List Nat) (rows : List (List Nat)) (room : Nat) (w : List Nat) : Nat := w.foldl (step1 al rows) room
section
variable {al : List Nat} {rows : List (List Nat)} {f : Nat} {st : List Nat}
theorem Good.step (G : Good al rows f st) {room c : Nat} (hr : room < rows.length) (hc : c ∈ al) : atI (rows.map rowD) (room : Int) = some (rowD (rows.getD room [])) ∧ atI ((nI (rows.getD room [])).map D.int) (ix al c : Int) = some (.int (step1 al rows room c)) ∧ step1 al rows room c < rows.length := by
  have e1 : rows[room]? = some rows[room] := List.getElem?_eq_getElem hr
  have e2 : rows.getD room [] = rows[room] := by rw [List.getD_eq_getElem?_getD, e1]; rfl
  obtain ⟨g1, g2⟩ := G.row rows[room] (List.getElem_mem hr)
  have hi := (ix_eq hc).2
  have e3 : rows[room][ix al c]? = some (rows[room][ix al c]'(by omega)) := List.getElem?_eq_getElem (by omega)
  have e4 : step1 al rows room c = rows[room][ix al c]'(by omega) := by unfold step1; rw [e2, List.getD_eq_getElem?_getD, e3]; rfl
  refine ⟨?_, ?_, ?_⟩
  · refine atI_lt ?_
    rw [List.getElem?_map, e1, e2]; rfl
  · refine atI_lt ?_
    rw [e2, nI, List.map_map, List.getElem?_map, e3, e4]; rfl
  · rw [e4]; exact g2 _ (List.getElem_mem _)
theorem Good.led (G : Good al rows f st) : ∀ {w : List Nat} {room : Nat}, room < rows.length → (∀ c ∈ w, c ∈ al) → ledN al rows room w < rows.length
  | [], room, h, _ => h
  | c :: w, room, h, hw => Good.led G (w := w) (room := step1 al rows room c) (G.step h (hw c (by simp))).2.2 (fun c hc => hw c (by simp [hc]))
theorem Mach.ins {h : LH} {m r s : Nat} (M : Mach h m r s al rows f st) : insOf 13 m h = true := by unfold insOf; rw [M.obj]; rfl
structure Raw (h : LH) (p q : Nat) (rows : List (List Nat)) (st : List Nat) : Prop where
  rws : h[p]? = some (.lst (rows.map rowD))
  stp : h[q]? = some (.lst ((nI st).map .int))
theorem Raw.fr {h h' : LH} {p q : Nat} {S : List Nat} (M : Raw h p q rows st) (e : Fr S h h') (h1 : p ∉ S) (h2 : q ∉ S) : Raw h' p q rows st := ⟨e.get _ _ M.rws h1, e.get _ _ M.stp h2⟩
end
end Lw
set_option Elab.async false
set_option linter.all false
set_option maxRecDepth 100000
set_option maxHeartbeats 400000
set_option autoImplicit false
namespace BL
def lx : List Nat → List Nat → Prop
  | a :: u, b :: v => a < b ∨ (a = b ∧ lx u v)
  | _, _ => False
theorem lx_trans : ∀ {u v w : List Nat}, lx u v → lx v w → lx u w
  | a :: u, b :: v, c :: w, h1, h2 => by
    rcases h1 with h1 | ⟨h1, k1⟩
    · rcases h2 with h2 | ⟨h2, k2⟩
      · exact .inl (by omega)
      · exact .inl (by omega)
    · rcases h2 with h2 | ⟨h2, k2⟩
      · exact .inl (by omega)
      · exact .inr ⟨by omega, lx_trans k1 k2⟩
  | [], _, _, h, _ => h.elim
  | _ :: _, [], _, h, _ => h.elim
  | _ :: _, _ :: _, [], _, h => h.elim
theorem lx_snoc : ∀ {u v : List Nat} {a b : Nat}, u.length = v.length → lx u v ∨ (u = v ∧ a < b) → lx (u ++ [a]) (v ++ [b])
  | [], [], a, b, _, h => by
    rcases h with h | ⟨_, h⟩
    · exact h.elim
    · exact .inl h
  | x :: u, y :: v, a, b, hl, h => by
    have hl' : u.length = v.length := by simpa using hl
    rcases h with h | ⟨h, hab⟩
    · rcases h with h | ⟨h, k⟩
      · exact .inl h
      · exact .inr ⟨h, lx_snoc hl' (.inl k)⟩
    · injection h with h1 h2
      exact .inr ⟨h1, lx_snoc hl' (.inr ⟨h2, hab⟩)⟩
  | [], _ :: _, _, _, hl, _ => by simp at hl
  | _ :: _, [], _, _, hl, _ => by simp at hl
def sl (u v : List Nat) : Prop := u.length < v.length ∨ (u.length = v.length ∧ lx u v)
theorem sl_trans {u v w : List Nat} (h1 : sl u v) (h2 : sl v w) : sl u w := by
  rcases h1 with h1 | ⟨h1, k1⟩
  · rcases h2 with h2 | ⟨h2, _⟩
    · exact .inl (by omega)
    · exact .inl (by omega)
  · rcases h2 with h2 | ⟨h2, k2⟩
    · exact .inl (by omega)
    · exact .inr ⟨by omega, lx_trans k1 k2⟩
theorem sl_snoc {u v : List Nat} {a b : Nat} (h : sl u v ∨ (u = v ∧ a < b)) : sl (u ++ [a]) (v ++ [b]) := by
  rcases h with (h | ⟨h, k⟩) | ⟨h, k⟩
  · exact .inl (by simp; exact h)
  · exact .inr ⟨by simp [h], lx_snoc h (.inl k)⟩
  · subst h; exact .inr ⟨by simp, lx_snoc rfl (.inr ⟨rfl, k⟩)⟩
theorem sl_nil {u : List Nat} {a : Nat} : sl [] (u ++ [a]) := .inl (by simp)
def le (u v : List Nat) : Prop := u = v ∨ sl u v
theorem le_refl (u : List Nat) : le u u := .inl rfl
theorem le_trans {u v w : List Nat} (h1 : le u v) (h2 : le v w) : le u w := by
  rcases h1 with rfl | h1
  · exact h2
  · rcases h2 with rfl | h2
    · exact .inr h1
    · exact .inr (sl_trans h1 h2)
theorem le_snoc {u v : List Nat} {a : Nat} (h : le u v) : le (u ++ [a]) (v ++ [a]) := by
  rcases h with rfl | h
  · exact le_refl _
  · exact .inr (sl_snoc (.inl h))
theorem le_more {u r : List Nat} : le u (u ++ r) := by
  cases r with
  | nil => rw [List.append_nil]; exact le_refl _
  | cons a r => exact .inr (.inl (by simp))
def FirstW (n : Nat) (L : Lang) : Option (List Nat) → Prop
  | none => ∀ w, inA n w = true → L w = false
  | some w => inA n w = true ∧ L w = true ∧ ∀ v, inA n v = true → L v = true → le w v
theorem inA_snoc {n : Nat} {w : List Nat} {k : Nat} : inA n (w ++ [k]) = (inA n w && decide (k < n)) := by
  unfold inA; rw [List.all_append]; simp
theorem run_snoc {rows : List (List Nat)} {f k : Nat} {w : List Nat} : run rows f (w ++ [k]) = stp rows (run rows f w) k := by
  unfold run; rw [List.foldl_append]; rfl
structure Fw (n : Nat) (rows : List (List Nat)) (f i k : Nat) (o : List Nat) (ws : List (List Nat)) : Prop where
  len : ws.length = o.length
  o0 : o[0]? = some f
  w0 : ws[0]? = some []
  rn : ∀ (j : Nat) (w : List Nat), ws[j]? = some w → o[j]? = some (run rows f w) ∧ inA n w = true
  inc : ∀ (a b : Nat) (u v : List Nat), a < b → ws[a]? = some u → ws[b]? = some v → sl u v
  old : ∀ w, ws[i]? = some w → ∀ u ∈ ws, u = [] ∨ ∃ a k', u = a ++ [k'] ∧ (sl a w ∨ (a = w ∧ k' < k))
  dn : ∀ (j k' : Nat), (j < i ∨ (j = i ∧ k' < k)) → k' < n → ∀ w, ws[j]? = some w → ∃ (j2 : Nat) (w2 : List Nat), ws[j2]? = some w2 ∧ o[j2]? = some (stp rows (run rows f w) k') ∧ le w2 (w ++ [k'])
theorem Fw.start {n : Nat} {rows : List (List Nat)} {f : Nat} : Fw n rows f 0 0 [f] [[]] := by
  refine ⟨rfl, rfl, rfl, fun j w h => ?_, fun a b u v hab h1 h2 => ?_, fun w h u hu => .inl (by simpa using hu), fun j k' h => by omega⟩
  · match j, h with
    | 0, h => simp at h; subst h; exact ⟨rfl, rfl⟩
    | j + 1, h => simp at h
  · match b, h2 with
    | 0, _ => omega
    | b + 1, h2 => simp at h2
theorem Fw.bound {n : Nat} {rows : List (List Nat)} {f i k : Nat} {o : List Nat} {ws : List (List Nat)} (h : Fw n rows f i k o ws) {w : List Nat} (hw : ws[i]? = some w) : ∀ u ∈ ws, sl u (w ++ [k]) := fun u hu => by
  rcases h.old w hw u hu with rfl | ⟨a, k', rfl, g⟩
  · exact sl_nil
  · exact sl_snoc g
theorem Fw.seen {n : Nat} {rows : List (List Nat)} {f i k : Nat} {o : List Nat} {ws : List (List Nat)} (h : Fw n rows f i k o ws) {w : List Nat} (hw : ws[i]? = some w) (hg : stp rows (run rows f w) k ∈ o) : Fw n rows f i (k + 1) o ws := by
  refine ⟨h.len, h.o0, h.w0, h.rn, h.inc, fun w' hw' u hu => ?_, fun j k' hj hk w' hw' => ?_⟩
  · rcases h.old w' hw' u hu with g | ⟨a, k', e, g⟩
    · exact .inl g
    · refine .inr ⟨a, k', e, ?_⟩
      rcases g with g | ⟨g, g'⟩
      · exact .inl g
      · exact .inr ⟨g, by omega⟩
  · by_cases hc : j = i ∧ k' = k
    · obtain ⟨rfl, rfl⟩ := hc
      rw [hw] at hw'; cases hw'
      obtain ⟨j2, hj2⟩ := List.getElem?_of_mem hg
      obtain ⟨w2, hw2⟩ : ∃ w2, ws[j2]? = some w2 := ⟨_, List.getElem?_eq_getElem (by rw [h.len]; exact (List.getElem?_eq_some_iff.mp hj2).1)⟩
      exact ⟨j2, w2, hw2, hj2, .inr (h.bound hw w2 (List.mem_of_getElem? hw2))⟩
    · exact h.dn j k' (by omega) hk w' hw'
theorem at_snoc {α : Type} {l : List α} {x y : α} {j : Nat} (h : (l ++ [x])[j]? = some y) : l[j]? = some y ∨ (j = l.length ∧ x = y) := by
  rcases Nat.lt_trichotomy j l.length with g | g | g
  · rw [List.getElem?_append_left g] at h; exact .inl h
  · subst g; simp at h; exact .inr ⟨rfl, h⟩
  · rw [List.getElem?_eq_none (by simp; omega)] at h; cases h
theorem snoc_at {α : Type} {l : List α} {x y : α} {j : Nat} (h : l[j]? = some y) : (l ++ [x])[j]? = some y := by
  rw [List.getElem?_append_left (List.getElem?_eq_some_iff.mp h).1]; exact h
theorem Fw.fresh {n : Nat} {rows : List (List Nat)} {f i k : Nat} {o : List Nat} {ws : List (List Nat)} (h : Fw n rows f i k o ws) {w : List Nat} (hw : ws[i]? = some w) (hk : k < n) : Fw n rows f i (k + 1) (o ++ [stp rows (run rows f w) k]) (ws ++ [w ++ [k]]) := by
  have hil : i < ws.length := (List.getElem?_eq_some_iff.mp hw).1
  refine ⟨by simp [h.len], snoc_at h.o0, snoc_at h.w0, fun j v hv => ?_, fun a b u v hab h1 h2 => ?_, fun w' hw' u hu => ?_, fun j k' hj hk' w' hw' => ?_⟩
  · rcases at_snoc hv with g | ⟨g, e⟩
    · obtain ⟨g1, g2⟩ := h.rn j v g
      exact ⟨snoc_at g1, g2⟩
    · subst e g
      refine ⟨by rw [h.len, run_snoc]; simp, ?_⟩
      rw [inA_snoc, (h.rn i w hw).2, decide_eq_true hk]; rfl
  · rcases at_snoc h2 with g | ⟨g, e⟩
    · rcases at_snoc h1 with g' | ⟨g', _⟩
      · exact h.inc a b u v hab g' g
      · have := (List.getElem?_eq_some_iff.mp g).1; omega
    · subst e
      rcases at_snoc h1 with g' | ⟨g', _⟩
      · exact h.bound hw u (List.mem_of_getElem? g')
      · omega
  · have ew : w' = w := by
      rcases at_snoc hw' with g | ⟨g, _⟩
      · rw [hw] at g; cases g; rfl
      · omega
    subst ew
    rcases List.mem_append.mp hu with g | g
    · rcases h.old w' hw u g with g | ⟨a, k', e, g⟩
      · exact .inl g
      · refine .inr ⟨a, k', e, ?_⟩
        rcases g with g | ⟨g, g'⟩
        · exact .inl g
        · exact .inr ⟨g, by omega⟩
    · rw [List.mem_singleton] at g
      exact .inr ⟨w', k, g, .inr ⟨rfl, by omega⟩⟩
  · by_cases hc : j = i ∧ k' = k
    · obtain ⟨rfl, rfl⟩ := hc
      have ew : w' = w := by
        rcases at_snoc hw' with g | ⟨g, _⟩
        · rw [hw] at g; cases g; rfl
        · omega
      subst ew
      exact ⟨ws.length, w' ++ [k'], by simp, by rw [h.len]; simp, le_refl _⟩
    · have hw'' : ws[j]? = some w' := by
        rcases at_snoc hw' with g | ⟨g, _⟩
        · exact g
        · omega
      obtain ⟨j2, w2, g1, g2, g3⟩ := h.dn j k' (by omega) hk' w' hw''
      exact ⟨j2, w2, snoc_at g1, snoc_at g2, g3⟩
theorem Fw.next {n : Nat} {rows : List (List Nat)} {f i : Nat} {o : List Nat} {ws : List (List Nat)} (h : Fw n rows f i n o ws) (hi : i < o.length) : Fw n rows f (i + 1) 0 o ws := by
  obtain ⟨w, hw⟩ : ∃ w, ws[i]? = some w := ⟨_, List.getElem?_eq_getElem (by rw [h.len]; exact hi)⟩
  refine ⟨h.len, h.o0, h.w0, h.rn, h.inc, fun w' hw' u hu => ?_, fun j k' hj hk w' hw' => h.dn j k' (by omega) hk w' hw'⟩
  have hlt := h.inc i (i + 1) w w' (by omega) hw hw'
  rcases h.old w hw u hu with g | ⟨a, k', e, g⟩
  · exact .inl g
  · refine .inr ⟨a, k', e, .inl ?_⟩
    rcases g with g | ⟨g, _⟩
    · exact sl_trans g hlt
    · rw [g]; exact hlt
theorem Fw.all {n : Nat} {rows : List (List Nat)} {f i : Nat} {o : List Nat} {ws : List (List Nat)} (h : Fw n rows f i 0 o ws) : ∀ (v : List Nat), inA n v = true → (∃ (j : Nat) (w : List Nat), ws[j]? = some w ∧ o[j]? = some (run rows f v) ∧ le w v) ∨ ∃ (j : Nat) (w : List Nat), i ≤ j ∧ ws[j]? = some w ∧ le w v := by
  intro v
  induction hl : v.length generalizing v with
  | zero =>
    intro _
    have : v = [] := List.length_eq_zero_iff.mp hl
    subst this
    exact .inl ⟨0, [], h.w0, h.o0, le_refl _⟩
  | succ m ih =>
    intro hv
    obtain ⟨v', k, rfl⟩ : ∃ v' k, v = v' ++ [k] := ⟨v.dropLast, v.getLast (by intro e; rw [e] at hl; simp at hl), (List.dropLast_concat_getLast _).symm⟩
    rw [inA_snoc, Bool.and_eq_true] at hv
    rcases ih v' (by simpa using hl) hv.1 with ⟨j, w, g1, g2, g3⟩ | ⟨j, w, g1, g2, g3⟩
    · by_cases hj : j < i
      · have hk := of_decide_eq_true hv.2
        obtain ⟨j2, w2, k1, k2, k3⟩ := h.dn j k (.inl hj) hk w g1
        have er : run rows f w = run rows f v' := by
          have := (h.rn j w g1).1
          rw [g2] at this
          exact (Option.some.inj this).symm
        refine .inl ⟨j2, w2, k1, by rw [run_snoc, ← er]; exact k2, le_trans k3 (le_snoc g3)⟩
      · exact .inr ⟨j, w, by omega, g1, le_trans g3 le_more⟩
    · exact .inr ⟨j, w, g1, g2, le_trans g3 le_more⟩
theorem Fw.mono {n : Nat} {rows : List (List Nat)} {f i k : Nat} {o : List Nat} {ws : List (List Nat)} (h : Fw n rows f i k o ws) {a b : Nat} {u v : List Nat} (hab : a ≤ b) (h1 : ws[a]? = some u) (h2 : ws[b]? = some v) : le u v := by
  rcases Nat.lt_or_ge a b with g | g
  · exact .inr (h.inc a b u v g h1 h2)
  · have : a = b := by omega
    subst this
    rw [h1] at h2; cases h2; exact le_refl _
theorem Fw.found {n : Nat} {rows : List (List Nat)} {st : List Nat} {f i : Nat} {o : List Nat} {ws : List (List Nat)} (h : Fw n rows f i 0 o ws) {j0 x : Nat} {w : List Nat} (hi : j0 ≤ i) (hx : o[j0]? = some x) (hw : ws[j0]? = some w) (hs : x ∈ st) (hn : ∀ j y, j < j0 → o[j]? = some y → y ∉ st) : FirstW n (beh n rows st f) (some w) := by
  obtain ⟨r1, r2⟩ := h.rn j0 w hw
  rw [hx] at r1
  have ex := Option.some.inj r1
  refine ⟨r2, by unfold beh; rw [r2, ← ex, decide_eq_true hs]; rfl, fun v hv hL => ?_⟩
  unfold beh at hL
  rw [hv, Bool.true_and] at hL
  have hL := of_decide_eq_true hL
  rcases h.all v hv with ⟨j, u, g1, g2, g3⟩ | ⟨j, u, g1, g2, g3⟩
  · have : j0 ≤ j := by
      rcases Nat.lt_or_ge j j0 with g | g
      · exact absurd hL (hn j _ g g2)
      · exact g
    exact le_trans (h.mono this hw g1) g3
  · exact le_trans (h.mono (by omega) hw g2) g3
theorem Fw.none {n : Nat} {rows : List (List Nat)} {st : List Nat} {f : Nat} {o : List Nat} {ws : List (List Nat)} (h : Fw n rows f o.length 0 o ws) (hn : ∀ x ∈ o, x ∉ st) : FirstW n (beh n rows st f) none := by
  intro w hw
  unfold beh
  rw [hw, Bool.true_and]
  refine decide_eq_false fun hs => ?_
  rcases h.all w hw with ⟨j, u, g1, g2, g3⟩ | ⟨j, u, g1, g2, g3⟩
  · exact hn _ (List.mem_of_getElem? g2) hs
  · have := (List.getElem?_eq_some_iff.mp g2).1
    rw [h.len] at this; omega
end BL
set_option Elab.async false
set_option linter.all false
set_option maxRecDepth 100000
set_option maxHeartbeats 400000
set_option autoImplicit false
namespace SR
open BL
def mm (a b : Nat) : Nat × Nat := (min a b, max a b)
theorem mm_or (a b : Nat) : mm a b = (a, b) ∨ mm a b = (b, a) := by
  unfold mm
  rcases Nat.le_total a b with h | h
  · left; rw [Nat.min_eq_left h, Nat.max_eq_right h]
  · right; rw [Nat.min_eq_right h, Nat.max_eq_left h]
theorem mm_comm (a b : Nat) : mm a b = mm b a := by unfold mm; rw [Nat.min_comm, Nat.max_comm]
def pst (rows : List (List Nat)) (x : Nat × Nat) (k : Nat) : Nat × Nat := mm (stp rows x.1 k) (stp rows x.2 k)
theorem pst_mm (rows : List (List Nat)) (a b k : Nat) : pst rows (mm a b) k = mm (stp rows a k) (stp rows b k) := by
  unfold pst
  rcases mm_or a b with h | h <;> rw [h]
  exact mm_comm _ _
theorem run_snoc (rows : List (List Nat)) (r k : Nat) (w : List Nat) : run rows r (w ++ [k]) = stp rows (run rows r w) k := by unfold run; rw [List.foldl_append]; rfl
theorem inA_snoc {n k : Nat} {w : List Nat} (h : inA n w = true) (hk : k < n) : inA n (w ++ [k]) = true := by
  unfold inA at h ⊢
  rw [List.all_append, h]
  simp [hk]
abbrev Sp := List (Nat × Nat) × List (List Nat)
def add (rows : List (List Nat)) (x : Nat × Nat) (w : List Nat) (s : Sp) (k : Nat) : Sp := if pst rows x k ∈ s.1 then s else (s.1 ++ [pst rows x k], s.2 ++ [w ++ [k]])
def lay (n : Nat) (rows : List (List Nat)) (x : Nat × Nat) (w : List Nat) (s : Sp) : Sp := (List.range n).foldl (add rows x w) s
def bfs (n : Nat) (rows : List (List Nat)) : Nat → Nat → Sp → Option (List Nat)
  | 0, _, _ => none
  | t + 1, i, s => match s.1[i]?, s.2[i]? with
    | some x, some w => if x.1 = x.2 then some w else bfs n rows t (i + 1) (lay n rows x w s)
    | _, _ => none
section
variable {n N a b : Nat} {rows : List (List Nat)}
structure Ps (n N : Nat) (rows : List (List Nat)) (a b : Nat) (s : Sp) : Prop where
  len : s.2.length = s.1.length
  nd : s.1.Nodup
  rng : ∀ x ∈ s.1, x.1 < N ∧ x.2 < N
  wrd : ∀ (i : Nat) (w : List Nat), s.2[i]? = some w → inA n w = true ∧ w.length ≤ i ∧ s.1[i]? = some (mm (run rows a w) (run rows b w))
theorem Ps.add (hst : ∀ r k, r < N → k < n → stp rows r k < N) {s : Sp} (p : Ps n N rows a b s) {i k : Nat} {x : Nat × Nat} {w : List Nat} (hx : s.1[i]? = some x) (hw : s.2[i]? = some w) (hk : k < n) : Ps n N rows a b (add rows x w s k) := by
  unfold SR.add
  by_cases hm : pst rows x k ∈ s.1
  · rw [if_pos hm]; exact p
  · rw [if_neg hm]
    obtain ⟨w1, w2, w3⟩ := p.wrd i w hw
    have ex : x = mm (run rows a w) (run rows b w) := by rw [hx] at w3; exact Option.some.inj w3
    have hxr := p.rng x (List.mem_of_getElem? hx)
    have hi := (List.getElem?_eq_some_iff.mp hx).1
    refine ⟨by simp [p.len], ?_, fun y hy => ?_, fun j v hv => ?_⟩
    · refine List.nodup_append.mpr ⟨p.nd, by simp, fun y hy z hz => ?_⟩
      rw [List.mem_singleton.mp hz]; intro e; exact hm (e ▸ hy)
    · rcases List.mem_append.mp hy with g | g
      · exact p.rng y g
      · rw [List.mem_singleton.mp g]
        have h1 := hst x.1 k hxr.1 hk
        have h2 := hst x.2 k hxr.2 hk
        unfold pst mm
        simp only
        omega
    · rcases BL.at_snoc hv with g | ⟨g, e⟩
      · obtain ⟨p1, p2, p3⟩ := p.wrd j v g
        exact ⟨p1, p2, BL.snoc_at p3⟩
      · subst e g
        refine ⟨inA_snoc w1 hk, by simp [p.len]; omega, ?_⟩
        rw [p.len, run_snoc, run_snoc, ← pst_mm, ← ex]
        simp
end
def sdN (l : List Nat) : List Nat := (Rf.sdI (l.map fun (k : Nat) => (k : Int))).map Int.toNat
theorem sdN_back (l : List Nat) : (sdN l).map (fun (k : Nat) => (k : Int)) = Rf.sdI (l.map fun (k : Nat) => (k : Int)) := by
  unfold sdN
  rw [List.map_map]
  conv => rhs; rw [← List.map_id (Rf.sdI (l.map fun (k : Nat) => (k : Int)))]
  refine List.map_congr_left fun z hz => ?_
  obtain ⟨k, _, rfl⟩ := List.mem_map.mp (Rf.sdI_mem.mp hz)
  rfl
theorem sdN_mem {l : List Nat} {z : Nat} : z ∈ sdN l ↔ z ∈ l := by
  unfold sdN
  rw [List.mem_map]
  constructor
  · rintro ⟨i, hi, rfl⟩
    obtain ⟨k, hk, rfl⟩ := List.mem_map.mp (Rf.sdI_mem.mp hi)
    exact hk
  · intro h
    exact ⟨(z : Int), Rf.sdI_mem.mpr (List.mem_map.mpr ⟨z, h, rfl⟩), rfl⟩
theorem sdN_ris (l : List Nat) : (sdN l).Pairwise (· < ·) := by
  have h : List.Pairwise (· < ·) (Rf.sdI (l.map fun (k : Nat) => (k : Int))) := Rf.sdI_ris (l.map fun (k : Nat) => (k : Int))
  rw [← sdN_back, List.pairwise_map] at h
  exact h.imp fun z => by omega
def leadsT (n : Nat) (rows : List (List Nat)) (mg : List (Nat × Nat)) (a b : Nat) : Bool := (List.range n).any fun k => decide (stp rows a k = stp rows b k) || decide (mm (stp rows a k) (stp rows b k) ∈ mg)
abbrev Mg := List (Nat × Nat) × Bool
def stM (n : Nat) (rows : List (List Nat)) (s : Mg) (x : Nat × Nat) : Mg := if (!decide (x ∈ s.1) && leadsT n rows s.1 x.1 x.2) = true then (s.1 ++ [x], true) else s
def inn (N i j : Nat) : List (Nat × Nat) := (List.range j).map fun k => (i, i + 1 + k)
def prs (N i : Nat) : List (Nat × Nat) := (List.range i).flatMap fun i => inn N i (N - (i + 1))
def turnM (n : Nat) (rows : List (List Nat)) (N : Nat) (mg : List (Nat × Nat)) : Mg := (prs N N).foldl (stM n rows) (mg, false)
def loopM (n : Nat) (rows : List (List Nat)) (N : Nat) : Nat → List (Nat × Nat) → List (Nat × Nat)
  | 0, mg => mg
  | t + 1, mg => if (turnM n rows N mg).2 = true then loopM n rows N t (turnM n rows N mg).1 else (turnM n rows N mg).1
structure Mo (n : Nat) (rows : List (List Nat)) (N : Nat) (mg : List (Nat × Nat)) : Prop where
  nd : mg.Nodup
  rng : ∀ x ∈ mg, x.1 < x.2 ∧ x.2 < N
  ok : ∀ x ∈ mg, ∃ w, inA n w = true ∧ run rows x.1 w = run rows x.2 w
theorem Mo.st {n N : Nat} {rows : List (List Nat)} {s : Mg} (m : Mo n rows N s.1) {x : Nat × Nat} (hx : x.1 < x.2 ∧ x.2 < N) : Mo n rows N (stM n rows s x).1 := by
  unfold stM
  split
  · rename_i h
    rw [Bool.and_eq_true] at h
    obtain ⟨h1, h2⟩ := h
    have h1 : x ∉ s.1 := by simpa using h1
    unfold leadsT at h2
    rw [List.any_eq_true] at h2
    obtain ⟨k, hk, e⟩ := h2
    have hk := List.mem_range.mp hk
    refine ⟨?_, fun y hy => ?_, fun y hy => ?_⟩
    · refine List.nodup_append.mpr ⟨m.nd, by simp, fun y hy z hz => ?_⟩
      rw [List.mem_singleton.mp hz]; intro e; exact h1 (e ▸ hy)
    · rcases List.mem_append.mp hy with g | g
      · exact m.rng y g
      · rw [List.mem_singleton.mp g]; exact hx
    · rcases List.mem_append.mp hy with g | g
      · exact m.ok y g
      · rw [List.mem_singleton.mp g]
        rw [Bool.or_eq_true] at e
        rcases e with e | e
        · exact ⟨[k], by simp [inA, hk], of_decide_eq_true e⟩
        · obtain ⟨w, w1, w2⟩ := m.ok _ (of_decide_eq_true e)
          refine ⟨k :: w, by unfold inA at w1 ⊢; rw [List.all_cons, w1]; simp [hk], ?_⟩
          show run rows (stp rows x.1 k) w = run rows (stp rows x.2 k) w
          rcases mm_or (stp rows x.1 k) (stp rows x.2 k) with q | q
          · rw [q] at w2; exact w2
          · rw [q] at w2; exact w2.symm
  · exact m
theorem Mo.fold {n N : Nat} {rows : List (List Nat)} : ∀ {l : List (Nat × Nat)} {s : Mg}, Mo n rows N s.1 → (∀ x ∈ l, x.1 < x.2 ∧ x.2 < N) → Mo n rows N (l.foldl (stM n rows) s).1
  | [], _, m, _ => m
  | x :: l, s, m, h => by
    show Mo n rows N (l.foldl (stM n rows) (stM n rows s x)).1
    exact Mo.fold (m.st (h x (by simp))) fun y hy => h y (by simp [hy])
theorem prs_rng {N i : Nat} (hi : i ≤ N) : ∀ x ∈ prs N i, x.1 < x.2 ∧ x.2 < N := fun x hx => by
  obtain ⟨a, ha, hx⟩ := List.mem_flatMap.mp hx
  obtain ⟨k, hk, rfl⟩ := List.mem_map.mp hx
  have := List.mem_range.mp ha
  have := List.mem_range.mp hk
  simp only
  omega
theorem Mo.turn {n N : Nat} {rows : List (List Nat)} {mg : List (Nat × Nat)} (m : Mo n rows N mg) : Mo n rows N (turnM n rows N mg).1 := Mo.fold (s := (mg, false)) m (prs_rng (Nat.le_refl _))
theorem Mo.loop {n N : Nat} {rows : List (List Nat)} : ∀ (t : Nat) {mg : List (Nat × Nat)}, Mo n rows N mg → Mo n rows N (loopM n rows N t mg)
  | 0, _, m => m
  | t + 1, mg, m => by
    unfold loopM
    split
    · exact Mo.loop t m.turn
    · exact m.turn
end SR
set_option Elab.async false
set_option linter.all false
set_option maxRecDepth 100000
set_option maxHeartbeats 400000
set_option autoImplicit false
namespace Rf
open PySem PySem.Spec L2
abbrev Sp3 := Nat × Nat × Nat
def kE (p : Nat × Nat) : D := .tup [.int p.1, .str [p.2]]
theorem eq1 (a b : Nat) : decide (([a] : List Nat) = [b]) = decide (a = b) := decide_eq_decide.mpr (by simp)
theorem keys_k : Keys kE true := ⟨fun _ => rfl, fun x y => by
  obtain ⟨a, b⟩ := x
  obtain ⟨c, d⟩ := y
  simp only [kE, eqY, eqKs, eqK, Bool.and_true, Bool.and_eq_true, decide_eq_true_iff, Prod.mk.injEq, List.cons.injEq, and_true]
  omega, fun _ => rfl⟩
def goalsOf (P : List Sp3) (k : Nat × Nat) : List Nat := (P.filter fun s => decide ((s.1, s.2.1) = k)).map (·.2.2)
theorem goals_snoc (P : List Sp3) (s : Sp3) (k : Nat × Nat) : goalsOf (P ++ [s]) k = goalsOf P k ++ (if (s.1, s.2.1) = k then [s.2.2] else []) := by
  unfold goalsOf
  rw [List.filter_append, List.map_append]
  congr 1
  by_cases h : (s.1, s.2.1) = k
  · rw [if_pos h, List.filter_cons_of_pos (by simpa using h)]; rfl
  · rw [if_neg h, List.filter_cons_of_neg (by simpa using h)]; rfl
end Rf
set_option Elab.async false
set_option linter.all false
set_option maxRecDepth 100000
set_option maxHeartbeats 400000
set_option autoImplicit false
namespace Rf
open PySem PySem.Spec L2
section
variable {α β : Type} {Y : Exn → LH → Prop}
theorem okR_dct {n : Nat} {wi : IM} {g : GM} {tt : TM} {tk tv : EM} {vs : List Nat} {ls : Ls} {h : LH} {Q : D → LH → Prop} : @okR _ (mDct n wi g tt tk tv vs ls h) ⟨Q⟩ ⟨Y⟩ = @okR _ (wi ls h) ⟨fun L h => @okR _ (mDtGo g tt tk tv L (wipeL ls vs) n 0 [] h) ⟨fun acc h => Q (.ref h.length) (h ++ [.dic true acc])⟩ ⟨Y⟩⟩ ⟨Y⟩ := okR_bind.trans (okR_ext fun _ _ => okR_bind.trans (okR_ext fun _ _ => okR_ok))
theorem okR_sortSc2 {n m : Nat} {wi wi1 : IM} {g g1 : GM} {tt tt1 : TM} {te : EM} {vs vs1 : List Nat} {ls : Ls} {h : LH} {Q : D → LH → Prop} : @okR _ (mSortSc2 n m wi g tt wi1 g1 tt1 te vs vs1 ls h) ⟨Q⟩ ⟨Y⟩ = @okR _ (wi ls h) ⟨fun L h1 => @okR _ (srtK (mKc2Go g tt wi1 g1 tt1 te vs1 m L (wipeL ls vs) n 0 [] h1)) ⟨Q⟩ ⟨Y⟩⟩ ⟨Y⟩ := okR_bind
end
def Lot (d : D) (l : List Nat) (h : LH) : Prop := (d = .tup (natsD l) ∨ d = .ktp (natsD l)) ∨ ∃ q, d = .ref q ∧ h[q]? = some (.lst (natsD l))
theorem Lot.fr {d : D} {l : List Nat} {h h' : LH} {S : List Nat} (E : Lot d l h) (e : Fr S h h') (hn : ∀ q, d = .ref q → q ∉ S) : Lot d l h' := by
  rcases E with E | ⟨q, E, hq⟩
  · exact .inl E
  · exact .inr ⟨q, E, e.get _ _ hq (hn q E)⟩
theorem Lot.nf {d : D} {l : List Nat} {h : LH} (E : Lot d l h) : isFn d = false := by
  rcases E with (rfl | rfl) | ⟨q, rfl, hq⟩ <;> rfl
def imD (d : D) (h : LH) : R LI := match d with
  | .ref n => (match h[n]? with
    | some (.lst _) => .ok (liList n) h
    | _ => .bad)
  | .tup xs => .ok (liSeq xs) h
  | .ktp xs => .ok (liSeq xs) h
  | .str l => .ok (liStr l) h
  | _ => .bad
theorem okR_anyD {e : EM} {ls : Ls} {h : LH} {Q : LI → LH → Prop} {Y : Exn → LH → Prop} : @okR _ (imAny e ls h) ⟨Q⟩ ⟨Y⟩ = @okR _ (e ls h) ⟨fun d h => @okR _ (imD d h) ⟨Q⟩ ⟨Y⟩⟩ ⟨Y⟩ := okR_any
theorem Lot.im {d : D} {l : List Nat} {h : LH} (E : Lot d l h) : ∃ L, imD d h = .ok L h ∧ ∀ i, L i h = itm (natsD l) i := by
  rcases E with (rfl | rfl) | ⟨q, rfl, hq⟩
  · exact ⟨_, rfl, fun i => rfl⟩
  · exact ⟨_, rfl, fun i => rfl⟩
  · exact ⟨liList q, by simp only [imD, hq], fun i => itm_list hq⟩
theorem Lot.tg {d : D} {l : List Nat} {h : LH} (E : Lot d l h) : ∃ b, tgOf d h = some b ∧ (b = .list ∨ b = .tuple) := by
  rcases E with (rfl | rfl) | ⟨q, rfl, hq⟩
  · exact ⟨.tuple, rfl, .inr rfl⟩
  · exact ⟨.tuple, rfl, .inr rfl⟩
  · exact ⟨.list, by simp only [tgOf, hq], .inl rfl⟩
theorem Lot.list {d : D} {l : List Nat} {h : LH} (E : Lot d l h) : dList d h = .ok (.ref h.length) (h ++ [.lst (natsD l)]) := by
  rcases E with (rfl | rfl) | ⟨q, rfl, hq⟩
  · rfl
  · rfl
  · simp only [dList, asRd, hq]
theorem in_nats (l : List Nat) (k : Nat) (h : LH) : inSq (.int k) (natsD l) h = some (decide (k ∈ l)) := by
  have fl : ((natsD l).all isFlat && isFlat (.int k)) = true := by
    unfold natsD
    simp [isFlat]
  have e : ((natsD l).any fun z => eqF z (.int k)) = decide (k ∈ l) := by
    unfold natsD
    rw [List.any_map]
    by_cases hk : k ∈ l
    · rw [decide_eq_true hk, List.any_eq_true]
      exact ⟨k, hk, by simp [eqF]⟩
    · rw [decide_eq_false hk, List.any_eq_false]
      intro x hx
      simp only [Function.comp, eqF]
      intro z
      have : (x : Int) = k := by simpa using z
      have : x = k := by omega
      exact hk (by rw [← this]; exact hx)
  simp only [inSq, fl, if_true, e]
theorem Lot.mem {d : D} {l : List Nat} {h : LH} (E : Lot d l h) (k : Nat) : dIn (.int k) d h = .ok (.bl (decide (k ∈ l))) h := by
  have e : inD (.int k) d h = some (decide (k ∈ l)) := by
    rcases E with (rfl | rfl) | ⟨q, rfl, hq⟩
    · exact in_nats l k h
    · exact in_nats l k h
    · simp only [inD, asRd, hq, in_nats]
  simp only [dIn, e]
structure Gls (h : LH) (lo g : Nat) (P : List Sp3) (ks : List ((Nat × Nat) × Nat)) : Prop where
  tab : h[g]? = some (.dic true (asD kE D.ref ks))
  nk : (ks.map (·.1)).Nodup
  na : (ks.map (·.2)).Nodup
  at_ : ∀ p ∈ ks, lo ≤ p.2 ∧ h[p.2]? = some (.lst (natsD (goalsOf P p.1)))
  has : ∀ k, k ∈ ks.map (·.1) ↔ goalsOf P k ≠ []
theorem Gls.fr {h h' : LH} {lo g : Nat} {P : List Sp3} {ks : List ((Nat × Nat) × Nat)} {S : List Nat} (G : Gls h lo g P ks) (f : Fr S h h') (hg : g ∉ S) (hs : ∀ x ∈ S, x < lo) : Gls h' lo g P ks := ⟨f.get _ _ G.tab hg, G.nk, G.na, fun p hp => ⟨(G.at_ p hp).1, f.get _ _ (G.at_ p hp).2 fun z => by have := hs _ z; have := (G.at_ p hp).1; omega⟩, G.has⟩
theorem Gls.get {h : LH} {lo g : Nat} {P : List Sp3} {ks : List ((Nat × Nat) × Nat)} (G : Gls h lo g P ks) (k : Nat × Nat) : (lkW ks k = none ∧ goalsOf P k = []) ∨ ∃ a, lkW ks k = some a ∧ lo ≤ a ∧ h[a]? = some (.lst (natsD (goalsOf P k))) := by
  cases e : lkW ks k with
  | none =>
    left
    refine ⟨rfl, ?_⟩
    have := lkW_none.mp e
    by_cases hg : goalsOf P k = []
    · exact hg
    · obtain ⟨p, hp, e2⟩ := List.mem_map.mp ((G.has k).mpr hg)
      exact absurd e2 (this p hp)
  | some a =>
    right
    have := lkW_mem e
    obtain ⟨h1, h2⟩ := G.at_ _ this
    exact ⟨a, rfl, h1, h2⟩
end Rf
namespace Rf
open PySem PySem.Spec L2
section
variable {κ ν : Type} [DecidableEq κ] {E : κ → D} {F : ν → D} {t : Bool} {h : LH} {n : Nat} {l : List (κ × ν)}
theorem setd_new (K : Keys E t) (e : h[n]? = some (.dic t (asD E F l))) (hl : l.length < 10000) {x : κ} (v : ν) (hv : lkW l x = none) : setdD (.ref n) (E x) (F v) h = .ok (F v) (h.set n (.dic t (asD E F (putW l x v)))) := by
  have e1 : dicW (.ref n) h = some (t, asD E F l) := by unfold dicW; simp only [e]
  have g := pA_get K x (l.map fun p => (p.1, F p.2))
  rw [← asD_pA, lk_map, hv] at g
  have hz : Nat.blt (asD E F l).length 16777216 = true := Nat.ble_eq_true_of_le (by unfold asD; rw [List.length_map]; omega)
  unfold setdD
  simp only [e1, K.ok x, hz, Bool.and_self, if_true, g, Option.map_none, putD_as K]
theorem setd_old (K : Keys E t) (e : h[n]? = some (.dic t (asD E F l))) (hl : l.length < 10000) {x : κ} {v : ν} (hv : lkW l x = some v) (d : D) : setdD (.ref n) (E x) d h = .ok (F v) h := by
  have e1 : dicW (.ref n) h = some (t, asD E F l) := by unfold dicW; simp only [e]
  have g := pA_get K x (l.map fun p => (p.1, F p.2))
  rw [← asD_pA, lk_map, hv] at g
  have hz : Nat.blt (asD E F l).length 16777216 = true := Nat.ble_eq_true_of_le (by unfold asD; rw [List.length_map]; omega)
  unfold setdD
  simp only [e1, K.ok x, hz, Bool.and_self, if_true, g, Option.map_some]
end
structure FrL (lo : Nat) (h h' : LH) : Prop where
  len : h.length ≤ h'.length
  get : ∀ (p : Nat) (o : LO), p < lo → h[p]? = some o → h'[p]? = some o
theorem FrL.refl {lo : Nat} {h : LH} : FrL lo h h := ⟨Nat.le_refl _, fun _ _ _ e => e⟩
theorem FrL.trans {lo : Nat} {h h1 h2 : LH} (a : FrL lo h h1) (b : FrL lo h1 h2) : FrL lo h h2 := ⟨Nat.le_trans a.len b.len, fun p o hp e => b.get p o hp (a.get p o hp e)⟩
theorem FrL.app {lo : Nat} {h more : LH} : FrL lo h (h ++ more) := ⟨by simp, fun p o _ e => by rw [List.getElem?_append_left (List.getElem?_eq_some_iff.mp e).1]; exact e⟩
theorem FrL.set {lo n : Nat} {h : LH} {o : LO} (hn : lo ≤ n) : FrL lo h (h.set n o) := ⟨by simp, fun p o' hp e => by rw [List.getElem?_set_ne (by omega)]; exact e⟩
theorem FrL.fr {lo : Nat} {h h' : LH} (a : FrL lo h h') (hl : h.length ≤ lo) (S : List Nat) : Fr S h h' := ⟨a.len, fun p o e _ => a.get p o (by have := (List.getElem?_eq_some_iff.mp e).1; omega) e⟩
theorem FrL.of {lo : Nat} {S : List Nat} {h h' : LH} (a : Fr S h h') (hs : ∀ x ∈ S, lo ≤ x) : FrL lo h h' := ⟨a.len, fun p o hp e => a.get p o e fun z => by have := hs _ z; omega⟩
theorem Gls.step {h : LH} {lo g : Nat} {P : List Sp3} {ks : List ((Nat × Nat) × Nat)} (G : Gls h lo g P ks) (hlo : lo ≤ h.length) (hk : ks.length < 1000) (hP : P.length < 1000) (s : Sp3) :
    ∃ (h2 : LH) (a a2 : Nat) (ks' : List ((Nat × Nat) × Nat)), setdD (.ref g) (kE (s.1, s.2.1)) (.ref h.length) (h ++ [.lst []]) = .ok (.ref a2) h2 ∧ dDGet (.ref g) (kE (s.1, s.2.1)) h2 = .ok (.ref a) h2 ∧ isLst (.ref a) h2 = true ∧ (g < lo → False) = (g < lo → False) ∧
      dAppend (.ref a) [.int (s.2.2 : Nat)] h2 = .ok .non (h2.set a (.lst (natsD (goalsOf (P ++ [s]) (s.1, s.2.1))))) ∧ Gls (h2.set a (.lst (natsD (goalsOf (P ++ [s]) (s.1, s.2.1))))) lo g (P ++ [s]) ks' ∧ ks'.length ≤ ks.length + 1 ∧ lo ≤ a ∧ a ≠ g ∧ (∀ p o, p ≠ g → h[p]? = some o → h2[p]? = some o) ∧ h.length ≤ h2.length ∧ (∀ p o, p ≠ g → p ≠ a → h[p]? = some o → (h2.set a (.lst (natsD (goalsOf (P ++ [s]) (s.1, s.2.1)))))[p]? = some o) := by
  have lg := at_lt' G.tab
  have gl : ∀ k, (goalsOf P k).length ≤ P.length := fun k => by
    unfold goalsOf
    rw [List.length_map]; exact List.length_filter_le _ _
  have ne_dic : ∀ {x : Nat} {ys : List D} {h' : LH} {kvs : List (D × D)}, h'[x]? = some (.lst ys) → h'[g]? = some (.dic true kvs) → x ≠ g := fun h1 h2 z => by rw [z, h2] at h1; cases h1
  rcases G.get (s.1, s.2.1) with ⟨e1, e2⟩ | ⟨a, e1, e2, e3⟩
  ·
    have hg1 : (h ++ [LO.lst []])[g]? = some (.dic true (asD kE D.ref ks)) := app_lt G.tab
    have hnk : (s.1, s.2.1) ∉ ks.map (·.1) := fun z => by
      obtain ⟨p, hp, e⟩ := List.mem_map.mp z
      exact lkW_none.mp e1 p hp e
    have hput : putW ks (s.1, s.2.1) h.length = ks ++ [((s.1, s.2.1), h.length)] := put_new (fun p hp => lkW_none.mp e1 p hp)
    generalize eh2 : (h ++ [LO.lst []]).set g (.dic true (asD kE D.ref (ks ++ [((s.1, s.2.1), h.length)]))) = h2
    have s1 : setdD (.ref g) (kE (s.1, s.2.1)) (.ref h.length) (h ++ [.lst []]) = .ok (.ref h.length) h2 := by rw [← eh2, ← hput]; exact setd_new (F := D.ref) keys_k hg1 (by omega) h.length e1
    have g2 : h2[g]? = some (.dic true (asD kE D.ref (ks ++ [((s.1, s.2.1), h.length)]))) := by rw [← eh2]; exact set_at hg1
    have a2 : h2[h.length]? = some (.lst []) := by rw [← eh2, List.getElem?_set_ne (by omega)]; exact app_at
    have lk2 : lkW (ks ++ [((s.1, s.2.1), h.length)]) (s.1, s.2.1) = some h.length := by
      rw [← hput, lkW_put, if_pos rfl]
    have up : ∀ p o, p ≠ g → h[p]? = some o → h2[p]? = some o := fun p o hp e => by rw [← eh2, List.getElem?_set_ne (fun z => hp z.symm)]; exact app_lt e
    have ap := append_at a2 (by decide) (.int (s.2.2 : Nat))
    have eg : goalsOf (P ++ [s]) (s.1, s.2.1) = [s.2.2] := by rw [goals_snoc, e2, if_pos rfl]; rfl
    rw [eg]
    have hn : ∀ p ∈ ks, p.2 < h.length := fun p hp => at_lt' (G.at_ p hp).2
    refine ⟨h2, h.length, h.length, ks ++ [((s.1, s.2.1), h.length)], s1, get_as keys_k g2 lk2, isLst_at a2, rfl, ap, ⟨?_, ?_, ?_, fun p hp => ?_, fun k => ?_⟩, by simp, hlo, ne_dic a2 g2, up, by rw [← eh2]; simp, fun p o hp hq e => by rw [List.getElem?_set_ne (fun z => hq z.symm)]; exact up p o hp e⟩
    · rw [List.getElem?_set_ne (ne_dic a2 g2)]; exact g2
    · rw [List.map_append, List.nodup_append]
      exact ⟨G.nk, by simp, fun x hx y hy e => by simp at hy; rw [e, hy] at hx; exact hnk hx⟩
    · rw [List.map_append, List.nodup_append]
      refine ⟨G.na, by simp, fun x hx y hy e => ?_⟩
      simp at hy
      obtain ⟨p, hp, rfl⟩ := List.mem_map.mp hx
      have := hn p hp
      omega
    · rcases List.mem_append.mp hp with z | z
      · have := hn p z
        have hgp : goalsOf (P ++ [s]) p.1 = goalsOf P p.1 := by
          rw [goals_snoc, if_neg (fun e => hnk (by rw [e]; exact List.mem_map.mpr ⟨p, z, rfl⟩)), List.append_nil]
        rw [hgp, List.getElem?_set_ne (by omega)]
        exact ⟨(G.at_ p z).1, up _ _ (ne_dic (G.at_ p z).2 G.tab) (G.at_ p z).2⟩
      · simp at z
        subst z
        rw [eg]
        exact ⟨hlo, set_at a2⟩
    · rw [List.map_append, List.mem_append, G.has, goals_snoc]
      by_cases hks : (s.1, s.2.1) = k
      · subst hks
        simp
      · rw [if_neg hks, List.append_nil]
        constructor
        · rintro (z | z)
          · exact z
          · simp at z; exact absurd z.symm hks
        · exact .inl
  · have hg1 : (h ++ [LO.lst []])[g]? = some (.dic true (asD kE D.ref ks)) := app_lt G.tab
    have s1 := setd_old (F := D.ref) keys_k hg1 (by omega) e1 (.ref h.length)
    have a2 : (h ++ [LO.lst []])[a]? = some (.lst (natsD (goalsOf P (s.1, s.2.1)))) := app_lt e3
    have eg : goalsOf (P ++ [s]) (s.1, s.2.1) = goalsOf P (s.1, s.2.1) ++ [s.2.2] := by rw [goals_snoc, if_pos rfl]
    have ap := append_at a2 (by rw [natsD_len]; have := gl (s.1, s.2.1); omega) (.int (s.2.2 : Nat))
    have en : natsD (goalsOf P (s.1, s.2.1)) ++ [.int (s.2.2 : Nat)] = natsD (goalsOf P (s.1, s.2.1) ++ [s.2.2]) := by unfold natsD; rw [List.map_append]; rfl
    rw [en] at ap
    have hmem := lkW_mem e1
    have la := at_lt' e3
    rw [eg]
    refine ⟨h ++ [.lst []], a, a, ks, s1, get_as keys_k hg1 e1, isLst_at a2, rfl, ap, ⟨?_, G.nk, G.na, fun p hp => ?_, fun k => ?_⟩, by omega, e2, ne_dic a2 hg1, fun p o _ e => app_lt e, by simp, fun p o hp hq e => by rw [List.getElem?_set_ne (fun z => hq z.symm)]; exact app_lt e⟩
    · rw [List.getElem?_set_ne (ne_dic a2 hg1)]; exact hg1
    · by_cases hpa : p.2 = a
      · have : p.1 = (s.1, s.2.1) := by
          have h1 := G.na
          have := nodup_fst (l := ks.map fun q => (q.2, q.1)) (by rw [List.map_map]; exact h1) (List.mem_map.mpr ⟨p, hp, rfl⟩) (List.mem_map.mpr ⟨_, hmem, rfl⟩) hpa
          exact congrArg Prod.snd this
        rw [hpa, this, eg]
        exact ⟨e2, set_at a2⟩
      · have hks : ¬ (s.1, s.2.1) = p.1 := fun z => by
          have := nodup_fst G.nk hp hmem z.symm
          exact hpa (congrArg Prod.snd this)
        rw [goals_snoc, if_neg hks, List.append_nil, List.getElem?_set_ne (fun z => hpa z.symm)]
        exact ⟨(G.at_ p hp).1, app_lt (G.at_ p hp).2⟩
    · rw [G.has, goals_snoc]
      by_cases hks : (s.1, s.2.1) = k
      · subst hks
        have := (G.has (s.1, s.2.1)).mp (List.mem_map.mpr ⟨_, hmem, rfl⟩)
        simp [this]
      · rw [if_neg hks, List.append_nil]
end Rf
set_option Elab.async false
set_option linter.all false
set_option maxRecDepth 100000
set_option maxHeartbeats 400000
set_option autoImplicit false
namespace Rf
def aft (P : List Sp3) (c : Nat) (rs : List Nat) : List Nat := SR.sdN (rs.flatMap fun r => goalsOf P (r, c))
end Rf
set_option Elab.async false
set_option linter.all false
set_option maxRecDepth 100000
set_option maxHeartbeats 400000
set_option autoImplicit false
namespace Rf
abbrev Way := Option (Nat × List Nat)
def wayD : Way → D
  | none => .non
  | some p => .tup [.int p.1, .str p.2]
def trowD (r : List Way) : D := .tup (r.map wayD)
abbrev lasD (ls : List (Nat × List Nat)) : List (D × D) := asD (fun k : Nat => D.int (k : Nat)) D.str ls
def wayAt (ixf : Nat → Nat) (rows : List (List Way)) (r c : Nat) : Way := (rows.getD r []).getD (ixf c) none
def goT (ixf : Nat → Nat) (rows : List (List Way)) : Option (Nat × List Nat) → List Nat → Option (Nat × List Nat)
  | x, [] => x
  | none, _ :: _ => none
  | some (r, o), c :: w => goT ixf rows ((wayAt ixf rows r c).map fun p => (p.1, o ++ p.2)) w
def writeN (ixf : Nat → Nat) (rows : List (List Way)) (f : Nat) (ls : List (Nat × List Nat)) (w : List Nat) : Option (List Nat) := (goT ixf rows (some (f, [])) w).bind fun p => (lkW ls p.1).map (p.2 ++ ·)
theorem goT_none (ixf : Nat → Nat) (rows : List (List Way)) (w : List Nat) : goT ixf rows none w = none := by cases w <;> rfl
structure GoodTB (B : Nat) (al outs : List Nat) (rows : List (List Way)) (f : Nat) (ls : List (Nat × List Nat)) : Prop where
  n1 : 1 ≤ rows.length
  n2 : rows.length ≤ 300
  row : ∀ r ∈ rows, r.length = al.length ∧ ∀ w ∈ r, ∀ p, w = some p → p.1 < rows.length ∧ (∀ c ∈ p.2, c ∈ outs) ∧ p.2.length ≤ B
  first : f < rows.length
  nd : (ls.map (·.1)).Nodup
  last : ∀ p ∈ ls, p.1 < rows.length ∧ (∀ c ∈ p.2, c ∈ outs) ∧ p.2.length ≤ B
theorem GoodTB.mono {B C : Nat} (hBC : B ≤ C) {al outs : List Nat} {rows : List (List Way)} {f : Nat} {ls : List (Nat × List Nat)} (G : GoodTB B al outs rows f ls) : GoodTB C al outs rows f ls :=
  ⟨G.n1, G.n2, fun r hr => ⟨(G.row r hr).1, fun w hw p hp => let ⟨a, b, c⟩ := (G.row r hr).2 w hw p hp; ⟨a, b, Nat.le_trans c hBC⟩⟩, G.first, G.nd, fun p hp => let ⟨a, b, c⟩ := G.last p hp; ⟨a, b, Nat.le_trans c hBC⟩⟩
structure Tur (h : LH) (m r l : Nat) (al outs : List Nat) (rows : List (List Way)) (f : Nat) (ls : List (Nat × List Nat)) : Prop where
  obj : h[m]? = some (.ins 15 [(23, .str al), (30, .str outs), (24, .ref r), (25, .int f), (31, .ref l)])
  rws : h[r]? = some (.lst (rows.map trowD))
  lst : h[l]? = some (.dic false (lasD ls))
section
variable {al outs : List Nat} {rows : List (List Way)} {f : Nat} {ls : List (Nat × List Nat)} {h h' : LH} {m r l B : Nat}
theorem Tur.fr {S : List Nat} (M : Tur h m r l al outs rows f ls) (e : Fr S h h') (h1 : m ∉ S) (h2 : r ∉ S) (h3 : l ∉ S) : Tur h' m r l al outs rows f ls := ⟨e.get _ _ M.obj h1, e.get _ _ M.rws h2, e.get _ _ M.lst h3⟩
theorem Tur.ins (M : Tur h m r l al outs rows f ls) : insOf 15 m h = true := by unfold insOf; rw [M.obj]; rfl
end
end Rf
set_option Elab.async false
set_option linter.all false
set_option maxRecDepth 100000
set_option maxHeartbeats 400000
set_option autoImplicit false
namespace Rf
def cmn : List Nat → List Nat → List Nat
  | a :: r, b :: s => if a = b then a :: cmn r s else []
  | _, _ => []
theorem cmn_great : ∀ {q a b : List Nat}, q <+: a → q <+: b → q <+: cmn a b
  | [], a, b, _, _ => List.nil_prefix
  | x :: q, [], b, h, _ => by simp at h
  | x :: q, a :: r, [], _, h => by simp at h
  | x :: q, a :: r, b :: s, h1, h2 => by
    obtain ⟨rfl, k1⟩ := List.cons_prefix_cons.mp h1
    obtain ⟨rfl, k2⟩ := List.cons_prefix_cons.mp h2
    unfold cmn
    rw [if_pos rfl]
    exact List.cons_prefix_cons.mpr ⟨rfl, cmn_great k1 k2⟩
theorem cmn_between : ∀ {a w b : List Nat}, ¬ w < a → ¬ b < w → cmn a b <+: w
  | [], w, b, _, _ => by cases b <;> exact List.nil_prefix
  | a :: r, w, [], _, _ => List.nil_prefix
  | a :: r, [], b :: s, h, _ => absurd (List.nil_lt_cons a r) h
  | a :: r, c :: w, b :: s, h1, h2 => by
    unfold cmn
    split
    · rename_i e
      subst e
      have k1 : ¬ c < a := fun k => h1 (List.cons_lt_cons_iff.mpr (.inl k))
      have k2 : ¬ a < c := fun k => h2 (List.cons_lt_cons_iff.mpr (.inl k))
      have ec : c = a := by omega
      subst ec
      exact List.cons_prefix_cons.mpr ⟨rfl, cmn_between (fun k => h1 (List.cons_lt_cons_iff.mpr (.inr ⟨rfl, k⟩))) (fun k => h2 (List.cons_lt_cons_iff.mpr (.inr ⟨rfl, k⟩)))⟩
    · exact List.nil_prefix
theorem minS_mem (x : List Nat) : ∀ ts : List (List Nat), minS x ts ∈ x :: ts := fun ts => by
  unfold minS
  induction ts generalizing x with
  | nil => simp
  | cons y r ih =>
    rw [List.foldl_cons]
    by_cases h : y < x
    · rw [if_pos h]; exact List.mem_cons_of_mem _ (ih y)
    · rw [if_neg h]
      rcases List.mem_cons.mp (ih x) with k | k
      · rw [k]; simp
      · exact List.mem_cons_of_mem _ (List.mem_cons_of_mem _ k)
theorem maxS_mem (x : List Nat) : ∀ ts : List (List Nat), maxS x ts ∈ x :: ts := fun ts => by
  unfold maxS
  induction ts generalizing x with
  | nil => simp
  | cons y r ih =>
    rw [List.foldl_cons]
    by_cases h : x < y
    · rw [if_pos h]; exact List.mem_cons_of_mem _ (ih y)
    · rw [if_neg h]
      rcases List.mem_cons.mp (ih x) with k | k
      · rw [k]; simp
      · exact List.mem_cons_of_mem _ (List.mem_cons_of_mem _ k)
theorem minS_le (x : List Nat) : ∀ (ts : List (List Nat)), ∀ w ∈ x :: ts, ¬ w < minS x ts := fun ts => by
  unfold minS
  induction ts generalizing x with
  | nil => intro w hw; rw [List.mem_singleton.mp hw]; exact List.lt_irrefl _
  | cons y r ih =>
    intro w hw
    rw [List.foldl_cons]
    by_cases h : y < x
    · rw [if_pos h]
      rcases List.mem_cons.mp hw with rfl | k
      · exact fun q => ih y y (by simp) (List.lt_trans h q)
      · exact ih y w k
    · rw [if_neg h]
      rcases List.mem_cons.mp hw with rfl | k
      · exact ih w w (by simp)
      · rcases List.mem_cons.mp k with rfl | k
        · intro q
          have h3 := ih x x (by simp)
          exact h3 (by
            rcases Classical.em (x = w) with rfl | ne
            · exact q
            · rcases Classical.em (x < w) with g | g
              · exact List.lt_trans g q
              · exact absurd (List.le_antisymm (List.not_lt.mp h) (List.not_lt.mp g)) ne)
        · exact ih x w (List.mem_cons_of_mem _ k)
theorem maxS_ge (x : List Nat) : ∀ (ts : List (List Nat)), ∀ w ∈ x :: ts, ¬ maxS x ts < w := fun ts => by
  unfold maxS
  induction ts generalizing x with
  | nil => intro w hw; rw [List.mem_singleton.mp hw]; exact List.lt_irrefl _
  | cons y r ih =>
    intro w hw
    rw [List.foldl_cons]
    by_cases h : x < y
    · rw [if_pos h]
      rcases List.mem_cons.mp hw with rfl | k
      · exact fun q => ih y y (by simp) (List.lt_trans q h)
      · exact ih y w k
    · rw [if_neg h]
      rcases List.mem_cons.mp hw with rfl | k
      · exact ih w w (by simp)
      · rcases List.mem_cons.mp k with rfl | k
        · intro q
          have h3 := ih x x (by simp)
          exact h3 (by
            rcases Classical.em (x = w) with rfl | ne
            · exact q
            · rcases Classical.em (w < x) with g | g
              · exact List.lt_trans q g
              · exact absurd (List.le_antisymm (List.not_lt.mp g) (List.not_lt.mp h)) ne)
        · exact ih x w (List.mem_cons_of_mem _ k)
def cmnL (x : List Nat) (ts : List (List Nat)) : List Nat := cmn (minS x ts) (maxS x ts)
theorem cmnL_pre (x : List Nat) (ts : List (List Nat)) : ∀ w ∈ x :: ts, cmnL x ts <+: w := fun w hw => cmn_between (minS_le x ts w hw) (maxS_ge x ts w hw)
theorem cmnL_great (x : List Nat) (ts : List (List Nat)) {q : List Nat} (h : ∀ w ∈ x :: ts, q <+: w) : q <+: cmnL x ts := cmn_great (h _ (minS_mem x ts)) (h _ (maxS_mem x ts))
def IsCmn (S : List Nat → Prop) (p : List Nat) : Prop := (∃ w, S w) ∧ (∀ w, S w → p <+: w) ∧ ∀ q, (∀ w, S w → q <+: w) → q <+: p
end Rf
set_option Elab.async false
set_option linter.all false
set_option maxRecDepth 100000
set_option maxHeartbeats 400000
set_option autoImplicit false
namespace Rf
abbrev WayF := Nat → Nat → Option (Nat × List Nat)
abbrev EndF := Nat → Option (List Nat)
def outA (wy : WayF) (en : EndF) : Nat → List Nat → Option (List Nat)
  | q, [] => en q
  | q, c :: w => match wy q c with
    | none => none
    | some p => (outA wy en p.1 w).map (p.2 ++ ·)
def Img (al : List Nat) (wy : WayF) (en : EndF) (q : Nat) (v : List Nat) : Prop := ∃ w, (∀ c ∈ w, c ∈ al) ∧ outA wy en q w = some v
def wordsA (al : List Nat) (wy : WayF) (en : EndF) (fd : EndF) (q : Nat) : List (List Nat) :=
  (en q).toList ++ al.filterMap fun c => (wy q c).bind fun p => (fd p.1).map (p.2 ++ ·)
section
variable {al : List Nat} {wy : WayF} {en fd : EndF}
theorem mem_wordsA {q : Nat} {x : List Nat} : x ∈ wordsA al wy en fd q ↔ en q = some x ∨ ∃ c ∈ al, ∃ p, wy q c = some p ∧ ∃ v, fd p.1 = some v ∧ x = p.2 ++ v := by
  unfold wordsA
  rw [List.mem_append, Option.mem_toList, List.mem_filterMap]
  refine or_congr Iff.rfl ⟨?_, ?_⟩
  · rintro ⟨c, hc, h⟩
    obtain ⟨p, h1, h2⟩ := Option.bind_eq_some_iff.mp h
    obtain ⟨v, h3, h4⟩ := Option.map_eq_some_iff.mp h2
    exact ⟨c, hc, p, h1, v, h3, h4.symm⟩
  · rintro ⟨c, hc, p, h1, v, h3, rfl⟩
    exact ⟨c, hc, by rw [h1, Option.bind_some, h3]; rfl⟩
theorem img_end {q : Nat} {v : List Nat} (h : en q = some v) : Img al wy en q v := ⟨[], by simp, h⟩
theorem img_way {q c : Nat} {p : Nat × List Nat} {v : List Nat} (hc : c ∈ al) (h : wy q c = some p) (hv : Img al wy en p.1 v) : Img al wy en q (p.2 ++ v) := by
  obtain ⟨w, h1, h2⟩ := hv
  refine ⟨c :: w, fun x hx => ?_, ?_⟩
  · rcases List.mem_cons.mp hx with rfl | k
    · exact hc
    · exact h1 x k
  · show (match wy q c with | none => none | some p => (outA wy en p.1 w).map (p.2 ++ ·)) = _
    rw [h]
    show (outA wy en p.1 w).map (p.2 ++ ·) = _
    rw [h2]; rfl
def Above (al : List Nat) (wy : WayF) (en fd : EndF) : Prop := ∀ q p, fd q = some p → (∃ v, Img al wy en q v) ∧ ∀ r, (∀ v, Img al wy en q v → r <+: v) → r <+: p
theorem pre_app {r o v : List Nat} (h : r <+: o ++ v) : r <+: o ∨ ∃ r', r = o ++ r' ∧ r' <+: v := by
  rcases Nat.le_total r.length o.length with l | l
  · exact .inl (List.prefix_of_prefix_length_le h (List.prefix_append o v) l)
  · obtain ⟨t, rfl⟩ := List.prefix_of_prefix_length_le (List.prefix_append o v) h l
    exact .inr ⟨t, rfl, (List.prefix_append_right_inj o).mp h⟩
theorem above_words (ab : Above al wy en fd) {q : Nat} {x : List Nat} (hx : x ∈ wordsA al wy en fd q) : (∃ v, Img al wy en q v) ∧ ∀ r, (∀ v, Img al wy en q v → r <+: v) → r <+: x := by
  rcases mem_wordsA.mp hx with h | ⟨c, hc, p, h1, v, h2, rfl⟩
  · exact ⟨⟨x, img_end h⟩, fun r hr => hr x (img_end h)⟩
  · obtain ⟨⟨v0, i0⟩, k⟩ := ab p.1 v h2
    refine ⟨⟨_, img_way hc h1 i0⟩, fun r hr => ?_⟩
    rcases pre_app (hr _ (img_way hc h1 i0)) with g | ⟨r', rfl, _⟩
    · exact g.trans (List.prefix_append _ _)
    · exact (List.prefix_append_right_inj p.2).mpr (k r' fun w hw => (List.prefix_append_right_inj p.2).mp (hr _ (img_way hc h1 hw)))
theorem above_set (ab : Above al wy en fd) {q : Nat} {x : List Nat} {ts : List (List Nat)} (e : wordsA al wy en fd q = x :: ts) : Above al wy en (fun k => if k = q then some (cmnL x ts) else fd k) := by
  intro k p hp
  dsimp only at hp
  by_cases hk : k = q
  · rw [if_pos hk] at hp
    cases hp
    subst hk
    refine ⟨(above_words ab (x := x) (by rw [e]; simp)).1, fun r hr => cmnL_great x ts fun w hw => ?_⟩
    exact (above_words ab (x := w) (by rw [e]; exact hw)).2 r hr
  · rw [if_neg hk] at hp
    exact ab k p hp
def Stands (al : List Nat) (wy : WayF) (en fd : EndF) (S : Nat → Prop) : Prop := ∀ q, S q → ∀ x ts, wordsA al wy en fd q = x :: ts → fd q = some (cmnL x ts)
theorem stands_pre {S : Nat → Prop} (st : Stands al wy en fd S) (cl : ∀ q, S q → ∀ c ∈ al, ∀ p, wy q c = some p → (∃ v, Img al wy en p.1 v) → S p.1) : ∀ (w : List Nat) (q : Nat) (v : List Nat), S q → (∀ c ∈ w, c ∈ al) → outA wy en q w = some v → ∃ p, fd q = some p ∧ p <+: v
  | [], q, v, hq, _, h => by
    have m : v ∈ wordsA al wy en fd q := mem_wordsA.mpr (.inl h)
    cases e : wordsA al wy en fd q with
    | nil => rw [e] at m; exact absurd m (by simp)
    | cons x ts => rw [e] at m; exact ⟨_, st q hq x ts e, cmnL_pre x ts v m⟩
  | c :: w, q, v, hq, hw, h => by
    have h : (match wy q c with | none => none | some p => (outA wy en p.1 w).map (p.2 ++ ·)) = some v := h
    cases ew : wy q c with
    | none => rw [ew] at h; exact absurd h (by simp)
    | some p =>
      rw [ew] at h
      obtain ⟨u, hu, rfl⟩ := Option.map_eq_some_iff.mp h
      have hc : c ∈ al := hw c (by simp)
      have hw' : ∀ c ∈ w, c ∈ al := fun x hx => hw x (List.mem_cons_of_mem _ hx)
      obtain ⟨f, hf, pf⟩ := stands_pre st cl w p.1 u (cl q hq c hc p ew ⟨u, w, hw', hu⟩) hw' hu
      have m : p.2 ++ f ∈ wordsA al wy en fd q := mem_wordsA.mpr (.inr ⟨c, hc, p, ew, f, hf, rfl⟩)
      cases e : wordsA al wy en fd q with
      | nil => rw [e] at m; exact absurd m (by simp)
      | cons x ts =>
        rw [e] at m
        exact ⟨_, st q hq x ts e, (cmnL_pre x ts _ m).trans ((List.prefix_append_right_inj p.2).mpr pf)⟩
theorem stands_is {S : Nat → Prop} (ab : Above al wy en fd) (st : Stands al wy en fd S) (cl : ∀ q, S q → ∀ c ∈ al, ∀ p, wy q c = some p → (∃ v, Img al wy en p.1 v) → S p.1) {q : Nat} (hq : S q) (lv : ∃ v, Img al wy en q v) : ∃ p, fd q = some p ∧ IsCmn (Img al wy en q) p := by
  obtain ⟨v, w, hw, h⟩ := lv
  obtain ⟨p, hp, _⟩ := stands_pre st cl w q v hq hw h
  refine ⟨p, hp, ⟨v, w, hw, h⟩, fun u ⟨w', hw', h'⟩ => ?_, (ab q p hp).2⟩
  obtain ⟨p', hp', k⟩ := stands_pre st cl w' q u hq hw' h'
  rw [hp] at hp'
  cases hp'
  exact k
end
end Rf
set_option Elab.async false
set_option linter.all false
set_option maxRecDepth 100000
set_option maxHeartbeats 400000
set_option autoImplicit false
namespace Rf
def SureT (al : List Nat) (wy : WayF) (en fd : EndF) (S : Nat → Prop) : Prop :=
  (∀ q p, fd q = some p → S q ∧ IsCmn (Img al wy en q) p) ∧ (∀ q, S q → ∀ c ∈ al, ∀ p, wy q c = some p → (∃ v, Img al wy en p.1 v) → ∃ s, fd p.1 = some s)
section
variable {al : List Nat} {wy : WayF} {en fd : EndF} {S : Nat → Prop}
theorem pre_drop {p v : List Nat} (h : p <+: v) : p ++ v.drop p.length = v := by
  obtain ⟨t, rfl⟩ := h
  rw [List.drop_left]
end
def SameOut (al : List Nat) (wy wy' : WayF) (en en' : EndF) (q q' : Nat) : Prop := ∀ w, (∀ c ∈ w, c ∈ al) → outA wy en q w = outA wy' en' q' w
theorem IsCmn.congr {A B : List Nat → Prop} {p : List Nat} (h : ∀ v, A v ↔ B v) (a : IsCmn A p) : IsCmn B p :=
  ⟨a.1.imp fun v k => (h v).mp k, fun w k => a.2.1 w ((h w).mpr k), fun q k => a.2.2 q fun w m => k w ((h w).mp m)⟩
theorem same_step {al : List Nat} {wy wy' : WayF} {en en' : EndF} {q q' c : Nat} {x : Nat × List Nat} (s : SameOut al wy wy' en en' q q') (hc : c ∈ al) (hx : wy q c = some x) (nx : IsCmn (Img al wy en x.1) [])
    (nl : ∀ y, wy' q' c = some y → IsCmn (Img al wy' en' y.1) []) : ∃ y, wy' q' c = some y ∧ y.2 = x.2 ∧ SameOut al wy wy' en en' x.1 y.1 := by
  have st : ∀ w, (∀ c ∈ w, c ∈ al) → (outA wy en x.1 w).map (x.2 ++ ·) = (match wy' q' c with | none => none | some y => (outA wy' en' y.1 w).map (y.2 ++ ·)) := fun w hw => by
    have k := s (c :: w) (by intro z hz; rcases List.mem_cons.mp hz with rfl | m; exact hc; exact hw z m)
    have k : (match wy q c with | none => none | some x => (outA wy en x.1 w).map (x.2 ++ ·)) = (match wy' q' c with | none => none | some y => (outA wy' en' y.1 w).map (y.2 ++ ·)) := k
    rw [hx] at k
    exact k
  obtain ⟨v, w, hw, hv⟩ := nx.1
  cases ey : wy' q' c with
  | none =>
    have k := st w hw
    rw [ey, hv] at k
    exact absurd k (by simp)
  | some y =>
    simp only [ey] at st
    have ny := nl y ey
    have key : ∀ {A B : List Nat → Prop} {a b : List Nat}, IsCmn A [] → (∃ u, B u) → (∀ u, B u → ∃ t, A t ∧ b ++ u = a ++ t) → (∀ t, A t → ∃ u, B u ∧ b ++ u = a ++ t) → b <+: a := by
      intro A B a b ha hb h1 h2
      have hp : ∀ t, A t → b <+: a ++ t := fun t ht => by
        obtain ⟨u, _, e⟩ := h2 t ht
        exact ⟨u, e⟩
      obtain ⟨t0, i0⟩ := ha.1
      rcases pre_app (hp t0 i0) with g | ⟨r, rfl, _⟩
      · exact g
      · have := ha.2.2 r fun t ht => (List.prefix_append_right_inj a).mp (hp t ht)
        rw [List.prefix_nil.mp this, List.append_nil]
        exact List.prefix_rfl
    have f1 : ∀ t, Img al wy en x.1 t → ∃ u, Img al wy' en' y.1 u ∧ y.2 ++ u = x.2 ++ t := by
      rintro t ⟨w, hw, h⟩
      have k := st w hw
      rw [h] at k
      obtain ⟨u, hu, e⟩ := Option.map_eq_some_iff.mp k.symm
      exact ⟨u, ⟨w, hw, hu⟩, e⟩
    have f2 : ∀ u, Img al wy' en' y.1 u → ∃ t, Img al wy en x.1 t ∧ x.2 ++ t = y.2 ++ u := by
      rintro u ⟨w, hw, h⟩
      have k := st w hw
      rw [h] at k
      obtain ⟨t, ht, e⟩ := Option.map_eq_some_iff.mp k
      exact ⟨t, ⟨w, hw, ht⟩, e⟩
    have p1 : y.2 <+: x.2 := key nx ny.1 (fun u hu => (f2 u hu).imp fun t h => ⟨h.1, h.2.symm⟩) f1
    have p2 : x.2 <+: y.2 := key ny nx.1 (fun t ht => (f1 t ht).imp fun u h => ⟨h.1, h.2.symm⟩) f2
    have e : y.2 = x.2 := p1.eq_of_length (Nat.le_antisymm p1.length_le p2.length_le)
    refine ⟨y, rfl, e, fun w hw => ?_⟩
    have k := st w hw
    rw [e] at k
    cases e1 : outA wy en x.1 w with
    | none =>
      cases e2 : outA wy' en' y.1 w with
      | none => rfl
      | some u => rw [e1, e2] at k; exact absurd k (by simp)
    | some t =>
      cases e2 : outA wy' en' y.1 w with
      | none => rw [e1, e2] at k; exact absurd k (by simp)
      | some u =>
        rw [e1, e2] at k
        have : x.2 ++ t = x.2 ++ u := Option.some.inj k
        rw [List.append_cancel_left this]
end Rf
set_option Elab.async false
set_option linter.all false
set_option maxRecDepth 100000
set_option maxHeartbeats 400000
set_option autoImplicit false
namespace Rf
def rowT {γ : Type} (al : List Nat) (wy : WayF) (en : EndF) (mk : Nat → γ) (q : Nat) : Option (List Nat) × List (Option (List Nat × γ)) := (en q, al.map fun c => (wy q c).map fun p => (p.2, mk p.1))
section
variable {γ : Type} {al : List Nat} {wy : WayF} {en : EndF} {o : List Nat} {mk : Nat → γ}
theorem rowT_way {q q' c : Nat} (hc : c ∈ al) (e : rowT al wy en mk q = rowT al wy en mk q') : (wy q c).map (fun p => (p.2, mk p.1)) = (wy q' c).map (fun p => (p.2, mk p.1)) :=
  List.map_inj_left.mp (Prod.mk.inj e).2 c hc
theorem stable_out (cl : ∀ q ∈ o, ∀ c ∈ al, ∀ p, wy q c = some p → p.1 ∈ o) (st : ∀ r ∈ o, ∀ r' ∈ o, mk r = mk r' → rowT al wy en mk r = rowT al wy en mk r') :
    ∀ (w : List Nat), (∀ c ∈ w, c ∈ al) → ∀ r ∈ o, ∀ r' ∈ o, mk r = mk r' → outA wy en r w = outA wy en r' w
  | [], _, r, hr, r', hr', e => (Prod.mk.inj (st r hr r' hr' e)).1
  | c :: w, hw, r, hr, r', hr', e => by
    have hc : c ∈ al := hw c (by simp)
    have k := rowT_way hc (st r hr r' hr' e)
    show (match wy r c with | none => none | some x => (outA wy en x.1 w).map (x.2 ++ ·)) = (match wy r' c with | none => none | some x => (outA wy en x.1 w).map (x.2 ++ ·))
    cases e1 : wy r c with
    | none =>
      cases e2 : wy r' c with
      | none => rfl
      | some y => rw [e1, e2] at k; exact absurd k (by simp)
    | some x =>
      cases e2 : wy r' c with
      | none => rw [e1, e2] at k; exact absurd k (by simp)
      | some y =>
        rw [e1, e2] at k
        have k : (x.2, mk x.1) = (y.2, mk y.1) := Option.some.inj k
        obtain ⟨k1, k2⟩ := Prod.mk.inj k
        show (outA wy en x.1 w).map (x.2 ++ ·) = (outA wy en y.1 w).map (y.2 ++ ·)
        rw [k1, stable_out cl st w (fun z hz => hw z (List.mem_cons_of_mem _ hz)) x.1 (cl r hr c hc x e1) y.1 (cl r' hr' c hc y e2) k2]
theorem out_row (cl : ∀ q ∈ o, ∀ c ∈ al, ∀ p, wy q c = some p → p.1 ∈ o) (cm : ∀ q ∈ o, IsCmn (Img al wy en q) []) (hm : ∀ r ∈ o, ∀ r' ∈ o, SameOut al wy wy en en r r' → mk r = mk r')
    {r r' : Nat} (hr : r ∈ o) (hr' : r' ∈ o) (s : SameOut al wy wy en en r r') : rowT al wy en mk r = rowT al wy en mk r' := by
  refine Prod.ext (s [] (by simp)) (List.map_inj_left.mpr fun c hc => ?_)
  cases e1 : wy r c with
  | none =>
    cases e2 : wy r' c with
    | none => rfl
    | some y =>
      obtain ⟨x, hx, _⟩ := same_step (fun w hw => (s w hw).symm) hc e2 (cm y.1 (cl r' hr' c hc y e2)) (fun x hx => cm x.1 (cl r hr c hc x hx))
      rw [e1] at hx; exact absurd hx (by simp)
  | some x =>
    obtain ⟨y, hy, e, t⟩ := same_step s hc e1 (cm x.1 (cl r hr c hc x e1)) (fun y hy => cm y.1 (cl r' hr' c hc y hy))
    rw [hy]
    show some (x.2, mk x.1) = some (y.2, mk y.1)
    rw [e, hm x.1 (cl r hr c hc x e1) y.1 (cl r' hr' c hc y hy) t]
theorem marks_iff (cl : ∀ q ∈ o, ∀ c ∈ al, ∀ p, wy q c = some p → p.1 ∈ o) (st : ∀ r ∈ o, ∀ r' ∈ o, mk r = mk r' → rowT al wy en mk r = rowT al wy en mk r') (hm : ∀ r ∈ o, ∀ r' ∈ o, SameOut al wy wy en en r r' → mk r = mk r')
    {r r' : Nat} (hr : r ∈ o) (hr' : r' ∈ o) : mk r = mk r' ↔ SameOut al wy wy en en r r' :=
  ⟨fun e w hw => stable_out cl st w hw r hr r' hr' e, hm r hr r' hr'⟩
end
end Rf
set_option Elab.async false
set_option linter.all false
set_option maxRecDepth 100000
set_option maxHeartbeats 400000
set_option autoImplicit false
namespace Rf
abbrev Bh := List Nat → Option (List Nat)
def nb (al : List Nat) (wy : WayF) (en : EndF) (q : Nat) : Bh := fun w => if ∀ c ∈ w, c ∈ al then outA wy en q w else none
def IsStep (al : List Nat) (b : Bh) (c : Nat) (x : List Nat × Bh) : Prop :=
  IsCmn (fun v => ∃ w, x.2 w = some v) [] ∧ (∀ w, (∀ z ∈ w, z ∈ al) → b (c :: w) = (x.2 w).map (x.1 ++ ·)) ∧ ∀ w, ¬ (∀ z ∈ w, z ∈ al) → x.2 w = none
open Classical in
noncomputable def dN (al : List Nat) (b : Bh) (c : Nat) : Option (List Nat × Bh) := if h : ∃ x, IsStep al b c x then some h.choose else none
section
variable {al : List Nat} {wy : WayF} {en : EndF} {o : List Nat}
theorem fm_congr {α β : Type} {f g : α → Option β} : ∀ {l : List α}, (∀ x ∈ l, f x = g x) → l.filterMap f = l.filterMap g
  | [], _ => rfl
  | x :: r, h => by rw [List.filterMap_cons, List.filterMap_cons, h x (by simp), fm_congr fun y hy => h y (List.mem_cons_of_mem _ hy)]
noncomputable def sucB (al : List Nat) (b : Bh) : List Bh := al.filterMap fun c => (dN al b c).map (·.2)
end
end Rf
set_option Elab.async false
set_option linter.all false
set_option maxRecDepth 100000
set_option maxHeartbeats 400000
set_option autoImplicit false
namespace Rf
structure LayT (al : List Nat) (ob : List Bh) (rows : List (List Way)) (ls : List (Nat × List Nat)) : Prop where
  len : rows.length = ob.length
  wid : ∀ r ∈ rows, r.length = al.length
  row : ∀ (i : Nat) (r : List Way) (b : Bh), rows[i]? = some r → ob[i]? = some b → ∀ (k c : Nat), al[k]? = some c →
    (dN al b c = none → r[k]? = some none) ∧ ∀ x, dN al b c = some x → ∃ j : Nat, ob[j]? = some x.2 ∧ r[k]? = some (some (j, x.1))
  ends : ls = (List.range ob.length).filterMap fun i => (ob[i]?).bind fun b => (b []).map fun v => (i, v)
end Rf
set_option Elab.async false
set_option linter.all false
set_option maxRecDepth 100000
set_option maxHeartbeats 400000
set_option autoImplicit false
namespace Rf
section
variable {al : List Nat} {wy : WayF} {en : EndF} {o : List Nat}
end
end Rf
set_option Elab.async false
set_option linter.all false
set_option maxRecDepth 100000
set_option maxHeartbeats 400000
set_option autoImplicit false
namespace Rf
end Rf
set_option Elab.async false
set_option linter.all false
set_option maxRecDepth 100000
set_option maxHeartbeats 400000
set_option autoImplicit false
namespace Rf
end Rf
set_option Elab.async false
set_option linter.all false
set_option maxRecDepth 100000
set_option maxHeartbeats 400000
set_option autoImplicit false
namespace Rf
def LessT (fd' fd : EndF) : Prop := ∀ q p, fd q = some p → ∃ p', fd' q = some p' ∧ p' <+: p
section
variable {al : List Nat} {wy : WayF} {en fd fd' : EndF}
theorem words_less (h : LessT fd' fd) {q : Nat} {x : List Nat} (hx : x ∈ wordsA al wy en fd q) : ∃ x' ∈ wordsA al wy en fd' q, x' <+: x := by
  rcases mem_wordsA.mp hx with e | ⟨c, hc, p, hp, v, hv, rfl⟩
  · exact ⟨x, mem_wordsA.mpr (.inl e), List.prefix_rfl⟩
  · obtain ⟨v', hv', pf⟩ := h _ _ hv
    exact ⟨p.2 ++ v', mem_wordsA.mpr (.inr ⟨c, hc, p, hp, v', hv', rfl⟩), (List.prefix_append_right_inj _).mpr pf⟩
theorem cmn_less {x y : List Nat} {ts us : List (List Nat)} (h : ∀ w ∈ x :: ts, ∃ w' ∈ y :: us, w' <+: w) : cmnL y us <+: cmnL x ts :=
  cmnL_great x ts fun w hw => let ⟨w', h1, h2⟩ := h w hw; (cmnL_pre y us w' h1).trans h2
def setE (fd : EndF) (r : Nat) (p : List Nat) : EndF := fun k => if k = r then some p else fd k
theorem setE_at (fd : EndF) (r : Nat) (p : List Nat) : setE fd r p r = some p := by unfold setE; rw [if_pos rfl]
theorem setE_ne {fd : EndF} {r q : Nat} {p : List Nat} (h : q ≠ r) : setE fd r p q = fd q := by unfold setE; rw [if_neg h]
def DnT (al : List Nat) (wy : WayF) (en fd : EndF) : Prop := ∀ q p, fd q = some p → ∃ x ts, wordsA al wy en fd q = x :: ts ∧ cmnL x ts <+: p
theorem less_words (h : LessT fd' fd) {q : Nat} {x : List Nat} {ts : List (List Nat)} (e : wordsA al wy en fd q = x :: ts) : ∃ y us, wordsA al wy en fd' q = y :: us ∧ cmnL y us <+: cmnL x ts := by
  obtain ⟨x', hx', _⟩ := words_less (al := al) (wy := wy) (en := en) h (q := q) (x := x) (by rw [e]; simp)
  cases e' : wordsA al wy en fd' q with
  | nil => rw [e'] at hx'; cases hx'
  | cons y us => exact ⟨y, us, rfl, cmn_less fun w hw => by rw [← e'] ; exact words_less h (by rw [e]; exact hw)⟩
theorem dn_less (dn : DnT al wy en fd) {r : Nat} {x : List Nat} {ts : List (List Nat)} (e : wordsA al wy en fd r = x :: ts) : LessT (setE fd r (cmnL x ts)) fd := fun q p hp => by
  by_cases h : q = r
  · subst h
    obtain ⟨y, us, e2, pf⟩ := dn q p hp
    rw [e] at e2
    cases e2
    exact ⟨_, setE_at _ _ _, pf⟩
  · exact ⟨p, by rw [setE_ne h]; exact hp, List.prefix_rfl⟩
theorem dn_set (dn : DnT al wy en fd) {r : Nat} {x : List Nat} {ts : List (List Nat)} (e : wordsA al wy en fd r = x :: ts) : DnT al wy en (setE fd r (cmnL x ts)) := fun q p hp => by
  have ls := dn_less dn e
  by_cases h : q = r
  · subst h
    rw [setE_at] at hp
    cases hp
    exact less_words ls e
  · rw [setE_ne h] at hp
    obtain ⟨y, us, e2, pf⟩ := dn q p hp
    obtain ⟨z, vs, e3, pf3⟩ := less_words ls e2
    exact ⟨z, vs, e3, pf3.trans pf⟩
theorem sum_le {o : List Nat} {g g' : Nat → Nat} (h : ∀ q ∈ o, g' q ≤ g q) : (o.map g').sum ≤ (o.map g).sum := by
  induction o with
  | nil => simp
  | cons a o ih =>
    have h1 := h a (by simp)
    have h2 := ih fun q hq => h q (List.mem_cons_of_mem _ hq)
    simp only [List.map_cons, List.sum_cons]; omega
theorem sum_lt {o : List Nat} {g g' : Nat → Nat} (h : ∀ q ∈ o, g' q ≤ g q) {r : Nat} (hr : r ∈ o) (hl : g' r < g r) : (o.map g').sum < (o.map g).sum := by
  induction o with
  | nil => cases hr
  | cons a o ih =>
    have h1 := h a (by simp)
    have hh : ∀ q ∈ o, g' q ≤ g q := fun q hq => h q (List.mem_cons_of_mem _ hq)
    have h2 := sum_le hh
    simp only [List.map_cons, List.sum_cons]
    rcases List.mem_cons.mp hr with rfl | m
    · omega
    · have := ih hh m; omega
theorem sum_const (o : List Nat) (k : Nat) : (o.map fun _ => k).sum = o.length * k := by
  induction o with
  | nil => simp
  | cons a o ih => rw [List.map_cons, List.sum_cons, ih, List.length_cons, Nat.succ_mul]; omega
def noneN (o : List Nat) (fd : EndF) : Nat := (o.map fun q => if (fd q).isSome = true then 0 else 1).sum
def meaN (L : Nat) (o : List Nat) (fd : EndF) : Nat := (o.map fun q => ((fd q).map List.length).getD (L + 1)).sum
structure SwI (al : List Nat) (wy : WayF) (en : EndF) (o ou : List Nat) (B : Nat) (fd : EndF) : Prop where
  ab : Above al wy en fd
  dn : DnT al wy en fd
  ln : ∀ q p, fd q = some p → p.length + B * noneN o fd ≤ B * (o.length + 1)
  only : ∀ q p, fd q = some p → q ∈ o
  ov : ∀ q p, fd q = some p → ∀ z ∈ p, z ∈ ou
variable {o ou : List Nat} {B : Nat}
theorem SwI.start : SwI al wy en o ou B (fun _ => none) :=
  ⟨(fun q p h => by cases h), (fun q p h => by cases h), (fun q p h => by cases h), (fun q p h => by cases h), (fun q p h => by cases h)⟩
theorem noneN_le (fd : EndF) : noneN o fd ≤ o.length := by
  have := sum_le (o := o) (g := fun _ => 1) (g' := fun q => if (fd q).isSome = true then 0 else 1) (fun q _ => by split <;> omega)
  rw [sum_const] at this
  unfold noneN; omega
theorem SwI.len (S : SwI al wy en o ou B fd) {q : Nat} {p : List Nat} (h : fd q = some p) : p.length ≤ B * (o.length + 1) := by have := S.ln q p h; omega
theorem SwI.word (S : SwI al wy en o ou B fd) (hB : ∀ q ∈ o, ∀ c ∈ al, ∀ p, wy q c = some p → p.2.length ≤ B) (hE : ∀ q p, en q = some p → p.length ≤ B) {q : Nat} (hq : q ∈ o) {x : List Nat} (hx : x ∈ wordsA al wy en fd q) : x.length + B * noneN o fd ≤ B * (o.length + 1) + B := by
  rcases mem_wordsA.mp hx with e | ⟨c, hc, p, hp, v, hv, rfl⟩
  · have := hE _ _ e
    have := Nat.mul_le_mul_left B (noneN_le (o := o) fd)
    rw [Nat.mul_succ]; omega
  · have := hB q hq c hc p hp
    have := S.ln _ _ hv
    rw [List.length_append]; omega
theorem SwI.over (S : SwI al wy en o ou B fd) (hO : ∀ q ∈ o, ∀ c ∈ al, ∀ p, wy q c = some p → ∀ z ∈ p.2, z ∈ ou) (hQ : ∀ q p, en q = some p → ∀ z ∈ p, z ∈ ou) {q : Nat} (hq : q ∈ o) {x : List Nat} (hx : x ∈ wordsA al wy en fd q) : ∀ z ∈ x, z ∈ ou := by
  rcases mem_wordsA.mp hx with e | ⟨c, hc, p, hp, v, hv, rfl⟩
  · exact hQ _ _ e
  · intro z hz
    rcases List.mem_append.mp hz with g | g
    · exact hO q hq c hc p hp z g
    · exact S.ov _ _ hv z g
theorem SwI.step (S : SwI al wy en o ou B fd) (hB : ∀ q ∈ o, ∀ c ∈ al, ∀ p, wy q c = some p → p.2.length ≤ B) (hE : ∀ q p, en q = some p → p.length ≤ B) (hO : ∀ q ∈ o, ∀ c ∈ al, ∀ p, wy q c = some p → ∀ z ∈ p.2, z ∈ ou) (hQ : ∀ q p, en q = some p → ∀ z ∈ p, z ∈ ou) {r : Nat} (hr : r ∈ o) {x : List Nat} {ts : List (List Nat)} (e : wordsA al wy en fd r = x :: ts) (ne : fd r ≠ some (cmnL x ts)) :
    SwI al wy en o ou B (setE fd r (cmnL x ts)) ∧ meaN (B * (o.length + 1)) o (setE fd r (cmnL x ts)) < meaN (B * (o.length + 1)) o fd := by
  have ls := dn_less S.dn e
  have ni : ∀ q, (if (setE fd r (cmnL x ts) q).isSome = true then 0 else 1) ≤ (if (fd q).isSome = true then 0 else 1) := fun q => by
    by_cases h : q = r
    · subst h; rw [setE_at]; simp
    · rw [setE_ne h]; exact Nat.le_refl _
  have nn : noneN o (setE fd r (cmnL x ts)) ≤ noneN o fd := sum_le fun q _ => ni q
  have pr : cmnL x ts <+: x := cmnL_pre x ts x (by simp)
  have key : (cmnL x ts).length + B * noneN o (setE fd r (cmnL x ts)) ≤ B * (o.length + 1) := by
    cases hf : fd r with
    | none =>
      have lt : noneN o (setE fd r (cmnL x ts)) < noneN o fd := sum_lt (fun q _ => ni q) hr (by rw [setE_at, hf]; simp)
      have w := S.word hB hE hr (x := x) (by rw [e]; simp)
      have := Nat.mul_le_mul_left B (show noneN o (setE fd r (cmnL x ts)) + 1 ≤ noneN o fd from lt)
      rw [Nat.mul_succ] at this
      have := pr.length_le
      omega
    | some p =>
      obtain ⟨p', h1, h2⟩ := ls r p hf
      rw [setE_at] at h1
      cases h1
      have := S.ln r p hf
      have := h2.length_le
      have := Nat.mul_le_mul_left B nn
      omega
  refine ⟨⟨above_set S.ab e, dn_set S.dn e, fun q p hp => ?_, fun q p hp => ?_, fun q p hp => ?_⟩, ?_⟩
  · by_cases h : q = r
    · subst h; rw [setE_at] at hp; cases hp; exact key
    · rw [setE_ne h] at hp
      have := S.ln q p hp
      have := Nat.mul_le_mul_left B nn
      omega
  · by_cases h : q = r
    · subst h; exact hr
    · rw [setE_ne h] at hp; exact S.only q p hp
  · by_cases h : q = r
    · subst h; rw [setE_at] at hp; cases hp
      exact fun z hz => S.over hO hQ hr (x := x) (by rw [e]; simp) z (pr.subset hz)
    · rw [setE_ne h] at hp; exact S.ov q p hp
  · refine sum_lt (fun q _ => ?_) hr ?_
    · by_cases h : q = r
      · subst h
        rw [setE_at]
        cases hf : fd q with
        | none => show (cmnL x ts).length ≤ _ + 1; omega
        | some p =>
          obtain ⟨p', h1, h2⟩ := ls q p hf
          rw [setE_at] at h1
          cases h1
          exact h2.length_le
      · rw [setE_ne h]; exact Nat.le_refl _
    · rw [setE_at]
      cases hf : fd r with
      | none => show (cmnL x ts).length < _ + 1; omega
      | some p =>
        obtain ⟨p', h1, h2⟩ := ls r p hf
        rw [setE_at] at h1
        cases h1
        rcases Nat.lt_or_ge (cmnL x ts).length p.length with g | g
        · exact g
        · exact absurd (by rw [hf, h2.eq_of_length (Nat.le_antisymm h2.length_le g)]) ne
theorem SwI.done (S : SwI al wy en o ou B fd) (st : Stands al wy en fd (· ∈ o)) (lv : ∀ q ∈ o, ∃ v, Img al wy en q v) (cl : ∀ q ∈ o, ∀ c ∈ al, ∀ p, wy q c = some p → (∃ v, Img al wy en p.1 v) → p.1 ∈ o) : SureT al wy en fd (· ∈ o) ∧ ∀ q ∈ o, ∃ p, fd q = some p := by
  have k : ∀ q ∈ o, ∃ p, fd q = some p ∧ IsCmn (Img al wy en q) p := fun q hq => stands_is S.ab st cl hq (lv q hq)
  refine ⟨⟨fun q p hp => ?_, fun q hq c hc p hp hl => ?_⟩, fun q hq => let ⟨p, h, _⟩ := k q hq; ⟨p, h⟩⟩
  · have hq := S.only q p hp
    obtain ⟨p', h1, h2⟩ := k q hq
    rw [hp] at h1; cases h1
    exact ⟨hq, h2⟩
  · obtain ⟨s, hs, _⟩ := k p.1 (cl q hq c hc p hp hl)
    exact ⟨s, hs⟩
end
end Rf
set_option Elab.async false
set_option linter.all false
set_option maxRecDepth 100000
set_option maxHeartbeats 400000
set_option autoImplicit false
namespace Rf
theorem goT_out (ixf : Nat → Nat) (rows : List (List Way)) (ls : List (Nat × List Nat)) : ∀ (w : List Nat) (r : Nat) (o : List Nat), (goT ixf rows (some (r, o)) w).bind (fun p => (lkW ls p.1).map (p.2 ++ ·)) = (outA (wayAt ixf rows) (lkW ls) r w).map (o ++ ·)
  | [], r, o => rfl
  | c :: w, r, o => by
    show (goT ixf rows ((wayAt ixf rows r c).map fun p => (p.1, o ++ p.2)) w).bind _ = Option.map (o ++ ·) (match wayAt ixf rows r c with | none => none | some p => (outA (wayAt ixf rows) (lkW ls) p.1 w).map (p.2 ++ ·))
    cases wayAt ixf rows r c with
    | none => show (goT ixf rows none w).bind _ = none; rw [goT_none]; rfl
    | some p =>
      show (goT ixf rows (some (p.1, o ++ p.2)) w).bind _ = ((outA (wayAt ixf rows) (lkW ls) p.1 w).map (p.2 ++ ·)).map (o ++ ·)
      rw [goT_out ixf rows ls w p.1 (o ++ p.2), Option.map_map]
      congr 1
      funext x
      show (o ++ p.2) ++ x = o ++ (p.2 ++ x)
      rw [List.append_assoc]
theorem write_out (ixf : Nat → Nat) (rows : List (List Way)) (f : Nat) (ls : List (Nat × List Nat)) (w : List Nat) : writeN ixf rows f ls w = outA (wayAt ixf rows) (lkW ls) f w := by
  unfold writeN
  rw [goT_out]
  cases outA (wayAt ixf rows) (lkW ls) f w <;> rfl
theorem lkW_fm {g : Nat → Option (List Nat)} : ∀ (n i : Nat), lkW ((List.range n).filterMap fun i => (g i).map fun v => (i, v)) i = if i < n then g i else none := fun n i => by
  cases e : lkW ((List.range n).filterMap fun i => (g i).map fun v => (i, v)) i with
  | none =>
    have k := lkW_none.mp e
    by_cases h : i < n
    · rw [if_pos h]
      cases eg : g i with
      | none => rfl
      | some v => exact absurd rfl (k (i, v) (List.mem_filterMap.mpr ⟨i, List.mem_range.mpr h, by rw [eg]; rfl⟩))
    · rw [if_neg h]
  | some v =>
    obtain ⟨j, hj, ej⟩ := List.mem_filterMap.mp (lkW_mem e)
    obtain ⟨u, hu, eu⟩ := Option.map_eq_some_iff.mp ej
    cases eu
    rw [if_pos (List.mem_range.mp hj), hu]
def LeastB (al : List Nat) (b : Bh) (p : List Nat) (R : List (List Way)) (L : List (Nat × List Nat)) : Prop :=
  ((∀ w, b w = none) ∧ p = [] ∧ R = [al.map fun _ => none] ∧ L = []) ∨
  (IsCmn (fun v => ∃ w, b w = some v) p ∧ ∃ ob, BL.IsBfs (sucB al) (fun w => (b w).map (·.drop p.length)) ob ∧ LayT al ob R L ∧ ∀ x ∈ ob, ∀ c ∈ al, dN al x c = none → ∀ w, x (c :: w) = none)
section
variable {al : List Nat} {ixf : Nat → Nat}
theorem LayT.out (hi : ∀ c ∈ al, al[ixf c]? = some c) {ob : List Bh} {R : List (List Way)} {L : List (Nat × List Nat)} (h : LayT al ob R L) (hd : ∀ x ∈ ob, ∀ c ∈ al, dN al x c = none → ∀ w, x (c :: w) = none)
    (hs : ∀ x ∈ ob, ∀ c ∈ al, ∀ y, dN al x c = some y → ∀ w, (∀ z ∈ w, z ∈ al) → x (c :: w) = (y.2 w).map (y.1 ++ ·)) : ∀ (w : List Nat) (i : Nat) (b : Bh), ob[i]? = some b → (∀ c ∈ w, c ∈ al) → outA (wayAt ixf R) (lkW L) i w = b w
  | [], i, b, hb, _ => by
    show lkW L i = b []
    have hl := (List.getElem?_eq_some_iff.mp hb).1
    rw [h.ends]
    have := lkW_fm (g := fun i => (ob[i]?).bind fun b => b []) ob.length i
    rw [if_pos hl, hb] at this
    refine Eq.trans ?_ this
    congr 1
    refine fm_congr fun j _ => ?_
    cases ob[j]? <;> rfl
  | c :: w, i, b, hb, hw => by
    have hc := hw c (by simp)
    have hw' : ∀ z ∈ w, z ∈ al := fun z hz => hw z (List.mem_cons_of_mem _ hz)
    have hl := (List.getElem?_eq_some_iff.mp hb).1
    have bm := List.mem_of_getElem? hb
    have hr : R[i]? = some (R.getD i []) := by
      rw [List.getD_eq_getElem?_getD, List.getElem?_eq_getElem (by rw [h.len]; exact hl)]; rfl
    obtain ⟨k1, k2⟩ := h.row i _ b hr hb (ixf c) c (hi c hc)
    show (match wayAt ixf R i c with | none => none | some p => (outA (wayAt ixf R) (lkW L) p.1 w).map (p.2 ++ ·)) = b (c :: w)
    have ew : wayAt ixf R i c = ((R.getD i [])[ixf c]?).getD none := by unfold wayAt; rw [List.getD_eq_getElem?_getD (l := R.getD i [])]
    cases e : dN al b c with
    | none =>
      rw [k1 e] at ew
      rw [ew, hd b bm c hc e w]; rfl
    | some y =>
      obtain ⟨j, j1, j2⟩ := k2 y e
      rw [j2] at ew
      rw [ew, hs b bm c hc y e w hw']
      show (outA (wayAt ixf R) (lkW L) j w).map (y.1 ++ ·) = _
      rw [LayT.out hi h hd hs w j y.2 j1 hw']
theorem dN_step {b : Bh} {c : Nat} {y : List Nat × Bh} (h : dN al b c = some y) : IsStep al b c y := by
  unfold dN at h
  split at h
  · rename_i e
    cases h
    exact e.choose_spec
  · cases h
theorem LeastB.out (hi : ∀ c ∈ al, al[ixf c]? = some c) {b : Bh} {p : List Nat} {R : List (List Way)} {L : List (Nat × List Nat)} (h : LeastB al b p R L) {w : List Nat} (hw : ∀ c ∈ w, c ∈ al) : b w = (writeN ixf R 0 L w).map (p ++ ·) := by
  rw [write_out]
  rcases h with ⟨n1, rfl, rfl, rfl⟩ | ⟨c1, ob, f1, l1, hd⟩
  · rw [n1]
    cases w with
    | nil => rfl
    | cons c w =>
      have hc := hw c (by simp)
      have : wayAt ixf [al.map fun _ => (none : Way)] 0 c = none := by
        unfold wayAt
        show (al.map fun _ => (none : Way)).getD (ixf c) none = none
        rw [List.getD_eq_getElem?_getD, List.getElem?_map, hi c hc]; rfl
      show none = Option.map _ (match wayAt ixf [al.map fun _ => (none : Way)] 0 c with | none => none | some p => _)
      rw [this]; rfl
  · obtain ⟨t, et⟩ := f1.start
    have h0 : ob[0]? = some fun w => (b w).map (·.drop p.length) := by rw [← et]; rfl
    rw [l1.out hi hd (fun x hx c hc y hy w hw' => (dN_step hy).2.1 w hw') w 0 _ h0 hw]
    show b w = ((b w).map (·.drop p.length)).map (p ++ ·)
    cases e : b w with
    | none => rfl
    | some v =>
      show some v = some (p ++ v.drop p.length)
      rw [pre_drop (c1.2.1 v ⟨w, e⟩)]
theorem LeastB.back (hi : ∀ c ∈ al, al[ixf c]? = some c) {b b' : Bh} {p : List Nat} {R : List (List Way)} {L : List (Nat × List Nat)} (h : LeastB al b p R L) (h' : LeastB al b' p R L) {w : List Nat} (hw : ∀ c ∈ w, c ∈ al) : b w = b' w := by
  rw [h.out hi hw, h'.out hi hw]
end
section
variable {al : List Nat} {wy : WayF} {en : EndF} {o : List Nat}
structure PartI (al : List Nat) (wy : WayF) (en : EndF) (o : List Nat) (mk : Nat → Nat) (many : Nat) : Prop where
  hm : ∀ r ∈ o, ∀ r' ∈ o, SameOut al wy wy en en r r' → mk r = mk r'
  ref : ∀ r ∈ o, ∀ r' ∈ o, rowT al wy en mk r = rowT al wy en mk r' → mk r = mk r'
  cnt : many = (BL.dd (o.map mk)).length
theorem PartI.start (ho : o ≠ []) : PartI al wy en o (fun _ => 0) 1 := by
  refine ⟨fun _ _ _ _ _ => rfl, fun _ _ _ _ _ => rfl, ?_⟩
  cases o with
  | nil => exact absurd rfl ho
  | cons a t => rw [List.map_cons, BL.dd_cons, BL.ddA_all _ _ (fun x hx => by obtain ⟨_, _, rfl⟩ := List.mem_map.mp hx; simp)]; rfl
theorem rowT_ref {mk mk' : Nat → Nat} (cl : ∀ q ∈ o, ∀ c ∈ al, ∀ p, wy q c = some p → p.1 ∈ o) (h : ∀ r ∈ o, ∀ r' ∈ o, mk' r = mk' r' → mk r = mk r') {r r' : Nat} (hr : r ∈ o) (hr' : r' ∈ o) (e : rowT al wy en mk' r = rowT al wy en mk' r') : rowT al wy en mk r = rowT al wy en mk r' := by
  refine Prod.ext (Prod.mk.inj e).1 (List.map_inj_left.mpr fun c hc => ?_)
  have k := rowT_way hc e
  cases e1 : wy r c with
  | none =>
    cases e2 : wy r' c with
    | none => rfl
    | some y => rw [e1, e2] at k; exact absurd k (by simp)
  | some x =>
    cases e2 : wy r' c with
    | none => rw [e1, e2] at k; exact absurd k (by simp)
    | some y =>
      rw [e1, e2] at k
      obtain ⟨k1, k2⟩ := Prod.mk.inj (Option.some.inj k)
      show some (x.2, mk x.1) = some (y.2, mk y.1)
      rw [k1, h x.1 (cl r hr c hc x e1) y.1 (cl r' hr' c hc y e2) k2]
theorem PartI.step {mk mk' : Nat → Nat} {many : Nat} (P : PartI al wy en o mk many) (cl : ∀ q ∈ o, ∀ c ∈ al, ∀ p, wy q c = some p → p.1 ∈ o) (cm : ∀ q ∈ o, IsCmn (Img al wy en q) [])
    (h : ∀ r ∈ o, ∀ r' ∈ o, (mk' r = mk' r' ↔ rowT al wy en mk r = rowT al wy en mk r')) :
    PartI al wy en o mk' (BL.dd (o.map mk')).length ∧ many ≤ (BL.dd (o.map mk')).length ∧ ((BL.dd (o.map mk')).length = many → ∀ r ∈ o, ∀ r' ∈ o, (mk' r = mk' r' ↔ SameOut al wy wy en en r r')) := by
  have fin : ∀ r ∈ o, ∀ r' ∈ o, mk' r = mk' r' → mk r = mk r' := fun r hr r' hr' e => P.ref r hr r' hr' ((h r hr r' hr').mp e)
  have hm' : ∀ r ∈ o, ∀ r' ∈ o, SameOut al wy wy en en r r' → mk' r = mk' r' := fun r hr r' hr' s => (h r hr r' hr').mpr (out_row cl cm P.hm hr hr' s)
  obtain ⟨c1, c2⟩ := BL.count_le fin
  refine ⟨⟨hm', fun r hr r' hr' e => (h r hr r' hr').mpr (rowT_ref cl fin hr hr' e), rfl⟩, by rw [P.cnt]; exact c1, fun e => ?_⟩
  have st := c2 (by rw [e, P.cnt])
  exact fun r hr r' hr' => marks_iff cl (fun r hr r' hr' e => rowT_ref cl st hr hr' ((h r hr r' hr').mp e)) hm' hr hr'
theorem PartI.le {mk : Nat → Nat} {many : Nat} (P : PartI al wy en o mk many) : many ≤ o.length := by
  rw [P.cnt]
  have := BL.dd_len (o.map mk)
  rwa [List.length_map] at this
end
section
variable {al : List Nat} {wy : WayF} {en fd : EndF} {o : List Nat} {f : Nat}
end
end Rf
set_option Elab.async false
set_option linter.all false
set_option maxRecDepth 100000
set_option maxHeartbeats 400000
set_option autoImplicit false
namespace Rf
open PySem PySem.Spec L2
structure DatE {α : Type} [DecidableEq α] (F : α → D) (P : α → PyData) (ok : α → Prop) (n : Nat) : Prop where
  pd : ∀ (h : LH) (k : Nat) (a : α), pd h (k + n) (F a) = some (P a)
  lay : ∀ a, ok a → PyData.canLay0 (P a) = true
  dep : ∀ a, (P a).depth ≤ n
  eqv : ∀ a b, PyData.eqv (P a) (P b) = decide (a = b)
section
variable {α : Type} [DecidableEq α] {F : α → D} {P : α → PyData} {ok : α → Prop} {n : Nat}
theorem DatE.pdA (E : DatE F P ok n) (h : LH) (k : Nat) : ∀ l : List α, Rf.pdA (Rf.pd h (k + n)) (l.map F) = some (l.map P)
  | [] => rfl
  | x :: l => by
    rw [List.map_cons, List.map_cons]
    simp only [Rf.pdA, E.pd h k x, E.pdA h k l]
end
theorem eqv_str (a b : List Nat) : PyData.eqv (.str ⟨a.toArray⟩) (.str ⟨b.toArray⟩) = decide (a = b) := by
  rw [PyData.eqv]
  by_cases e : a = b
  · subst e; simp
  · rw [decide_eq_false e]
    simp only [beq_eq_false_iff_ne, ne_eq, Str.mk.injEq]
    intro z
    exact e (by simpa using z)
end Rf
set_option Elab.async false
set_option linter.all false
set_option maxRecDepth 100000
set_option maxHeartbeats 400000
set_option autoImplicit false
namespace Rf
open PySem PySem.Spec L2
end Rf
set_option Elab.async false
set_option linter.all false
set_option maxRecDepth 100000
set_option maxHeartbeats 400000
set_option autoImplicit false
namespace Rf
open PySem PySem.Spec L2
inductive Fm where
  | non : Fm
  | emp : Fm
  | sg : Nat → Fm
  | or : Fm → Fm → Fm
  | sq : Fm → Fm → Fm
  | bo : Fm → Fm → Fm
  | an : Fm → Fm
  | nt : Fm → Fm
  deriving DecidableEq
namespace Fm
def FD : Fm → D
  | .non => .tup [.str [110, 111, 110, 101]]
  | .emp => .tup [.str [101, 109, 112, 116, 121]]
  | .sg c => .tup [.str [115, 105, 103, 110], .str [c]]
  | .or f g => .tup [.str [111, 114], f.FD, g.FD]
  | .sq f g => .tup [.str [116, 104, 101, 110], f.FD, g.FD]
  | .bo f g => .tup [.str [98, 111, 116, 104], f.FD, g.FD]
  | .an f => .tup [.str [97, 110, 121], f.FD]
  | .nt f => .tup [.str [110, 111, 116], f.FD]
def sP (l : List Nat) : PyData := .str ⟨l.toArray⟩
def FP : Fm → PyData
  | .non => .tuple [sP [110, 111, 110, 101]]
  | .emp => .tuple [sP [101, 109, 112, 116, 121]]
  | .sg c => .tuple [sP [115, 105, 103, 110], sP [c]]
  | .or f g => .tuple [sP [111, 114], f.FP, g.FP]
  | .sq f g => .tuple [sP [116, 104, 101, 110], f.FP, g.FP]
  | .bo f g => .tuple [sP [98, 111, 116, 104], f.FP, g.FP]
  | .an f => .tuple [sP [97, 110, 121], f.FP]
  | .nt f => .tuple [sP [110, 111, 116], f.FP]
def dp : Fm → Nat
  | .or f g => max f.dp g.dp + 1
  | .sq f g => max f.dp g.dp + 1
  | .bo f g => max f.dp g.dp + 1
  | .an f => f.dp + 1
  | .nt f => f.dp + 1
  | _ => 0
def sz : Fm → Nat
  | .or f g => f.sz + g.sz + 1
  | .sq f g => f.sz + g.sz + 1
  | .bo f g => f.sz + g.sz + 1
  | .an f => f.sz + 1
  | .nt f => f.sz + 1
  | _ => 1
def Sg (al : List Nat) : Fm → Prop
  | .sg c => c ∈ al
  | .or f g => f.Sg al ∧ g.Sg al
  | .sq f g => f.Sg al ∧ g.Sg al
  | .bo f g => f.Sg al ∧ g.Sg al
  | .an f => f.Sg al
  | .nt f => f.Sg al
  | _ => True
theorem nf : ∀ f : Fm, isFn f.FD = false
  | .non => rfl
  | .emp => rfl
  | .sg _ => rfl
  | .or _ _ => rfl
  | .sq _ _ => rfl
  | .bo _ _ => rfl
  | .an _ => rfl
  | .nt _ => rfl
theorem pure : ∀ f : Fm, pureD f.FD = true
  | .non => rfl
  | .emp => rfl
  | .sg _ => rfl
  | .or f g => by simp [FD, pureD, pureDs, f.pure, g.pure]
  | .sq f g => by simp [FD, pureD, pureDs, f.pure, g.pure]
  | .bo f g => by simp [FD, pureD, pureDs, f.pure, g.pure]
  | .an f => by simp [FD, pureD, pureDs, f.pure]
  | .nt f => by simp [FD, pureD, pureDs, f.pure]
theorem pd_s (h : LH) (n : Nat) (l : List Nat) : pd h (n + 1) (.str l) = some (sP l) := by rw [pd]; rfl
theorem pd_F (h : LH) : ∀ (n : Nat) (f : Fm), f.dp + 2 ≤ n → pd h n f.FD = some f.FP
  | 0, f, e => by omega
  | 1, f, e => by omega
  | n + 2, f, e => by
    cases f with
    | non => rw [FD, pd_tup]; simp only [pdA, pd_s]; rfl
    | emp => rw [FD, pd_tup]; simp only [pdA, pd_s]; rfl
    | sg c => rw [FD, pd_tup]; simp only [pdA, pd_s]; rfl
    | or f g =>
      rw [FD, pd_tup]
      simp only [dp] at e
      simp only [pdA, pd_s, pd_F h (n + 1) f (by omega), pd_F h (n + 1) g (by omega)]; rfl
    | sq f g =>
      rw [FD, pd_tup]
      simp only [dp] at e
      simp only [pdA, pd_s, pd_F h (n + 1) f (by omega), pd_F h (n + 1) g (by omega)]; rfl
    | bo f g =>
      rw [FD, pd_tup]
      simp only [dp] at e
      simp only [pdA, pd_s, pd_F h (n + 1) f (by omega), pd_F h (n + 1) g (by omega)]; rfl
    | an f =>
      rw [FD, pd_tup]
      simp only [dp] at e
      simp only [pdA, pd_s, pd_F h (n + 1) f (by omega)]; rfl
    | nt f =>
      rw [FD, pd_tup]
      simp only [dp] at e
      simp only [pdA, pd_s, pd_F h (n + 1) f (by omega)]; rfl
theorem lay_s {l : List Nat} (h : okT l = true) : (sP l).canLay0 = true := okT_str h
theorem lay_F {al : List Nat} (ha : okT al = true) : ∀ f : Fm, f.Sg al → f.FP.canLay0 = true
  | .non, _ => by rw [FP, PyData.canLay0, PyData.canLayAll0, PyData.canLayAll0, lay_s (by rfl)]; rfl
  | .emp, _ => by rw [FP, PyData.canLay0, PyData.canLayAll0, PyData.canLayAll0, lay_s (by rfl)]; rfl
  | .sg c, h => by
    have hc : okT [c] = true := by
      have := List.all_eq_true.mp ha c h
      simp only [okT, List.all_cons, List.all_nil, Bool.and_true]; exact this
    rw [FP, PyData.canLay0, PyData.canLayAll0, PyData.canLayAll0, PyData.canLayAll0, lay_s hc, lay_s (by rfl)]; rfl
  | .or f g, h => by rw [FP, PyData.canLay0, PyData.canLayAll0, PyData.canLayAll0, PyData.canLayAll0, PyData.canLayAll0, lay_F ha f h.1, lay_F ha g h.2, lay_s (by rfl)]; rfl
  | .sq f g, h => by rw [FP, PyData.canLay0, PyData.canLayAll0, PyData.canLayAll0, PyData.canLayAll0, PyData.canLayAll0, lay_F ha f h.1, lay_F ha g h.2, lay_s (by rfl)]; rfl
  | .bo f g, h => by rw [FP, PyData.canLay0, PyData.canLayAll0, PyData.canLayAll0, PyData.canLayAll0, PyData.canLayAll0, lay_F ha f h.1, lay_F ha g h.2, lay_s (by rfl)]; rfl
  | .an f, h => by rw [FP, PyData.canLay0, PyData.canLayAll0, PyData.canLayAll0, PyData.canLayAll0, lay_F ha f h, lay_s (by rfl)]; rfl
  | .nt f, h => by rw [FP, PyData.canLay0, PyData.canLayAll0, PyData.canLayAll0, PyData.canLayAll0, lay_F ha f h, lay_s (by rfl)]; rfl
theorem dep_F : ∀ f : Fm, f.FP.depth ≤ f.dp + 2
  | .non => by simp [FP, sP, PyData.depth, PyData.depthAll, dp]
  | .emp => by simp [FP, sP, PyData.depth, PyData.depthAll, dp]
  | .sg _ => by simp [FP, sP, PyData.depth, PyData.depthAll, dp]
  | .or f g => by
    have := f.dep_F
    have := g.dep_F
    simp only [FP, sP, PyData.depth, PyData.depthAll, dp]; omega
  | .sq f g => by
    have := f.dep_F
    have := g.dep_F
    simp only [FP, sP, PyData.depth, PyData.depthAll, dp]; omega
  | .bo f g => by
    have := f.dep_F
    have := g.dep_F
    simp only [FP, sP, PyData.depth, PyData.depthAll, dp]; omega
  | .an f => by
    have := f.dep_F
    simp only [FP, sP, PyData.depth, PyData.depthAll, dp]; omega
  | .nt f => by
    have := f.dep_F
    simp only [FP, sP, PyData.depth, PyData.depthAll, dp]; omega
theorem eqv_s (a b : List Nat) : PyData.eqv (sP a) (sP b) = decide (a = b) := eqv_str a b
inductive Pt | s (c : Nat) | f (g : Fm)
theorem tup1 (a b : PyData) : PyData.eqv (.tuple [a]) (.tuple [b]) = PyData.eqv a b := by
  rw [PyData.eqv, PyData.eqvAll, PyData.eqvAll, Bool.and_true]
theorem tup2 (a b c d : PyData) : PyData.eqv (.tuple [a, b]) (.tuple [c, d]) = (PyData.eqv a c && PyData.eqv b d) := by
  rw [PyData.eqv, PyData.eqvAll, PyData.eqvAll, PyData.eqvAll, Bool.and_true]
theorem tup3 (a b c d e f : PyData) : PyData.eqv (.tuple [a, b, c]) (.tuple [d, e, f]) = (PyData.eqv a d && (PyData.eqv b e && PyData.eqv c f)) := by
  rw [PyData.eqv, PyData.eqvAll, PyData.eqvAll, PyData.eqvAll, PyData.eqvAll, Bool.and_true]
theorem tupH {l m : List Nat} (h : l ≠ m) (xs ys : List PyData) : PyData.eqv (.tuple (sP l :: xs)) (.tuple (sP m :: ys)) = false := by
  rw [PyData.eqv, PyData.eqvAll, eqv_s, decide_eq_false h]; rfl
theorem eqv_F : ∀ f g : Fm, PyData.eqv f.FP g.FP = decide (f = g) := by
  intro f
  induction f with
  | non =>
    intro g
    cases g with
    | non => rw [FP, tup1, eqv_s]; rfl
    | _ => rw [FP, FP, tupH (by decide), decide_eq_false (by simp)]
  | emp =>
    intro g
    cases g with
    | emp => rw [FP, tup1, eqv_s]; rfl
    | _ => rw [FP, FP, tupH (by decide), decide_eq_false (by simp)]
  | sg c =>
    intro g
    cases g with
    | sg d => rw [FP, FP, tup2, eqv_s, eqv_s]; simp
    | _ => rw [FP, FP, tupH (by decide), decide_eq_false (by simp)]
  | or a b iha ihb =>
    intro g
    cases g with
    | or c d => rw [FP, FP, tup3, eqv_s, iha, ihb]; simp
    | _ => rw [FP, FP, tupH (by decide), decide_eq_false (by simp)]
  | sq a b iha ihb =>
    intro g
    cases g with
    | sq c d => rw [FP, FP, tup3, eqv_s, iha, ihb]; simp
    | _ => rw [FP, FP, tupH (by decide), decide_eq_false (by simp)]
  | bo a b iha ihb =>
    intro g
    cases g with
    | bo c d => rw [FP, FP, tup3, eqv_s, iha, ihb]; simp
    | _ => rw [FP, FP, tupH (by decide), decide_eq_false (by simp)]
  | an a iha =>
    intro g
    cases g with
    | an c => rw [FP, FP, tup2, eqv_s, iha]; simp
    | _ => rw [FP, FP, tupH (by decide), decide_eq_false (by simp)]
  | nt a iha =>
    intro g
    cases g with
    | nt c => rw [FP, FP, tup2, eqv_s, iha]; simp
    | _ => rw [FP, FP, tupH (by decide), decide_eq_false (by simp)]
theorem eqS_F (f g : Fm) : eqS f.FD g.FD = none := by cases f <;> cases g <;> rfl
theorem eqD_F {al : List Nat} (ha : okT al = true) {f g : Fm} (hf : f.Sg al) (hg : g.Sg al) (df : f.dp ≤ 62) (dg : g.dp ≤ 62) (h : LH) : eqD f.FD g.FD h = some (decide (f = g)) := by
  unfold eqD
  have s1 : SeqAt.shaped f.FP = true := by
    unfold SeqAt.shaped
    rw [lay_F ha f hf, decide_eq_true (by have := f.dep_F; omega)]; rfl
  have s2 : SeqAt.shaped g.FP = true := by
    unfold SeqAt.shaped
    rw [lay_F ha g hg, decide_eq_true (by have := g.dep_F; omega)]; rfl
  simp only [eqS_F, pd_F h 66 f (by omega), pd_F h 66 g (by omega), s1, s2, Bool.and_self, if_true, eqv_F]
theorem eq_F {al : List Nat} (ha : okT al = true) {f g : Fm} (hf : f.Sg al) (hg : g.Sg al) (df : f.dp ≤ 62) (dg : g.dp ≤ 62) (h : LH) : dEq f.FD g.FD h = .ok (.bl (decide (f = g))) h := by
  unfold dEq; rw [eqD_F ha hf hg df dg]
theorem sz_pos : ∀ f : Fm, 1 ≤ f.sz := fun f => by cases f <;> simp [sz]
theorem sz_dp : ∀ f : Fm, f.sz + 1 ≤ 2 ^ (f.dp + 1) := by
  intro f
  induction f with
  | or a b iha ihb =>
    have h1 : 2 ^ (a.dp + 1) ≤ 2 ^ (max a.dp b.dp + 1) := Nat.pow_le_pow_right (by decide) (by omega)
    have h2 : 2 ^ (b.dp + 1) ≤ 2 ^ (max a.dp b.dp + 1) := Nat.pow_le_pow_right (by decide) (by omega)
    have h3 : 2 ^ (max a.dp b.dp + 1 + 1) = 2 ^ (max a.dp b.dp + 1) * 2 := Nat.pow_succ _ _
    simp only [sz, dp]; omega
  | sq a b iha ihb =>
    have h1 : 2 ^ (a.dp + 1) ≤ 2 ^ (max a.dp b.dp + 1) := Nat.pow_le_pow_right (by decide) (by omega)
    have h2 : 2 ^ (b.dp + 1) ≤ 2 ^ (max a.dp b.dp + 1) := Nat.pow_le_pow_right (by decide) (by omega)
    have h3 : 2 ^ (max a.dp b.dp + 1 + 1) = 2 ^ (max a.dp b.dp + 1) * 2 := Nat.pow_succ _ _
    simp only [sz, dp]; omega
  | bo a b iha ihb =>
    have h1 : 2 ^ (a.dp + 1) ≤ 2 ^ (max a.dp b.dp + 1) := Nat.pow_le_pow_right (by decide) (by omega)
    have h2 : 2 ^ (b.dp + 1) ≤ 2 ^ (max a.dp b.dp + 1) := Nat.pow_le_pow_right (by decide) (by omega)
    have h3 : 2 ^ (max a.dp b.dp + 1 + 1) = 2 ^ (max a.dp b.dp + 1) * 2 := Nat.pow_succ _ _
    simp only [sz, dp]; omega
  | an a iha =>
    have h3 : 2 ^ (a.dp + 1 + 1) = 2 ^ (a.dp + 1) * 2 := Nat.pow_succ _ _
    simp only [sz, dp]; omega
  | nt a iha =>
    have h3 : 2 ^ (a.dp + 1 + 1) = 2 ^ (a.dp + 1) * 2 := Nat.pow_succ _ _
    simp only [sz, dp]; omega
  | _ => simp [sz, dp]
theorem sz_le {f : Fm} {k : Nat} (h : f.dp ≤ k) : f.sz + 1 ≤ 2 ^ (k + 1) := Nat.le_trans f.sz_dp (Nat.pow_le_pow_right (by decide) (by omega))
def clo (f : Fm) : List Nat → Option (Fm × List Nat)
  | 41 :: r => some (f, r)
  | _ => none
def two (m : Nat) : Option (Fm → Fm → Fm) := if m = 124 then some .or else if m = 46 then some .sq else if m = 38 then some .bo else none
def rd (al : List Nat) : Nat → List Nat → Option (Fm × List Nat)
  | _, [] => none
  | k, c :: r => if c ∈ al then some (.sg c, r) else if c = 48 then some (.non, r) else if c = 49 then some (.emp, r) else if c = 40 then (match k with
    | 0 => none
    | k + 1 => match rd al k r with
      | none => none
      | some (_, []) => none
      | some (f, m :: r2) => if m = 42 then clo (.an f) r2 else if m = 33 then clo (.nt f) r2 else match two m with
        | none => none
        | some o => match rd al k r2 with
          | none => none
          | some (g, r3) => clo (o f g) r3) else none
end Fm
end Rf
set_option Elab.async false
set_option linter.all false
set_option maxRecDepth 100000
set_option maxHeartbeats 400000
set_option autoImplicit false
namespace Rf
open PySem PySem.Spec L2
section
variable {N : Ls → LH → Prop} {T : D → LH → Prop} {B C : Ls → LH → Prop} {X : Exn → Ls → LH → Prop} {ls : Ls} {h : LH}
theorem go_done {g : GM} {b : SM} {L : LI} {n i : Nat} (e : L i h = .done) (H : N ls h) : @okS (mForGo g b L (n + 1) i ls h) ⟨N, T, B, C, X⟩ := by
  unfold mForGo
  rw [e]; exact H
theorem go_item {g : GM} {b : SM} {L : LI} {n i : Nat} {d : D} {ls1 : Ls} (e : L i h = .item d) (eg : g d ls = some ls1)
    (H : @okS (b ls1 h) ⟨(fun l h => @okS (mForGo g b L n (i + 1) l h) ⟨N, T, B, C, X⟩), T, N, (fun l h => @okS (mForGo g b L n (i + 1) l h) ⟨N, T, B, C, X⟩), X⟩) : @okS (mForGo g b L (n + 1) i ls h) ⟨N, T, B, C, X⟩ := by
  unfold mForGo
  rw [e]
  simp only [eg]
  cases hb : b ls1 h with
  | nx l h' => rw [hb] at H; exact H
  | ct l h' => rw [hb] at H; exact H
  | bk l h' => rw [hb] at H; exact H
  | rt d h' => rw [hb] at H; exact H
  | ex x l h' => rw [hb] at H; exact H
  | bad => rw [hb] at H; exact H
theorem for_one {g : GM} {b : SM} {x : D} {ls1 : Ls} (eg : g x ls = some ls1) (H : @okS (b ls1 h) ⟨N, T, N, N, X⟩) : @okS (mForGo g b (liSeq [x]) 100000 0 ls h) ⟨N, T, B, C, X⟩ := by
  refine go_item (n := 99999) rfl eg ?_
  have e : ∀ l h, N l h → @okS (mForGo g b (liSeq [x]) 99999 (0 + 1) l h) ⟨N, T, B, C, X⟩ := fun l h z => go_done (n := 99998) rfl z
  cases hb : b ls1 h with
  | nx l h' => rw [hb] at H; exact e _ _ H
  | ct l h' => rw [hb] at H; exact e _ _ H
  | bk l h' => rw [hb] at H; exact H
  | rt d h' => rw [hb] at H; exact H
  | ex x l h' => rw [hb] at H; exact H
  | bad => rw [hb] at H; exact H
theorem for_two {g : GM} {b : SM} {x y : D} {ls1 : Ls} (eg : g x ls = some ls1)
    (H : @okS (b ls1 h) ⟨(fun l h => ∃ l2, g y l = some l2 ∧ @okS (b l2 h) ⟨N, T, N, N, X⟩), T, N, (fun l h => ∃ l2, g y l = some l2 ∧ @okS (b l2 h) ⟨N, T, N, N, X⟩), X⟩) : @okS (mForGo g b (liSeq [x, y]) 100000 0 ls h) ⟨N, T, B, C, X⟩ := by
  refine go_item (n := 99999) rfl eg ?_
  have e : ∀ l h, N l h → @okS (mForGo g b (liSeq [x, y]) 99998 (0 + 1 + 1) l h) ⟨N, T, B, C, X⟩ := fun l h z => go_done (n := 99997) rfl z
  have e1 : ∀ l h, (∃ l2, g y l = some l2 ∧ @okS (b l2 h) ⟨N, T, N, N, X⟩) → @okS (mForGo g b (liSeq [x, y]) 99999 (0 + 1) l h) ⟨N, T, B, C, X⟩ := fun l h ⟨l2, h1, h2⟩ => by
    refine go_item (n := 99998) rfl h1 ?_
    cases hb : b l2 h with
    | nx l h' => rw [hb] at h2; exact e _ _ h2
    | ct l h' => rw [hb] at h2; exact e _ _ h2
    | bk l h' => rw [hb] at h2; exact h2
    | rt d h' => rw [hb] at h2; exact h2
    | ex x l h' => rw [hb] at h2; exact h2
    | bad => rw [hb] at h2; exact h2
  cases hb : b ls1 h with
  | nx l h' => rw [hb] at H; exact e1 _ _ H
  | ct l h' => rw [hb] at H; exact e1 _ _ H
  | bk l h' => rw [hb] at H; exact H
  | rt d h' => rw [hb] at H; exact H
  | ex x l h' => rw [hb] at H; exact H
  | bad => rw [hb] at H; exact H
end
namespace Fm
theorem shp {al : List Nat} (ha : okT al = true) {f : Fm} (hf : f.Sg al) (df : f.dp ≤ 62) : SeqAt.shaped f.FP = true := by
  unfold SeqAt.shaped
  rw [lay_F ha f hf, decide_eq_true (by have := f.dep_F; omega)]; rfl
theorem eq_nil {al : List Nat} (ha : okT al = true) {f : Fm} (hf : f.Sg al) (df : f.dp ≤ 62) (h : LH) : dEq f.FD (.tup []) h = .ok (.bl false) h := by
  have e0 : eqS f.FD (.tup []) = none := by cases f <;> rfl
  have e1 : PyData.eqv f.FP (.tuple []) = false := by cases f <;> simp [FP, PyData.eqv, PyData.eqvAll]
  have e2 : pd h 66 (.tup []) = some (.tuple []) := by rw [show 66 = 65 + 1 from rfl, pd_tup]; rfl
  have s2 : SeqAt.shaped (.tuple []) = true := by
    unfold SeqAt.shaped
    rw [PyData.canLay0, PyData.canLayAll0, PyData.depth, PyData.depthAll]; rfl
  unfold dEq eqD
  simp only [e0, pd_F h 66 f (by omega), e2, shp ha hf df, s2, Bool.and_self, if_true, e1]
end Fm
end Rf
set_option Elab.async false
set_option linter.all false
set_option maxRecDepth 100000
set_option maxHeartbeats 1000000
set_option autoImplicit false
namespace Lw
open PySem PySem.Spec L2 Rf
theorem parts_two {rc : FM} {w al : List Nat} {x y : D} {a b k : Nat} (hw : w = [111, 114] ∨ w = [116, 104, 101, 110] ∨ w = [98, 111, 116, 104]) (nx : isFn x = false) (ny : isFn y = false)
    (e0 : dEq (.tup [.str w, x, y]) (.tup []) [] = .ok (.bl false) []) (ex : rc [x, .str al, .int ((k : Int) + 1)] [] = .ok (.int a) []) (ey : rc [y, .str al, .int ((k : Int) + 1)] [] = .ok (.int b) []) (hk : k ≤ 60) (hab : a + b + 1 ≤ 2000) :
    @okR _ (fm 8 (b1_parts_of rc) [.tup [.str w, x, y], .str al, .int k] []) ⟨fun d _ => d = .int ((a + b + 1 : Nat) : Int)⟩ ⟨fun _ _ => False⟩ := by
  have d1 : decide ((60 : Int) < (k : Int)) = false := decide_eq_false (by omega)
  have d2 : decide ((2000 : Int) < 1 + (a : Int)) = false := decide_eq_false (by omega)
  have d3 : decide ((2000 : Int) < 1 + (a : Int) + (b : Int)) = false := decide_eq_false (by omega)
  have ix0 : ∀ h : LH, dIx (.tup [.str w, x, y]) (.int 0) h = .ok (.str w) h := fun h => rfl
  have sl : ∀ h : LH, dSl (.tup [.str w, x, y]) (some 1) none h = .ok (.tup [x, y]) h := fun h => rfl
  have ln : ∀ h : LH, dLen (.tup [.str w, x, y]) h = .ok (.int 3) h := fun h => rfl
  have i1 : ∀ h : LH, dIn (.str w) (.tup [.str [110, 111, 110, 101], .str [101, 109, 112, 116, 121]]) h = .ok (.bl false) h := fun h => by
    rcases hw with rfl | rfl | rfl <;> rfl
  have i2 : ∀ h : LH, dIn (.str w) (.tup [.str [111, 114], .str [116, 104, 101, 110], .str [98, 111, 116, 104]]) h = .ok (.bl true) h := fun h => by
    rcases hw with rfl | rfl | rfl <;> rfl
  have i3 : ∀ h : LH, dEq (.str w) (.str [115, 105, 103, 110]) h = .ok (.bl false) h := fun h => by
    rcases hw with rfl | rfl | rfl <;> rfl
  have q0 : ∀ h : LH, dEq (.int 2) (.int 0) h = .ok (.bl false) h := fun h => rfl
  have q3 : ∀ h : LH, dNe (.int 3) (.int 3) h = .ok (.bl false) h := fun h => rfl
  have z2 : szOk ([.str [110, 111, 110, 101], .str [101, 109, 112, 116, 121]] : List D).length = true := rfl
  have z0 : szOk ([] : List D).length = true := rfl
  have s3 : (2 : Int) + 1 = 3 := rfl
  have ad : ∀ (i j : Int) (h : LH), dAdd (.int i) (.int j) h = .ok (.int (i + j)) h := fun _ _ _ => rfl
  have ia : ∀ (i j : Int) (h : LH), fIAdd (.int i) (.int j) h = .ok (.int (i + j)) h := fun _ _ _ => rfl
  have fg : ∀ (i j : Int) (h : LH), fGt (.int i) (.int j) h = .ok (.bl (decide (j < i))) h := fun _ _ _ => rfl
  show @okR _ (fin (b1_parts_of rc [some (.tup [.str w, x, y]), some (.str al), some (.int k), none, none, none, none, none] [])) ⟨_⟩ ⟨_⟩
  unfold b1_parts_of
  simp only [Rf.okR_ok, Rf.okR_ex, Rf.okS_nx, Rf.okS_rt, Rf.okS_bk, Rf.okS_ct, Rf.okS_ex, Rf.okR_bind, Rf.okS_lift, Rf.okS_seq, Rf.okS_if, Rf.okS_ret, Rf.okS_drop, Rf.okS_set, Rf.okS_next, Rf.okS_retN, Rf.okS_brk, Rf.okS_cont, Rf.okS_raise, Rf.okR_fin, Rf.okR_bin, Rf.okR_test, Rf.okR_not, Rf.okR_and, Rf.okR_or, Rf.okR_andV, Rf.okR_orV, Rf.okR_notV, Rf.okR_mif, Rf.okR_C, Rf.okR_nil, Rf.okR_yes, Rf.okR_cons, Rf.okR_call, Rf.okR_callK, Rf.okR_tup, Rf.okR_lst, Rf.okR_fld, Rf.okR_meth, Rf.okR_make, Rf.okR_bm, Rf.okR_isi, Rf.okS_for, Rf.okR_lc, Rf.okR_any, Rf.okS_asg, Rf.okS_setFld, Rf.okR_V, Rf.okR_chain, Rf.okR_rng1, Rf.okR_rng2, Rf.okR_neg, Rf.okR_sl, Rf.okR_noPart, Rf.okR_part, Rf.okS_sub, Rf.okS_par, List.getElem?_cons_zero, List.getElem?_cons_succ, List.set_cons_zero, List.set_cons_succ, if_true, if_false, Bool.false_eq_true, reduceIte, reduceCtorEq, Rf.tgOf, Rf.luk_c, Rf.f1, Rf.gV_non, Rf.gV_bl, Rf.gV_int, Rf.gV_str, Rf.gV_tup, Rf.gV_ktp, Rf.gV_rol, Rf.gV_ref, Rf.gd0, Rf.gdA, List.cons_append, List.nil_append, List.append_nil, List.take_succ_cons, List.take_zero, List.take_nil, List.drop_succ_cons, List.drop_zero, List.drop_nil, Rf.oI0, Rf.oI, Bool.not_true, Bool.not_false, e0, d1, ix0, sl, ln, i1, i2, i3, q0, q3, z2, z0, ad, s3, fg]
  refine for_two (g := gmName 7) rfl ?_
  rw [okS_seq, okS_aug (d := .int 1) rfl]
  simp only [Rf.okR_ok, Rf.okR_ex, Rf.okS_nx, Rf.okS_rt, Rf.okS_bk, Rf.okS_ct, Rf.okS_ex, Rf.okR_bind, Rf.okS_lift, Rf.okS_seq, Rf.okS_if, Rf.okS_ret, Rf.okS_drop, Rf.okS_set, Rf.okS_next, Rf.okS_retN, Rf.okS_brk, Rf.okS_cont, Rf.okS_raise, Rf.okR_fin, Rf.okR_bin, Rf.okR_test, Rf.okR_not, Rf.okR_and, Rf.okR_or, Rf.okR_andV, Rf.okR_orV, Rf.okR_notV, Rf.okR_mif, Rf.okR_C, Rf.okR_nil, Rf.okR_yes, Rf.okR_cons, Rf.okR_call, Rf.okR_callK, Rf.okR_tup, Rf.okR_lst, Rf.okR_fld, Rf.okR_meth, Rf.okR_make, Rf.okR_bm, Rf.okR_isi, Rf.okS_for, Rf.okR_lc, Rf.okR_any, Rf.okS_asg, Rf.okS_setFld, Rf.okR_V, Rf.okR_chain, Rf.okR_rng1, Rf.okR_rng2, Rf.okR_neg, Rf.okR_sl, Rf.okR_noPart, Rf.okR_part, Rf.okS_sub, Rf.okS_par, List.getElem?_cons_zero, List.getElem?_cons_succ, List.set_cons_zero, List.set_cons_succ, if_true, if_false, Bool.false_eq_true, reduceIte, reduceCtorEq, Rf.tgOf, Rf.luk_c, Rf.f1, Rf.gV_non, Rf.gV_bl, Rf.gV_int, Rf.gV_str, Rf.gV_tup, Rf.gV_ktp, Rf.gV_rol, Rf.gV_ref, Rf.gd0, Rf.gdA, List.cons_append, List.nil_append, List.append_nil, List.take_succ_cons, List.take_zero, List.take_nil, List.drop_succ_cons, List.drop_zero, List.drop_nil, Rf.oI0, Rf.oI, Bool.not_true, Bool.not_false, gV_nf nx, ad, ex, ia, fg, d2]
  refine ⟨_, rfl, ?_⟩
  simp only [List.set_cons_succ, List.set_cons_zero]
  rw [okS_aug (d := .int (1 + (a : Int))) rfl]
  simp only [Rf.okR_ok, Rf.okR_ex, Rf.okS_nx, Rf.okS_rt, Rf.okS_bk, Rf.okS_ct, Rf.okS_ex, Rf.okR_bind, Rf.okS_lift, Rf.okS_seq, Rf.okS_if, Rf.okS_ret, Rf.okS_drop, Rf.okS_set, Rf.okS_next, Rf.okS_retN, Rf.okS_brk, Rf.okS_cont, Rf.okS_raise, Rf.okR_fin, Rf.okR_bin, Rf.okR_test, Rf.okR_not, Rf.okR_and, Rf.okR_or, Rf.okR_andV, Rf.okR_orV, Rf.okR_notV, Rf.okR_mif, Rf.okR_C, Rf.okR_nil, Rf.okR_yes, Rf.okR_cons, Rf.okR_call, Rf.okR_callK, Rf.okR_tup, Rf.okR_lst, Rf.okR_fld, Rf.okR_meth, Rf.okR_make, Rf.okR_bm, Rf.okR_isi, Rf.okS_for, Rf.okR_lc, Rf.okR_any, Rf.okS_asg, Rf.okS_setFld, Rf.okR_V, Rf.okR_chain, Rf.okR_rng1, Rf.okR_rng2, Rf.okR_neg, Rf.okR_sl, Rf.okR_noPart, Rf.okR_part, Rf.okS_sub, Rf.okS_par, List.getElem?_cons_zero, List.getElem?_cons_succ, List.set_cons_zero, List.set_cons_succ, if_true, if_false, Bool.false_eq_true, reduceIte, reduceCtorEq, Rf.tgOf, Rf.luk_c, Rf.f1, Rf.gV_non, Rf.gV_bl, Rf.gV_int, Rf.gV_str, Rf.gV_tup, Rf.gV_ktp, Rf.gV_rol, Rf.gV_ref, Rf.gd0, Rf.gdA, List.cons_append, List.nil_append, List.append_nil, List.take_succ_cons, List.take_zero, List.take_nil, List.drop_succ_cons, List.drop_zero, List.drop_nil, Rf.oI0, Rf.oI, Bool.not_true, Bool.not_false, gV_nf ny, ad, ey, ia, fg, d3]
  congr 1; omega
theorem parts_one {rc : FM} {w al : List Nat} {x : D} {a k : Nat} (hw : w = [97, 110, 121] ∨ w = [110, 111, 116]) (nx : isFn x = false)
    (e0 : dEq (.tup [.str w, x]) (.tup []) [] = .ok (.bl false) []) (ex : rc [x, .str al, .int ((k : Int) + 1)] [] = .ok (.int a) []) (hk : k ≤ 60) (hab : a + 1 ≤ 2000) :
    @okR _ (fm 8 (b1_parts_of rc) [.tup [.str w, x], .str al, .int k] []) ⟨fun d _ => d = .int ((a + 1 : Nat) : Int)⟩ ⟨fun _ _ => False⟩ := by
  have d1 : decide ((60 : Int) < (k : Int)) = false := decide_eq_false (by omega)
  have d2 : decide ((2000 : Int) < 1 + (a : Int)) = false := decide_eq_false (by omega)
  have ix0 : ∀ h : LH, dIx (.tup [.str w, x]) (.int 0) h = .ok (.str w) h := fun h => rfl
  have sl : ∀ h : LH, dSl (.tup [.str w, x]) (some 1) none h = .ok (.tup [x]) h := fun h => rfl
  have ln : ∀ h : LH, dLen (.tup [.str w, x]) h = .ok (.int 2) h := fun h => rfl
  have i1 : ∀ h : LH, dIn (.str w) (.tup [.str [110, 111, 110, 101], .str [101, 109, 112, 116, 121]]) h = .ok (.bl false) h := fun h => by
    rcases hw with rfl | rfl <;> rfl
  have i2 : ∀ h : LH, dIn (.str w) (.tup [.str [111, 114], .str [116, 104, 101, 110], .str [98, 111, 116, 104]]) h = .ok (.bl false) h := fun h => by
    rcases hw with rfl | rfl <;> rfl
  have i4 : ∀ h : LH, dIn (.str w) (.tup [.str [97, 110, 121], .str [110, 111, 116]]) h = .ok (.bl true) h := fun h => by
    rcases hw with rfl | rfl <;> rfl
  have i3 : ∀ h : LH, dEq (.str w) (.str [115, 105, 103, 110]) h = .ok (.bl false) h := fun h => by
    rcases hw with rfl | rfl <;> rfl
  have q0 : ∀ h : LH, dEq (.int 1) (.int 0) h = .ok (.bl false) h := fun h => rfl
  have q3 : ∀ h : LH, dNe (.int 2) (.int 2) h = .ok (.bl false) h := fun h => rfl
  have z2 : szOk ([.str [110, 111, 110, 101], .str [101, 109, 112, 116, 121]] : List D).length = true := rfl
  have z0 : szOk ([] : List D).length = true := rfl
  have s3 : (1 : Int) + 1 = 2 := rfl
  have ad : ∀ (i j : Int) (h : LH), dAdd (.int i) (.int j) h = .ok (.int (i + j)) h := fun _ _ _ => rfl
  have ia : ∀ (i j : Int) (h : LH), fIAdd (.int i) (.int j) h = .ok (.int (i + j)) h := fun _ _ _ => rfl
  have fg : ∀ (i j : Int) (h : LH), fGt (.int i) (.int j) h = .ok (.bl (decide (j < i))) h := fun _ _ _ => rfl
  show @okR _ (fin (b1_parts_of rc [some (.tup [.str w, x]), some (.str al), some (.int k), none, none, none, none, none] [])) ⟨_⟩ ⟨_⟩
  unfold b1_parts_of
  simp only [Rf.okR_ok, Rf.okR_ex, Rf.okS_nx, Rf.okS_rt, Rf.okS_bk, Rf.okS_ct, Rf.okS_ex, Rf.okR_bind, Rf.okS_lift, Rf.okS_seq, Rf.okS_if, Rf.okS_ret, Rf.okS_drop, Rf.okS_set, Rf.okS_next, Rf.okS_retN, Rf.okS_brk, Rf.okS_cont, Rf.okS_raise, Rf.okR_fin, Rf.okR_bin, Rf.okR_test, Rf.okR_not, Rf.okR_and, Rf.okR_or, Rf.okR_andV, Rf.okR_orV, Rf.okR_notV, Rf.okR_mif, Rf.okR_C, Rf.okR_nil, Rf.okR_yes, Rf.okR_cons, Rf.okR_call, Rf.okR_callK, Rf.okR_tup, Rf.okR_lst, Rf.okR_fld, Rf.okR_meth, Rf.okR_make, Rf.okR_bm, Rf.okR_isi, Rf.okS_for, Rf.okR_lc, Rf.okR_any, Rf.okS_asg, Rf.okS_setFld, Rf.okR_V, Rf.okR_chain, Rf.okR_rng1, Rf.okR_rng2, Rf.okR_neg, Rf.okR_sl, Rf.okR_noPart, Rf.okR_part, Rf.okS_sub, Rf.okS_par, List.getElem?_cons_zero, List.getElem?_cons_succ, List.set_cons_zero, List.set_cons_succ, if_true, if_false, Bool.false_eq_true, reduceIte, reduceCtorEq, Rf.tgOf, Rf.luk_c, Rf.f1, Rf.gV_non, Rf.gV_bl, Rf.gV_int, Rf.gV_str, Rf.gV_tup, Rf.gV_ktp, Rf.gV_rol, Rf.gV_ref, Rf.gd0, Rf.gdA, List.cons_append, List.nil_append, List.append_nil, List.take_succ_cons, List.take_zero, List.take_nil, List.drop_succ_cons, List.drop_zero, List.drop_nil, Rf.oI0, Rf.oI, Bool.not_true, Bool.not_false, e0, d1, ix0, sl, ln, i1, i2, i3, i4, q0, q3, z2, z0, ad, s3, fg]
  refine for_one (g := gmName 7) rfl ?_
  rw [okS_seq, okS_aug (d := .int 1) rfl]
  simp only [Rf.okR_ok, Rf.okR_ex, Rf.okS_nx, Rf.okS_rt, Rf.okS_bk, Rf.okS_ct, Rf.okS_ex, Rf.okR_bind, Rf.okS_lift, Rf.okS_seq, Rf.okS_if, Rf.okS_ret, Rf.okS_drop, Rf.okS_set, Rf.okS_next, Rf.okS_retN, Rf.okS_brk, Rf.okS_cont, Rf.okS_raise, Rf.okR_fin, Rf.okR_bin, Rf.okR_test, Rf.okR_not, Rf.okR_and, Rf.okR_or, Rf.okR_andV, Rf.okR_orV, Rf.okR_notV, Rf.okR_mif, Rf.okR_C, Rf.okR_nil, Rf.okR_yes, Rf.okR_cons, Rf.okR_call, Rf.okR_callK, Rf.okR_tup, Rf.okR_lst, Rf.okR_fld, Rf.okR_meth, Rf.okR_make, Rf.okR_bm, Rf.okR_isi, Rf.okS_for, Rf.okR_lc, Rf.okR_any, Rf.okS_asg, Rf.okS_setFld, Rf.okR_V, Rf.okR_chain, Rf.okR_rng1, Rf.okR_rng2, Rf.okR_neg, Rf.okR_sl, Rf.okR_noPart, Rf.okR_part, Rf.okS_sub, Rf.okS_par, List.getElem?_cons_zero, List.getElem?_cons_succ, List.set_cons_zero, List.set_cons_succ, if_true, if_false, Bool.false_eq_true, reduceIte, reduceCtorEq, Rf.tgOf, Rf.luk_c, Rf.f1, Rf.gV_non, Rf.gV_bl, Rf.gV_int, Rf.gV_str, Rf.gV_tup, Rf.gV_ktp, Rf.gV_rol, Rf.gV_ref, Rf.gd0, Rf.gdA, List.cons_append, List.nil_append, List.append_nil, List.take_succ_cons, List.take_zero, List.take_nil, List.drop_succ_cons, List.drop_zero, List.drop_nil, Rf.oI0, Rf.oI, Bool.not_true, Bool.not_false, gV_nf nx, ad, ex, ia, fg, d2]
  congr 1; omega
theorem parts_leaf {m : SM} (hm : m = b0_parts_of ∨ ∃ rc, m = b1_parts_of rc) {al : List Nat} {k : Nat} (hk : k ≤ 60) {f : Fm} (hl : f.dp = 0) (hs : f.Sg al) (e0 : dEq f.FD (.tup []) [] = .ok (.bl false) []) :
    @okR _ (fm 8 m [f.FD, .str al, .int k] []) ⟨fun d _ => d = .int ((f.sz : Nat) : Int)⟩ ⟨fun _ _ => False⟩ := by
  have d1 : decide ((60 : Int) < (k : Int)) = false := decide_eq_false (by omega)
  have ad : ∀ (i j : Int) (h : LH), dAdd (.int i) (.int j) h = .ok (.int (i + j)) h := fun _ _ _ => rfl
  have fg : ∀ (i j : Int) (h : LH), fGt (.int i) (.int j) h = .ok (.bl (decide (j < i))) h := fun _ _ _ => rfl
  have q1 : ∀ h : LH, dEq (.int 1) (.int 1) h = .ok (.bl true) h := fun h => rfl
  have q2 : ∀ h : LH, dEq (.int 2) (.int 2) h = .ok (.bl true) h := fun h => rfl
  have z2 : szOk ([.str [110, 111, 110, 101], .str [101, 109, 112, 116, 121]] : List D).length = true := rfl
  have z0 : szOk ([] : List D).length = true := rfl
  cases f with
  | or a b => cases hl
  | sq a b => cases hl
  | bo a b => cases hl
  | an a => cases hl
  | nt a => cases hl
  | sg c =>
    replace hs : c ∈ al := hs
    have ix0 : ∀ h : LH, dIx (.tup [.str [115, 105, 103, 110], .str [c]]) (.int 0) h = .ok (.str [115, 105, 103, 110]) h := fun h => rfl
    have ix1 : ∀ h : LH, dIx (.tup [.str [115, 105, 103, 110], .str [c]]) (.int 1) h = .ok (.str [c]) h := fun h => rfl
    have ln : ∀ h : LH, dLen (.tup [.str [115, 105, 103, 110], .str [c]]) h = .ok (.int 2) h := fun h => rfl
    have ln1 : ∀ h : LH, dLen (.str [c]) h = .ok (.int 1) h := fun h => rfl
    have i1 : ∀ h : LH, dIn (.str [115, 105, 103, 110]) (.tup [.str [110, 111, 110, 101], .str [101, 109, 112, 116, 121]]) h = .ok (.bl false) h := fun h => rfl
    have i3 : ∀ h : LH, dEq (.str [115, 105, 103, 110]) (.str [115, 105, 103, 110]) h = .ok (.bl true) h := fun h => rfl
    have ic : ∀ h : LH, dIn (.str [c]) (.str al) h = .ok (.bl true) h := fun h => by simp only [dIn, inD, decide_eq_true hs]
    show @okR _ (fin (m [some (.tup [.str [115, 105, 103, 110], .str [c]]), some (.str al), some (.int k), none, none, none, none, none] [])) ⟨_⟩ ⟨_⟩
    replace e0 : dEq (.tup [.str [115, 105, 103, 110], .str [c]]) (.tup []) [] = .ok (.bl false) [] := e0
    rcases hm with rfl | ⟨rc, rfl⟩
    · unfold b0_parts_of
      simp only [Rf.okR_ok, Rf.okR_ex, Rf.okS_nx, Rf.okS_rt, Rf.okS_bk, Rf.okS_ct, Rf.okS_ex, Rf.okR_bind, Rf.okS_lift, Rf.okS_seq, Rf.okS_if, Rf.okS_ret, Rf.okS_drop, Rf.okS_set, Rf.okS_next, Rf.okS_retN, Rf.okS_brk, Rf.okS_cont, Rf.okS_raise, Rf.okR_fin, Rf.okR_bin, Rf.okR_test, Rf.okR_not, Rf.okR_and, Rf.okR_or, Rf.okR_andV, Rf.okR_orV, Rf.okR_notV, Rf.okR_mif, Rf.okR_C, Rf.okR_nil, Rf.okR_yes, Rf.okR_cons, Rf.okR_call, Rf.okR_callK, Rf.okR_tup, Rf.okR_lst, Rf.okR_fld, Rf.okR_meth, Rf.okR_make, Rf.okR_bm, Rf.okR_isi, Rf.okS_for, Rf.okR_lc, Rf.okR_any, Rf.okS_asg, Rf.okS_setFld, Rf.okR_V, Rf.okR_chain, Rf.okR_rng1, Rf.okR_rng2, Rf.okR_neg, Rf.okR_sl, Rf.okR_noPart, Rf.okR_part, Rf.okS_sub, Rf.okS_par, List.getElem?_cons_zero, List.getElem?_cons_succ, List.set_cons_zero, List.set_cons_succ, if_true, if_false, Bool.false_eq_true, reduceIte, reduceCtorEq, Rf.tgOf, Rf.luk_c, Rf.f1, Rf.gV_non, Rf.gV_bl, Rf.gV_int, Rf.gV_str, Rf.gV_tup, Rf.gV_ktp, Rf.gV_rol, Rf.gV_ref, Rf.gd0, Rf.gdA, List.cons_append, List.nil_append, List.append_nil, List.take_succ_cons, List.take_zero, List.take_nil, List.drop_succ_cons, List.drop_zero, List.drop_nil, Rf.oI0, Rf.oI, Bool.not_true, Bool.not_false, e0, d1, ix0, ix1, ln, ln1, i1, i3, ic, q1, q2, z2, z0, ad, fg]; rfl
    · unfold b1_parts_of
      simp only [Rf.okR_ok, Rf.okR_ex, Rf.okS_nx, Rf.okS_rt, Rf.okS_bk, Rf.okS_ct, Rf.okS_ex, Rf.okR_bind, Rf.okS_lift, Rf.okS_seq, Rf.okS_if, Rf.okS_ret, Rf.okS_drop, Rf.okS_set, Rf.okS_next, Rf.okS_retN, Rf.okS_brk, Rf.okS_cont, Rf.okS_raise, Rf.okR_fin, Rf.okR_bin, Rf.okR_test, Rf.okR_not, Rf.okR_and, Rf.okR_or, Rf.okR_andV, Rf.okR_orV, Rf.okR_notV, Rf.okR_mif, Rf.okR_C, Rf.okR_nil, Rf.okR_yes, Rf.okR_cons, Rf.okR_call, Rf.okR_callK, Rf.okR_tup, Rf.okR_lst, Rf.okR_fld, Rf.okR_meth, Rf.okR_make, Rf.okR_bm, Rf.okR_isi, Rf.okS_for, Rf.okR_lc, Rf.okR_any, Rf.okS_asg, Rf.okS_setFld, Rf.okR_V, Rf.okR_chain, Rf.okR_rng1, Rf.okR_rng2, Rf.okR_neg, Rf.okR_sl, Rf.okR_noPart, Rf.okR_part, Rf.okS_sub, Rf.okS_par, List.getElem?_cons_zero, List.getElem?_cons_succ, List.set_cons_zero, List.set_cons_succ, if_true, if_false, Bool.false_eq_true, reduceIte, reduceCtorEq, Rf.tgOf, Rf.luk_c, Rf.f1, Rf.gV_non, Rf.gV_bl, Rf.gV_int, Rf.gV_str, Rf.gV_tup, Rf.gV_ktp, Rf.gV_rol, Rf.gV_ref, Rf.gd0, Rf.gdA, List.cons_append, List.nil_append, List.append_nil, List.take_succ_cons, List.take_zero, List.take_nil, List.drop_succ_cons, List.drop_zero, List.drop_nil, Rf.oI0, Rf.oI, Bool.not_true, Bool.not_false, e0, d1, ix0, ix1, ln, ln1, i1, i3, ic, q1, q2, z2, z0, ad, fg]; rfl
  | non =>
    have ix0 : ∀ h : LH, dIx (.tup [.str [110, 111, 110, 101]]) (.int 0) h = .ok (.str [110, 111, 110, 101]) h := fun h => rfl
    have ln : ∀ h : LH, dLen (.tup [.str [110, 111, 110, 101]]) h = .ok (.int 1) h := fun h => rfl
    have i1 : ∀ h : LH, dIn (.str [110, 111, 110, 101]) (.tup [.str [110, 111, 110, 101], .str [101, 109, 112, 116, 121]]) h = .ok (.bl true) h := fun h => rfl
    show @okR _ (fin (m [some (.tup [.str [110, 111, 110, 101]]), some (.str al), some (.int k), none, none, none, none, none] [])) ⟨_⟩ ⟨_⟩
    replace e0 : dEq (.tup [.str [110, 111, 110, 101]]) (.tup []) [] = .ok (.bl false) [] := e0
    rcases hm with rfl | ⟨rc, rfl⟩
    · unfold b0_parts_of
      simp only [Rf.okR_ok, Rf.okR_ex, Rf.okS_nx, Rf.okS_rt, Rf.okS_bk, Rf.okS_ct, Rf.okS_ex, Rf.okR_bind, Rf.okS_lift, Rf.okS_seq, Rf.okS_if, Rf.okS_ret, Rf.okS_drop, Rf.okS_set, Rf.okS_next, Rf.okS_retN, Rf.okS_brk, Rf.okS_cont, Rf.okS_raise, Rf.okR_fin, Rf.okR_bin, Rf.okR_test, Rf.okR_not, Rf.okR_and, Rf.okR_or, Rf.okR_andV, Rf.okR_orV, Rf.okR_notV, Rf.okR_mif, Rf.okR_C, Rf.okR_nil, Rf.okR_yes, Rf.okR_cons, Rf.okR_call, Rf.okR_callK, Rf.okR_tup, Rf.okR_lst, Rf.okR_fld, Rf.okR_meth, Rf.okR_make, Rf.okR_bm, Rf.okR_isi, Rf.okS_for, Rf.okR_lc, Rf.okR_any, Rf.okS_asg, Rf.okS_setFld, Rf.okR_V, Rf.okR_chain, Rf.okR_rng1, Rf.okR_rng2, Rf.okR_neg, Rf.okR_sl, Rf.okR_noPart, Rf.okR_part, Rf.okS_sub, Rf.okS_par, List.getElem?_cons_zero, List.getElem?_cons_succ, List.set_cons_zero, List.set_cons_succ, if_true, if_false, Bool.false_eq_true, reduceIte, reduceCtorEq, Rf.tgOf, Rf.luk_c, Rf.f1, Rf.gV_non, Rf.gV_bl, Rf.gV_int, Rf.gV_str, Rf.gV_tup, Rf.gV_ktp, Rf.gV_rol, Rf.gV_ref, Rf.gd0, Rf.gdA, List.cons_append, List.nil_append, List.append_nil, List.take_succ_cons, List.take_zero, List.take_nil, List.drop_succ_cons, List.drop_zero, List.drop_nil, Rf.oI0, Rf.oI, Bool.not_true, Bool.not_false, e0, d1, ix0, ln, i1, q1, z2, z0, ad, fg]; rfl
    · unfold b1_parts_of
      simp only [Rf.okR_ok, Rf.okR_ex, Rf.okS_nx, Rf.okS_rt, Rf.okS_bk, Rf.okS_ct, Rf.okS_ex, Rf.okR_bind, Rf.okS_lift, Rf.okS_seq, Rf.okS_if, Rf.okS_ret, Rf.okS_drop, Rf.okS_set, Rf.okS_next, Rf.okS_retN, Rf.okS_brk, Rf.okS_cont, Rf.okS_raise, Rf.okR_fin, Rf.okR_bin, Rf.okR_test, Rf.okR_not, Rf.okR_and, Rf.okR_or, Rf.okR_andV, Rf.okR_orV, Rf.okR_notV, Rf.okR_mif, Rf.okR_C, Rf.okR_nil, Rf.okR_yes, Rf.okR_cons, Rf.okR_call, Rf.okR_callK, Rf.okR_tup, Rf.okR_lst, Rf.okR_fld, Rf.okR_meth, Rf.okR_make, Rf.okR_bm, Rf.okR_isi, Rf.okS_for, Rf.okR_lc, Rf.okR_any, Rf.okS_asg, Rf.okS_setFld, Rf.okR_V, Rf.okR_chain, Rf.okR_rng1, Rf.okR_rng2, Rf.okR_neg, Rf.okR_sl, Rf.okR_noPart, Rf.okR_part, Rf.okS_sub, Rf.okS_par, List.getElem?_cons_zero, List.getElem?_cons_succ, List.set_cons_zero, List.set_cons_succ, if_true, if_false, Bool.false_eq_true, reduceIte, reduceCtorEq, Rf.tgOf, Rf.luk_c, Rf.f1, Rf.gV_non, Rf.gV_bl, Rf.gV_int, Rf.gV_str, Rf.gV_tup, Rf.gV_ktp, Rf.gV_rol, Rf.gV_ref, Rf.gd0, Rf.gdA, List.cons_append, List.nil_append, List.append_nil, List.take_succ_cons, List.take_zero, List.take_nil, List.drop_succ_cons, List.drop_zero, List.drop_nil, Rf.oI0, Rf.oI, Bool.not_true, Bool.not_false, e0, d1, ix0, ln, i1, q1, z2, z0, ad, fg]; rfl
  | emp =>
    have ix0 : ∀ h : LH, dIx (.tup [.str [101, 109, 112, 116, 121]]) (.int 0) h = .ok (.str [101, 109, 112, 116, 121]) h := fun h => rfl
    have ln : ∀ h : LH, dLen (.tup [.str [101, 109, 112, 116, 121]]) h = .ok (.int 1) h := fun h => rfl
    have i1 : ∀ h : LH, dIn (.str [101, 109, 112, 116, 121]) (.tup [.str [110, 111, 110, 101], .str [101, 109, 112, 116, 121]]) h = .ok (.bl true) h := fun h => rfl
    show @okR _ (fin (m [some (.tup [.str [101, 109, 112, 116, 121]]), some (.str al), some (.int k), none, none, none, none, none] [])) ⟨_⟩ ⟨_⟩
    replace e0 : dEq (.tup [.str [101, 109, 112, 116, 121]]) (.tup []) [] = .ok (.bl false) [] := e0
    rcases hm with rfl | ⟨rc, rfl⟩
    · unfold b0_parts_of
      simp only [Rf.okR_ok, Rf.okR_ex, Rf.okS_nx, Rf.okS_rt, Rf.okS_bk, Rf.okS_ct, Rf.okS_ex, Rf.okR_bind, Rf.okS_lift, Rf.okS_seq, Rf.okS_if, Rf.okS_ret, Rf.okS_drop, Rf.okS_set, Rf.okS_next, Rf.okS_retN, Rf.okS_brk, Rf.okS_cont, Rf.okS_raise, Rf.okR_fin, Rf.okR_bin, Rf.okR_test, Rf.okR_not, Rf.okR_and, Rf.okR_or, Rf.okR_andV, Rf.okR_orV, Rf.okR_notV, Rf.okR_mif, Rf.okR_C, Rf.okR_nil, Rf.okR_yes, Rf.okR_cons, Rf.okR_call, Rf.okR_callK, Rf.okR_tup, Rf.okR_lst, Rf.okR_fld, Rf.okR_meth, Rf.okR_make, Rf.okR_bm, Rf.okR_isi, Rf.okS_for, Rf.okR_lc, Rf.okR_any, Rf.okS_asg, Rf.okS_setFld, Rf.okR_V, Rf.okR_chain, Rf.okR_rng1, Rf.okR_rng2, Rf.okR_neg, Rf.okR_sl, Rf.okR_noPart, Rf.okR_part, Rf.okS_sub, Rf.okS_par, List.getElem?_cons_zero, List.getElem?_cons_succ, List.set_cons_zero, List.set_cons_succ, if_true, if_false, Bool.false_eq_true, reduceIte, reduceCtorEq, Rf.tgOf, Rf.luk_c, Rf.f1, Rf.gV_non, Rf.gV_bl, Rf.gV_int, Rf.gV_str, Rf.gV_tup, Rf.gV_ktp, Rf.gV_rol, Rf.gV_ref, Rf.gd0, Rf.gdA, List.cons_append, List.nil_append, List.append_nil, List.take_succ_cons, List.take_zero, List.take_nil, List.drop_succ_cons, List.drop_zero, List.drop_nil, Rf.oI0, Rf.oI, Bool.not_true, Bool.not_false, e0, d1, ix0, ln, i1, q1, z2, z0, ad, fg]; rfl
    · unfold b1_parts_of
      simp only [Rf.okR_ok, Rf.okR_ex, Rf.okS_nx, Rf.okS_rt, Rf.okS_bk, Rf.okS_ct, Rf.okS_ex, Rf.okR_bind, Rf.okS_lift, Rf.okS_seq, Rf.okS_if, Rf.okS_ret, Rf.okS_drop, Rf.okS_set, Rf.okS_next, Rf.okS_retN, Rf.okS_brk, Rf.okS_cont, Rf.okS_raise, Rf.okR_fin, Rf.okR_bin, Rf.okR_test, Rf.okR_not, Rf.okR_and, Rf.okR_or, Rf.okR_andV, Rf.okR_orV, Rf.okR_notV, Rf.okR_mif, Rf.okR_C, Rf.okR_nil, Rf.okR_yes, Rf.okR_cons, Rf.okR_call, Rf.okR_callK, Rf.okR_tup, Rf.okR_lst, Rf.okR_fld, Rf.okR_meth, Rf.okR_make, Rf.okR_bm, Rf.okR_isi, Rf.okS_for, Rf.okR_lc, Rf.okR_any, Rf.okS_asg, Rf.okS_setFld, Rf.okR_V, Rf.okR_chain, Rf.okR_rng1, Rf.okR_rng2, Rf.okR_neg, Rf.okR_sl, Rf.okR_noPart, Rf.okR_part, Rf.okS_sub, Rf.okS_par, List.getElem?_cons_zero, List.getElem?_cons_succ, List.set_cons_zero, List.set_cons_succ, if_true, if_false, Bool.false_eq_true, reduceIte, reduceCtorEq, Rf.tgOf, Rf.luk_c, Rf.f1, Rf.gV_non, Rf.gV_bl, Rf.gV_int, Rf.gV_str, Rf.gV_tup, Rf.gV_ktp, Rf.gV_rol, Rf.gV_ref, Rf.gd0, Rf.gdA, List.cons_append, List.nil_append, List.append_nil, List.take_succ_cons, List.take_zero, List.take_nil, List.drop_succ_cons, List.drop_zero, List.drop_nil, Rf.oI0, Rf.oI, Bool.not_true, Bool.not_false, e0, d1, ix0, ln, i1, q1, z2, z0, ad, fg]; rfl
theorem pure_pa {f : Fm} {al : List Nat} {k : Int} : pureDs [f.FD, .str al, .int k] = true := by simp [pureDs, f.pure, pureD]
theorem M_parts_ok {al : List Nat} (ha : okT al = true) : ∀ (n : Nat) (f : Fm) (k : Nat) (h : LH), f.Sg al → f.dp ≤ n → k + f.dp ≤ 60 → f.sz ≤ 2000 → M_parts_of n [f.FD, .str al, .int k] h = .ok (.int (f.sz : Nat)) h := by
  intro n
  induction n with
  | zero =>
    intro f k h hs hd hk hz
    exact runA_is h pure_pa (parts_leaf (.inl rfl) (by omega) (by omega) hs (Fm.eq_nil ha hs (by omega) [])) rfl
  | succ n ih =>
    intro f k h hs hd hk hz
    have e0 := Fm.eq_nil ha hs (by omega) []
    have leaf : f.dp = 0 → M_parts_of (n + 1) [f.FD, .str al, .int k] h = .ok (.int (f.sz : Nat)) h := fun hl => runA_is h pure_pa (parts_leaf (.inr ⟨_, rfl⟩) (by omega) hl hs e0) rfl
    cases f with
    | non => exact leaf rfl
    | emp => exact leaf rfl
    | sg c => exact leaf rfl
    | or a b =>
      simp only [Fm.dp] at hd hk; simp only [Fm.sz] at hz
      exact runA_is h pure_pa (parts_two (.inl rfl) a.nf b.nf e0 (ih a (k + 1) [] hs.1 (by omega) (by omega) (by omega)) (ih b (k + 1) [] hs.2 (by omega) (by omega) (by omega)) (by omega) (by omega)) rfl
    | sq a b =>
      simp only [Fm.dp] at hd hk; simp only [Fm.sz] at hz
      exact runA_is h pure_pa (parts_two (.inr (.inl rfl)) a.nf b.nf e0 (ih a (k + 1) [] hs.1 (by omega) (by omega) (by omega)) (ih b (k + 1) [] hs.2 (by omega) (by omega) (by omega)) (by omega) (by omega)) rfl
    | bo a b =>
      simp only [Fm.dp] at hd hk; simp only [Fm.sz] at hz
      exact runA_is h pure_pa (parts_two (.inr (.inr rfl)) a.nf b.nf e0 (ih a (k + 1) [] hs.1 (by omega) (by omega) (by omega)) (ih b (k + 1) [] hs.2 (by omega) (by omega) (by omega)) (by omega) (by omega)) rfl
    | an a =>
      simp only [Fm.dp] at hd hk; simp only [Fm.sz] at hz
      exact runA_is h pure_pa (parts_one (.inl rfl) a.nf e0 (ih a (k + 1) [] hs (by omega) (by omega) (by omega)) (by omega) (by omega)) rfl
    | nt a =>
      simp only [Fm.dp] at hd hk; simp only [Fm.sz] at hz
      exact runA_is h pure_pa (parts_one (.inr rfl) a.nf e0 (ih a (k + 1) [] hs (by omega) (by omega) (by omega)) (by omega) (by omega)) rfl
theorem parts_ok {al : List Nat} (ha : okT al = true) {f : Fm} (hs : f.Sg al) (hd : f.dp ≤ 60) (hz : f.sz ≤ 2000) (h : LH) : m_parts_of [f.FD, .str al, .int 0] h = .ok (.int (f.sz : Nat)) h := M_parts_ok ha 62 f 0 h hs (by omega) (by omega) hz
theorem look_form_ok {al : List Nat} (ha : okT al = true) {f : Fm} (hs : f.Sg al) (hd : f.dp ≤ 60) (hz : f.sz ≤ 2000) (h : LH) : m_look_form [f.FD, .str al] h = .ok .non h := by
  refine runA_is h (by simp [pureDs, f.pure, pureD]) ?_ rfl
  have fg : ∀ (i j : Int) (h : LH), fGt (.int i) (.int j) h = .ok (.bl (decide (j < i))) h := fun _ _ _ => rfl
  have d1 : decide ((2000 : Int) < (f.sz : Nat)) = false := decide_eq_false (by omega)
  have pa := parts_ok ha hs hd hz
  show @okR _ (fin (b_look_form [some f.FD, some (.str al)] [])) ⟨_⟩ ⟨_⟩
  unfold b_look_form
  simp only [Rf.okR_ok, Rf.okR_ex, Rf.okS_nx, Rf.okS_rt, Rf.okS_bk, Rf.okS_ct, Rf.okS_ex, Rf.okR_bind, Rf.okS_lift, Rf.okS_seq, Rf.okS_if, Rf.okS_ret, Rf.okS_drop, Rf.okS_set, Rf.okS_next, Rf.okS_retN, Rf.okS_brk, Rf.okS_cont, Rf.okS_raise, Rf.okR_fin, Rf.okR_bin, Rf.okR_test, Rf.okR_not, Rf.okR_and, Rf.okR_or, Rf.okR_andV, Rf.okR_orV, Rf.okR_notV, Rf.okR_mif, Rf.okR_C, Rf.okR_nil, Rf.okR_yes, Rf.okR_cons, Rf.okR_call, Rf.okR_callK, Rf.okR_tup, Rf.okR_lst, Rf.okR_fld, Rf.okR_meth, Rf.okR_make, Rf.okR_bm, Rf.okR_isi, Rf.okS_for, Rf.okR_lc, Rf.okR_any, Rf.okS_asg, Rf.okS_setFld, Rf.okR_V, Rf.okR_chain, Rf.okR_rng1, Rf.okR_rng2, Rf.okR_neg, Rf.okR_sl, Rf.okR_noPart, Rf.okR_part, Rf.okS_sub, Rf.okS_par, List.getElem?_cons_zero, List.getElem?_cons_succ, List.set_cons_zero, List.set_cons_succ, if_true, if_false, Bool.false_eq_true, reduceIte, reduceCtorEq, Rf.tgOf, Rf.luk_c, Rf.f1, Rf.gV_non, Rf.gV_bl, Rf.gV_int, Rf.gV_str, Rf.gV_tup, Rf.gV_ktp, Rf.gV_rol, Rf.gV_ref, Rf.gd0, Rf.gdA, List.cons_append, List.nil_append, List.append_nil, List.take_succ_cons, List.take_zero, List.take_nil, List.drop_succ_cons, List.drop_zero, List.drop_nil, Rf.oI0, Rf.oI, Bool.not_true, Bool.not_false, gV_nf f.nf, pa, fg, d1]
theorem is_form_ok {al : List Nat} (A : Al al) (ha : okT al = true) {f : Fm} (hs : f.Sg al) (hd : f.dp ≤ 60) (hz : f.sz ≤ 2000) (h : LH) : m_is_form [f.FD, .str al] h = .ok (.bl true) h := by
  refine runA_is h (by simp [pureDs, f.pure, pureD]) ?_ rfl
  have fl : ∀ (i j : Int) (h : LH), fLe (.int i) (.int j) h = .ok (.bl (decide (i ≤ j))) h := fun _ _ _ => rfl
  have d1 : decide (((f.sz : Nat) : Int) ≤ 2000) = true := decide_eq_true (by omega)
  have pa := parts_ok ha hs hd hz
  have al0 := A.look
  show @okR _ (fin (b_is_form [some f.FD, some (.str al)] [])) ⟨_⟩ ⟨_⟩
  unfold b_is_form
  simp only [Rf.okR_ok, Rf.okR_ex, Rf.okS_nx, Rf.okS_rt, Rf.okS_bk, Rf.okS_ct, Rf.okS_ex, Rf.okR_bind, Rf.okS_lift, Rf.okS_seq, Rf.okS_if, Rf.okS_ret, Rf.okS_drop, Rf.okS_set, Rf.okS_next, Rf.okS_retN, Rf.okS_brk, Rf.okS_cont, Rf.okS_raise, Rf.okR_fin, Rf.okR_bin, Rf.okR_test, Rf.okR_not, Rf.okR_and, Rf.okR_or, Rf.okR_andV, Rf.okR_orV, Rf.okR_notV, Rf.okR_mif, Rf.okR_C, Rf.okR_nil, Rf.okR_yes, Rf.okR_cons, Rf.okR_call, Rf.okR_callK, Rf.okR_tup, Rf.okR_lst, Rf.okR_fld, Rf.okR_meth, Rf.okR_make, Rf.okR_bm, Rf.okR_isi, Rf.okS_for, Rf.okR_lc, Rf.okR_any, Rf.okS_asg, Rf.okS_setFld, Rf.okR_V, Rf.okR_chain, Rf.okR_rng1, Rf.okR_rng2, Rf.okR_neg, Rf.okR_sl, Rf.okR_noPart, Rf.okR_part, Rf.okS_sub, Rf.okS_par, List.getElem?_cons_zero, List.getElem?_cons_succ, List.set_cons_zero, List.set_cons_succ, if_true, if_false, Bool.false_eq_true, reduceIte, reduceCtorEq, Rf.tgOf, Rf.luk_c, Rf.f1, Rf.gV_non, Rf.gV_bl, Rf.gV_int, Rf.gV_str, Rf.gV_tup, Rf.gV_ktp, Rf.gV_rol, Rf.gV_ref, Rf.gd0, Rf.gdA, List.cons_append, List.nil_append, List.append_nil, List.take_succ_cons, List.take_zero, List.take_nil, List.drop_succ_cons, List.drop_zero, List.drop_nil, Rf.oI0, Rf.oI, Bool.not_true, Bool.not_false, gV_nf f.nf, al0, pa, fl, d1]
end Lw
set_option Elab.async false
set_option linter.all false
set_option maxRecDepth 100000
set_option maxHeartbeats 2000000
set_option autoImplicit false
namespace Lw
open PySem PySem.Spec L2 Rf
theorem cat_atF {h : LH} {a b : Nat} {xs ys : List D} (ha : h[a]? = some (.lst xs)) (hb : h[b]? = some (.lst ys)) (hl : xs.length + ys.length ≤ 100000) : dAdd (.ref a) (.ref b) h = .ok (.ref h.length) (h ++ [.lst (xs ++ ys)]) := by
  simp only [dAdd, asLst, ha, hb, szOk_small hl, if_true]
theorem mul_oneF {x : D} {p n : Nat} {h : LH} (hp : h[p]? = some (.lst [x])) (hn : n ≤ 1000) : dMul (.ref p) (.int (n : Nat)) h = .ok (.ref h.length) (h ++ [.lst (List.replicate n x)]) := by
  have as : asLst (.ref p) h = some [x] := by simp only [asLst, hp]
  have d2 : (decide ((0 : Int) ≤ (n : Int)) && (decide ((n : Int) ≤ 10000) && Nat.ble ([x] : List D).length 1000)) = true := by
    rw [decide_eq_true (by omega : (0 : Int) ≤ (n : Int)), decide_eq_true (by omega : (n : Int) ≤ 10000)]; rfl
  simp only [dMul, as, d2, if_true, Int.toNat_natCast, List.flatten_replicate_singleton]
structure FmP (al : List Nat) (deep t r : Nat) (h : LH) (d : D) (h' : LH) : Prop where
  ex : ∃ f : Fm, d = f.FD ∧ f.Sg al ∧ f.dp ≤ deep
  tw : ∃ row c, Town h' t r row c
  fr : Fr [t, r] h h'
theorem leaf_ok {m : SM} (hm : m = b0__law_form ∨ ∃ rc, m = b1__law_form rc) {al : List Nat} (al1 : 1 ≤ al.length) (al2 : al.length < 1000) {deep t r : Nat} {h : LH} {row : List Int} {c : Int} (T : Town h t r row c)
    (hd : ∀ (v : Nat) h' row', m__law_draw [.ref t, .int 11] h = .ok (.int v) h' → Town h' t r row' (c + 1) → v < 11 → deep = 0 ∨ v < 3) :
    @okR _ (fin (m [some (.ref t), some (.str al), some (.int (deep : Nat)), none] h)) ⟨fun d h' => FmP al deep t r h d h'⟩ ⟨fun _ _ => False⟩ := by
  have ed : m__law_draw = runA drawM := rfl
  have ep : m__law_pick = pickM := rfl
  obtain ⟨v, h1, row1, hv, e1, T1, fr1, hl1⟩ := drawF (n := 11) T (by decide) (by decide)
  have dv := hd v h1 row1 (by rw [ed]; exact e1) T1 (by omega)
  have de : ∀ h : LH, dEq (.int (deep : Nat)) (.int 0) h = .ok (.bl (decide (deep = 0))) h := fun h => by
    have : decide (((deep : Nat) : Int) = 0) = decide (deep = 0) := by
      rw [Bool.eq_iff_iff]; simp
    simp only [dEq, eqD, eqS, this]
  have dl : ∀ h : LH, dLt (.int (v : Nat)) (.int 3) h = .ok (.bl (decide (v < 3))) h := fun h => by
    have : decide (((v : Nat) : Int) < 3) = decide (v < 3) := by
      rw [Bool.eq_iff_iff]; simp only [decide_eq_true_iff]; omega
    simp only [dLt, this]
  obtain ⟨x, h2, row2, hx, e2, T2, kp2, hl2⟩ := pickS T1 al1 (by omega)
  have fr2 : Fr [t, r] h1 h2 := kp2.fr (by omega)
  have z1 : ∀ a : D, szOk ([a] : List D).length = true := fun _ => rfl
  have z2 : ∀ a b : D, szOk ([a, b] : List D).length = true := fun _ _ => rfl
  generalize eha : h2 ++ [LO.lst [D.tup [.str [115, 105, 103, 110], .str [x]]]] = ha
  have qa : ha[h2.length]? = some (.lst [D.tup [.str [115, 105, 103, 110], .str [x]]]) := by rw [← eha]; exact app_at
  have fa : Fr [] h2 ha := by rw [← eha]; exact .app
  have mu : dMul (.ref h2.length) (.int 4) ha = .ok (.ref ha.length) (ha ++ [LO.lst (List.replicate 4 (D.tup [.str [115, 105, 103, 110], .str [x]]))]) := mul_oneF (n := 4) qa (by decide)
  generalize ehb : ha ++ [LO.lst (List.replicate 4 (D.tup [.str [115, 105, 103, 110], .str [x]]))] = hb at mu
  have qb : hb[ha.length]? = some (.lst (List.replicate 4 (D.tup [.str [115, 105, 103, 110], .str [x]]))) := by rw [← ehb]; exact app_at
  have fb : Fr [] ha hb := by rw [← ehb]; exact .app
  generalize ehc : hb ++ [LO.lst [D.tup [.str [101, 109, 112, 116, 121]], .tup [.str [110, 111, 110, 101]]]] = hc
  have qc : hc[hb.length]? = some (.lst [D.tup [.str [101, 109, 112, 116, 121]], .tup [.str [110, 111, 110, 101]]]) := by rw [← ehc]; exact app_at
  have fc : Fr [] hb hc := by rw [← ehc]; exact .app
  have ct := cat_atF (fc.get _ _ qb (by simp)) qc (by simp)
  have Tc := ((T2.fr fa (by simp) (by simp)).fr fb (by simp) (by simp)).fr fc (by simp) (by simp)
  obtain ⟨w, y, h3, row3, hy, e3, T3, fr3, _⟩ := pickN Tc (List.replicate 4 (D.tup [.str [115, 105, 103, 110], .str [x]]) ++ [D.tup [.str [101, 109, 112, 116, 121]], .tup [.str [110, 111, 110, 101]]]) (by simp) (by simp)
  have FR : Fr [t, r] h h3 := ((fr1.trans fr2).trans (((fa.trans fb).trans fc).mono (by simp))).trans fr3
  have res : FmP al deep t r h y h3 := by
    refine ⟨?_, ⟨row3, _, T3⟩, FR⟩
    have := List.mem_of_getElem? hy
    simp only [List.replicate, List.cons_append, List.nil_append, List.mem_cons, List.not_mem_nil, or_false] at this
    rcases this with rfl | rfl | rfl | rfl | rfl | rfl
    · exact ⟨.sg x, rfl, hx, Nat.zero_le _⟩
    · exact ⟨.sg x, rfl, hx, Nat.zero_le _⟩
    · exact ⟨.sg x, rfl, hx, Nat.zero_le _⟩
    · exact ⟨.sg x, rfl, hx, Nat.zero_le _⟩
    · exact ⟨.emp, rfl, trivial, Nat.zero_le _⟩
    · exact ⟨.non, rfl, trivial, Nat.zero_le _⟩
  rcases hm with rfl | ⟨rc, rfl⟩
  · unfold b0__law_form
    rcases dv with d0 | d3
    · simp only [Rf.okR_ok, Rf.okR_ex, Rf.okS_nx, Rf.okS_rt, Rf.okS_bk, Rf.okS_ct, Rf.okS_ex, Rf.okR_bind, Rf.okS_lift, Rf.okS_seq, Rf.okS_if, Rf.okS_ret, Rf.okS_drop, Rf.okS_set, Rf.okS_next, Rf.okS_retN, Rf.okS_brk, Rf.okS_cont, Rf.okS_raise, Rf.okR_fin, Rf.okR_bin, Rf.okR_test, Rf.okR_not, Rf.okR_and, Rf.okR_or, Rf.okR_andV, Rf.okR_orV, Rf.okR_notV, Rf.okR_mif, Rf.okR_C, Rf.okR_nil, Rf.okR_yes, Rf.okR_cons, Rf.okR_call, Rf.okR_callK, Rf.okR_tup, Rf.okR_lst, Rf.okR_fld, Rf.okR_meth, Rf.okR_make, Rf.okR_bm, Rf.okR_isi, Rf.okS_for, Rf.okR_lc, Rf.okR_any, Rf.okS_asg, Rf.okS_setFld, Rf.okR_V, Rf.okR_chain, Rf.okR_rng1, Rf.okR_rng2, Rf.okR_neg, Rf.okR_sl, Rf.okR_noPart, Rf.okR_part, Rf.okS_sub, Rf.okS_par, Rf.okR_enum, Rf.okR_dic0, Rf.okR_dic1, Rf.okS_try, Rf.okR_get1, Rf.okR_get2, Rf.okR_keys, Rf.okS_augFld, List.getElem?_cons_zero, List.getElem?_cons_succ, List.set_cons_zero, List.set_cons_succ, if_true, if_false, Bool.false_eq_true, reduceIte, reduceCtorEq, Rf.tgOf, Rf.luk_c, Rf.f1, Rf.gV_non, Rf.gV_bl, Rf.gV_int, Rf.gV_str, Rf.gV_tup, Rf.gV_ktp, Rf.gV_rol, Rf.gV_ref, Rf.gd0, Rf.gdA, List.cons_append, List.nil_append, List.append_nil, List.take_succ_cons, List.take_zero, List.take_nil, List.drop_succ_cons, List.drop_zero, List.drop_nil, Rf.oI0, Rf.oI, Bool.not_true, Bool.not_false, ed, e1, de, decide_eq_true d0, ep, e2, z1, z2, eha, mu, ehb, ehc, ct, e3]
      exact res
    · by_cases d0 : deep = 0
      · simp only [Rf.okR_ok, Rf.okR_ex, Rf.okS_nx, Rf.okS_rt, Rf.okS_bk, Rf.okS_ct, Rf.okS_ex, Rf.okR_bind, Rf.okS_lift, Rf.okS_seq, Rf.okS_if, Rf.okS_ret, Rf.okS_drop, Rf.okS_set, Rf.okS_next, Rf.okS_retN, Rf.okS_brk, Rf.okS_cont, Rf.okS_raise, Rf.okR_fin, Rf.okR_bin, Rf.okR_test, Rf.okR_not, Rf.okR_and, Rf.okR_or, Rf.okR_andV, Rf.okR_orV, Rf.okR_notV, Rf.okR_mif, Rf.okR_C, Rf.okR_nil, Rf.okR_yes, Rf.okR_cons, Rf.okR_call, Rf.okR_callK, Rf.okR_tup, Rf.okR_lst, Rf.okR_fld, Rf.okR_meth, Rf.okR_make, Rf.okR_bm, Rf.okR_isi, Rf.okS_for, Rf.okR_lc, Rf.okR_any, Rf.okS_asg, Rf.okS_setFld, Rf.okR_V, Rf.okR_chain, Rf.okR_rng1, Rf.okR_rng2, Rf.okR_neg, Rf.okR_sl, Rf.okR_noPart, Rf.okR_part, Rf.okS_sub, Rf.okS_par, Rf.okR_enum, Rf.okR_dic0, Rf.okR_dic1, Rf.okS_try, Rf.okR_get1, Rf.okR_get2, Rf.okR_keys, Rf.okS_augFld, List.getElem?_cons_zero, List.getElem?_cons_succ, List.set_cons_zero, List.set_cons_succ, if_true, if_false, Bool.false_eq_true, reduceIte, reduceCtorEq, Rf.tgOf, Rf.luk_c, Rf.f1, Rf.gV_non, Rf.gV_bl, Rf.gV_int, Rf.gV_str, Rf.gV_tup, Rf.gV_ktp, Rf.gV_rol, Rf.gV_ref, Rf.gd0, Rf.gdA, List.cons_append, List.nil_append, List.append_nil, List.take_succ_cons, List.take_zero, List.take_nil, List.drop_succ_cons, List.drop_zero, List.drop_nil, Rf.oI0, Rf.oI, Bool.not_true, Bool.not_false, ed, e1, de, decide_eq_true d0, ep, e2, z1, z2, eha, mu, ehb, ehc, ct, e3]
        exact res
      · simp only [Rf.okR_ok, Rf.okR_ex, Rf.okS_nx, Rf.okS_rt, Rf.okS_bk, Rf.okS_ct, Rf.okS_ex, Rf.okR_bind, Rf.okS_lift, Rf.okS_seq, Rf.okS_if, Rf.okS_ret, Rf.okS_drop, Rf.okS_set, Rf.okS_next, Rf.okS_retN, Rf.okS_brk, Rf.okS_cont, Rf.okS_raise, Rf.okR_fin, Rf.okR_bin, Rf.okR_test, Rf.okR_not, Rf.okR_and, Rf.okR_or, Rf.okR_andV, Rf.okR_orV, Rf.okR_notV, Rf.okR_mif, Rf.okR_C, Rf.okR_nil, Rf.okR_yes, Rf.okR_cons, Rf.okR_call, Rf.okR_callK, Rf.okR_tup, Rf.okR_lst, Rf.okR_fld, Rf.okR_meth, Rf.okR_make, Rf.okR_bm, Rf.okR_isi, Rf.okS_for, Rf.okR_lc, Rf.okR_any, Rf.okS_asg, Rf.okS_setFld, Rf.okR_V, Rf.okR_chain, Rf.okR_rng1, Rf.okR_rng2, Rf.okR_neg, Rf.okR_sl, Rf.okR_noPart, Rf.okR_part, Rf.okS_sub, Rf.okS_par, Rf.okR_enum, Rf.okR_dic0, Rf.okR_dic1, Rf.okS_try, Rf.okR_get1, Rf.okR_get2, Rf.okR_keys, Rf.okS_augFld, List.getElem?_cons_zero, List.getElem?_cons_succ, List.set_cons_zero, List.set_cons_succ, if_true, if_false, Bool.false_eq_true, reduceIte, reduceCtorEq, Rf.tgOf, Rf.luk_c, Rf.f1, Rf.gV_non, Rf.gV_bl, Rf.gV_int, Rf.gV_str, Rf.gV_tup, Rf.gV_ktp, Rf.gV_rol, Rf.gV_ref, Rf.gd0, Rf.gdA, List.cons_append, List.nil_append, List.append_nil, List.take_succ_cons, List.take_zero, List.take_nil, List.drop_succ_cons, List.drop_zero, List.drop_nil, Rf.oI0, Rf.oI, Bool.not_true, Bool.not_false, ed, e1, de, decide_eq_false d0, dl, decide_eq_true d3, ep, e2, z1, z2, eha, mu, ehb, ehc, ct, e3]
        exact res
  · unfold b1__law_form
    rcases dv with d0 | d3
    · simp only [Rf.okR_ok, Rf.okR_ex, Rf.okS_nx, Rf.okS_rt, Rf.okS_bk, Rf.okS_ct, Rf.okS_ex, Rf.okR_bind, Rf.okS_lift, Rf.okS_seq, Rf.okS_if, Rf.okS_ret, Rf.okS_drop, Rf.okS_set, Rf.okS_next, Rf.okS_retN, Rf.okS_brk, Rf.okS_cont, Rf.okS_raise, Rf.okR_fin, Rf.okR_bin, Rf.okR_test, Rf.okR_not, Rf.okR_and, Rf.okR_or, Rf.okR_andV, Rf.okR_orV, Rf.okR_notV, Rf.okR_mif, Rf.okR_C, Rf.okR_nil, Rf.okR_yes, Rf.okR_cons, Rf.okR_call, Rf.okR_callK, Rf.okR_tup, Rf.okR_lst, Rf.okR_fld, Rf.okR_meth, Rf.okR_make, Rf.okR_bm, Rf.okR_isi, Rf.okS_for, Rf.okR_lc, Rf.okR_any, Rf.okS_asg, Rf.okS_setFld, Rf.okR_V, Rf.okR_chain, Rf.okR_rng1, Rf.okR_rng2, Rf.okR_neg, Rf.okR_sl, Rf.okR_noPart, Rf.okR_part, Rf.okS_sub, Rf.okS_par, Rf.okR_enum, Rf.okR_dic0, Rf.okR_dic1, Rf.okS_try, Rf.okR_get1, Rf.okR_get2, Rf.okR_keys, Rf.okS_augFld, List.getElem?_cons_zero, List.getElem?_cons_succ, List.set_cons_zero, List.set_cons_succ, if_true, if_false, Bool.false_eq_true, reduceIte, reduceCtorEq, Rf.tgOf, Rf.luk_c, Rf.f1, Rf.gV_non, Rf.gV_bl, Rf.gV_int, Rf.gV_str, Rf.gV_tup, Rf.gV_ktp, Rf.gV_rol, Rf.gV_ref, Rf.gd0, Rf.gdA, List.cons_append, List.nil_append, List.append_nil, List.take_succ_cons, List.take_zero, List.take_nil, List.drop_succ_cons, List.drop_zero, List.drop_nil, Rf.oI0, Rf.oI, Bool.not_true, Bool.not_false, ed, e1, de, decide_eq_true d0, ep, e2, z1, z2, eha, mu, ehb, ehc, ct, e3]
      exact res
    · by_cases d0 : deep = 0
      · simp only [Rf.okR_ok, Rf.okR_ex, Rf.okS_nx, Rf.okS_rt, Rf.okS_bk, Rf.okS_ct, Rf.okS_ex, Rf.okR_bind, Rf.okS_lift, Rf.okS_seq, Rf.okS_if, Rf.okS_ret, Rf.okS_drop, Rf.okS_set, Rf.okS_next, Rf.okS_retN, Rf.okS_brk, Rf.okS_cont, Rf.okS_raise, Rf.okR_fin, Rf.okR_bin, Rf.okR_test, Rf.okR_not, Rf.okR_and, Rf.okR_or, Rf.okR_andV, Rf.okR_orV, Rf.okR_notV, Rf.okR_mif, Rf.okR_C, Rf.okR_nil, Rf.okR_yes, Rf.okR_cons, Rf.okR_call, Rf.okR_callK, Rf.okR_tup, Rf.okR_lst, Rf.okR_fld, Rf.okR_meth, Rf.okR_make, Rf.okR_bm, Rf.okR_isi, Rf.okS_for, Rf.okR_lc, Rf.okR_any, Rf.okS_asg, Rf.okS_setFld, Rf.okR_V, Rf.okR_chain, Rf.okR_rng1, Rf.okR_rng2, Rf.okR_neg, Rf.okR_sl, Rf.okR_noPart, Rf.okR_part, Rf.okS_sub, Rf.okS_par, Rf.okR_enum, Rf.okR_dic0, Rf.okR_dic1, Rf.okS_try, Rf.okR_get1, Rf.okR_get2, Rf.okR_keys, Rf.okS_augFld, List.getElem?_cons_zero, List.getElem?_cons_succ, List.set_cons_zero, List.set_cons_succ, if_true, if_false, Bool.false_eq_true, reduceIte, reduceCtorEq, Rf.tgOf, Rf.luk_c, Rf.f1, Rf.gV_non, Rf.gV_bl, Rf.gV_int, Rf.gV_str, Rf.gV_tup, Rf.gV_ktp, Rf.gV_rol, Rf.gV_ref, Rf.gd0, Rf.gdA, List.cons_append, List.nil_append, List.append_nil, List.take_succ_cons, List.take_zero, List.take_nil, List.drop_succ_cons, List.drop_zero, List.drop_nil, Rf.oI0, Rf.oI, Bool.not_true, Bool.not_false, ed, e1, de, decide_eq_true d0, ep, e2, z1, z2, eha, mu, ehb, ehc, ct, e3]
        exact res
      · simp only [Rf.okR_ok, Rf.okR_ex, Rf.okS_nx, Rf.okS_rt, Rf.okS_bk, Rf.okS_ct, Rf.okS_ex, Rf.okR_bind, Rf.okS_lift, Rf.okS_seq, Rf.okS_if, Rf.okS_ret, Rf.okS_drop, Rf.okS_set, Rf.okS_next, Rf.okS_retN, Rf.okS_brk, Rf.okS_cont, Rf.okS_raise, Rf.okR_fin, Rf.okR_bin, Rf.okR_test, Rf.okR_not, Rf.okR_and, Rf.okR_or, Rf.okR_andV, Rf.okR_orV, Rf.okR_notV, Rf.okR_mif, Rf.okR_C, Rf.okR_nil, Rf.okR_yes, Rf.okR_cons, Rf.okR_call, Rf.okR_callK, Rf.okR_tup, Rf.okR_lst, Rf.okR_fld, Rf.okR_meth, Rf.okR_make, Rf.okR_bm, Rf.okR_isi, Rf.okS_for, Rf.okR_lc, Rf.okR_any, Rf.okS_asg, Rf.okS_setFld, Rf.okR_V, Rf.okR_chain, Rf.okR_rng1, Rf.okR_rng2, Rf.okR_neg, Rf.okR_sl, Rf.okR_noPart, Rf.okR_part, Rf.okS_sub, Rf.okS_par, Rf.okR_enum, Rf.okR_dic0, Rf.okR_dic1, Rf.okS_try, Rf.okR_get1, Rf.okR_get2, Rf.okR_keys, Rf.okS_augFld, List.getElem?_cons_zero, List.getElem?_cons_succ, List.set_cons_zero, List.set_cons_succ, if_true, if_false, Bool.false_eq_true, reduceIte, reduceCtorEq, Rf.tgOf, Rf.luk_c, Rf.f1, Rf.gV_non, Rf.gV_bl, Rf.gV_int, Rf.gV_str, Rf.gV_tup, Rf.gV_ktp, Rf.gV_rol, Rf.gV_ref, Rf.gd0, Rf.gdA, List.cons_append, List.nil_append, List.append_nil, List.take_succ_cons, List.take_zero, List.take_nil, List.drop_succ_cons, List.drop_zero, List.drop_nil, Rf.oI0, Rf.oI, Bool.not_true, Bool.not_false, ed, e1, de, decide_eq_false d0, dl, decide_eq_true d3, ep, e2, z1, z2, eha, mu, ehb, ehc, ct, e3]
        exact res
theorem form_drawn {al : List Nat} (al1 : 1 ≤ al.length) (al2 : al.length < 1000) {t r : Nat} : ∀ (n deep : Nat) (h : LH) (row : List Int) (c : Int), deep ≤ n → Town h t r row c →
    ∃ (f : Fm) (h' : LH) (row' : List Int) (c' : Int), M__law_form n [.ref t, .str al, .int (deep : Nat)] h = .ok f.FD h' ∧ f.Sg al ∧ f.dp ≤ deep ∧ Town h' t r row' c' ∧ Fr [t, r] h h' := by
  have fin_ : ∀ (n deep : Nat) (h : LH), @okR _ (M__law_form n [.ref t, .str al, .int (deep : Nat)] h) ⟨fun d h' => FmP al deep t r h d h'⟩ ⟨fun _ _ => False⟩ → ∃ (f : Fm) (h' : LH) (row' : List Int) (c' : Int), M__law_form n [.ref t, .str al, .int (deep : Nat)] h = .ok f.FD h' ∧ f.Sg al ∧ f.dp ≤ deep ∧ Town h' t r row' c' ∧ Fr [t, r] h h' := fun n deep h e => by
    obtain ⟨d, h', e1, ⟨⟨f, rfl, s1, s2⟩, ⟨row', c', T'⟩, fr⟩⟩ := okR_eq e
    exact ⟨f, h', row', c', e1, s1, s2, T', fr⟩
  intro n
  induction n with
  | zero =>
    intro deep h row c hd T
    refine fin_ _ _ _ ?_
    show @okR _ (fin (b0__law_form [some (.ref t), some (.str al), some (.int (deep : Nat)), none] h)) ⟨_⟩ ⟨_⟩
    exact leaf_ok (.inl rfl) al1 al2 T (fun _ _ _ _ _ _ => .inl (by omega))
  | succ n ih =>
    intro deep h row c hd T
    refine fin_ _ _ _ ?_
    show @okR _ (fin (b1__law_form (M__law_form n) [some (.ref t), some (.str al), some (.int (deep : Nat)), none] h)) ⟨_⟩ ⟨_⟩
    have ed : m__law_draw = runA drawM := rfl
    obtain ⟨v, h1, row1, hv, e1, T1, fr1, hl1⟩ := drawF (n := 11) T (by decide) (by decide)
    by_cases dv : deep = 0 ∨ v < 3
    · refine leaf_ok (.inr ⟨_, rfl⟩) al1 al2 T (fun v' h' row' e' _ _ => ?_)
      rw [ed, e1] at e'
      cases e'; exact dv
    · have de : ∀ h : LH, dEq (.int (deep : Nat)) (.int 0) h = .ok (.bl false) h := fun h => by
        have : decide (((deep : Nat) : Int) = 0) = false := decide_eq_false (by omega)
        simp only [dEq, eqD, eqS, this]
      have dl : ∀ (k : Nat) (h : LH), dLt (.int (v : Nat)) (.int k) h = .ok (.bl (decide (v < k))) h := fun k h => by
        have : decide (((v : Nat) : Int) < k) = decide (v < k) := by
          rw [Bool.eq_iff_iff]; simp only [decide_eq_true_iff]; omega
        simp only [dLt, this]
      have dl3 : ∀ h : LH, dLt (.int (v : Nat)) (.int 3) h = .ok (.bl (decide (v < 3))) h := dl 3
      have dl5 : ∀ h : LH, dLt (.int (v : Nat)) (.int 5) h = .ok (.bl (decide (v < 5))) h := dl 5
      have dl8 : ∀ h : LH, dLt (.int (v : Nat)) (.int 8) h = .ok (.bl (decide (v < 8))) h := dl 8
      have dq : ∀ (k : Nat) (h : LH), dEq (.int (v : Nat)) (.int k) h = .ok (.bl (decide (v = k))) h := fun k h => by
        have : decide (((v : Nat) : Int) = k) = decide (v = k) := by
          rw [Bool.eq_iff_iff]; simp only [decide_eq_true_iff]; omega
        simp only [dEq, eqD, eqS, this]
      have dq8 : ∀ h : LH, dEq (.int (v : Nat)) (.int 8) h = .ok (.bl (decide (v = 8))) h := dq 8
      have dq9 : ∀ h : LH, dEq (.int (v : Nat)) (.int 9) h = .ok (.bl (decide (v = 9))) h := dq 9
      have d3 : decide (v < 3) = false := decide_eq_false (by omega)
      have sb : ∀ h : LH, fSub (.int (deep : Nat)) (.int 1) h = .ok (.int ((deep - 1 : Nat) : Int)) h := fun h => by
        show R.ok (D.int ((deep : Int) - 1)) h = _
        rw [show ((deep : Int) - 1) = ((deep - 1 : Nat) : Int) by omega]
      have sb' : (deep : Int) - 1 = ((deep - 1 : Nat) : Int) := by omega
      obtain ⟨f, h2, row2, c2, e2, s2, p2, T2, fr2⟩ := ih (deep - 1) h1 _ _ (by omega) T1
      have z2 : ∀ a b : D, szOk ([a, b] : List D).length = true := fun _ _ => rfl
      have z3 : ∀ a b c : D, szOk ([a, b, c] : List D).length = true := fun _ _ _ => rfl
      unfold b1__law_form
      by_cases v5 : v < 5
      · obtain ⟨g, h3, row3, c3, e3, s3, p3, T3, fr3⟩ := ih (deep - 1) h2 _ _ (by omega) T2
        simp only [Rf.okR_ok, Rf.okR_ex, Rf.okS_nx, Rf.okS_rt, Rf.okS_bk, Rf.okS_ct, Rf.okS_ex, Rf.okR_bind, Rf.okS_lift, Rf.okS_seq, Rf.okS_if, Rf.okS_ret, Rf.okS_drop, Rf.okS_set, Rf.okS_next, Rf.okS_retN, Rf.okS_brk, Rf.okS_cont, Rf.okS_raise, Rf.okR_fin, Rf.okR_bin, Rf.okR_test, Rf.okR_not, Rf.okR_and, Rf.okR_or, Rf.okR_andV, Rf.okR_orV, Rf.okR_notV, Rf.okR_mif, Rf.okR_C, Rf.okR_nil, Rf.okR_yes, Rf.okR_cons, Rf.okR_call, Rf.okR_callK, Rf.okR_tup, Rf.okR_lst, Rf.okR_fld, Rf.okR_meth, Rf.okR_make, Rf.okR_bm, Rf.okR_isi, Rf.okS_for, Rf.okR_lc, Rf.okR_any, Rf.okS_asg, Rf.okS_setFld, Rf.okR_V, Rf.okR_chain, Rf.okR_rng1, Rf.okR_rng2, Rf.okR_neg, Rf.okR_sl, Rf.okR_noPart, Rf.okR_part, Rf.okS_sub, Rf.okS_par, Rf.okR_enum, Rf.okR_dic0, Rf.okR_dic1, Rf.okS_try, Rf.okR_get1, Rf.okR_get2, Rf.okR_keys, Rf.okS_augFld, List.getElem?_cons_zero, List.getElem?_cons_succ, List.set_cons_zero, List.set_cons_succ, if_true, if_false, Bool.false_eq_true, reduceIte, reduceCtorEq, Rf.tgOf, Rf.luk_c, Rf.f1, Rf.gV_non, Rf.gV_bl, Rf.gV_int, Rf.gV_str, Rf.gV_tup, Rf.gV_ktp, Rf.gV_rol, Rf.gV_ref, Rf.gd0, Rf.gdA, List.cons_append, List.nil_append, List.append_nil, List.take_succ_cons, List.take_zero, List.take_nil, List.drop_succ_cons, List.drop_zero, List.drop_nil, Rf.oI0, Rf.oI, Bool.not_true, Bool.not_false, ed, e1, de, dl3, d3, dl5, decide_eq_true v5, sb, sb', e2, e3, z3]
        exact ⟨⟨.or f g, rfl, ⟨s2, s3⟩, by simp only [Fm.dp]; omega⟩, ⟨_, _, T3⟩, (fr1.trans fr2).trans fr3⟩
      · by_cases v8 : v < 8
        · obtain ⟨g, h3, row3, c3, e3, s3, p3, T3, fr3⟩ := ih (deep - 1) h2 _ _ (by omega) T2
          simp only [Rf.okR_ok, Rf.okR_ex, Rf.okS_nx, Rf.okS_rt, Rf.okS_bk, Rf.okS_ct, Rf.okS_ex, Rf.okR_bind, Rf.okS_lift, Rf.okS_seq, Rf.okS_if, Rf.okS_ret, Rf.okS_drop, Rf.okS_set, Rf.okS_next, Rf.okS_retN, Rf.okS_brk, Rf.okS_cont, Rf.okS_raise, Rf.okR_fin, Rf.okR_bin, Rf.okR_test, Rf.okR_not, Rf.okR_and, Rf.okR_or, Rf.okR_andV, Rf.okR_orV, Rf.okR_notV, Rf.okR_mif, Rf.okR_C, Rf.okR_nil, Rf.okR_yes, Rf.okR_cons, Rf.okR_call, Rf.okR_callK, Rf.okR_tup, Rf.okR_lst, Rf.okR_fld, Rf.okR_meth, Rf.okR_make, Rf.okR_bm, Rf.okR_isi, Rf.okS_for, Rf.okR_lc, Rf.okR_any, Rf.okS_asg, Rf.okS_setFld, Rf.okR_V, Rf.okR_chain, Rf.okR_rng1, Rf.okR_rng2, Rf.okR_neg, Rf.okR_sl, Rf.okR_noPart, Rf.okR_part, Rf.okS_sub, Rf.okS_par, Rf.okR_enum, Rf.okR_dic0, Rf.okR_dic1, Rf.okS_try, Rf.okR_get1, Rf.okR_get2, Rf.okR_keys, Rf.okS_augFld, List.getElem?_cons_zero, List.getElem?_cons_succ, List.set_cons_zero, List.set_cons_succ, if_true, if_false, Bool.false_eq_true, reduceIte, reduceCtorEq, Rf.tgOf, Rf.luk_c, Rf.f1, Rf.gV_non, Rf.gV_bl, Rf.gV_int, Rf.gV_str, Rf.gV_tup, Rf.gV_ktp, Rf.gV_rol, Rf.gV_ref, Rf.gd0, Rf.gdA, List.cons_append, List.nil_append, List.append_nil, List.take_succ_cons, List.take_zero, List.take_nil, List.drop_succ_cons, List.drop_zero, List.drop_nil, Rf.oI0, Rf.oI, Bool.not_true, Bool.not_false, ed, e1, de, dl3, d3, dl5, decide_eq_false v5, dl8, decide_eq_true v8, sb, sb', e2, e3, z3]
          exact ⟨⟨.sq f g, rfl, ⟨s2, s3⟩, by simp only [Fm.dp]; omega⟩, ⟨_, _, T3⟩, (fr1.trans fr2).trans fr3⟩
        · by_cases v88 : v = 8
          · simp only [Rf.okR_ok, Rf.okR_ex, Rf.okS_nx, Rf.okS_rt, Rf.okS_bk, Rf.okS_ct, Rf.okS_ex, Rf.okR_bind, Rf.okS_lift, Rf.okS_seq, Rf.okS_if, Rf.okS_ret, Rf.okS_drop, Rf.okS_set, Rf.okS_next, Rf.okS_retN, Rf.okS_brk, Rf.okS_cont, Rf.okS_raise, Rf.okR_fin, Rf.okR_bin, Rf.okR_test, Rf.okR_not, Rf.okR_and, Rf.okR_or, Rf.okR_andV, Rf.okR_orV, Rf.okR_notV, Rf.okR_mif, Rf.okR_C, Rf.okR_nil, Rf.okR_yes, Rf.okR_cons, Rf.okR_call, Rf.okR_callK, Rf.okR_tup, Rf.okR_lst, Rf.okR_fld, Rf.okR_meth, Rf.okR_make, Rf.okR_bm, Rf.okR_isi, Rf.okS_for, Rf.okR_lc, Rf.okR_any, Rf.okS_asg, Rf.okS_setFld, Rf.okR_V, Rf.okR_chain, Rf.okR_rng1, Rf.okR_rng2, Rf.okR_neg, Rf.okR_sl, Rf.okR_noPart, Rf.okR_part, Rf.okS_sub, Rf.okS_par, Rf.okR_enum, Rf.okR_dic0, Rf.okR_dic1, Rf.okS_try, Rf.okR_get1, Rf.okR_get2, Rf.okR_keys, Rf.okS_augFld, List.getElem?_cons_zero, List.getElem?_cons_succ, List.set_cons_zero, List.set_cons_succ, if_true, if_false, Bool.false_eq_true, reduceIte, reduceCtorEq, Rf.tgOf, Rf.luk_c, Rf.f1, Rf.gV_non, Rf.gV_bl, Rf.gV_int, Rf.gV_str, Rf.gV_tup, Rf.gV_ktp, Rf.gV_rol, Rf.gV_ref, Rf.gd0, Rf.gdA, List.cons_append, List.nil_append, List.append_nil, List.take_succ_cons, List.take_zero, List.take_nil, List.drop_succ_cons, List.drop_zero, List.drop_nil, Rf.oI0, Rf.oI, Bool.not_true, Bool.not_false, ed, e1, de, dl3, d3, dl5, decide_eq_false v5, dl8, decide_eq_false v8, dq8, decide_eq_true v88, sb, sb', e2, z2]
            exact ⟨⟨.an f, rfl, s2, by simp only [Fm.dp]; omega⟩, ⟨_, _, T2⟩, fr1.trans fr2⟩
          · by_cases v99 : v = 9
            · obtain ⟨g, h3, row3, c3, e3, s3, p3, T3, fr3⟩ := ih (deep - 1) h2 _ _ (by omega) T2
              simp only [Rf.okR_ok, Rf.okR_ex, Rf.okS_nx, Rf.okS_rt, Rf.okS_bk, Rf.okS_ct, Rf.okS_ex, Rf.okR_bind, Rf.okS_lift, Rf.okS_seq, Rf.okS_if, Rf.okS_ret, Rf.okS_drop, Rf.okS_set, Rf.okS_next, Rf.okS_retN, Rf.okS_brk, Rf.okS_cont, Rf.okS_raise, Rf.okR_fin, Rf.okR_bin, Rf.okR_test, Rf.okR_not, Rf.okR_and, Rf.okR_or, Rf.okR_andV, Rf.okR_orV, Rf.okR_notV, Rf.okR_mif, Rf.okR_C, Rf.okR_nil, Rf.okR_yes, Rf.okR_cons, Rf.okR_call, Rf.okR_callK, Rf.okR_tup, Rf.okR_lst, Rf.okR_fld, Rf.okR_meth, Rf.okR_make, Rf.okR_bm, Rf.okR_isi, Rf.okS_for, Rf.okR_lc, Rf.okR_any, Rf.okS_asg, Rf.okS_setFld, Rf.okR_V, Rf.okR_chain, Rf.okR_rng1, Rf.okR_rng2, Rf.okR_neg, Rf.okR_sl, Rf.okR_noPart, Rf.okR_part, Rf.okS_sub, Rf.okS_par, Rf.okR_enum, Rf.okR_dic0, Rf.okR_dic1, Rf.okS_try, Rf.okR_get1, Rf.okR_get2, Rf.okR_keys, Rf.okS_augFld, List.getElem?_cons_zero, List.getElem?_cons_succ, List.set_cons_zero, List.set_cons_succ, if_true, if_false, Bool.false_eq_true, reduceIte, reduceCtorEq, Rf.tgOf, Rf.luk_c, Rf.f1, Rf.gV_non, Rf.gV_bl, Rf.gV_int, Rf.gV_str, Rf.gV_tup, Rf.gV_ktp, Rf.gV_rol, Rf.gV_ref, Rf.gd0, Rf.gdA, List.cons_append, List.nil_append, List.append_nil, List.take_succ_cons, List.take_zero, List.take_nil, List.drop_succ_cons, List.drop_zero, List.drop_nil, Rf.oI0, Rf.oI, Bool.not_true, Bool.not_false, ed, e1, de, dl3, d3, dl5, decide_eq_false v5, dl8, decide_eq_false v8, dq8, decide_eq_false v88, dq9, decide_eq_true v99, sb, sb', e2, e3, z3]
              exact ⟨⟨.bo f g, rfl, ⟨s2, s3⟩, by simp only [Fm.dp]; omega⟩, ⟨_, _, T3⟩, (fr1.trans fr2).trans fr3⟩
            · simp only [Rf.okR_ok, Rf.okR_ex, Rf.okS_nx, Rf.okS_rt, Rf.okS_bk, Rf.okS_ct, Rf.okS_ex, Rf.okR_bind, Rf.okS_lift, Rf.okS_seq, Rf.okS_if, Rf.okS_ret, Rf.okS_drop, Rf.okS_set, Rf.okS_next, Rf.okS_retN, Rf.okS_brk, Rf.okS_cont, Rf.okS_raise, Rf.okR_fin, Rf.okR_bin, Rf.okR_test, Rf.okR_not, Rf.okR_and, Rf.okR_or, Rf.okR_andV, Rf.okR_orV, Rf.okR_notV, Rf.okR_mif, Rf.okR_C, Rf.okR_nil, Rf.okR_yes, Rf.okR_cons, Rf.okR_call, Rf.okR_callK, Rf.okR_tup, Rf.okR_lst, Rf.okR_fld, Rf.okR_meth, Rf.okR_make, Rf.okR_bm, Rf.okR_isi, Rf.okS_for, Rf.okR_lc, Rf.okR_any, Rf.okS_asg, Rf.okS_setFld, Rf.okR_V, Rf.okR_chain, Rf.okR_rng1, Rf.okR_rng2, Rf.okR_neg, Rf.okR_sl, Rf.okR_noPart, Rf.okR_part, Rf.okS_sub, Rf.okS_par, Rf.okR_enum, Rf.okR_dic0, Rf.okR_dic1, Rf.okS_try, Rf.okR_get1, Rf.okR_get2, Rf.okR_keys, Rf.okS_augFld, List.getElem?_cons_zero, List.getElem?_cons_succ, List.set_cons_zero, List.set_cons_succ, if_true, if_false, Bool.false_eq_true, reduceIte, reduceCtorEq, Rf.tgOf, Rf.luk_c, Rf.f1, Rf.gV_non, Rf.gV_bl, Rf.gV_int, Rf.gV_str, Rf.gV_tup, Rf.gV_ktp, Rf.gV_rol, Rf.gV_ref, Rf.gd0, Rf.gdA, List.cons_append, List.nil_append, List.append_nil, List.take_succ_cons, List.take_zero, List.take_nil, List.drop_succ_cons, List.drop_zero, List.drop_nil, Rf.oI0, Rf.oI, Bool.not_true, Bool.not_false, ed, e1, de, dl3, d3, dl5, decide_eq_false v5, dl8, decide_eq_false v8, dq8, decide_eq_false v88, dq9, decide_eq_false v99, sb, sb', e2, z2]
              exact ⟨⟨.nt f, rfl, s2, by simp only [Fm.dp]; omega⟩, ⟨_, _, T2⟩, fr1.trans fr2⟩
end Lw
set_option Elab.async false
set_option linter.all false
set_option maxRecDepth 100000
set_option maxHeartbeats 400000
set_option autoImplicit false
namespace Rf
open PySem PySem.Spec L2
namespace Fm
inductive Str (P : List Nat → Prop) : List Nat → Prop
  | nil : Str P []
  | app (u v : List Nat) : u ≠ [] → P u → Str P v → Str P (u ++ v)
def L : Fm → List Nat → Prop
  | .non => fun _ => False
  | .emp => fun w => w = []
  | .sg c => fun w => w = [c]
  | .or f g => fun w => f.L w ∨ g.L w
  | .sq f g => fun w => ∃ u v, w = u ++ v ∧ f.L u ∧ g.L v
  | .bo f g => fun w => f.L w ∧ g.L w
  | .an f => fun w => Str f.L w
  | .nt f => fun w => ¬ f.L w
def he : Fm → Bool
  | .non => false
  | .emp => true
  | .sg _ => false
  | .or f g => f.he || g.he
  | .sq f g => f.he && g.he
  | .bo f g => f.he && g.he
  | .an _ => true
  | .nt f => !f.he
theorem he_iff : ∀ f : Fm, f.he = true ↔ f.L [] := by
  intro f
  induction f with
  | non => simp [he, L]
  | emp => simp [he, L]
  | sg c => simp [he, L]
  | or a b iha ihb => simp [he, L, iha, ihb]
  | sq a b iha ihb =>
    simp only [he, L, Bool.and_eq_true, iha, ihb]
    constructor
    · rintro ⟨h1, h2⟩; exact ⟨[], [], rfl, h1, h2⟩
    · rintro ⟨u, v, e, h1, h2⟩
      have e := e.symm
      rw [List.append_eq_nil_iff] at e
      obtain ⟨rfl, rfl⟩ := e; exact ⟨h1, h2⟩
  | bo a b iha ihb => simp [he, L, iha, ihb]
  | an a iha => simp only [he, L, true_iff]; exact .nil
  | nt a iha =>
    simp only [he, L, Bool.not_eq_true', ← iha]
    cases a.he <;> simp
def eith (a b : Fm) : Fm := if a = b ∨ b = .non then a else if a = .non then b else .or a b
def behi (a b : Fm) : Fm := if a = .non ∨ b = .non then .non else if a = .emp then b else if b = .emp then a else .sq a b
def bot (a b : Fm) : Fm := if a = .non ∨ b = .non then .non else if a = b then a else .bo a b
theorem eith_L (a b : Fm) (w : List Nat) : (eith a b).L w ↔ a.L w ∨ b.L w := by
  unfold eith
  split
  · rename_i h
    rcases h with rfl | rfl
    · simp
    · simp [L]
  · split
    · rename_i h; subst h; simp [L]
    · rfl
theorem behi_L (a b : Fm) (w : List Nat) : (behi a b).L w ↔ ∃ u v, w = u ++ v ∧ a.L u ∧ b.L v := by
  unfold behi
  split
  · rename_i h
    rcases h with rfl | rfl
    · simp [L]
    · simp [L]
  · split
    · rename_i h; subst h
      simp only [L]
      constructor
      · intro h; exact ⟨[], w, rfl, rfl, h⟩
      · rintro ⟨u, v, rfl, rfl, h⟩; exact h
    · split
      · rename_i h; subst h
        simp only [L]
        constructor
        · intro h; exact ⟨w, [], by simp, h, rfl⟩
        · rintro ⟨u, v, rfl, h, rfl⟩; simpa using h
      · rfl
theorem bot_L (a b : Fm) (w : List Nat) : (bot a b).L w ↔ a.L w ∧ b.L w := by
  unfold bot
  split
  · rename_i h
    rcases h with rfl | rfl
    · simp [L]
    · simp [L]
  · split
    · rename_i h; subst h; simp
    · rfl
def aft (s : Nat) : Fm → Fm
  | .non => .non
  | .emp => .non
  | .sg c => if c = s then .emp else .non
  | .or f g => eith (f.aft s) (g.aft s)
  | .bo f g => bot (f.aft s) (g.aft s)
  | .nt f => .nt (f.aft s)
  | .an f => behi (f.aft s) (.an f)
  | .sq f g => if f.he = true then eith (behi (f.aft s) g) (g.aft s) else behi (f.aft s) g
theorem str_cons {P : List Nat → Prop} {s : Nat} {w : List Nat} (h : Str P (s :: w)) : ∃ u v, w = u ++ v ∧ P (s :: u) ∧ Str P v := by
  generalize e : s :: w = z at h
  cases h with
  | nil => cases e
  | app u v h1 h2 h3 =>
    cases u with
    | nil => exact absurd rfl h1
    | cons a u =>
      rw [List.cons_append, List.cons.injEq] at e
      obtain ⟨rfl, rfl⟩ := e
      exact ⟨u, v, rfl, h2, h3⟩
theorem aft_L (s : Nat) : ∀ (f : Fm) (w : List Nat), (f.aft s).L w ↔ f.L (s :: w) := by
  intro f
  induction f with
  | non => intro w; simp [aft, L]
  | emp => intro w; simp [aft, L]
  | sg c =>
    intro w
    unfold aft
    split
    · rename_i h; subst h; simp [L]
    · rename_i h
      simp only [L, List.cons.injEq, false_iff]
      intro e; exact h e.1.symm
  | or a b iha ihb => intro w; rw [aft, eith_L, iha, ihb]; rfl
  | bo a b iha ihb => intro w; rw [aft, bot_L, iha, ihb]; rfl
  | nt a iha => intro w; simp only [aft, L, iha]
  | an a iha =>
    intro w
    rw [aft, behi_L]
    constructor
    · rintro ⟨u, v, rfl, h1, h2⟩
      exact .app (s :: u) v (by simp) ((iha u).mp h1) h2
    · intro h
      obtain ⟨u, v, rfl, h1, h2⟩ := str_cons h
      exact ⟨u, v, rfl, (iha u).mpr h1, h2⟩
  | sq a b iha ihb =>
    intro w
    have key : (∃ u v, s :: w = u ++ v ∧ a.L u ∧ b.L v) ↔ (∃ u v, w = u ++ v ∧ (a.aft s).L u ∧ b.L v) ∨ (a.he = true ∧ (b.aft s).L w) := by
      rw [he_iff]
      constructor
      · rintro ⟨u, v, e, h1, h2⟩
        cases u with
        | nil => right; rw [List.nil_append] at e; subst e; exact ⟨h1, (ihb w).mpr h2⟩
        | cons c u =>
          rw [List.cons_append, List.cons.injEq] at e
          obtain ⟨rfl, rfl⟩ := e
          left; exact ⟨u, v, rfl, (iha u).mpr h1, h2⟩
      · rintro (⟨u, v, rfl, h1, h2⟩ | ⟨h1, h2⟩)
        · exact ⟨s :: u, v, rfl, (iha u).mp h1, h2⟩
        · exact ⟨[], s :: w, rfl, h1, (ihb w).mp h2⟩
    show (aft s (.sq a b)).L w ↔ (∃ u v, s :: w = u ++ v ∧ a.L u ∧ b.L v)
    rw [key, aft]
    split
    · rename_i h; rw [eith_L, behi_L]; simp [h]
    · rename_i h; rw [behi_L]; simp [h]
def afts (w : List Nat) (f : Fm) : Fm := w.foldl (fun g s => g.aft s) f
theorem afts_L : ∀ (w : List Nat) (f : Fm) (v : List Nat), (afts w f).L v ↔ f.L (w ++ v)
  | [], f, v => Iff.rfl
  | s :: w, f, v => by
    show (afts w (f.aft s)).L v ↔ _
    rw [afts_L w, aft_L]; rfl
theorem eith_Sg {al : List Nat} {a b : Fm} (ha : a.Sg al) (hb : b.Sg al) : (eith a b).Sg al := by
  unfold eith
  split
  · exact ha
  · split
    · exact hb
    · exact ⟨ha, hb⟩
theorem behi_Sg {al : List Nat} {a b : Fm} (ha : a.Sg al) (hb : b.Sg al) : (behi a b).Sg al := by
  unfold behi
  split
  · trivial
  · split
    · exact hb
    · split
      · exact ha
      · exact ⟨ha, hb⟩
theorem bot_Sg {al : List Nat} {a b : Fm} (ha : a.Sg al) (hb : b.Sg al) : (bot a b).Sg al := by
  unfold bot
  split
  · trivial
  · split
    · exact ha
    · exact ⟨ha, hb⟩
theorem aft_Sg {al : List Nat} (s : Nat) : ∀ f : Fm, f.Sg al → (f.aft s).Sg al := by
  intro f
  induction f with
  | non => intro _; trivial
  | emp => intro _; trivial
  | sg c => intro _; unfold aft; split <;> trivial
  | or a b iha ihb => intro h; exact eith_Sg (iha h.1) (ihb h.2)
  | bo a b iha ihb => intro h; exact bot_Sg (iha h.1) (ihb h.2)
  | nt a iha => intro h; exact iha h
  | an a iha => intro h; exact behi_Sg (iha h) h
  | sq a b iha ihb =>
    intro h
    unfold aft
    split
    · exact eith_Sg (behi_Sg (iha h.1) h.2) (ihb h.2)
    · exact behi_Sg (iha h.1) h.2
theorem afts_Sg {al : List Nat} : ∀ (w : List Nat) (f : Fm), f.Sg al → (afts w f).Sg al
  | [], _, h => h
  | s :: w, f, h => afts_Sg w (f.aft s) (aft_Sg s f h)
def ed : Fm → Nat
  | .or f g => max f.ed g.ed
  | .bo f g => max f.ed g.ed
  | .nt f => f.ed
  | .an f => f.ed + 1
  | .sq f g => max (f.ed + 1) g.ed
  | _ => 0
theorem ed_le : ∀ f : Fm, f.ed ≤ f.dp := by
  intro f
  induction f <;> simp only [ed, dp] <;> omega
theorem eith_dp (a b : Fm) : (eith a b).dp ≤ max a.dp b.dp + 1 ∧ (eith a b).ed ≤ max a.ed b.ed := by
  unfold eith
  split
  · omega
  · split
    · omega
    · simp only [dp, ed]; omega
theorem behi_dp (a b : Fm) : (behi a b).dp ≤ max a.dp b.dp + 1 ∧ (behi a b).ed ≤ max (a.ed + 1) b.ed := by
  unfold behi
  split
  · simp only [dp, ed]; omega
  · split
    · omega
    · split
      · omega
      · simp only [dp, ed]; omega
theorem bot_dp (a b : Fm) : (bot a b).dp ≤ max a.dp b.dp + 1 ∧ (bot a b).ed ≤ max a.ed b.ed := by
  unfold bot
  split
  · simp only [dp, ed]; omega
  · split
    · omega
    · simp only [dp, ed]; omega
theorem aft_dp (s : Nat) : ∀ f : Fm, (f.aft s).dp ≤ f.dp + f.ed ∧ (f.aft s).ed ≤ f.ed := by
  intro f
  induction f with
  | non => simp [aft, dp, ed]
  | emp => simp [aft, dp, ed]
  | sg c => unfold aft; split <;> simp [dp, ed]
  | or a b iha ihb =>
    have := eith_dp (a.aft s) (b.aft s)
    simp only [aft, dp, ed]; omega
  | bo a b iha ihb =>
    have := bot_dp (a.aft s) (b.aft s)
    simp only [aft, dp, ed]; omega
  | nt a iha => simp only [aft, dp, ed]; omega
  | an a iha =>
    have := behi_dp (a.aft s) (.an a)
    simp only [dp, ed] at this
    simp only [aft, dp, ed]; omega
  | sq a b iha ihb =>
    have h1 := behi_dp (a.aft s) b
    have h2 := eith_dp (behi (a.aft s) b) (b.aft s)
    simp only [aft, dp, ed]
    split <;> omega
theorem afts_dp : ∀ (w : List Nat) (f : Fm), (afts w f).dp ≤ f.dp + w.length * f.ed ∧ (afts w f).ed ≤ f.ed
  | [], f => by simp [afts]
  | s :: w, f => by
    have h1 := aft_dp s f
    have h2 := afts_dp w (f.aft s)
    have h3 : w.length * (f.aft s).ed ≤ w.length * f.ed := Nat.mul_le_mul_left _ h1.2
    show (afts w (f.aft s)).dp ≤ f.dp + (w.length + 1) * f.ed ∧ (afts w (f.aft s)).ed ≤ f.ed
    rw [Nat.add_mul, Nat.one_mul]
    omega
theorem eith_sz (a b : Fm) : (eith a b).sz ≤ a.sz + b.sz + 1 := by
  unfold eith
  split
  · omega
  · split
    · omega
    · simp only [sz]; omega
theorem behi_sz (a b : Fm) : (behi a b).sz ≤ a.sz + b.sz + 1 := by
  unfold behi
  have := a.sz_pos
  split
  · simp only [sz]; omega
  · split
    · omega
    · split
      · omega
      · simp only [sz]; omega
theorem bot_sz (a b : Fm) : (bot a b).sz ≤ a.sz + b.sz + 1 := by
  unfold bot
  have := a.sz_pos
  split
  · simp only [sz]; omega
  · split
    · omega
    · simp only [sz]; omega
theorem aft_sq (s : Nat) (a b : Fm) : (Fm.sq a b).aft s = if a.he = true then eith (behi (a.aft s) b) (b.aft s) else behi (a.aft s) b := rfl
theorem eith_aft (s : Nat) (a b : Fm) : ((eith a b).aft s).sz ≤ (a.aft s).sz + (b.aft s).sz + 1 := by
  unfold eith
  split
  · omega
  · split
    · omega
    · exact eith_sz _ _
theorem behi_aft (s : Nat) (a b : Fm) : ((behi a b).aft s).sz ≤ (a.aft s).sz + b.sz + (b.aft s).sz + 2 := by
  unfold behi
  have := (a.aft s).sz_pos
  split
  · simp only [aft, sz]; omega
  · split
    · omega
    · split
      · omega
      · have h1 := behi_sz (a.aft s) b
        have h2 := eith_sz (behi (a.aft s) b) (b.aft s)
        rw [aft_sq]
        split <;> omega
theorem bot_aft (s : Nat) (a b : Fm) : ((bot a b).aft s).sz ≤ (a.aft s).sz + (b.aft s).sz + 1 := by
  unfold bot
  have := (a.aft s).sz_pos
  split
  · simp only [aft, sz]; omega
  · split
    · omega
    · exact bot_sz _ _
def a0 : Nat → Nat
  | 0 => 1
  | n + 1 => 2 * a0 n + 1
def a1 : Nat → Nat
  | 0 => 1
  | n + 1 => 2 * a1 n + a0 n + 3
def a2 : Nat → Nat
  | 0 => 1
  | n + 1 => 2 * a2 n + 2 * a0 n + 2 * a1 n + 6
theorem a_mono (n : Nat) : a0 n ≤ a0 (n + 1) ∧ a1 n ≤ a1 (n + 1) ∧ a2 n ≤ a2 (n + 1) ∧ 1 ≤ a0 n ∧ 1 ≤ a1 n ∧ 1 ≤ a2 n := by
  refine ⟨by rw [a0]; omega, by rw [a1]; omega, by rw [a2]; omega, ?_, ?_, ?_⟩
  · cases n <;> simp [a0]
  · cases n <;> simp [a1]
  · cases n <;> simp [a2]
theorem sz0 : ∀ (n : Nat) (f : Fm), f.dp ≤ n → f.sz ≤ a0 n := by
  intro n
  induction n with
  | zero => intro f h; cases f <;> simp [dp, sz, a0] at h ⊢
  | succ n ih0 =>
    intro f h
    have := (a_mono n).2.2.2.1
    cases f with
    | or a b => simp only [dp] at h; have h1 := ih0 a (by omega); have h2 := ih0 b (by omega); simp only [sz, a0]; omega
    | sq a b => simp only [dp] at h; have h1 := ih0 a (by omega); have h2 := ih0 b (by omega); simp only [sz, a0]; omega
    | bo a b => simp only [dp] at h; have h1 := ih0 a (by omega); have h2 := ih0 b (by omega); simp only [sz, a0]; omega
    | an a => simp only [dp] at h; have h1 := ih0 a (by omega); simp only [sz, a0]; omega
    | nt a => simp only [dp] at h; have h1 := ih0 a (by omega); simp only [sz, a0]; omega
    | _ => simp only [sz, a0]; omega
theorem sz1 (u : Nat) : ∀ (n : Nat) (f : Fm), f.dp ≤ n → (f.aft u).sz ≤ a1 n := by
  intro n
  induction n with
  | zero =>
    intro f h
    cases f with
    | non => simp [sz, aft, a1]
    | emp => simp [sz, aft, a1]
    | sg c => simp only [aft]; split <;> simp [sz, a1]
    | _ => simp [dp] at h
  | succ n ihn =>
    intro f h
    have am := a_mono n
    cases f with
    | non => simp only [sz, aft, a1]; omega
    | emp => simp only [sz, aft, a1]; omega
    | sg c => simp only [aft]; split <;> simp only [sz, a1] <;> omega
    | or a b =>
      simp only [dp] at h
      have h1 := ihn a (by omega)
      have h2 := ihn b (by omega)
      have h3 := eith_sz (a.aft u) (b.aft u)
      simp only [aft, a1]; omega
    | bo a b =>
      simp only [dp] at h
      have h1 := ihn a (by omega)
      have h2 := ihn b (by omega)
      have h3 := bot_sz (a.aft u) (b.aft u)
      simp only [aft, a1]; omega
    | nt a =>
      simp only [dp] at h
      have h1 := ihn a (by omega)
      simp only [sz, aft, a1]; omega
    | an a =>
      simp only [dp] at h
      have h1 := ihn a (by omega)
      have h2 := sz0 n a (by omega)
      have h3 := behi_sz (a.aft u) (.an a)
      simp only [sz] at h3
      simp only [aft, a1]; omega
    | sq a b =>
      simp only [dp] at h
      have h1 := ihn a (by omega)
      have h2 := ihn b (by omega)
      have h0 := sz0 n b (by omega)
      have h3 := behi_sz (a.aft u) b
      have h4 := eith_sz (behi (a.aft u) b) (b.aft u)
      rw [aft_sq, a1]
      split <;> omega
theorem sz2 (s t : Nat) : ∀ (n : Nat) (f : Fm), f.dp ≤ n → ((f.aft s).aft t).sz ≤ a2 n := by
  intro n
  induction n with
  | zero =>
    intro f h
    cases f with
    | non => simp [sz, aft, a2]
    | emp => simp [sz, aft, a2]
    | sg c => simp only [aft]; split <;> simp [sz, aft, a2]
    | _ => simp [dp] at h
  | succ n ihn =>
    intro f h
    have am := a_mono n
    cases f with
    | non => simp only [sz, aft, a2]; omega
    | emp => simp only [sz, aft, a2]; omega
    | sg c => simp only [aft]; split <;> simp only [sz, aft, a2] <;> omega
    | or a b =>
      simp only [dp] at h
      have h1 := ihn a (by omega)
      have h2 := ihn b (by omega)
      have h3 := eith_aft t (a.aft s) (b.aft s)
      rw [aft, a2]; omega
    | bo a b =>
      simp only [dp] at h
      have h1 := ihn a (by omega)
      have h2 := ihn b (by omega)
      have h3 := bot_aft t (a.aft s) (b.aft s)
      rw [aft, a2]; omega
    | nt a =>
      simp only [dp] at h
      have h1 := ihn a (by omega)
      simp only [sz, aft, a2]; omega
    | an a =>
      simp only [dp] at h
      have h1 := ihn a (by omega)
      have h2 := sz0 n a (by omega)
      have h3 := sz1 t n a (by omega)
      have h4 := behi_aft t (a.aft s) (.an a)
      have h5 := behi_sz (a.aft t) (.an a)
      have h6 : ((Fm.an a).aft t).sz = (behi (a.aft t) (.an a)).sz := rfl
      have h7 : (Fm.an a).sz = a.sz + 1 := rfl
      rw [aft, a2]; omega
    | sq a b =>
      simp only [dp] at h
      have h1 := ihn a (by omega)
      have h2 := ihn b (by omega)
      have h3 := sz0 n b (by omega)
      have h4 := sz1 t n b (by omega)
      have h5 := behi_aft t (a.aft s) b
      have h6 := eith_aft t (behi (a.aft s) b) (b.aft s)
      rw [a2, aft_sq]
      split <;> omega
theorem rest_sz {f : Fm} {w : List Nat} (h : f.dp ≤ 4) (hw : w.length ≤ 2) : (afts w f).sz ≤ 2000 := by
  match w, hw with
  | [], _ => exact Nat.le_trans (sz0 4 f h) (by decide)
  | [s], _ => exact Nat.le_trans (sz1 s 4 f h) (by decide)
  | [s, t], _ => exact Nat.le_trans (sz2 s t 4 f h) (by decide)
theorem rest_dp {f : Fm} {w : List Nat} (h : f.dp ≤ 4) (hw : w.length ≤ 8) : (afts w f).dp ≤ 36 := by
  have h1 := (afts_dp w f).1
  have h2 := f.ed_le
  have h3 : w.length * f.ed ≤ 8 * 4 := Nat.mul_le_mul hw (by omega)
  omega
def trn : Fm → Fm
  | .or f g => .or f.trn g.trn
  | .bo f g => .bo f.trn g.trn
  | .sq f g => .sq g.trn f.trn
  | .an f => .an f.trn
  | .nt f => .nt f.trn
  | f => f
theorem trn_sz : ∀ f : Fm, f.trn.sz = f.sz ∧ f.trn.dp = f.dp := by
  intro f
  induction f <;> simp only [trn, sz, dp] <;> first | omega | exact ⟨trivial, trivial⟩
theorem Str.snoc {P : List Nat → Prop} {u v : List Nat} (h : Str P u) (hv : P v) (hn : v ≠ []) : Str P (u ++ v) := by
  induction h with
  | nil => have := Str.app v [] hn hv .nil; simpa using this
  | app a b h1 h2 h3 ih => rw [List.append_assoc]; exact .app _ _ h1 h2 ih
theorem str_rev {P Q : List Nat → Prop} (h : ∀ w, P w → Q w.reverse) : ∀ {w : List Nat}, Str P w → Str Q w.reverse := by
  intro w hw
  induction hw with
  | nil => exact .nil
  | app u v h1 h2 h3 ih => rw [List.reverse_append]; exact ih.snoc (h u h2) (by simpa using h1)
theorem trn_L : ∀ (f : Fm) (w : List Nat), f.trn.L w ↔ f.L w.reverse := by
  intro f
  induction f with
  | non => intro w; exact Iff.rfl
  | emp => intro w; simp [trn, L]
  | sg c => intro w; simp only [trn, L]; constructor <;> intro h
            · subst h; rfl
            · have := congrArg List.reverse h; simpa using this
  | or a b iha ihb => intro w; simp only [trn, L, iha, ihb]
  | bo a b iha ihb => intro w; simp only [trn, L, iha, ihb]
  | nt a iha => intro w; simp only [trn, L, iha]
  | sq a b iha ihb =>
    intro w
    simp only [trn, L]
    constructor
    · rintro ⟨u, v, rfl, h1, h2⟩
      exact ⟨v.reverse, u.reverse, by simp, (iha v).mp h2, (ihb u).mp h1⟩
    · rintro ⟨u, v, e, h1, h2⟩
      refine ⟨v.reverse, u.reverse, ?_, (ihb _).mpr (by simpa using h2), (iha _).mpr (by simpa using h1)⟩
      have := congrArg List.reverse e
      simpa using this
  | an a iha =>
    intro w
    simp only [trn, L]
    constructor
    · intro h; exact str_rev (fun w hw => (iha w).mp hw) h
    · intro h
      have := str_rev (P := a.L) (Q := a.trn.L) (fun w hw => (iha _).mpr (by simpa using hw)) h
      simpa using this
end Fm
end Rf
set_option Elab.async false
set_option linter.all false
set_option maxRecDepth 100000
set_option maxHeartbeats 1000000
set_option autoImplicit false
namespace Lw
open PySem PySem.Spec L2 Rf
theorem empty_ok : ∀ (n : Nat) (f : Fm) (h : LH), f.dp ≤ n → M_has_empty n [f.FD] h = .ok (.bl f.he) h := by
  intro n
  have pu : ∀ f : Fm, pureDs [f.FD] = true := fun f => by simp [pureDs, f.pure]
  have leaf : ∀ (m : SM), (m = b0_has_empty ∨ ∃ rc, m = b1_has_empty rc) → ∀ f : Fm, f.dp = 0 → @okR _ (fm 2 m [f.FD] []) ⟨fun d _ => d = .bl f.he⟩ ⟨fun _ _ => False⟩ := fun m hm f hl => by
    cases f with
    | non => rcases hm with rfl | ⟨rc, rfl⟩ <;> rfl
    | emp => rcases hm with rfl | ⟨rc, rfl⟩ <;> rfl
    | sg c => rcases hm with rfl | ⟨rc, rfl⟩ <;> rfl
    | _ => cases hl
  have z2 : ∀ a b : D, szOk ([a, b] : List D).length = true := fun _ _ => rfl
  induction n with
  | zero => intro f h hd; exact runA_is h (pu f) (leaf _ (.inl rfl) f (by omega)) rfl
  | succ n ih =>
    intro f h hd
    cases f with
    | non => exact runA_is h (pu _) (leaf _ (.inr ⟨_, rfl⟩) _ rfl) rfl
    | emp => exact runA_is h (pu _) (leaf _ (.inr ⟨_, rfl⟩) _ rfl) rfl
    | sg c => exact runA_is h (pu _) (leaf _ (.inr ⟨_, rfl⟩) _ rfl) rfl
    | an a => exact runA_is h (pu _) (by rfl) rfl
    | nt a =>
      simp only [Fm.dp] at hd
      refine runA_is h (pu _) ?_ rfl
      have ea := ih a [] (by omega)
      have na := a.nf
      show @okR _ (fin (b1_has_empty (M_has_empty n) [some (.tup [.str [110, 111, 116], a.FD]), none] [])) ⟨_⟩ ⟨_⟩
      generalize a.FD = x at *
      have ix0 : ∀ h : LH, dIx (.tup [.str [110, 111, 116], x]) (.int 0) h = .ok (.str [110, 111, 116]) h := fun h => rfl
      have ix1 : ∀ h : LH, dIx (.tup [.str [110, 111, 116], x]) (.int 1) h = .ok x h := fun h => rfl
      have i1 : ∀ h : LH, dIn (.str [110, 111, 116]) (.tup [.str [101, 109, 112, 116, 121], .str [97, 110, 121]]) h = .ok (.bl false) h := fun h => rfl
      have i2 : ∀ h : LH, dIn (.str [110, 111, 116]) (.tup [.str [110, 111, 110, 101], .str [115, 105, 103, 110]]) h = .ok (.bl false) h := fun h => rfl
      have q1 : ∀ h : LH, dEq (.str [110, 111, 116]) (.str [110, 111, 116]) h = .ok (.bl true) h := fun h => rfl
      unfold b1_has_empty
      simp only [Rf.okR_ok, Rf.okR_ex, Rf.okS_nx, Rf.okS_rt, Rf.okS_bk, Rf.okS_ct, Rf.okS_ex, Rf.okR_bind, Rf.okS_lift, Rf.okS_seq, Rf.okS_if, Rf.okS_ret, Rf.okS_drop, Rf.okS_set, Rf.okS_next, Rf.okS_retN, Rf.okS_brk, Rf.okS_cont, Rf.okS_raise, Rf.okR_fin, Rf.okR_bin, Rf.okR_test, Rf.okR_not, Rf.okR_and, Rf.okR_or, Rf.okR_andV, Rf.okR_orV, Rf.okR_notV, Rf.okR_mif, Rf.okR_C, Rf.okR_nil, Rf.okR_yes, Rf.okR_cons, Rf.okR_call, Rf.okR_callK, Rf.okR_tup, Rf.okR_lst, Rf.okR_fld, Rf.okR_meth, Rf.okR_make, Rf.okR_bm, Rf.okR_isi, Rf.okS_for, Rf.okR_lc, Rf.okR_any, Rf.okS_asg, Rf.okS_setFld, Rf.okR_V, Rf.okR_chain, Rf.okR_rng1, Rf.okR_rng2, Rf.okR_neg, Rf.okR_sl, Rf.okR_noPart, Rf.okR_part, Rf.okS_sub, Rf.okS_par, List.getElem?_cons_zero, List.getElem?_cons_succ, List.set_cons_zero, List.set_cons_succ, if_true, if_false, Bool.false_eq_true, reduceIte, reduceCtorEq, Rf.tgOf, Rf.luk_c, Rf.f1, Rf.gV_non, Rf.gV_bl, Rf.gV_int, Rf.gV_str, Rf.gV_tup, Rf.gV_ktp, Rf.gV_rol, Rf.gV_ref, Rf.gd0, Rf.gdA, List.cons_append, List.nil_append, List.append_nil, List.take_succ_cons, List.take_zero, List.take_nil, List.drop_succ_cons, List.drop_zero, List.drop_nil, Rf.oI0, Rf.oI, Bool.not_true, Bool.not_false, ix0, ix1, i1, i2, q1, z2, gV_nf na, ea]
      rfl
    | or a b =>
      simp only [Fm.dp] at hd
      refine runA_is h (pu _) ?_ rfl
      have ea := ih a [] (by omega)
      have eb := ih b [] (by omega)
      show @okR _ (fin (b1_has_empty (M_has_empty n) [some (.tup [.str [111, 114], a.FD, b.FD]), none] [])) ⟨_⟩ ⟨_⟩
      have na := a.nf
      have nb := b.nf
      have ehe : (Fm.or a b).he = (a.he || b.he) := rfl
      rw [ehe]
      generalize a.FD = x at *
      generalize b.FD = y at *
      have ix0 : ∀ h : LH, dIx (.tup [.str [111, 114], x, y]) (.int 0) h = .ok (.str [111, 114]) h := fun h => rfl
      have ix1 : ∀ h : LH, dIx (.tup [.str [111, 114], x, y]) (.int 1) h = .ok x h := fun h => rfl
      have ix2 : ∀ h : LH, dIx (.tup [.str [111, 114], x, y]) (.int 2) h = .ok y h := fun h => rfl
      have i1 : ∀ h : LH, dIn (.str [111, 114]) (.tup [.str [101, 109, 112, 116, 121], .str [97, 110, 121]]) h = .ok (.bl false) h := fun h => rfl
      have i2 : ∀ h : LH, dIn (.str [111, 114]) (.tup [.str [110, 111, 110, 101], .str [115, 105, 103, 110]]) h = .ok (.bl false) h := fun h => rfl
      have q1 : ∀ h : LH, dEq (.str [111, 114]) (.str [110, 111, 116]) h = .ok (.bl false) h := fun h => rfl
      have q2 : ∀ h : LH, dEq (.str [111, 114]) (.str [111, 114]) h = .ok (.bl true) h := fun h => rfl
      unfold b1_has_empty
      cases hA : a.he with
      | true =>
        rw [hA] at ea
        simp only [Rf.okR_ok, Rf.okR_ex, Rf.okS_nx, Rf.okS_rt, Rf.okS_bk, Rf.okS_ct, Rf.okS_ex, Rf.okR_bind, Rf.okS_lift, Rf.okS_seq, Rf.okS_if, Rf.okS_ret, Rf.okS_drop, Rf.okS_set, Rf.okS_next, Rf.okS_retN, Rf.okS_brk, Rf.okS_cont, Rf.okS_raise, Rf.okR_fin, Rf.okR_bin, Rf.okR_test, Rf.okR_not, Rf.okR_and, Rf.okR_or, Rf.okR_andV, Rf.okR_orV, Rf.okR_notV, Rf.okR_mif, Rf.okR_C, Rf.okR_nil, Rf.okR_yes, Rf.okR_cons, Rf.okR_call, Rf.okR_callK, Rf.okR_tup, Rf.okR_lst, Rf.okR_fld, Rf.okR_meth, Rf.okR_make, Rf.okR_bm, Rf.okR_isi, Rf.okS_for, Rf.okR_lc, Rf.okR_any, Rf.okS_asg, Rf.okS_setFld, Rf.okR_V, Rf.okR_chain, Rf.okR_rng1, Rf.okR_rng2, Rf.okR_neg, Rf.okR_sl, Rf.okR_noPart, Rf.okR_part, Rf.okS_sub, Rf.okS_par, List.getElem?_cons_zero, List.getElem?_cons_succ, List.set_cons_zero, List.set_cons_succ, if_true, if_false, Bool.false_eq_true, reduceIte, reduceCtorEq, Rf.tgOf, Rf.luk_c, Rf.f1, Rf.gV_non, Rf.gV_bl, Rf.gV_int, Rf.gV_str, Rf.gV_tup, Rf.gV_ktp, Rf.gV_rol, Rf.gV_ref, Rf.gd0, Rf.gdA, List.cons_append, List.nil_append, List.append_nil, List.take_succ_cons, List.take_zero, List.take_nil, List.drop_succ_cons, List.drop_zero, List.drop_nil, Rf.oI0, Rf.oI, Bool.not_true, Bool.not_false, ix0, ix1, ix2, i1, i2, q1, q2, z2, gV_nf na, gV_nf nb, ea, eb, Bool.true_or]
      | false =>
        rw [hA] at ea
        simp only [Rf.okR_ok, Rf.okR_ex, Rf.okS_nx, Rf.okS_rt, Rf.okS_bk, Rf.okS_ct, Rf.okS_ex, Rf.okR_bind, Rf.okS_lift, Rf.okS_seq, Rf.okS_if, Rf.okS_ret, Rf.okS_drop, Rf.okS_set, Rf.okS_next, Rf.okS_retN, Rf.okS_brk, Rf.okS_cont, Rf.okS_raise, Rf.okR_fin, Rf.okR_bin, Rf.okR_test, Rf.okR_not, Rf.okR_and, Rf.okR_or, Rf.okR_andV, Rf.okR_orV, Rf.okR_notV, Rf.okR_mif, Rf.okR_C, Rf.okR_nil, Rf.okR_yes, Rf.okR_cons, Rf.okR_call, Rf.okR_callK, Rf.okR_tup, Rf.okR_lst, Rf.okR_fld, Rf.okR_meth, Rf.okR_make, Rf.okR_bm, Rf.okR_isi, Rf.okS_for, Rf.okR_lc, Rf.okR_any, Rf.okS_asg, Rf.okS_setFld, Rf.okR_V, Rf.okR_chain, Rf.okR_rng1, Rf.okR_rng2, Rf.okR_neg, Rf.okR_sl, Rf.okR_noPart, Rf.okR_part, Rf.okS_sub, Rf.okS_par, List.getElem?_cons_zero, List.getElem?_cons_succ, List.set_cons_zero, List.set_cons_succ, if_true, if_false, Bool.false_eq_true, reduceIte, reduceCtorEq, Rf.tgOf, Rf.luk_c, Rf.f1, Rf.gV_non, Rf.gV_bl, Rf.gV_int, Rf.gV_str, Rf.gV_tup, Rf.gV_ktp, Rf.gV_rol, Rf.gV_ref, Rf.gd0, Rf.gdA, List.cons_append, List.nil_append, List.append_nil, List.take_succ_cons, List.take_zero, List.take_nil, List.drop_succ_cons, List.drop_zero, List.drop_nil, Rf.oI0, Rf.oI, Bool.not_true, Bool.not_false, ix0, ix1, ix2, i1, i2, q1, q2, z2, gV_nf na, gV_nf nb, ea, eb, Bool.false_or]
    | sq a b =>
      simp only [Fm.dp] at hd
      refine runA_is h (pu _) ?_ rfl
      have ea := ih a [] (by omega)
      have eb := ih b [] (by omega)
      show @okR _ (fin (b1_has_empty (M_has_empty n) [some (.tup [.str [116, 104, 101, 110], a.FD, b.FD]), none] [])) ⟨_⟩ ⟨_⟩
      have na := a.nf
      have nb := b.nf
      have ehe : (Fm.sq a b).he = (a.he && b.he) := rfl
      rw [ehe]
      generalize a.FD = x at *
      generalize b.FD = y at *
      have ix0 : ∀ h : LH, dIx (.tup [.str [116, 104, 101, 110], x, y]) (.int 0) h = .ok (.str [116, 104, 101, 110]) h := fun h => rfl
      have ix1 : ∀ h : LH, dIx (.tup [.str [116, 104, 101, 110], x, y]) (.int 1) h = .ok x h := fun h => rfl
      have ix2 : ∀ h : LH, dIx (.tup [.str [116, 104, 101, 110], x, y]) (.int 2) h = .ok y h := fun h => rfl
      have i1 : ∀ h : LH, dIn (.str [116, 104, 101, 110]) (.tup [.str [101, 109, 112, 116, 121], .str [97, 110, 121]]) h = .ok (.bl false) h := fun h => rfl
      have i2 : ∀ h : LH, dIn (.str [116, 104, 101, 110]) (.tup [.str [110, 111, 110, 101], .str [115, 105, 103, 110]]) h = .ok (.bl false) h := fun h => rfl
      have q1 : ∀ h : LH, dEq (.str [116, 104, 101, 110]) (.str [110, 111, 116]) h = .ok (.bl false) h := fun h => rfl
      have q2 : ∀ h : LH, dEq (.str [116, 104, 101, 110]) (.str [111, 114]) h = .ok (.bl false) h := fun h => rfl
      unfold b1_has_empty
      cases hA : a.he with
      | true =>
        rw [hA] at ea
        simp only [Rf.okR_ok, Rf.okR_ex, Rf.okS_nx, Rf.okS_rt, Rf.okS_bk, Rf.okS_ct, Rf.okS_ex, Rf.okR_bind, Rf.okS_lift, Rf.okS_seq, Rf.okS_if, Rf.okS_ret, Rf.okS_drop, Rf.okS_set, Rf.okS_next, Rf.okS_retN, Rf.okS_brk, Rf.okS_cont, Rf.okS_raise, Rf.okR_fin, Rf.okR_bin, Rf.okR_test, Rf.okR_not, Rf.okR_and, Rf.okR_or, Rf.okR_andV, Rf.okR_orV, Rf.okR_notV, Rf.okR_mif, Rf.okR_C, Rf.okR_nil, Rf.okR_yes, Rf.okR_cons, Rf.okR_call, Rf.okR_callK, Rf.okR_tup, Rf.okR_lst, Rf.okR_fld, Rf.okR_meth, Rf.okR_make, Rf.okR_bm, Rf.okR_isi, Rf.okS_for, Rf.okR_lc, Rf.okR_any, Rf.okS_asg, Rf.okS_setFld, Rf.okR_V, Rf.okR_chain, Rf.okR_rng1, Rf.okR_rng2, Rf.okR_neg, Rf.okR_sl, Rf.okR_noPart, Rf.okR_part, Rf.okS_sub, Rf.okS_par, List.getElem?_cons_zero, List.getElem?_cons_succ, List.set_cons_zero, List.set_cons_succ, if_true, if_false, Bool.false_eq_true, reduceIte, reduceCtorEq, Rf.tgOf, Rf.luk_c, Rf.f1, Rf.gV_non, Rf.gV_bl, Rf.gV_int, Rf.gV_str, Rf.gV_tup, Rf.gV_ktp, Rf.gV_rol, Rf.gV_ref, Rf.gd0, Rf.gdA, List.cons_append, List.nil_append, List.append_nil, List.take_succ_cons, List.take_zero, List.take_nil, List.drop_succ_cons, List.drop_zero, List.drop_nil, Rf.oI0, Rf.oI, Bool.not_true, Bool.not_false, ix0, ix1, ix2, i1, i2, q1, q2, z2, gV_nf na, gV_nf nb, ea, eb, Bool.true_and]
      | false =>
        rw [hA] at ea
        simp only [Rf.okR_ok, Rf.okR_ex, Rf.okS_nx, Rf.okS_rt, Rf.okS_bk, Rf.okS_ct, Rf.okS_ex, Rf.okR_bind, Rf.okS_lift, Rf.okS_seq, Rf.okS_if, Rf.okS_ret, Rf.okS_drop, Rf.okS_set, Rf.okS_next, Rf.okS_retN, Rf.okS_brk, Rf.okS_cont, Rf.okS_raise, Rf.okR_fin, Rf.okR_bin, Rf.okR_test, Rf.okR_not, Rf.okR_and, Rf.okR_or, Rf.okR_andV, Rf.okR_orV, Rf.okR_notV, Rf.okR_mif, Rf.okR_C, Rf.okR_nil, Rf.okR_yes, Rf.okR_cons, Rf.okR_call, Rf.okR_callK, Rf.okR_tup, Rf.okR_lst, Rf.okR_fld, Rf.okR_meth, Rf.okR_make, Rf.okR_bm, Rf.okR_isi, Rf.okS_for, Rf.okR_lc, Rf.okR_any, Rf.okS_asg, Rf.okS_setFld, Rf.okR_V, Rf.okR_chain, Rf.okR_rng1, Rf.okR_rng2, Rf.okR_neg, Rf.okR_sl, Rf.okR_noPart, Rf.okR_part, Rf.okS_sub, Rf.okS_par, List.getElem?_cons_zero, List.getElem?_cons_succ, List.set_cons_zero, List.set_cons_succ, if_true, if_false, Bool.false_eq_true, reduceIte, reduceCtorEq, Rf.tgOf, Rf.luk_c, Rf.f1, Rf.gV_non, Rf.gV_bl, Rf.gV_int, Rf.gV_str, Rf.gV_tup, Rf.gV_ktp, Rf.gV_rol, Rf.gV_ref, Rf.gd0, Rf.gdA, List.cons_append, List.nil_append, List.append_nil, List.take_succ_cons, List.take_zero, List.take_nil, List.drop_succ_cons, List.drop_zero, List.drop_nil, Rf.oI0, Rf.oI, Bool.not_true, Bool.not_false, ix0, ix1, ix2, i1, i2, q1, q2, z2, gV_nf na, gV_nf nb, ea, eb, Bool.false_and]
    | bo a b =>
      simp only [Fm.dp] at hd
      refine runA_is h (pu _) ?_ rfl
      have ea := ih a [] (by omega)
      have eb := ih b [] (by omega)
      show @okR _ (fin (b1_has_empty (M_has_empty n) [some (.tup [.str [98, 111, 116, 104], a.FD, b.FD]), none] [])) ⟨_⟩ ⟨_⟩
      have na := a.nf
      have nb := b.nf
      have ehe : (Fm.bo a b).he = (a.he && b.he) := rfl
      rw [ehe]
      generalize a.FD = x at *
      generalize b.FD = y at *
      have ix0 : ∀ h : LH, dIx (.tup [.str [98, 111, 116, 104], x, y]) (.int 0) h = .ok (.str [98, 111, 116, 104]) h := fun h => rfl
      have ix1 : ∀ h : LH, dIx (.tup [.str [98, 111, 116, 104], x, y]) (.int 1) h = .ok x h := fun h => rfl
      have ix2 : ∀ h : LH, dIx (.tup [.str [98, 111, 116, 104], x, y]) (.int 2) h = .ok y h := fun h => rfl
      have i1 : ∀ h : LH, dIn (.str [98, 111, 116, 104]) (.tup [.str [101, 109, 112, 116, 121], .str [97, 110, 121]]) h = .ok (.bl false) h := fun h => rfl
      have i2 : ∀ h : LH, dIn (.str [98, 111, 116, 104]) (.tup [.str [110, 111, 110, 101], .str [115, 105, 103, 110]]) h = .ok (.bl false) h := fun h => rfl
      have q1 : ∀ h : LH, dEq (.str [98, 111, 116, 104]) (.str [110, 111, 116]) h = .ok (.bl false) h := fun h => rfl
      have q2 : ∀ h : LH, dEq (.str [98, 111, 116, 104]) (.str [111, 114]) h = .ok (.bl false) h := fun h => rfl
      unfold b1_has_empty
      cases hA : a.he with
      | true =>
        rw [hA] at ea
        simp only [Rf.okR_ok, Rf.okR_ex, Rf.okS_nx, Rf.okS_rt, Rf.okS_bk, Rf.okS_ct, Rf.okS_ex, Rf.okR_bind, Rf.okS_lift, Rf.okS_seq, Rf.okS_if, Rf.okS_ret, Rf.okS_drop, Rf.okS_set, Rf.okS_next, Rf.okS_retN, Rf.okS_brk, Rf.okS_cont, Rf.okS_raise, Rf.okR_fin, Rf.okR_bin, Rf.okR_test, Rf.okR_not, Rf.okR_and, Rf.okR_or, Rf.okR_andV, Rf.okR_orV, Rf.okR_notV, Rf.okR_mif, Rf.okR_C, Rf.okR_nil, Rf.okR_yes, Rf.okR_cons, Rf.okR_call, Rf.okR_callK, Rf.okR_tup, Rf.okR_lst, Rf.okR_fld, Rf.okR_meth, Rf.okR_make, Rf.okR_bm, Rf.okR_isi, Rf.okS_for, Rf.okR_lc, Rf.okR_any, Rf.okS_asg, Rf.okS_setFld, Rf.okR_V, Rf.okR_chain, Rf.okR_rng1, Rf.okR_rng2, Rf.okR_neg, Rf.okR_sl, Rf.okR_noPart, Rf.okR_part, Rf.okS_sub, Rf.okS_par, List.getElem?_cons_zero, List.getElem?_cons_succ, List.set_cons_zero, List.set_cons_succ, if_true, if_false, Bool.false_eq_true, reduceIte, reduceCtorEq, Rf.tgOf, Rf.luk_c, Rf.f1, Rf.gV_non, Rf.gV_bl, Rf.gV_int, Rf.gV_str, Rf.gV_tup, Rf.gV_ktp, Rf.gV_rol, Rf.gV_ref, Rf.gd0, Rf.gdA, List.cons_append, List.nil_append, List.append_nil, List.take_succ_cons, List.take_zero, List.take_nil, List.drop_succ_cons, List.drop_zero, List.drop_nil, Rf.oI0, Rf.oI, Bool.not_true, Bool.not_false, ix0, ix1, ix2, i1, i2, q1, q2, z2, gV_nf na, gV_nf nb, ea, eb, Bool.true_and]
      | false =>
        rw [hA] at ea
        simp only [Rf.okR_ok, Rf.okR_ex, Rf.okS_nx, Rf.okS_rt, Rf.okS_bk, Rf.okS_ct, Rf.okS_ex, Rf.okR_bind, Rf.okS_lift, Rf.okS_seq, Rf.okS_if, Rf.okS_ret, Rf.okS_drop, Rf.okS_set, Rf.okS_next, Rf.okS_retN, Rf.okS_brk, Rf.okS_cont, Rf.okS_raise, Rf.okR_fin, Rf.okR_bin, Rf.okR_test, Rf.okR_not, Rf.okR_and, Rf.okR_or, Rf.okR_andV, Rf.okR_orV, Rf.okR_notV, Rf.okR_mif, Rf.okR_C, Rf.okR_nil, Rf.okR_yes, Rf.okR_cons, Rf.okR_call, Rf.okR_callK, Rf.okR_tup, Rf.okR_lst, Rf.okR_fld, Rf.okR_meth, Rf.okR_make, Rf.okR_bm, Rf.okR_isi, Rf.okS_for, Rf.okR_lc, Rf.okR_any, Rf.okS_asg, Rf.okS_setFld, Rf.okR_V, Rf.okR_chain, Rf.okR_rng1, Rf.okR_rng2, Rf.okR_neg, Rf.okR_sl, Rf.okR_noPart, Rf.okR_part, Rf.okS_sub, Rf.okS_par, List.getElem?_cons_zero, List.getElem?_cons_succ, List.set_cons_zero, List.set_cons_succ, if_true, if_false, Bool.false_eq_true, reduceIte, reduceCtorEq, Rf.tgOf, Rf.luk_c, Rf.f1, Rf.gV_non, Rf.gV_bl, Rf.gV_int, Rf.gV_str, Rf.gV_tup, Rf.gV_ktp, Rf.gV_rol, Rf.gV_ref, Rf.gd0, Rf.gdA, List.cons_append, List.nil_append, List.append_nil, List.take_succ_cons, List.take_zero, List.take_nil, List.drop_succ_cons, List.drop_zero, List.drop_nil, Rf.oI0, Rf.oI, Bool.not_true, Bool.not_false, ix0, ix1, ix2, i1, i2, q1, q2, z2, gV_nf na, gV_nf nb, ea, eb, Bool.false_and]
theorem in_none {al : List Nat} (ha : okT al = true) {a b : Fm} (sa : a.Sg al) (sb : b.Sg al) (da : a.dp ≤ 60) (db : b.dp ≤ 60) (h : LH) : dIn (.tup [.str [110, 111, 110, 101]]) (.tup [a.FD, b.FD]) h = .ok (.bl (decide (a = .non ∨ b = .non))) h := by
  have e1 : pd h 65 (.tup [.str [110, 111, 110, 101]]) = some Fm.non.FP := Fm.pd_F h 65 .non (by decide)
  have e2 : pdA (pd h 65) [a.FD, b.FD] = some [a.FP, b.FP] := by
    simp only [pdA, Fm.pd_F h 65 a (by omega), Fm.pd_F h 65 b (by omega)]
  have fl : (([a.FD, b.FD] : List D).all isFlat && isFlat (.tup [.str [110, 111, 110, 101]])) = false := by
    rw [Bool.and_eq_false_iff]; exact .inr rfl
  have s1 : SeqAt.shaped Fm.non.FP = true := Fm.shp ha trivial (by decide)
  have s2 : SeqAt.shaped (.list [a.FP, b.FP]) = true := by
    have := a.dep_F
    have := b.dep_F
    unfold SeqAt.shaped
    rw [PyData.canLay0, PyData.canLayAll0, PyData.canLayAll0, PyData.canLayAll0, Fm.lay_F ha a sa, Fm.lay_F ha b sb, PyData.depth, PyData.depthAll, PyData.depthAll, PyData.depthAll, decide_eq_true (by omega)]; rfl
  unfold dIn inD inSq inDeep
  simp only [fl, e1, e2, s1, s2, Bool.and_self, if_true, Bool.false_eq_true, if_false, List.any_cons, List.any_nil, Fm.eqv_F, Bool.or_false]
  congr 2
  rw [Bool.eq_iff_iff]; simp
theorem pu2 (a b : Fm) : pureDs [a.FD, b.FD] = true := by simp [pureDs, a.pure, b.pure]
theorem either_ok {al : List Nat} (ha : okT al = true) {a b : Fm} (sa : a.Sg al) (sb : b.Sg al) (da : a.dp ≤ 60) (db : b.dp ≤ 60) (h : LH) : m_either [a.FD, b.FD] h = .ok (Fm.eith a b).FD h := by
  have q1 := Fm.eq_F ha sa sb (by omega) (by omega)
  have q2 : ∀ h : LH, dEq b.FD (.tup [.str [110, 111, 110, 101]]) h = .ok (.bl (decide (b = .non))) h := Fm.eq_F (g := .non) ha sb trivial (by omega) (by decide)
  have q3 : ∀ h : LH, dEq a.FD (.tup [.str [110, 111, 110, 101]]) h = .ok (.bl (decide (a = .non))) h := Fm.eq_F (g := .non) ha sa trivial (by omega) (by decide)
  have z3 : ∀ a b c : D, szOk ([a, b, c] : List D).length = true := fun _ _ _ => rfl
  refine runA_is h (pu2 a b) ?_ (Fm.pure _)
  show @okR _ (fin (b_either [some a.FD, some b.FD] [])) ⟨_⟩ ⟨_⟩
  unfold b_either Fm.eith
  by_cases h1 : a = b
  · rw [if_pos (.inl h1)]
    simp only [Rf.okR_ok, Rf.okR_ex, Rf.okS_nx, Rf.okS_rt, Rf.okS_bk, Rf.okS_ct, Rf.okS_ex, Rf.okR_bind, Rf.okS_lift, Rf.okS_seq, Rf.okS_if, Rf.okS_ret, Rf.okS_drop, Rf.okS_set, Rf.okS_next, Rf.okS_retN, Rf.okS_brk, Rf.okS_cont, Rf.okS_raise, Rf.okR_fin, Rf.okR_bin, Rf.okR_test, Rf.okR_not, Rf.okR_and, Rf.okR_or, Rf.okR_andV, Rf.okR_orV, Rf.okR_notV, Rf.okR_mif, Rf.okR_C, Rf.okR_nil, Rf.okR_yes, Rf.okR_cons, Rf.okR_call, Rf.okR_callK, Rf.okR_tup, Rf.okR_lst, Rf.okR_fld, Rf.okR_meth, Rf.okR_make, Rf.okR_bm, Rf.okR_isi, Rf.okS_for, Rf.okR_lc, Rf.okR_any, Rf.okS_asg, Rf.okS_setFld, Rf.okR_V, Rf.okR_chain, Rf.okR_rng1, Rf.okR_rng2, Rf.okR_neg, Rf.okR_sl, Rf.okR_noPart, Rf.okR_part, Rf.okS_sub, Rf.okS_par, List.getElem?_cons_zero, List.getElem?_cons_succ, List.set_cons_zero, List.set_cons_succ, if_true, if_false, Bool.false_eq_true, reduceIte, reduceCtorEq, Rf.tgOf, Rf.luk_c, Rf.f1, Rf.gV_non, Rf.gV_bl, Rf.gV_int, Rf.gV_str, Rf.gV_tup, Rf.gV_ktp, Rf.gV_rol, Rf.gV_ref, Rf.gd0, Rf.gdA, List.cons_append, List.nil_append, List.append_nil, List.take_succ_cons, List.take_zero, List.take_nil, List.drop_succ_cons, List.drop_zero, List.drop_nil, Rf.oI0, Rf.oI, Bool.not_true, Bool.not_false, gV_nf a.nf, gV_nf b.nf, q1, decide_eq_true h1]
  · by_cases h2 : b = .non
    · rw [if_pos (.inr h2)]
      simp only [Rf.okR_ok, Rf.okR_ex, Rf.okS_nx, Rf.okS_rt, Rf.okS_bk, Rf.okS_ct, Rf.okS_ex, Rf.okR_bind, Rf.okS_lift, Rf.okS_seq, Rf.okS_if, Rf.okS_ret, Rf.okS_drop, Rf.okS_set, Rf.okS_next, Rf.okS_retN, Rf.okS_brk, Rf.okS_cont, Rf.okS_raise, Rf.okR_fin, Rf.okR_bin, Rf.okR_test, Rf.okR_not, Rf.okR_and, Rf.okR_or, Rf.okR_andV, Rf.okR_orV, Rf.okR_notV, Rf.okR_mif, Rf.okR_C, Rf.okR_nil, Rf.okR_yes, Rf.okR_cons, Rf.okR_call, Rf.okR_callK, Rf.okR_tup, Rf.okR_lst, Rf.okR_fld, Rf.okR_meth, Rf.okR_make, Rf.okR_bm, Rf.okR_isi, Rf.okS_for, Rf.okR_lc, Rf.okR_any, Rf.okS_asg, Rf.okS_setFld, Rf.okR_V, Rf.okR_chain, Rf.okR_rng1, Rf.okR_rng2, Rf.okR_neg, Rf.okR_sl, Rf.okR_noPart, Rf.okR_part, Rf.okS_sub, Rf.okS_par, List.getElem?_cons_zero, List.getElem?_cons_succ, List.set_cons_zero, List.set_cons_succ, if_true, if_false, Bool.false_eq_true, reduceIte, reduceCtorEq, Rf.tgOf, Rf.luk_c, Rf.f1, Rf.gV_non, Rf.gV_bl, Rf.gV_int, Rf.gV_str, Rf.gV_tup, Rf.gV_ktp, Rf.gV_rol, Rf.gV_ref, Rf.gd0, Rf.gdA, List.cons_append, List.nil_append, List.append_nil, List.take_succ_cons, List.take_zero, List.take_nil, List.drop_succ_cons, List.drop_zero, List.drop_nil, Rf.oI0, Rf.oI, Bool.not_true, Bool.not_false, gV_nf a.nf, gV_nf b.nf, q1, decide_eq_false h1, q2, decide_eq_true h2]
    · rw [if_neg (by simp [h1, h2])]
      by_cases h3 : a = .non
      · rw [if_pos h3]
        simp only [Rf.okR_ok, Rf.okR_ex, Rf.okS_nx, Rf.okS_rt, Rf.okS_bk, Rf.okS_ct, Rf.okS_ex, Rf.okR_bind, Rf.okS_lift, Rf.okS_seq, Rf.okS_if, Rf.okS_ret, Rf.okS_drop, Rf.okS_set, Rf.okS_next, Rf.okS_retN, Rf.okS_brk, Rf.okS_cont, Rf.okS_raise, Rf.okR_fin, Rf.okR_bin, Rf.okR_test, Rf.okR_not, Rf.okR_and, Rf.okR_or, Rf.okR_andV, Rf.okR_orV, Rf.okR_notV, Rf.okR_mif, Rf.okR_C, Rf.okR_nil, Rf.okR_yes, Rf.okR_cons, Rf.okR_call, Rf.okR_callK, Rf.okR_tup, Rf.okR_lst, Rf.okR_fld, Rf.okR_meth, Rf.okR_make, Rf.okR_bm, Rf.okR_isi, Rf.okS_for, Rf.okR_lc, Rf.okR_any, Rf.okS_asg, Rf.okS_setFld, Rf.okR_V, Rf.okR_chain, Rf.okR_rng1, Rf.okR_rng2, Rf.okR_neg, Rf.okR_sl, Rf.okR_noPart, Rf.okR_part, Rf.okS_sub, Rf.okS_par, List.getElem?_cons_zero, List.getElem?_cons_succ, List.set_cons_zero, List.set_cons_succ, if_true, if_false, Bool.false_eq_true, reduceIte, reduceCtorEq, Rf.tgOf, Rf.luk_c, Rf.f1, Rf.gV_non, Rf.gV_bl, Rf.gV_int, Rf.gV_str, Rf.gV_tup, Rf.gV_ktp, Rf.gV_rol, Rf.gV_ref, Rf.gd0, Rf.gdA, List.cons_append, List.nil_append, List.append_nil, List.take_succ_cons, List.take_zero, List.take_nil, List.drop_succ_cons, List.drop_zero, List.drop_nil, Rf.oI0, Rf.oI, Bool.not_true, Bool.not_false, gV_nf a.nf, gV_nf b.nf, q1, decide_eq_false h1, q2, decide_eq_false h2, q3, decide_eq_true h3]
      · rw [if_neg h3]
        simp only [Rf.okR_ok, Rf.okR_ex, Rf.okS_nx, Rf.okS_rt, Rf.okS_bk, Rf.okS_ct, Rf.okS_ex, Rf.okR_bind, Rf.okS_lift, Rf.okS_seq, Rf.okS_if, Rf.okS_ret, Rf.okS_drop, Rf.okS_set, Rf.okS_next, Rf.okS_retN, Rf.okS_brk, Rf.okS_cont, Rf.okS_raise, Rf.okR_fin, Rf.okR_bin, Rf.okR_test, Rf.okR_not, Rf.okR_and, Rf.okR_or, Rf.okR_andV, Rf.okR_orV, Rf.okR_notV, Rf.okR_mif, Rf.okR_C, Rf.okR_nil, Rf.okR_yes, Rf.okR_cons, Rf.okR_call, Rf.okR_callK, Rf.okR_tup, Rf.okR_lst, Rf.okR_fld, Rf.okR_meth, Rf.okR_make, Rf.okR_bm, Rf.okR_isi, Rf.okS_for, Rf.okR_lc, Rf.okR_any, Rf.okS_asg, Rf.okS_setFld, Rf.okR_V, Rf.okR_chain, Rf.okR_rng1, Rf.okR_rng2, Rf.okR_neg, Rf.okR_sl, Rf.okR_noPart, Rf.okR_part, Rf.okS_sub, Rf.okS_par, List.getElem?_cons_zero, List.getElem?_cons_succ, List.set_cons_zero, List.set_cons_succ, if_true, if_false, Bool.false_eq_true, reduceIte, reduceCtorEq, Rf.tgOf, Rf.luk_c, Rf.f1, Rf.gV_non, Rf.gV_bl, Rf.gV_int, Rf.gV_str, Rf.gV_tup, Rf.gV_ktp, Rf.gV_rol, Rf.gV_ref, Rf.gd0, Rf.gdA, List.cons_append, List.nil_append, List.append_nil, List.take_succ_cons, List.take_zero, List.take_nil, List.drop_succ_cons, List.drop_zero, List.drop_nil, Rf.oI0, Rf.oI, Bool.not_true, Bool.not_false, gV_nf a.nf, gV_nf b.nf, q1, decide_eq_false h1, q2, decide_eq_false h2, q3, decide_eq_false h3, z3]
        rfl
theorem behind_ok {al : List Nat} (ha : okT al = true) {a b : Fm} (sa : a.Sg al) (sb : b.Sg al) (da : a.dp ≤ 60) (db : b.dp ≤ 60) (h : LH) : m_behind [a.FD, b.FD] h = .ok (Fm.behi a b).FD h := by
  have q1 := in_none ha sa sb da db
  have q2 : ∀ h : LH, dEq b.FD (.tup [.str [101, 109, 112, 116, 121]]) h = .ok (.bl (decide (b = .emp))) h := Fm.eq_F (g := .emp) ha sb trivial (by omega) (by decide)
  have q3 : ∀ h : LH, dEq a.FD (.tup [.str [101, 109, 112, 116, 121]]) h = .ok (.bl (decide (a = .emp))) h := Fm.eq_F (g := .emp) ha sa trivial (by omega) (by decide)
  have z2 : ∀ a b : D, szOk ([a, b] : List D).length = true := fun _ _ => rfl
  have z3 : ∀ a b c : D, szOk ([a, b, c] : List D).length = true := fun _ _ _ => rfl
  refine runA_is h (pu2 a b) ?_ (Fm.pure _)
  show @okR _ (fin (b_behind [some a.FD, some b.FD] [])) ⟨_⟩ ⟨_⟩
  unfold b_behind Fm.behi
  by_cases h1 : a = .non ∨ b = .non
  · rw [if_pos h1]
    simp only [Rf.okR_ok, Rf.okR_ex, Rf.okS_nx, Rf.okS_rt, Rf.okS_bk, Rf.okS_ct, Rf.okS_ex, Rf.okR_bind, Rf.okS_lift, Rf.okS_seq, Rf.okS_if, Rf.okS_ret, Rf.okS_drop, Rf.okS_set, Rf.okS_next, Rf.okS_retN, Rf.okS_brk, Rf.okS_cont, Rf.okS_raise, Rf.okR_fin, Rf.okR_bin, Rf.okR_test, Rf.okR_not, Rf.okR_and, Rf.okR_or, Rf.okR_andV, Rf.okR_orV, Rf.okR_notV, Rf.okR_mif, Rf.okR_C, Rf.okR_nil, Rf.okR_yes, Rf.okR_cons, Rf.okR_call, Rf.okR_callK, Rf.okR_tup, Rf.okR_lst, Rf.okR_fld, Rf.okR_meth, Rf.okR_make, Rf.okR_bm, Rf.okR_isi, Rf.okS_for, Rf.okR_lc, Rf.okR_any, Rf.okS_asg, Rf.okS_setFld, Rf.okR_V, Rf.okR_chain, Rf.okR_rng1, Rf.okR_rng2, Rf.okR_neg, Rf.okR_sl, Rf.okR_noPart, Rf.okR_part, Rf.okS_sub, Rf.okS_par, List.getElem?_cons_zero, List.getElem?_cons_succ, List.set_cons_zero, List.set_cons_succ, if_true, if_false, Bool.false_eq_true, reduceIte, reduceCtorEq, Rf.tgOf, Rf.luk_c, Rf.f1, Rf.gV_non, Rf.gV_bl, Rf.gV_int, Rf.gV_str, Rf.gV_tup, Rf.gV_ktp, Rf.gV_rol, Rf.gV_ref, Rf.gd0, Rf.gdA, List.cons_append, List.nil_append, List.append_nil, List.take_succ_cons, List.take_zero, List.take_nil, List.drop_succ_cons, List.drop_zero, List.drop_nil, Rf.oI0, Rf.oI, Bool.not_true, Bool.not_false, gV_nf a.nf, gV_nf b.nf, z2, q1, decide_eq_true h1]
    rfl
  · rw [if_neg h1]
    by_cases h2 : a = .emp
    · rw [if_pos h2]
      simp only [Rf.okR_ok, Rf.okR_ex, Rf.okS_nx, Rf.okS_rt, Rf.okS_bk, Rf.okS_ct, Rf.okS_ex, Rf.okR_bind, Rf.okS_lift, Rf.okS_seq, Rf.okS_if, Rf.okS_ret, Rf.okS_drop, Rf.okS_set, Rf.okS_next, Rf.okS_retN, Rf.okS_brk, Rf.okS_cont, Rf.okS_raise, Rf.okR_fin, Rf.okR_bin, Rf.okR_test, Rf.okR_not, Rf.okR_and, Rf.okR_or, Rf.okR_andV, Rf.okR_orV, Rf.okR_notV, Rf.okR_mif, Rf.okR_C, Rf.okR_nil, Rf.okR_yes, Rf.okR_cons, Rf.okR_call, Rf.okR_callK, Rf.okR_tup, Rf.okR_lst, Rf.okR_fld, Rf.okR_meth, Rf.okR_make, Rf.okR_bm, Rf.okR_isi, Rf.okS_for, Rf.okR_lc, Rf.okR_any, Rf.okS_asg, Rf.okS_setFld, Rf.okR_V, Rf.okR_chain, Rf.okR_rng1, Rf.okR_rng2, Rf.okR_neg, Rf.okR_sl, Rf.okR_noPart, Rf.okR_part, Rf.okS_sub, Rf.okS_par, List.getElem?_cons_zero, List.getElem?_cons_succ, List.set_cons_zero, List.set_cons_succ, if_true, if_false, Bool.false_eq_true, reduceIte, reduceCtorEq, Rf.tgOf, Rf.luk_c, Rf.f1, Rf.gV_non, Rf.gV_bl, Rf.gV_int, Rf.gV_str, Rf.gV_tup, Rf.gV_ktp, Rf.gV_rol, Rf.gV_ref, Rf.gd0, Rf.gdA, List.cons_append, List.nil_append, List.append_nil, List.take_succ_cons, List.take_zero, List.take_nil, List.drop_succ_cons, List.drop_zero, List.drop_nil, Rf.oI0, Rf.oI, Bool.not_true, Bool.not_false, gV_nf a.nf, gV_nf b.nf, z2, q1, decide_eq_false h1, q3, decide_eq_true h2]
    · rw [if_neg h2]
      by_cases h3 : b = .emp
      · rw [if_pos h3]
        simp only [Rf.okR_ok, Rf.okR_ex, Rf.okS_nx, Rf.okS_rt, Rf.okS_bk, Rf.okS_ct, Rf.okS_ex, Rf.okR_bind, Rf.okS_lift, Rf.okS_seq, Rf.okS_if, Rf.okS_ret, Rf.okS_drop, Rf.okS_set, Rf.okS_next, Rf.okS_retN, Rf.okS_brk, Rf.okS_cont, Rf.okS_raise, Rf.okR_fin, Rf.okR_bin, Rf.okR_test, Rf.okR_not, Rf.okR_and, Rf.okR_or, Rf.okR_andV, Rf.okR_orV, Rf.okR_notV, Rf.okR_mif, Rf.okR_C, Rf.okR_nil, Rf.okR_yes, Rf.okR_cons, Rf.okR_call, Rf.okR_callK, Rf.okR_tup, Rf.okR_lst, Rf.okR_fld, Rf.okR_meth, Rf.okR_make, Rf.okR_bm, Rf.okR_isi, Rf.okS_for, Rf.okR_lc, Rf.okR_any, Rf.okS_asg, Rf.okS_setFld, Rf.okR_V, Rf.okR_chain, Rf.okR_rng1, Rf.okR_rng2, Rf.okR_neg, Rf.okR_sl, Rf.okR_noPart, Rf.okR_part, Rf.okS_sub, Rf.okS_par, List.getElem?_cons_zero, List.getElem?_cons_succ, List.set_cons_zero, List.set_cons_succ, if_true, if_false, Bool.false_eq_true, reduceIte, reduceCtorEq, Rf.tgOf, Rf.luk_c, Rf.f1, Rf.gV_non, Rf.gV_bl, Rf.gV_int, Rf.gV_str, Rf.gV_tup, Rf.gV_ktp, Rf.gV_rol, Rf.gV_ref, Rf.gd0, Rf.gdA, List.cons_append, List.nil_append, List.append_nil, List.take_succ_cons, List.take_zero, List.take_nil, List.drop_succ_cons, List.drop_zero, List.drop_nil, Rf.oI0, Rf.oI, Bool.not_true, Bool.not_false, gV_nf a.nf, gV_nf b.nf, z2, q1, decide_eq_false h1, q3, decide_eq_false h2, q2, decide_eq_true h3]
      · rw [if_neg h3]
        simp only [Rf.okR_ok, Rf.okR_ex, Rf.okS_nx, Rf.okS_rt, Rf.okS_bk, Rf.okS_ct, Rf.okS_ex, Rf.okR_bind, Rf.okS_lift, Rf.okS_seq, Rf.okS_if, Rf.okS_ret, Rf.okS_drop, Rf.okS_set, Rf.okS_next, Rf.okS_retN, Rf.okS_brk, Rf.okS_cont, Rf.okS_raise, Rf.okR_fin, Rf.okR_bin, Rf.okR_test, Rf.okR_not, Rf.okR_and, Rf.okR_or, Rf.okR_andV, Rf.okR_orV, Rf.okR_notV, Rf.okR_mif, Rf.okR_C, Rf.okR_nil, Rf.okR_yes, Rf.okR_cons, Rf.okR_call, Rf.okR_callK, Rf.okR_tup, Rf.okR_lst, Rf.okR_fld, Rf.okR_meth, Rf.okR_make, Rf.okR_bm, Rf.okR_isi, Rf.okS_for, Rf.okR_lc, Rf.okR_any, Rf.okS_asg, Rf.okS_setFld, Rf.okR_V, Rf.okR_chain, Rf.okR_rng1, Rf.okR_rng2, Rf.okR_neg, Rf.okR_sl, Rf.okR_noPart, Rf.okR_part, Rf.okS_sub, Rf.okS_par, List.getElem?_cons_zero, List.getElem?_cons_succ, List.set_cons_zero, List.set_cons_succ, if_true, if_false, Bool.false_eq_true, reduceIte, reduceCtorEq, Rf.tgOf, Rf.luk_c, Rf.f1, Rf.gV_non, Rf.gV_bl, Rf.gV_int, Rf.gV_str, Rf.gV_tup, Rf.gV_ktp, Rf.gV_rol, Rf.gV_ref, Rf.gd0, Rf.gdA, List.cons_append, List.nil_append, List.append_nil, List.take_succ_cons, List.take_zero, List.take_nil, List.drop_succ_cons, List.drop_zero, List.drop_nil, Rf.oI0, Rf.oI, Bool.not_true, Bool.not_false, gV_nf a.nf, gV_nf b.nf, z2, q1, decide_eq_false h1, q3, decide_eq_false h2, q2, decide_eq_false h3, z3]
        rfl
theorem pus (a : Fm) (s : Nat) : pureDs [a.FD, .str [s]] = true := by simp [pureDs, a.pure, pureD]
theorem after_ok {al : List Nat} (ha : okT al = true) (s : Nat) : ∀ (n : Nat) (f : Fm) (h : LH), f.Sg al → f.dp ≤ n → f.dp + f.ed ≤ 59 → M_after n [f.FD, .str [s]] h = .ok (f.aft s).FD h := by
  intro n
  have z2 : ∀ a b : D, szOk ([a, b] : List D).length = true := fun _ _ => rfl
  have z3 : ∀ a b c : D, szOk ([a, b, c] : List D).length = true := fun _ _ _ => rfl
  have eq1 : ∀ (c : Nat) (h : LH), dEq (.str [c]) (.str [s]) h = .ok (.bl (decide (c = s))) h := fun c h => by
    have : decide ([c] = [s]) = decide (c = s) := by simp
    simp only [dEq, eqD, eqS, this]
  have leaf : ∀ (m : SM), (m = b0_after ∨ ∃ rc, m = b1_after rc) → ∀ f : Fm, f.dp = 0 → @okR _ (fm 6 m [f.FD, .str [s]] []) ⟨fun d _ => d = (f.aft s).FD⟩ ⟨fun _ _ => False⟩ := fun m hm f hl => by
    cases f with
    | non => rcases hm with rfl | ⟨rc, rfl⟩ <;> rfl
    | emp => rcases hm with rfl | ⟨rc, rfl⟩ <;> rfl
    | sg c =>
      have ix0 : ∀ h : LH, dIx (.tup [.str [115, 105, 103, 110], .str [c]]) (.int 0) h = .ok (.str [115, 105, 103, 110]) h := fun h => rfl
      have ix1 : ∀ h : LH, dIx (.tup [.str [115, 105, 103, 110], .str [c]]) (.int 1) h = .ok (.str [c]) h := fun h => rfl
      have i1 : ∀ h : LH, dIn (.str [115, 105, 103, 110]) (.tup [.str [110, 111, 110, 101], .str [101, 109, 112, 116, 121]]) h = .ok (.bl false) h := fun h => rfl
      have q1 : ∀ h : LH, dEq (.str [115, 105, 103, 110]) (.str [115, 105, 103, 110]) h = .ok (.bl true) h := fun h => rfl
      have ea : (Fm.sg c).aft s = if c = s then .emp else .non := rfl
      rw [ea]
      show @okR _ (fin (m [some (.tup [.str [115, 105, 103, 110], .str [c]]), some (.str [s]), none, none, none, none] [])) ⟨_⟩ ⟨_⟩
      by_cases e : c = s
      · rw [if_pos e]
        rcases hm with rfl | ⟨rc, rfl⟩
        · unfold b0_after
          simp only [Rf.okR_ok, Rf.okR_ex, Rf.okS_nx, Rf.okS_rt, Rf.okS_bk, Rf.okS_ct, Rf.okS_ex, Rf.okR_bind, Rf.okS_lift, Rf.okS_seq, Rf.okS_if, Rf.okS_ret, Rf.okS_drop, Rf.okS_set, Rf.okS_next, Rf.okS_retN, Rf.okS_brk, Rf.okS_cont, Rf.okS_raise, Rf.okR_fin, Rf.okR_bin, Rf.okR_test, Rf.okR_not, Rf.okR_and, Rf.okR_or, Rf.okR_andV, Rf.okR_orV, Rf.okR_notV, Rf.okR_mif, Rf.okR_C, Rf.okR_nil, Rf.okR_yes, Rf.okR_cons, Rf.okR_call, Rf.okR_callK, Rf.okR_tup, Rf.okR_lst, Rf.okR_fld, Rf.okR_meth, Rf.okR_make, Rf.okR_bm, Rf.okR_isi, Rf.okS_for, Rf.okR_lc, Rf.okR_any, Rf.okS_asg, Rf.okS_setFld, Rf.okR_V, Rf.okR_chain, Rf.okR_rng1, Rf.okR_rng2, Rf.okR_neg, Rf.okR_sl, Rf.okR_noPart, Rf.okR_part, Rf.okS_sub, Rf.okS_par, List.getElem?_cons_zero, List.getElem?_cons_succ, List.set_cons_zero, List.set_cons_succ, if_true, if_false, Bool.false_eq_true, reduceIte, reduceCtorEq, Rf.tgOf, Rf.luk_c, Rf.f1, Rf.gV_non, Rf.gV_bl, Rf.gV_int, Rf.gV_str, Rf.gV_tup, Rf.gV_ktp, Rf.gV_rol, Rf.gV_ref, Rf.gd0, Rf.gdA, List.cons_append, List.nil_append, List.append_nil, List.take_succ_cons, List.take_zero, List.take_nil, List.drop_succ_cons, List.drop_zero, List.drop_nil, Rf.oI0, Rf.oI, Bool.not_true, Bool.not_false, ix0, ix1, i1, q1, z2, eq1, decide_eq_true e]; rfl
        · unfold b1_after
          simp only [Rf.okR_ok, Rf.okR_ex, Rf.okS_nx, Rf.okS_rt, Rf.okS_bk, Rf.okS_ct, Rf.okS_ex, Rf.okR_bind, Rf.okS_lift, Rf.okS_seq, Rf.okS_if, Rf.okS_ret, Rf.okS_drop, Rf.okS_set, Rf.okS_next, Rf.okS_retN, Rf.okS_brk, Rf.okS_cont, Rf.okS_raise, Rf.okR_fin, Rf.okR_bin, Rf.okR_test, Rf.okR_not, Rf.okR_and, Rf.okR_or, Rf.okR_andV, Rf.okR_orV, Rf.okR_notV, Rf.okR_mif, Rf.okR_C, Rf.okR_nil, Rf.okR_yes, Rf.okR_cons, Rf.okR_call, Rf.okR_callK, Rf.okR_tup, Rf.okR_lst, Rf.okR_fld, Rf.okR_meth, Rf.okR_make, Rf.okR_bm, Rf.okR_isi, Rf.okS_for, Rf.okR_lc, Rf.okR_any, Rf.okS_asg, Rf.okS_setFld, Rf.okR_V, Rf.okR_chain, Rf.okR_rng1, Rf.okR_rng2, Rf.okR_neg, Rf.okR_sl, Rf.okR_noPart, Rf.okR_part, Rf.okS_sub, Rf.okS_par, List.getElem?_cons_zero, List.getElem?_cons_succ, List.set_cons_zero, List.set_cons_succ, if_true, if_false, Bool.false_eq_true, reduceIte, reduceCtorEq, Rf.tgOf, Rf.luk_c, Rf.f1, Rf.gV_non, Rf.gV_bl, Rf.gV_int, Rf.gV_str, Rf.gV_tup, Rf.gV_ktp, Rf.gV_rol, Rf.gV_ref, Rf.gd0, Rf.gdA, List.cons_append, List.nil_append, List.append_nil, List.take_succ_cons, List.take_zero, List.take_nil, List.drop_succ_cons, List.drop_zero, List.drop_nil, Rf.oI0, Rf.oI, Bool.not_true, Bool.not_false, ix0, ix1, i1, q1, z2, eq1, decide_eq_true e]; rfl
      · rw [if_neg e]
        rcases hm with rfl | ⟨rc, rfl⟩
        · unfold b0_after
          simp only [Rf.okR_ok, Rf.okR_ex, Rf.okS_nx, Rf.okS_rt, Rf.okS_bk, Rf.okS_ct, Rf.okS_ex, Rf.okR_bind, Rf.okS_lift, Rf.okS_seq, Rf.okS_if, Rf.okS_ret, Rf.okS_drop, Rf.okS_set, Rf.okS_next, Rf.okS_retN, Rf.okS_brk, Rf.okS_cont, Rf.okS_raise, Rf.okR_fin, Rf.okR_bin, Rf.okR_test, Rf.okR_not, Rf.okR_and, Rf.okR_or, Rf.okR_andV, Rf.okR_orV, Rf.okR_notV, Rf.okR_mif, Rf.okR_C, Rf.okR_nil, Rf.okR_yes, Rf.okR_cons, Rf.okR_call, Rf.okR_callK, Rf.okR_tup, Rf.okR_lst, Rf.okR_fld, Rf.okR_meth, Rf.okR_make, Rf.okR_bm, Rf.okR_isi, Rf.okS_for, Rf.okR_lc, Rf.okR_any, Rf.okS_asg, Rf.okS_setFld, Rf.okR_V, Rf.okR_chain, Rf.okR_rng1, Rf.okR_rng2, Rf.okR_neg, Rf.okR_sl, Rf.okR_noPart, Rf.okR_part, Rf.okS_sub, Rf.okS_par, List.getElem?_cons_zero, List.getElem?_cons_succ, List.set_cons_zero, List.set_cons_succ, if_true, if_false, Bool.false_eq_true, reduceIte, reduceCtorEq, Rf.tgOf, Rf.luk_c, Rf.f1, Rf.gV_non, Rf.gV_bl, Rf.gV_int, Rf.gV_str, Rf.gV_tup, Rf.gV_ktp, Rf.gV_rol, Rf.gV_ref, Rf.gd0, Rf.gdA, List.cons_append, List.nil_append, List.append_nil, List.take_succ_cons, List.take_zero, List.take_nil, List.drop_succ_cons, List.drop_zero, List.drop_nil, Rf.oI0, Rf.oI, Bool.not_true, Bool.not_false, ix0, ix1, i1, q1, z2, eq1, decide_eq_false e]; rfl
        · unfold b1_after
          simp only [Rf.okR_ok, Rf.okR_ex, Rf.okS_nx, Rf.okS_rt, Rf.okS_bk, Rf.okS_ct, Rf.okS_ex, Rf.okR_bind, Rf.okS_lift, Rf.okS_seq, Rf.okS_if, Rf.okS_ret, Rf.okS_drop, Rf.okS_set, Rf.okS_next, Rf.okS_retN, Rf.okS_brk, Rf.okS_cont, Rf.okS_raise, Rf.okR_fin, Rf.okR_bin, Rf.okR_test, Rf.okR_not, Rf.okR_and, Rf.okR_or, Rf.okR_andV, Rf.okR_orV, Rf.okR_notV, Rf.okR_mif, Rf.okR_C, Rf.okR_nil, Rf.okR_yes, Rf.okR_cons, Rf.okR_call, Rf.okR_callK, Rf.okR_tup, Rf.okR_lst, Rf.okR_fld, Rf.okR_meth, Rf.okR_make, Rf.okR_bm, Rf.okR_isi, Rf.okS_for, Rf.okR_lc, Rf.okR_any, Rf.okS_asg, Rf.okS_setFld, Rf.okR_V, Rf.okR_chain, Rf.okR_rng1, Rf.okR_rng2, Rf.okR_neg, Rf.okR_sl, Rf.okR_noPart, Rf.okR_part, Rf.okS_sub, Rf.okS_par, List.getElem?_cons_zero, List.getElem?_cons_succ, List.set_cons_zero, List.set_cons_succ, if_true, if_false, Bool.false_eq_true, reduceIte, reduceCtorEq, Rf.tgOf, Rf.luk_c, Rf.f1, Rf.gV_non, Rf.gV_bl, Rf.gV_int, Rf.gV_str, Rf.gV_tup, Rf.gV_ktp, Rf.gV_rol, Rf.gV_ref, Rf.gd0, Rf.gdA, List.cons_append, List.nil_append, List.append_nil, List.take_succ_cons, List.take_zero, List.take_nil, List.drop_succ_cons, List.drop_zero, List.drop_nil, Rf.oI0, Rf.oI, Bool.not_true, Bool.not_false, ix0, ix1, i1, q1, z2, eq1, decide_eq_false e]; rfl
    | _ => cases hl
  have q2 : ∀ (w v : List Nat) (h : LH), dEq (.str w) (.str v) h = .ok (.bl (decide (w = v))) h := fun w v h => eq_str
  induction n with
  | zero => intro f h hs hd he; exact runA_is h (pus f s) (leaf _ (.inl rfl) f (by omega)) (Fm.pure _)
  | succ n ih =>
    intro f h hs hd hx
    cases f with
    | non => exact runA_is h (pus _ s) (leaf _ (.inr ⟨_, rfl⟩) _ rfl) (Fm.pure _)
    | emp => exact runA_is h (pus _ s) (leaf _ (.inr ⟨_, rfl⟩) _ rfl) (Fm.pure _)
    | sg c => exact runA_is h (pus _ s) (leaf _ (.inr ⟨_, rfl⟩) _ rfl) (Fm.pure _)
    | nt a =>
      simp only [Fm.dp, Fm.ed] at hd hx
      refine runA_is h (pus _ s) ?_ (Fm.pure _)
      have ea := ih a [] hs (by omega) (by omega)
      show @okR _ (fin (b1_after (M_after n) [some (.tup [.str [110, 111, 116], a.FD]), some (.str [s]), none, none, none, none] [])) ⟨_⟩ ⟨_⟩
      have na := a.nf
      have er : (Fm.aft s (.nt a)).FD = .tup [.str [110, 111, 116], (a.aft s).FD] := rfl
      rw [er]
      generalize a.FD = x at *
      have ix0 : ∀ h : LH, dIx (.tup [.str [110, 111, 116], x]) (.int 0) h = .ok (.str [110, 111, 116]) h := fun h => rfl
      have ix1 : ∀ h : LH, dIx (.tup [.str [110, 111, 116], x]) (.int 1) h = .ok x h := fun h => rfl
      have i1 : ∀ h : LH, dIn (.str [110, 111, 116]) (.tup [.str [110, 111, 110, 101], .str [101, 109, 112, 116, 121]]) h = .ok (.bl false) h := fun h => rfl
      have p1 : ∀ h : LH, dEq (.str [110, 111, 116]) (.str [115, 105, 103, 110]) h = .ok (.bl false) h := fun h => rfl
      have p2 : ∀ h : LH, dEq (.str [110, 111, 116]) (.str [111, 114]) h = .ok (.bl false) h := fun h => rfl
      have p3 : ∀ h : LH, dEq (.str [110, 111, 116]) (.str [98, 111, 116, 104]) h = .ok (.bl false) h := fun h => rfl
      have p4 : ∀ h : LH, dEq (.str [110, 111, 116]) (.str [110, 111, 116]) h = .ok (.bl true) h := fun h => rfl
      unfold b1_after
      simp only [Rf.okR_ok, Rf.okR_ex, Rf.okS_nx, Rf.okS_rt, Rf.okS_bk, Rf.okS_ct, Rf.okS_ex, Rf.okR_bind, Rf.okS_lift, Rf.okS_seq, Rf.okS_if, Rf.okS_ret, Rf.okS_drop, Rf.okS_set, Rf.okS_next, Rf.okS_retN, Rf.okS_brk, Rf.okS_cont, Rf.okS_raise, Rf.okR_fin, Rf.okR_bin, Rf.okR_test, Rf.okR_not, Rf.okR_and, Rf.okR_or, Rf.okR_andV, Rf.okR_orV, Rf.okR_notV, Rf.okR_mif, Rf.okR_C, Rf.okR_nil, Rf.okR_yes, Rf.okR_cons, Rf.okR_call, Rf.okR_callK, Rf.okR_tup, Rf.okR_lst, Rf.okR_fld, Rf.okR_meth, Rf.okR_make, Rf.okR_bm, Rf.okR_isi, Rf.okS_for, Rf.okR_lc, Rf.okR_any, Rf.okS_asg, Rf.okS_setFld, Rf.okR_V, Rf.okR_chain, Rf.okR_rng1, Rf.okR_rng2, Rf.okR_neg, Rf.okR_sl, Rf.okR_noPart, Rf.okR_part, Rf.okS_sub, Rf.okS_par, List.getElem?_cons_zero, List.getElem?_cons_succ, List.set_cons_zero, List.set_cons_succ, if_true, if_false, Bool.false_eq_true, reduceIte, reduceCtorEq, Rf.tgOf, Rf.luk_c, Rf.f1, Rf.gV_non, Rf.gV_bl, Rf.gV_int, Rf.gV_str, Rf.gV_tup, Rf.gV_ktp, Rf.gV_rol, Rf.gV_ref, Rf.gd0, Rf.gdA, List.cons_append, List.nil_append, List.append_nil, List.take_succ_cons, List.take_zero, List.take_nil, List.drop_succ_cons, List.drop_zero, List.drop_nil, Rf.oI0, Rf.oI, Bool.not_true, Bool.not_false, ix0, ix1, i1, p1, p2, p3, p4, z2, gV_nf na, ea]
    | an a =>
      simp only [Fm.dp, Fm.ed] at hd hx
      refine runA_is h (pus _ s) ?_ (Fm.pure _)
      have ea := ih a [] hs (by omega) (by omega)
      have da := Fm.aft_dp s a
      have eb := behind_ok ha (Fm.aft_Sg s a hs) (show (Fm.an a).Sg al from hs) (by omega) (by simp only [Fm.dp]; omega)
      show @okR _ (fin (b1_after (M_after n) [some (.tup [.str [97, 110, 121], a.FD]), some (.str [s]), none, none, none, none] [])) ⟨_⟩ ⟨_⟩
      have er : (Fm.aft s (.an a)).FD = (Fm.behi (a.aft s) (.an a)).FD := rfl
      rw [er]
      have eb : ∀ h, m_behind [(a.aft s).FD, .tup [.str [97, 110, 121], a.FD]] h = .ok (Fm.behi (a.aft s) (.an a)).FD h := eb
      have ix0 : ∀ h : LH, dIx (.tup [.str [97, 110, 121], a.FD]) (.int 0) h = .ok (.str [97, 110, 121]) h := fun h => rfl
      have ix1 : ∀ h : LH, dIx (.tup [.str [97, 110, 121], a.FD]) (.int 1) h = .ok a.FD h := fun h => rfl
      have i1 : ∀ h : LH, dIn (.str [97, 110, 121]) (.tup [.str [110, 111, 110, 101], .str [101, 109, 112, 116, 121]]) h = .ok (.bl false) h := fun h => rfl
      have p1 : ∀ h : LH, dEq (.str [97, 110, 121]) (.str [115, 105, 103, 110]) h = .ok (.bl false) h := fun h => rfl
      have p2 : ∀ h : LH, dEq (.str [97, 110, 121]) (.str [111, 114]) h = .ok (.bl false) h := fun h => rfl
      have p3 : ∀ h : LH, dEq (.str [97, 110, 121]) (.str [98, 111, 116, 104]) h = .ok (.bl false) h := fun h => rfl
      have p4 : ∀ h : LH, dEq (.str [97, 110, 121]) (.str [110, 111, 116]) h = .ok (.bl false) h := fun h => rfl
      have p5 : ∀ h : LH, dEq (.str [97, 110, 121]) (.str [97, 110, 121]) h = .ok (.bl true) h := fun h => rfl
      unfold b1_after
      simp only [Rf.okR_ok, Rf.okR_ex, Rf.okS_nx, Rf.okS_rt, Rf.okS_bk, Rf.okS_ct, Rf.okS_ex, Rf.okR_bind, Rf.okS_lift, Rf.okS_seq, Rf.okS_if, Rf.okS_ret, Rf.okS_drop, Rf.okS_set, Rf.okS_next, Rf.okS_retN, Rf.okS_brk, Rf.okS_cont, Rf.okS_raise, Rf.okR_fin, Rf.okR_bin, Rf.okR_test, Rf.okR_not, Rf.okR_and, Rf.okR_or, Rf.okR_andV, Rf.okR_orV, Rf.okR_notV, Rf.okR_mif, Rf.okR_C, Rf.okR_nil, Rf.okR_yes, Rf.okR_cons, Rf.okR_call, Rf.okR_callK, Rf.okR_tup, Rf.okR_lst, Rf.okR_fld, Rf.okR_meth, Rf.okR_make, Rf.okR_bm, Rf.okR_isi, Rf.okS_for, Rf.okR_lc, Rf.okR_any, Rf.okS_asg, Rf.okS_setFld, Rf.okR_V, Rf.okR_chain, Rf.okR_rng1, Rf.okR_rng2, Rf.okR_neg, Rf.okR_sl, Rf.okR_noPart, Rf.okR_part, Rf.okS_sub, Rf.okS_par, List.getElem?_cons_zero, List.getElem?_cons_succ, List.set_cons_zero, List.set_cons_succ, if_true, if_false, Bool.false_eq_true, reduceIte, reduceCtorEq, Rf.tgOf, Rf.luk_c, Rf.f1, Rf.gV_non, Rf.gV_bl, Rf.gV_int, Rf.gV_str, Rf.gV_tup, Rf.gV_ktp, Rf.gV_rol, Rf.gV_ref, Rf.gd0, Rf.gdA, List.cons_append, List.nil_append, List.append_nil, List.take_succ_cons, List.take_zero, List.take_nil, List.drop_succ_cons, List.drop_zero, List.drop_nil, Rf.oI0, Rf.oI, Bool.not_true, Bool.not_false, ix0, ix1, i1, p1, p2, p3, p4, p5, z2, gV_nf a.nf, ea, eb]
    | or a b =>
      simp only [Fm.dp, Fm.ed] at hd hx
      refine runA_is h (pus _ s) ?_ (Fm.pure _)
      have ea := ih a [] hs.1 (by omega) (by omega)
      have eb := ih b [] hs.2 (by omega) (by omega)
      have da := Fm.aft_dp s a
      have db := Fm.aft_dp s b
      have ee := either_ok ha (Fm.aft_Sg s a hs.1) (Fm.aft_Sg s b hs.2) (by omega) (by omega)
      show @okR _ (fin (b1_after (M_after n) [some (.tup [.str [111, 114], a.FD, b.FD]), some (.str [s]), none, none, none, none] [])) ⟨_⟩ ⟨_⟩
      have er : (Fm.aft s (.or a b)).FD = (Fm.eith (a.aft s) (b.aft s)).FD := rfl
      rw [er]
      have ix0 : ∀ h : LH, dIx (.tup [.str [111, 114], a.FD, b.FD]) (.int 0) h = .ok (.str [111, 114]) h := fun h => rfl
      have ix1 : ∀ h : LH, dIx (.tup [.str [111, 114], a.FD, b.FD]) (.int 1) h = .ok a.FD h := fun h => rfl
      have ix2 : ∀ h : LH, dIx (.tup [.str [111, 114], a.FD, b.FD]) (.int 2) h = .ok b.FD h := fun h => rfl
      have i1 : ∀ h : LH, dIn (.str [111, 114]) (.tup [.str [110, 111, 110, 101], .str [101, 109, 112, 116, 121]]) h = .ok (.bl false) h := fun h => rfl
      have p1 : ∀ h : LH, dEq (.str [111, 114]) (.str [115, 105, 103, 110]) h = .ok (.bl false) h := fun h => rfl
      have p2 : ∀ h : LH, dEq (.str [111, 114]) (.str [111, 114]) h = .ok (.bl true) h := fun h => rfl
      unfold b1_after
      simp only [Rf.okR_ok, Rf.okR_ex, Rf.okS_nx, Rf.okS_rt, Rf.okS_bk, Rf.okS_ct, Rf.okS_ex, Rf.okR_bind, Rf.okS_lift, Rf.okS_seq, Rf.okS_if, Rf.okS_ret, Rf.okS_drop, Rf.okS_set, Rf.okS_next, Rf.okS_retN, Rf.okS_brk, Rf.okS_cont, Rf.okS_raise, Rf.okR_fin, Rf.okR_bin, Rf.okR_test, Rf.okR_not, Rf.okR_and, Rf.okR_or, Rf.okR_andV, Rf.okR_orV, Rf.okR_notV, Rf.okR_mif, Rf.okR_C, Rf.okR_nil, Rf.okR_yes, Rf.okR_cons, Rf.okR_call, Rf.okR_callK, Rf.okR_tup, Rf.okR_lst, Rf.okR_fld, Rf.okR_meth, Rf.okR_make, Rf.okR_bm, Rf.okR_isi, Rf.okS_for, Rf.okR_lc, Rf.okR_any, Rf.okS_asg, Rf.okS_setFld, Rf.okR_V, Rf.okR_chain, Rf.okR_rng1, Rf.okR_rng2, Rf.okR_neg, Rf.okR_sl, Rf.okR_noPart, Rf.okR_part, Rf.okS_sub, Rf.okS_par, List.getElem?_cons_zero, List.getElem?_cons_succ, List.set_cons_zero, List.set_cons_succ, if_true, if_false, Bool.false_eq_true, reduceIte, reduceCtorEq, Rf.tgOf, Rf.luk_c, Rf.f1, Rf.gV_non, Rf.gV_bl, Rf.gV_int, Rf.gV_str, Rf.gV_tup, Rf.gV_ktp, Rf.gV_rol, Rf.gV_ref, Rf.gd0, Rf.gdA, List.cons_append, List.nil_append, List.append_nil, List.take_succ_cons, List.take_zero, List.take_nil, List.drop_succ_cons, List.drop_zero, List.drop_nil, Rf.oI0, Rf.oI, Bool.not_true, Bool.not_false, ix0, ix1, ix2, i1, p1, p2, z2, gV_nf a.nf, gV_nf b.nf, ea, eb, ee]
    | bo a b =>
      simp only [Fm.dp, Fm.ed] at hd hx
      refine runA_is h (pus _ s) ?_ (Fm.pure _)
      have ea := ih a [] hs.1 (by omega) (by omega)
      have eb := ih b [] hs.2 (by omega) (by omega)
      have da := Fm.aft_dp s a
      have db := Fm.aft_dp s b
      have ei := in_none ha (Fm.aft_Sg s a hs.1) (Fm.aft_Sg s b hs.2) (by omega) (by omega)
      have eq := Fm.eq_F ha (Fm.aft_Sg s a hs.1) (Fm.aft_Sg s b hs.2) (by omega) (by omega)
      show @okR _ (fin (b1_after (M_after n) [some (.tup [.str [98, 111, 116, 104], a.FD, b.FD]), some (.str [s]), none, none, none, none] [])) ⟨_⟩ ⟨_⟩
      have er : (Fm.aft s (.bo a b)).FD = (Fm.bot (a.aft s) (b.aft s)).FD := rfl
      rw [er]
      have ix0 : ∀ h : LH, dIx (.tup [.str [98, 111, 116, 104], a.FD, b.FD]) (.int 0) h = .ok (.str [98, 111, 116, 104]) h := fun h => rfl
      have ix1 : ∀ h : LH, dIx (.tup [.str [98, 111, 116, 104], a.FD, b.FD]) (.int 1) h = .ok a.FD h := fun h => rfl
      have ix2 : ∀ h : LH, dIx (.tup [.str [98, 111, 116, 104], a.FD, b.FD]) (.int 2) h = .ok b.FD h := fun h => rfl
      have i1 : ∀ h : LH, dIn (.str [98, 111, 116, 104]) (.tup [.str [110, 111, 110, 101], .str [101, 109, 112, 116, 121]]) h = .ok (.bl false) h := fun h => rfl
      have p1 : ∀ h : LH, dEq (.str [98, 111, 116, 104]) (.str [115, 105, 103, 110]) h = .ok (.bl false) h := fun h => rfl
      have p2 : ∀ h : LH, dEq (.str [98, 111, 116, 104]) (.str [111, 114]) h = .ok (.bl false) h := fun h => rfl
      have p3 : ∀ h : LH, dEq (.str [98, 111, 116, 104]) (.str [98, 111, 116, 104]) h = .ok (.bl true) h := fun h => rfl
      have nx := (a.aft s).nf
      have ny := (b.aft s).nf
      unfold b1_after Fm.bot
      by_cases h1 : a.aft s = .non ∨ b.aft s = .non
      · rw [if_pos h1]
        simp only [Rf.okR_ok, Rf.okR_ex, Rf.okS_nx, Rf.okS_rt, Rf.okS_bk, Rf.okS_ct, Rf.okS_ex, Rf.okR_bind, Rf.okS_lift, Rf.okS_seq, Rf.okS_if, Rf.okS_ret, Rf.okS_drop, Rf.okS_set, Rf.okS_next, Rf.okS_retN, Rf.okS_brk, Rf.okS_cont, Rf.okS_raise, Rf.okR_fin, Rf.okR_bin, Rf.okR_test, Rf.okR_not, Rf.okR_and, Rf.okR_or, Rf.okR_andV, Rf.okR_orV, Rf.okR_notV, Rf.okR_mif, Rf.okR_C, Rf.okR_nil, Rf.okR_yes, Rf.okR_cons, Rf.okR_call, Rf.okR_callK, Rf.okR_tup, Rf.okR_lst, Rf.okR_fld, Rf.okR_meth, Rf.okR_make, Rf.okR_bm, Rf.okR_isi, Rf.okS_for, Rf.okR_lc, Rf.okR_any, Rf.okS_asg, Rf.okS_setFld, Rf.okR_V, Rf.okR_chain, Rf.okR_rng1, Rf.okR_rng2, Rf.okR_neg, Rf.okR_sl, Rf.okR_noPart, Rf.okR_part, Rf.okS_sub, Rf.okS_par, List.getElem?_cons_zero, List.getElem?_cons_succ, List.set_cons_zero, List.set_cons_succ, if_true, if_false, Bool.false_eq_true, reduceIte, reduceCtorEq, Rf.tgOf, Rf.luk_c, Rf.f1, Rf.gV_non, Rf.gV_bl, Rf.gV_int, Rf.gV_str, Rf.gV_tup, Rf.gV_ktp, Rf.gV_rol, Rf.gV_ref, Rf.gd0, Rf.gdA, List.cons_append, List.nil_append, List.append_nil, List.take_succ_cons, List.take_zero, List.take_nil, List.drop_succ_cons, List.drop_zero, List.drop_nil, Rf.oI0, Rf.oI, Bool.not_true, Bool.not_false, ix0, ix1, ix2, i1, p1, p2, p3, z2, gV_nf a.nf, gV_nf b.nf, ea, eb, gV_nf nx, gV_nf ny, ei, decide_eq_true h1]
        rfl
      · rw [if_neg h1]
        by_cases h2 : a.aft s = b.aft s
        · rw [if_pos h2]
          simp only [Rf.okR_ok, Rf.okR_ex, Rf.okS_nx, Rf.okS_rt, Rf.okS_bk, Rf.okS_ct, Rf.okS_ex, Rf.okR_bind, Rf.okS_lift, Rf.okS_seq, Rf.okS_if, Rf.okS_ret, Rf.okS_drop, Rf.okS_set, Rf.okS_next, Rf.okS_retN, Rf.okS_brk, Rf.okS_cont, Rf.okS_raise, Rf.okR_fin, Rf.okR_bin, Rf.okR_test, Rf.okR_not, Rf.okR_and, Rf.okR_or, Rf.okR_andV, Rf.okR_orV, Rf.okR_notV, Rf.okR_mif, Rf.okR_C, Rf.okR_nil, Rf.okR_yes, Rf.okR_cons, Rf.okR_call, Rf.okR_callK, Rf.okR_tup, Rf.okR_lst, Rf.okR_fld, Rf.okR_meth, Rf.okR_make, Rf.okR_bm, Rf.okR_isi, Rf.okS_for, Rf.okR_lc, Rf.okR_any, Rf.okS_asg, Rf.okS_setFld, Rf.okR_V, Rf.okR_chain, Rf.okR_rng1, Rf.okR_rng2, Rf.okR_neg, Rf.okR_sl, Rf.okR_noPart, Rf.okR_part, Rf.okS_sub, Rf.okS_par, List.getElem?_cons_zero, List.getElem?_cons_succ, List.set_cons_zero, List.set_cons_succ, if_true, if_false, Bool.false_eq_true, reduceIte, reduceCtorEq, Rf.tgOf, Rf.luk_c, Rf.f1, Rf.gV_non, Rf.gV_bl, Rf.gV_int, Rf.gV_str, Rf.gV_tup, Rf.gV_ktp, Rf.gV_rol, Rf.gV_ref, Rf.gd0, Rf.gdA, List.cons_append, List.nil_append, List.append_nil, List.take_succ_cons, List.take_zero, List.take_nil, List.drop_succ_cons, List.drop_zero, List.drop_nil, Rf.oI0, Rf.oI, Bool.not_true, Bool.not_false, ix0, ix1, ix2, i1, p1, p2, p3, z2, gV_nf a.nf, gV_nf b.nf, ea, eb, gV_nf nx, gV_nf ny, ei, decide_eq_false h1, eq, decide_eq_true h2]
        · rw [if_neg h2]
          simp only [Rf.okR_ok, Rf.okR_ex, Rf.okS_nx, Rf.okS_rt, Rf.okS_bk, Rf.okS_ct, Rf.okS_ex, Rf.okR_bind, Rf.okS_lift, Rf.okS_seq, Rf.okS_if, Rf.okS_ret, Rf.okS_drop, Rf.okS_set, Rf.okS_next, Rf.okS_retN, Rf.okS_brk, Rf.okS_cont, Rf.okS_raise, Rf.okR_fin, Rf.okR_bin, Rf.okR_test, Rf.okR_not, Rf.okR_and, Rf.okR_or, Rf.okR_andV, Rf.okR_orV, Rf.okR_notV, Rf.okR_mif, Rf.okR_C, Rf.okR_nil, Rf.okR_yes, Rf.okR_cons, Rf.okR_call, Rf.okR_callK, Rf.okR_tup, Rf.okR_lst, Rf.okR_fld, Rf.okR_meth, Rf.okR_make, Rf.okR_bm, Rf.okR_isi, Rf.okS_for, Rf.okR_lc, Rf.okR_any, Rf.okS_asg, Rf.okS_setFld, Rf.okR_V, Rf.okR_chain, Rf.okR_rng1, Rf.okR_rng2, Rf.okR_neg, Rf.okR_sl, Rf.okR_noPart, Rf.okR_part, Rf.okS_sub, Rf.okS_par, List.getElem?_cons_zero, List.getElem?_cons_succ, List.set_cons_zero, List.set_cons_succ, if_true, if_false, Bool.false_eq_true, reduceIte, reduceCtorEq, Rf.tgOf, Rf.luk_c, Rf.f1, Rf.gV_non, Rf.gV_bl, Rf.gV_int, Rf.gV_str, Rf.gV_tup, Rf.gV_ktp, Rf.gV_rol, Rf.gV_ref, Rf.gd0, Rf.gdA, List.cons_append, List.nil_append, List.append_nil, List.take_succ_cons, List.take_zero, List.take_nil, List.drop_succ_cons, List.drop_zero, List.drop_nil, Rf.oI0, Rf.oI, Bool.not_true, Bool.not_false, ix0, ix1, ix2, i1, p1, p2, p3, z2, gV_nf a.nf, gV_nf b.nf, ea, eb, gV_nf nx, gV_nf ny, ei, decide_eq_false h1, eq, decide_eq_false h2, z3]
          rfl
    | sq a b =>
      simp only [Fm.dp, Fm.ed] at hd hx
      refine runA_is h (pus _ s) ?_ (Fm.pure _)
      have ea := ih a [] hs.1 (by omega) (by omega)
      have eb := ih b [] hs.2 (by omega) (by omega)
      have da := Fm.aft_dp s a
      have db := Fm.aft_dp s b
      have sa := Fm.aft_Sg s a hs.1
      have ebh := behind_ok ha sa hs.2 (by omega) (by omega)
      have dbh := Fm.behi_dp (a.aft s) b
      have ee := either_ok ha (Fm.behi_Sg sa hs.2) (Fm.aft_Sg s b hs.2) (by omega) (by omega)
      have hE : ∀ h, m_has_empty [a.FD] h = .ok (.bl a.he) h := fun h => empty_ok 62 a h (by omega)
      show @okR _ (fin (b1_after (M_after n) [some (.tup [.str [116, 104, 101, 110], a.FD, b.FD]), some (.str [s]), none, none, none, none] [])) ⟨_⟩ ⟨_⟩
      rw [Fm.aft_sq]
      have ix0 : ∀ h : LH, dIx (.tup [.str [116, 104, 101, 110], a.FD, b.FD]) (.int 0) h = .ok (.str [116, 104, 101, 110]) h := fun h => rfl
      have ix1 : ∀ h : LH, dIx (.tup [.str [116, 104, 101, 110], a.FD, b.FD]) (.int 1) h = .ok a.FD h := fun h => rfl
      have ix2 : ∀ h : LH, dIx (.tup [.str [116, 104, 101, 110], a.FD, b.FD]) (.int 2) h = .ok b.FD h := fun h => rfl
      have i1 : ∀ h : LH, dIn (.str [116, 104, 101, 110]) (.tup [.str [110, 111, 110, 101], .str [101, 109, 112, 116, 121]]) h = .ok (.bl false) h := fun h => rfl
      have p1 : ∀ h : LH, dEq (.str [116, 104, 101, 110]) (.str [115, 105, 103, 110]) h = .ok (.bl false) h := fun h => rfl
      have p2 : ∀ h : LH, dEq (.str [116, 104, 101, 110]) (.str [111, 114]) h = .ok (.bl false) h := fun h => rfl
      have p3 : ∀ h : LH, dEq (.str [116, 104, 101, 110]) (.str [98, 111, 116, 104]) h = .ok (.bl false) h := fun h => rfl
      have p4 : ∀ h : LH, dEq (.str [116, 104, 101, 110]) (.str [110, 111, 116]) h = .ok (.bl false) h := fun h => rfl
      have p5 : ∀ h : LH, dEq (.str [116, 104, 101, 110]) (.str [97, 110, 121]) h = .ok (.bl false) h := fun h => rfl
      have nx := (Fm.behi (a.aft s) b).nf
      unfold b1_after
      cases hh : a.he with
      | true =>
        rw [hh] at hE
        rw [if_pos rfl]
        simp only [Rf.okR_ok, Rf.okR_ex, Rf.okS_nx, Rf.okS_rt, Rf.okS_bk, Rf.okS_ct, Rf.okS_ex, Rf.okR_bind, Rf.okS_lift, Rf.okS_seq, Rf.okS_if, Rf.okS_ret, Rf.okS_drop, Rf.okS_set, Rf.okS_next, Rf.okS_retN, Rf.okS_brk, Rf.okS_cont, Rf.okS_raise, Rf.okR_fin, Rf.okR_bin, Rf.okR_test, Rf.okR_not, Rf.okR_and, Rf.okR_or, Rf.okR_andV, Rf.okR_orV, Rf.okR_notV, Rf.okR_mif, Rf.okR_C, Rf.okR_nil, Rf.okR_yes, Rf.okR_cons, Rf.okR_call, Rf.okR_callK, Rf.okR_tup, Rf.okR_lst, Rf.okR_fld, Rf.okR_meth, Rf.okR_make, Rf.okR_bm, Rf.okR_isi, Rf.okS_for, Rf.okR_lc, Rf.okR_any, Rf.okS_asg, Rf.okS_setFld, Rf.okR_V, Rf.okR_chain, Rf.okR_rng1, Rf.okR_rng2, Rf.okR_neg, Rf.okR_sl, Rf.okR_noPart, Rf.okR_part, Rf.okS_sub, Rf.okS_par, List.getElem?_cons_zero, List.getElem?_cons_succ, List.set_cons_zero, List.set_cons_succ, if_true, if_false, Bool.false_eq_true, reduceIte, reduceCtorEq, Rf.tgOf, Rf.luk_c, Rf.f1, Rf.gV_non, Rf.gV_bl, Rf.gV_int, Rf.gV_str, Rf.gV_tup, Rf.gV_ktp, Rf.gV_rol, Rf.gV_ref, Rf.gd0, Rf.gdA, List.cons_append, List.nil_append, List.append_nil, List.take_succ_cons, List.take_zero, List.take_nil, List.drop_succ_cons, List.drop_zero, List.drop_nil, Rf.oI0, Rf.oI, Bool.not_true, Bool.not_false, ix0, ix1, ix2, i1, p1, p2, p3, p4, p5, z2, gV_nf a.nf, gV_nf b.nf, ea, eb, ebh, gV_nf nx, hE, ee]
      | false =>
        rw [hh] at hE
        rw [if_neg (by simp)]
        simp only [Rf.okR_ok, Rf.okR_ex, Rf.okS_nx, Rf.okS_rt, Rf.okS_bk, Rf.okS_ct, Rf.okS_ex, Rf.okR_bind, Rf.okS_lift, Rf.okS_seq, Rf.okS_if, Rf.okS_ret, Rf.okS_drop, Rf.okS_set, Rf.okS_next, Rf.okS_retN, Rf.okS_brk, Rf.okS_cont, Rf.okS_raise, Rf.okR_fin, Rf.okR_bin, Rf.okR_test, Rf.okR_not, Rf.okR_and, Rf.okR_or, Rf.okR_andV, Rf.okR_orV, Rf.okR_notV, Rf.okR_mif, Rf.okR_C, Rf.okR_nil, Rf.okR_yes, Rf.okR_cons, Rf.okR_call, Rf.okR_callK, Rf.okR_tup, Rf.okR_lst, Rf.okR_fld, Rf.okR_meth, Rf.okR_make, Rf.okR_bm, Rf.okR_isi, Rf.okS_for, Rf.okR_lc, Rf.okR_any, Rf.okS_asg, Rf.okS_setFld, Rf.okR_V, Rf.okR_chain, Rf.okR_rng1, Rf.okR_rng2, Rf.okR_neg, Rf.okR_sl, Rf.okR_noPart, Rf.okR_part, Rf.okS_sub, Rf.okS_par, List.getElem?_cons_zero, List.getElem?_cons_succ, List.set_cons_zero, List.set_cons_succ, if_true, if_false, Bool.false_eq_true, reduceIte, reduceCtorEq, Rf.tgOf, Rf.luk_c, Rf.f1, Rf.gV_non, Rf.gV_bl, Rf.gV_int, Rf.gV_str, Rf.gV_tup, Rf.gV_ktp, Rf.gV_rol, Rf.gV_ref, Rf.gd0, Rf.gdA, List.cons_append, List.nil_append, List.append_nil, List.take_succ_cons, List.take_zero, List.take_nil, List.drop_succ_cons, List.drop_zero, List.drop_nil, Rf.oI0, Rf.oI, Bool.not_true, Bool.not_false, ix0, ix1, ix2, i1, p1, p2, p3, p4, p5, z2, gV_nf a.nf, gV_nf b.nf, ea, eb, ebh, gV_nf nx, hE]
end Lw
set_option Elab.async false
set_option linter.all false
set_option maxRecDepth 100000
set_option maxHeartbeats 400000
set_option autoImplicit false
namespace Rf
open PySem PySem.Spec L2
namespace Fm
def seg (w : List Nat) (k j : Nat) : List Nat := (w.take j).drop k
theorem seg_self (w : List Nat) (k : Nat) : seg w k k = [] := by
  unfold seg
  rw [List.drop_eq_nil_iff, List.length_take]; omega
theorem seg_len {w : List Nat} {k j : Nat} (hj : j ≤ w.length) : (seg w k j).length = j - k := by
  unfold seg
  rw [List.length_drop, List.length_take]; omega
theorem seg_all (w : List Nat) : seg w 0 w.length = w := by simp [seg]
theorem seg_app {w : List Nat} {k m j : Nat} (h1 : k ≤ m) (h2 : m ≤ j) : seg w k m ++ seg w m j = seg w k j := by
  unfold seg
  have e1 : w.take m = (w.take j).take m := by rw [List.take_take, Nat.min_eq_left h2]
  rw [e1, List.drop_take]
  have e2 : (w.take j).drop m = ((w.take j).drop k).drop (m - k) := by rw [List.drop_drop]; congr 1; omega
  rw [e2, List.take_append_drop]
theorem seg_cut {w u v : List Nat} {k j : Nat} (hk : k ≤ j) (hj : j ≤ w.length) (e : seg w k j = u ++ v) : k + u.length ≤ j ∧ u = seg w k (k + u.length) ∧ v = seg w (k + u.length) j := by
  have hl := congrArg List.length e
  rw [seg_len hj, List.length_append] at hl
  have h1 : k + u.length ≤ j := by omega
  have e2 := seg_app (w := w) (k := k) (m := k + u.length) (j := j) (by omega) h1
  rw [e] at e2
  have l1 : (seg w k (k + u.length)).length = u.length := by rw [seg_len (by omega)]; omega
  obtain ⟨a, b⟩ := List.append_inj e2 l1
  exact ⟨h1, a.symm, b.symm⟩
theorem seg_one {w : List Nat} {k j c : Nat} (hk : k ≤ j) (hj : j ≤ w.length) : seg w k j = [c] ↔ j = k + 1 ∧ seg w k (k + 1) = [c] := by
  constructor
  · intro e
    have hl := congrArg List.length e
    rw [seg_len hj] at hl
    have : j = k + 1 := by
      have : ([c] : List Nat).length = 1 := rfl
      omega
    subst this
    exact ⟨rfl, e⟩
  · rintro ⟨rfl, e⟩; exact e
theorem nodup_lt {N : Nat} {l : List Nat} (nd : l.Nodup) (h : ∀ x ∈ l, x < N) : l.length ≤ N := by
  have := List.Nodup.length_le_of_subset nd (l₂ := List.range N) (fun x hx => List.mem_range.mpr (h x hx))
  simpa using this
structure RowI (f : Fm) (w : List Nat) (k : Nat) (r : List Nat) : Prop where
  ris : r.Pairwise (· < ·)
  mem : ∀ j, j ∈ r ↔ k ≤ j ∧ j ≤ w.length ∧ f.L (seg w k j)
theorem RowI.len {f : Fm} {w : List Nat} {k : Nat} {r : List Nat} (R : RowI f w k r) : r.length ≤ w.length + 1 := by
  have nd : r.Nodup := R.ris.imp (fun h => by omega)
  exact nodup_lt nd (fun j hj => by have := (R.mem j).mp hj; omega)
structure TabI (h : LH) (q : Nat) (w : List Nat) (f : Fm) : Prop where
  ex : ∃ ps : List Nat, ps.length = w.length + 1 ∧ h[q]? = some (.lst (ps.map D.ref)) ∧ ∀ k, k < w.length + 1 → ∃ p r, ps[k]? = some p ∧ h[p]? = some (.lst (natsD r)) ∧ RowI f w k r
theorem TabI.fr {h h' : LH} {q : Nat} {w : List Nat} {f : Fm} (T : TabI h q w f) (e : Fr [] h h') : TabI h' q w f := by
  obtain ⟨ps, h1, h2, h3⟩ := T.ex
  exact ⟨ps, h1, e.get _ _ h2 (by simp), fun k hk => by
    obtain ⟨p, r, a, b, c⟩ := h3 k hk
    exact ⟨p, r, a, e.get _ _ b (by simp), c⟩⟩
theorem TabI.row {h : LH} {q : Nat} {w : List Nat} {f : Fm} (T : TabI h q w f) {k : Nat} (hk : k < w.length + 1) : ∃ p r, dIx (.ref q) (.int (k : Nat)) h = .ok (.ref p) h ∧ h[p]? = some (.lst (natsD r)) ∧ RowI f w k r := by
  obtain ⟨ps, h1, h2, h3⟩ := T.ex
  obtain ⟨p, r, a, b, c⟩ := h3 k hk
  refine ⟨p, r, ?_, b, c⟩
  have as : asRd (.ref q) h = some (ps.map D.ref) := by simp only [asRd, h2]
  have at_ : atI (ps.map D.ref) ((k : Nat) : Int) = some (.ref p) := by
    unfold atI
    have : ixN (ps.map D.ref).length ((k : Nat) : Int) = some k := by
      unfold ixN; rw [List.length_map]; simp; omega
    rw [this]
    show (ps.map D.ref)[k]? = _
    rw [List.getElem?_map, a]; rfl
  simp only [dIx, as, at_]
theorem up_get {k : Nat} : ∀ {g : LH} {i : Nat} {o : LO}, g[i]? = some o → (upH k g)[i]? = some (o.up k)
  | [], i, o, h => by simp at h
  | x :: r, 0, o, h => by simp at h; subst h; rfl
  | x :: r, i + 1, o, h => by
    rw [upH, List.getElem?_cons_succ]
    exact up_get (by simpa using h)
theorem upDs_refs (k : Nat) : ∀ ps : List Nat, upDs k (ps.map D.ref) = (ps.map (k + ·)).map D.ref
  | [] => rfl
  | p :: r => by rw [List.map_cons, upDs, upDs_refs k r]; rfl
theorem upDs_nats (k : Nat) : ∀ l : List Nat, upDs k (natsD l) = natsD l
  | [] => rfl
  | p :: r => by
    show D.up k (.int (p : Nat)) :: upDs k (natsD r) = _
    rw [upDs_nats k r]; rfl
theorem TabI.up {g : LH} {q : Nat} {w : List Nat} {f : Fm} (T : TabI g q w f) (h : LH) : TabI (h ++ upH h.length g) (h.length + q) w f := by
  obtain ⟨ps, h1, h2, h3⟩ := T.ex
  refine ⟨ps.map (h.length + ·), by simpa using h1, ?_, fun k hk => ?_⟩
  · rw [List.getElem?_append_right (by omega), show h.length + q - h.length = q by omega, up_get h2]
    show some (LO.lst (upDs h.length (ps.map D.ref))) = _
    rw [upDs_refs]
  · obtain ⟨p, r, a, b, c⟩ := h3 k hk
    refine ⟨h.length + p, r, by rw [List.getElem?_map, a]; rfl, ?_, c⟩
    rw [List.getElem?_append_right (by omega), show h.length + p - h.length = p by omega, up_get b]
    show some (LO.lst (upDs h.length (natsD r))) = _
    rw [upDs_nats]
theorem runA_tab {m : FM} {ds : List D} {q : Nat} {g : LH} {w : List Nat} {f : Fm} (hp : pureDs ds = true) (e : m ds [] = .ok (.ref q) g) (T : TabI g q w f) (h : LH) :
    ∃ q' h', runA m ds h = .ok (.ref q') h' ∧ TabI h' q' w f ∧ Fr [] h h' := by
  obtain ⟨ps, h1, h2, h3⟩ := T.ex
  refine ⟨h.length + q, h ++ upH h.length g, ?_, T.up h, .app⟩
  unfold runA
  rw [if_pos hp, e]
  have np : pureDs (ps.map D.ref) = false := by
    cases ps with
    | nil => simp at h1
    | cons a b => rfl
  show (if pureD (.ref q) = true then _ else _) = _
  rw [if_neg (by simp [pureD])]
  simp only [h2, np, Bool.false_eq_true, if_false]
  rfl
theorem tab_lc {te : EM} {f : Fm} {w : List Nat} {ls0 : Ls} {h0 : LH} {Y : Exn → LH → Prop} (hw : w.length ≤ 1000)
    (H : ∀ k, k < w.length + 1 → ∀ h, Fr [] h0 h → @okR _ (te (ls0.set 6 (some (.int (k : Nat)))) h) ⟨fun d h' => ∃ p r, d = .ref p ∧ h'[p]? = some (.lst (natsD r)) ∧ RowI f w k r ∧ Fr [] h h'⟩ ⟨fun _ _ => False⟩) :
    @okR _ (mLcGo (gmName 6) mYes te (liRange 0 (w.length + 1)) ls0 100000 0 [] h0) ⟨fun acc h' => TabI (h' ++ [.lst acc]) h'.length w f ∧ Fr [] h0 h'⟩ ⟨Y⟩ := by
  refine ok_lc ((List.range (w.length + 1)).map fun (k : Nat) => D.int (k : Nat)) (fun i acc h => Fr [] h0 h ∧ ∃ ps : List Nat, acc = ps.map D.ref ∧ ps.length = i ∧ ∀ k, k < i → ∃ p r, ps[k]? = some p ∧ h[p]? = some (.lst (natsD r)) ∧ RowI f w k r)
    ⟨.refl, [], rfl, rfl, fun k hk => absurd hk (by omega)⟩ (by simp; omega) (by simp; omega) (fun i acc h pp => ?_) (fun i d acc h hd pp => ?_) (fun acc h pp => ?_)
  · unfold liRange itm
    by_cases hi : i < w.length + 1
    · simp only [hi, if_true, List.getElem?_map, List.getElem?_range hi, Option.map_some, Int.zero_add]
    · have : (List.map (fun (k : Nat) => D.int (k : Nat)) (List.range (w.length + 1)))[i]? = none := by rw [List.getElem?_eq_none]; simp; omega
      simp only [hi, if_false, this]
  · obtain ⟨fr, ps, rfl, hl, hp⟩ := pp
    have hi : i < w.length + 1 := by
      have := (List.getElem?_eq_some_iff.mp hd).1
      simpa using this
    have ed : d = .int (i : Nat) := by
      rw [List.getElem?_map, List.getElem?_range hi] at hd
      cases hd; rfl
    subst ed
    refine ⟨_, rfl, ?_⟩
    rw [okR_yes]
    show if true = true then _ else _
    rw [if_pos rfl]
    have k1 := H i hi h fr
    cases hr : te (ls0.set 6 (some (.int (i : Nat)))) h with
    | bad => rw [hr] at k1; exact k1.elim
    | ex x h' => rw [hr] at k1; exact k1.elim
    | ok d h' =>
      rw [hr] at k1
      obtain ⟨p, r, rfl, e1, e2, e3⟩ := k1
      refine ⟨fr.trans e3, ps ++ [p], by simp, by simp [hl], fun k hk => ?_⟩
      by_cases hki : k < i
      · obtain ⟨p', r', a, b, c⟩ := hp k hki
        exact ⟨p', r', by rw [List.getElem?_append_left (by omega)]; exact a, e3.get _ _ b (by simp), c⟩
      · have : k = i := by omega
        subst this
        exact ⟨p, r, by rw [List.getElem?_append_right (by omega), hl]; simp, e1, e2⟩
  · obtain ⟨fr, ps, rfl, hl, hp⟩ := pp
    rw [List.length_map, List.length_range] at hl hp
    refine ⟨⟨ps, hl, by simp, fun k hk => ?_⟩, fr⟩
    obtain ⟨p, r, a, b, c⟩ := hp k hk
    exact ⟨p, r, a, app_lt b, c⟩
theorem row_non (w : List Nat) (k : Nat) : RowI .non w k [] := ⟨.nil, fun j => by simp [L]⟩
theorem row_emp {w : List Nat} {k : Nat} (hk : k ≤ w.length) : RowI .emp w k [k] := by
  refine ⟨List.pairwise_singleton _ _, fun j => ?_⟩
  rw [List.mem_singleton]
  constructor
  · rintro rfl; exact ⟨Nat.le_refl _, hk, seg_self _ _⟩
  · rintro ⟨h1, h2, h3⟩
    have := congrArg List.length (show seg w k j = [] from h3)
    rw [seg_len h2] at this
    have : j - k = 0 := this
    omega
theorem row_sg {w : List Nat} {k c : Nat} (hk : k ≤ w.length) : RowI (.sg c) w k (if (w.drop k).take 1 = [c] then [k + 1] else []) := by
  have e : seg w k (k + 1) = (w.drop k).take 1 := by unfold seg; rw [List.drop_take]; congr 1; omega
  by_cases h : (w.drop k).take 1 = [c]
  · rw [if_pos h]
    have hl : k + 1 ≤ w.length := by
      have := congrArg List.length h
      rw [List.length_take, List.length_drop] at this
      have : min 1 (w.length - k) = 1 := this
      omega
    refine ⟨List.pairwise_singleton _ _, fun j => ?_⟩
    rw [List.mem_singleton]
    constructor
    · rintro rfl; exact ⟨by omega, hl, by rw [← e] at h; exact h⟩
    · rintro ⟨h1, h2, h3⟩; exact ((seg_one h1 h2).mp h3).1
  · rw [if_neg h]
    refine ⟨.nil, fun j => ?_⟩
    simp only [List.not_mem_nil, false_iff]
    rintro ⟨h1, h2, h3⟩
    have := ((seg_one h1 h2).mp h3).2
    rw [e] at this; exact h this
theorem row_or {f g : Fm} {w r s : List Nat} {k : Nat} (R : RowI f w k r) (S : RowI g w k s) : RowI (.or f g) w k (SR.sdN (r ++ s)) := by
  refine ⟨SR.sdN_ris _, fun j => ?_⟩
  rw [SR.sdN_mem, List.mem_append, R.mem, S.mem]
  show _ ↔ k ≤ j ∧ j ≤ w.length ∧ (f.L (seg w k j) ∨ g.L (seg w k j))
  constructor
  · rintro (⟨a, b, c⟩ | ⟨a, b, c⟩)
    · exact ⟨a, b, .inl c⟩
    · exact ⟨a, b, .inr c⟩
  · rintro ⟨a, b, c | c⟩
    · exact .inl ⟨a, b, c⟩
    · exact .inr ⟨a, b, c⟩
theorem row_bo {f g : Fm} {w r s : List Nat} {k : Nat} (R : RowI f w k r) (S : RowI g w k s) : RowI (.bo f g) w k (r.filter fun j => decide (j ∈ s)) := by
  refine ⟨R.ris.filter _, fun j => ?_⟩
  rw [List.mem_filter, decide_eq_true_iff, R.mem, S.mem]
  show _ ↔ k ≤ j ∧ j ≤ w.length ∧ (f.L (seg w k j) ∧ g.L (seg w k j))
  constructor
  · rintro ⟨⟨a, b, c⟩, _, _, d⟩; exact ⟨a, b, c, d⟩
  · rintro ⟨a, b, c, d⟩; exact ⟨⟨a, b, c⟩, a, b, d⟩
theorem row_nt {f : Fm} {w r : List Nat} {k : Nat} (hk : k ≤ w.length) (R : RowI f w k r) : RowI (.nt f) w k (((List.range (w.length + 1 - k)).map (k + ·)).filter fun j => !decide (j ∈ r)) := by
  have rs : ((List.range (w.length + 1 - k)).map (k + ·)).Pairwise (· < ·) := by
    rw [List.pairwise_map]
    exact List.pairwise_lt_range.imp (fun h => by omega)
  refine ⟨rs.filter _, fun j => ?_⟩
  rw [List.mem_filter, Bool.not_eq_true', decide_eq_false_iff_not, R.mem, List.mem_map]
  show _ ↔ k ≤ j ∧ j ≤ w.length ∧ ¬ f.L (seg w k j)
  constructor
  · rintro ⟨⟨i, hi, rfl⟩, h⟩
    have := List.mem_range.mp hi
    exact ⟨by omega, by omega, fun z => h ⟨by omega, by omega, z⟩⟩
  · rintro ⟨a, b, c⟩
    exact ⟨⟨j - k, List.mem_range.mpr (by omega), by omega⟩, fun z => c z.2.2⟩
theorem row_sq {f g : Fm} {w r l : List Nat} {k : Nat} (R : RowI f w k r) (hl : ∀ j, j ∈ l ↔ ∃ m ∈ r, m ≤ j ∧ j ≤ w.length ∧ g.L (seg w m j)) : RowI (.sq f g) w k (SR.sdN l) := by
  refine ⟨SR.sdN_ris _, fun j => ?_⟩
  rw [SR.sdN_mem, hl]
  show _ ↔ k ≤ j ∧ j ≤ w.length ∧ ∃ u v, seg w k j = u ++ v ∧ f.L u ∧ g.L v
  constructor
  · rintro ⟨m, hm, h1, h2, h3⟩
    obtain ⟨a, b, c⟩ := (R.mem m).mp hm
    exact ⟨by omega, h2, seg w k m, seg w m j, (seg_app a h1).symm, c, h3⟩
  · rintro ⟨h1, h2, u, v, e, hu, hv⟩
    obtain ⟨a, b, c⟩ := seg_cut h1 h2 e
    exact ⟨k + u.length, (R.mem _).mpr ⟨by omega, by omega, by rw [← b]; exact hu⟩, a, h2, by rw [← c]; exact hv⟩
theorem row_an {f : Fm} {w l : List Nat} {k : Nat} (hk : k ∈ l) (snd : ∀ j ∈ l, k ≤ j ∧ j ≤ w.length ∧ Str f.L (seg w k j)) (cl : ∀ m ∈ l, ∀ j, m ≤ j → j ≤ w.length → f.L (seg w m j) → j ∈ l)
    {r : List Nat} (hr : r.Pairwise (· < ·)) (hm : ∀ j, j ∈ r ↔ j ∈ l) : RowI (.an f) w k r := by
  refine ⟨hr, fun j => ?_⟩
  rw [hm]
  show _ ↔ k ≤ j ∧ j ≤ w.length ∧ Str f.L (seg w k j)
  refine ⟨fun h => snd j h, fun ⟨h1, h2, h3⟩ => ?_⟩
  have gen : ∀ (z : List Nat), Str f.L z → ∀ m, m ∈ l → ∀ j, m ≤ j → j ≤ w.length → seg w m j = z → j ∈ l := by
    intro z hz
    induction hz with
    | nil =>
      intro m hm j h1 h2 e
      have := congrArg List.length e
      rw [seg_len h2] at this
      have : j - m = 0 := this
      have : j = m := by omega
      rw [this]; exact hm
    | app u v h1 h2 h3 ih =>
      intro m hm j hj1 hj2 e
      obtain ⟨a, b, c⟩ := seg_cut hj1 hj2 e
      refine ih (m + u.length) (cl m hm _ (by omega) (by omega) (by rw [← b]; exact h2)) j a hj2 c.symm
  exact gen _ h3 k hk j h1 h2 rfl
end Fm
end Rf
set_option Elab.async false
set_option linter.all false
set_option maxRecDepth 100000
set_option maxHeartbeats 2000000
set_option autoImplicit false
namespace Lw
open PySem PySem.Spec L2 Rf
theorem inN {l : List Nat} {q : Nat} {h : LH} (hq : h[q]? = some (.lst (natsD l))) (k : Nat) : dIn (.int k) (.ref q) h = .ok (.bl (decide (k ∈ l))) h := by
  simp only [dIn, inD, asRd, hq, in_nats]
theorem notinN {l : List Nat} {q : Nat} {h : LH} (hq : h[q]? = some (.lst (natsD l))) (k : Nat) : dNotIn (.int k) (.ref q) h = .ok (.bl (!decide (k ∈ l))) h := by
  simp only [dNotIn, inD, asRd, hq, in_nats]
theorem lenN {l : List D} {q : Nat} {h : LH} (hq : h[q]? = some (.lst l)) : dLen (.ref q) h = .ok (.int (l.length : Nat)) h := by
  simp only [dLen, asRd, hq]
theorem ixN_ {l : List Nat} {q i x : Nat} {h : LH} (hq : h[q]? = some (.lst (natsD l))) (hx : l[i]? = some x) : dIx (.ref q) (.int (i : Nat)) h = .ok (.int (x : Nat)) h := by
  have as : asRd (.ref q) h = some (natsD l) := by simp only [asRd, hq]
  have lt := (List.getElem?_eq_some_iff.mp hx).1
  have at_ : atI (natsD l) ((i : Nat) : Int) = some (.int (x : Nat)) := by
    unfold atI
    have : ixN (natsD l).length ((i : Nat) : Int) = some i := by
      unfold ixN; rw [natsD_len]; simp; omega
    rw [this]; exact natsD_at hx
  simp only [dIx, as, at_]
theorem catN {h : LH} {a b : Nat} {l r : List Nat} (ha : h[a]? = some (.lst (natsD l))) (hb : h[b]? = some (.lst (natsD r))) (hl : l.length + r.length ≤ 100000) : dAdd (.ref a) (.ref b) h = .ok (.ref h.length) (h ++ [.lst (natsD (l ++ r))]) := by
  have z : szOk ((natsD l).length + (natsD r).length) = true := szOk_small (by rw [natsD_len, natsD_len]; exact hl)
  have e : natsD (l ++ r) = natsD l ++ natsD r := by unfold natsD; rw [List.map_append]
  rw [e]
  simp only [dAdd, asLst, ha, hb, z, if_true]
theorem sortN {h : LH} {q : Nat} {l : List Nat} (hq : h[q]? = some (.lst (natsD l))) (hl : l.length < 4000) : dSortI (.ref q) h = .ok (.ref h.length) (h ++ [.lst (natsD (SR.sdN l))]) := by
  have hq' : h[q]? = some (.lst ((l.map fun (k : Nat) => (k : Int)).map .int)) := by rw [hq]; unfold natsD; rw [List.map_map]; rfl
  rw [sortI_at hq' (by simpa using hl), ← SR.sdN_back]
  unfold natsD
  rw [List.map_map]; rfl
theorem sortedN {h : LH} {q : Nat} {l : List Nat} (hq : h[q]? = some (.lst (natsD l))) (nd : l.Nodup) : ∃ r : List Nat, dSorted (.ref q) h = .ok (.ref h.length) (h ++ [.lst (natsD r)]) ∧ r.Pairwise (· < ·) ∧ ∀ j, j ∈ r ↔ j ∈ l := by
  have as : asRd (.ref q) h = some (natsD l) := by simp only [asRd, hq]
  have pm := srtI_perm (l.map fun (k : Nat) => (k : Int))
  have rs := srtI_ris (l.map fun (k : Nat) => (k : Int))
  have e : srtI (l.map fun (k : Nat) => (k : Int)) = ((srtI (l.map fun (k : Nat) => (k : Int))).map Int.toNat).map fun (k : Nat) => (k : Int) := by
    rw [List.map_map]
    refine (List.map_id _).symm.trans (List.map_congr_left fun x hx => ?_)
    obtain ⟨y, _, rfl⟩ := List.mem_map.mp (pm.mem_iff.mp hx)
    rfl
  generalize hr : (srtI (l.map fun (k : Nat) => (k : Int))).map Int.toNat = r at e
  rw [e] at pm rs
  have pm2 : r.Perm l := by
    have := pm.map Int.toNat
    simpa [List.map_map, Function.comp_def] using this
  have nr : r.Nodup := pm2.nodup_iff.mpr nd
  refine ⟨r, ?_, ?_, fun j => pm2.mem_iff⟩
  · simp only [dSorted, as, allI_natsD]
    rw [e]
    unfold natsD
    rw [List.map_map]; rfl
  · rw [List.pairwise_map] at rs
    exact (rs.and nr).imp (fun ⟨a, b⟩ => by omega)
theorem chain_ok {h : LH} {q k : Nat} {w : List Nat} {f : Fm} (T : Fm.TabI h q w f) (hk : k < w.length + 1) (hw : w.length ≤ 50) :
    @okR _ (m__law_chain [.ref q, .int (k : Nat)] h) ⟨fun d h' => ∃ p r, d = .ref p ∧ h'[p]? = some (.lst (natsD r)) ∧ Fm.RowI (.an f) w k r ∧ Fr [] h h'⟩ ⟨fun _ _ => False⟩ := by
  have z1 : ∀ a : D, szOk ([a] : List D).length = true := fun _ => rfl
  have lt : ∀ (i j : Nat) (h : LH), dLt (.int (i : Nat)) (.int (j : Nat)) h = .ok (.bl (decide (i < j))) h := fun i j h => by
    have : decide (((i : Nat) : Int) < (j : Nat)) = decide (i < j) := by
      rw [Bool.eq_iff_iff]; simp only [decide_eq_true_iff]; omega
    simp only [dLt, this]
  have ad : ∀ (i : Nat) (h : LH), dAdd (.int (i : Nat)) (.int 1) h = .ok (.int ((i + 1 : Nat) : Int)) h := fun _ _ => rfl
  show @okR _ (fin (b__law_chain [some (.ref q), some (.int (k : Nat)), none, none, none] h)) ⟨_⟩ ⟨_⟩
  unfold b__law_chain
  simp only [Rf.okR_ok, Rf.okR_ex, Rf.okS_nx, Rf.okS_rt, Rf.okS_bk, Rf.okS_ct, Rf.okS_ex, Rf.okR_bind, Rf.okS_lift, Rf.okS_seq, Rf.okS_if, Rf.okS_ret, Rf.okS_drop, Rf.okS_set, Rf.okS_next, Rf.okS_retN, Rf.okS_brk, Rf.okS_cont, Rf.okS_raise, Rf.okR_fin, Rf.okR_bin, Rf.okR_test, Rf.okR_not, Rf.okR_and, Rf.okR_or, Rf.okR_andV, Rf.okR_orV, Rf.okR_notV, Rf.okR_mif, Rf.okR_C, Rf.okR_nil, Rf.okR_yes, Rf.okR_cons, Rf.okR_call, Rf.okR_callK, Rf.okR_tup, Rf.okR_lst, Rf.okR_fld, Rf.okR_meth, Rf.okR_make, Rf.okR_bm, Rf.okR_isi, Rf.okS_for, Rf.okR_lc, Rf.okR_anyD, Rf.okS_asg, Rf.okS_setFld, Rf.okR_V, Rf.okR_chain, Rf.okR_rng1, Rf.okR_rng2, Rf.okR_neg, Rf.okR_sl, Rf.okR_noPart, Rf.okR_part, Rf.okS_sub, Rf.okS_par, Rf.okR_enum, Rf.okR_dic0, Rf.okR_dic1, Rf.okS_try, Rf.okR_get1, Rf.okR_get2, Rf.okR_keys, Rf.okS_augFld, Rf.okR_setd, Rf.okR_dct, Rf.okR_sortSc2, Rf.okR_sortI, List.getElem?_cons_zero, List.getElem?_cons_succ, List.set_cons_zero, List.set_cons_succ, if_true, if_false, Bool.false_eq_true, reduceIte, reduceCtorEq, Rf.f1, Rf.gV_non, Rf.gV_bl, Rf.gV_int, Rf.gV_str, Rf.gV_tup, Rf.gV_ktp, Rf.gV_rol, Rf.gV_ref, Rf.gd0, Rf.gdA, List.cons_append, List.nil_append, List.append_nil, List.take_succ_cons, List.take_zero, List.take_nil, List.drop_succ_cons, List.drop_zero, List.drop_nil, Rf.oI0, Rf.oI, Bool.not_true, Bool.not_false, z1]
  refine ok_while (fun m ls h' => ∃ (a p : Nat) (l : List Nat) (y : Option D), ls = [some (.ref q), some (.int (k : Nat)), some (.ref p), some (.int (a : Nat)), y] ∧ h'[p]? = some (.lst (natsD l)) ∧ l.Nodup ∧ k ∈ l ∧
      (∀ j ∈ l, k ≤ j ∧ j ≤ w.length ∧ Fm.Str f.L (Fm.seg w k j)) ∧ (∀ i, i < a → ∀ x, l[i]? = some x → ∀ j, x ≤ j → j ≤ w.length → f.L (Fm.seg w x j) → j ∈ l) ∧ a ≤ l.length ∧ m = w.length + 1 - a ∧ Fr [] h h')
    (fun m ls h' pp => ?_) 100000 (w.length + 1) _ _ ⟨0, h.length, [k], none, rfl, app_at, by simp, by simp, fun j hj => ?_, fun i hi => absurd hi (by omega), by simp, by omega, .app⟩ (by omega)
  · obtain ⟨a, p, l, y, rfl, hp, nd, kl, snd, cl, al, hm, fr⟩ := pp
    have T' := T.fr fr
    have ln := lenN hp
    rw [natsD_len] at ln
    have ll : l.length ≤ w.length + 1 := Fm.nodup_lt nd (fun x hx => by have := snd x hx; omega)
    simp only [Rf.okR_ok, Rf.okR_ex, Rf.okS_nx, Rf.okS_rt, Rf.okS_bk, Rf.okS_ct, Rf.okS_ex, Rf.okR_bind, Rf.okS_lift, Rf.okS_seq, Rf.okS_if, Rf.okS_ret, Rf.okS_drop, Rf.okS_set, Rf.okS_next, Rf.okS_retN, Rf.okS_brk, Rf.okS_cont, Rf.okS_raise, Rf.okR_fin, Rf.okR_bin, Rf.okR_test, Rf.okR_not, Rf.okR_and, Rf.okR_or, Rf.okR_andV, Rf.okR_orV, Rf.okR_notV, Rf.okR_mif, Rf.okR_C, Rf.okR_nil, Rf.okR_yes, Rf.okR_cons, Rf.okR_call, Rf.okR_callK, Rf.okR_tup, Rf.okR_lst, Rf.okR_fld, Rf.okR_meth, Rf.okR_make, Rf.okR_bm, Rf.okR_isi, Rf.okS_for, Rf.okR_lc, Rf.okR_anyD, Rf.okS_asg, Rf.okS_setFld, Rf.okR_V, Rf.okR_chain, Rf.okR_rng1, Rf.okR_rng2, Rf.okR_neg, Rf.okR_sl, Rf.okR_noPart, Rf.okR_part, Rf.okS_sub, Rf.okS_par, Rf.okR_enum, Rf.okR_dic0, Rf.okR_dic1, Rf.okS_try, Rf.okR_get1, Rf.okR_get2, Rf.okR_keys, Rf.okS_augFld, Rf.okR_setd, Rf.okR_dct, Rf.okR_sortSc2, Rf.okR_sortI, List.getElem?_cons_zero, List.getElem?_cons_succ, List.set_cons_zero, List.set_cons_succ, if_true, if_false, Bool.false_eq_true, reduceIte, reduceCtorEq, Rf.f1, Rf.gV_non, Rf.gV_bl, Rf.gV_int, Rf.gV_str, Rf.gV_tup, Rf.gV_ktp, Rf.gV_rol, Rf.gV_ref, Rf.gd0, Rf.gdA, List.cons_append, List.nil_append, List.append_nil, List.take_succ_cons, List.take_zero, List.take_nil, List.drop_succ_cons, List.drop_zero, List.drop_nil, Rf.oI0, Rf.oI, Bool.not_true, Bool.not_false, ln, lt]
    by_cases ha : a < l.length
    · simp only [decide_eq_true ha, if_true]
      obtain ⟨x, hx⟩ : ∃ x, l[a]? = some x := ⟨_, List.getElem?_eq_getElem ha⟩
      have xm := List.mem_of_getElem? hx
      have sx := snd x xm
      obtain ⟨p', r, i1, hp', R⟩ := T'.row (k := x) (by omega)
      have ix := ixN_ hp hx
      have im : imD (.ref p') h' = .ok (liList p') h' := by simp only [imD, hp']
      have lc := lc_T (g := gmName 4) (tt := mTest (mBin dNotIn (mV 4) (mV 2))) (te := mV 4) (L := liList p') (ls0 := wipeL [some (.ref q), some (.int (k : Nat)), some (.ref p), some (.int (a : Nat)), y] [4]) (h := h') (fuel := 100000) r (fun (j : Nat) => D.int (j : Nat)) (fun j => !decide (j ∈ l)) (fun (j : Nat) => D.int (j : Nat)) (fun i => itm_list hp') (by have := R.len; omega) (by have := R.len; omega) (fun j hj => by
        refine ⟨_, rfl, okR_is ?_, fun _ => okR_is ?_⟩
        · simp only [Rf.okR_ok, Rf.okR_ex, Rf.okS_nx, Rf.okS_rt, Rf.okS_bk, Rf.okS_ct, Rf.okS_ex, Rf.okR_bind, Rf.okS_lift, Rf.okS_seq, Rf.okS_if, Rf.okS_ret, Rf.okS_drop, Rf.okS_set, Rf.okS_next, Rf.okS_retN, Rf.okS_brk, Rf.okS_cont, Rf.okS_raise, Rf.okR_fin, Rf.okR_bin, Rf.okR_test, Rf.okR_not, Rf.okR_and, Rf.okR_or, Rf.okR_andV, Rf.okR_orV, Rf.okR_notV, Rf.okR_mif, Rf.okR_C, Rf.okR_nil, Rf.okR_yes, Rf.okR_cons, Rf.okR_call, Rf.okR_callK, Rf.okR_tup, Rf.okR_lst, Rf.okR_fld, Rf.okR_meth, Rf.okR_make, Rf.okR_bm, Rf.okR_isi, Rf.okS_for, Rf.okR_lc, Rf.okR_anyD, Rf.okS_asg, Rf.okS_setFld, Rf.okR_V, Rf.okR_chain, Rf.okR_rng1, Rf.okR_rng2, Rf.okR_neg, Rf.okR_sl, Rf.okR_noPart, Rf.okR_part, Rf.okS_sub, Rf.okS_par, Rf.okR_enum, Rf.okR_dic0, Rf.okR_dic1, Rf.okS_try, Rf.okR_get1, Rf.okR_get2, Rf.okR_keys, Rf.okS_augFld, Rf.okR_setd, Rf.okR_dct, Rf.okR_sortSc2, Rf.okR_sortI, List.getElem?_cons_zero, List.getElem?_cons_succ, List.set_cons_zero, List.set_cons_succ, if_true, if_false, Bool.false_eq_true, reduceIte, reduceCtorEq, Rf.f1, Rf.gV_non, Rf.gV_bl, Rf.gV_int, Rf.gV_str, Rf.gV_tup, Rf.gV_ktp, Rf.gV_rol, Rf.gV_ref, Rf.gd0, Rf.gdA, List.cons_append, List.nil_append, List.append_nil, List.take_succ_cons, List.take_zero, List.take_nil, List.drop_succ_cons, List.drop_zero, List.drop_nil, Rf.oI0, Rf.oI, Bool.not_true, Bool.not_false, wipeL, notinN hp]
          exact ⟨trivial, trivial⟩
        · simp only [Rf.okR_ok, Rf.okR_ex, Rf.okS_nx, Rf.okS_rt, Rf.okS_bk, Rf.okS_ct, Rf.okS_ex, Rf.okR_bind, Rf.okS_lift, Rf.okS_seq, Rf.okS_if, Rf.okS_ret, Rf.okS_drop, Rf.okS_set, Rf.okS_next, Rf.okS_retN, Rf.okS_brk, Rf.okS_cont, Rf.okS_raise, Rf.okR_fin, Rf.okR_bin, Rf.okR_test, Rf.okR_not, Rf.okR_and, Rf.okR_or, Rf.okR_andV, Rf.okR_orV, Rf.okR_notV, Rf.okR_mif, Rf.okR_C, Rf.okR_nil, Rf.okR_yes, Rf.okR_cons, Rf.okR_call, Rf.okR_callK, Rf.okR_tup, Rf.okR_lst, Rf.okR_fld, Rf.okR_meth, Rf.okR_make, Rf.okR_bm, Rf.okR_isi, Rf.okS_for, Rf.okR_lc, Rf.okR_anyD, Rf.okS_asg, Rf.okS_setFld, Rf.okR_V, Rf.okR_chain, Rf.okR_rng1, Rf.okR_rng2, Rf.okR_neg, Rf.okR_sl, Rf.okR_noPart, Rf.okR_part, Rf.okS_sub, Rf.okS_par, Rf.okR_enum, Rf.okR_dic0, Rf.okR_dic1, Rf.okS_try, Rf.okR_get1, Rf.okR_get2, Rf.okR_keys, Rf.okS_augFld, Rf.okR_setd, Rf.okR_dct, Rf.okR_sortSc2, Rf.okR_sortI, List.getElem?_cons_zero, List.getElem?_cons_succ, List.set_cons_zero, List.set_cons_succ, if_true, if_false, Bool.false_eq_true, reduceIte, reduceCtorEq, Rf.f1, Rf.gV_non, Rf.gV_bl, Rf.gV_int, Rf.gV_str, Rf.gV_tup, Rf.gV_ktp, Rf.gV_rol, Rf.gV_ref, Rf.gd0, Rf.gdA, List.cons_append, List.nil_append, List.append_nil, List.take_succ_cons, List.take_zero, List.take_nil, List.drop_succ_cons, List.drop_zero, List.drop_nil, Rf.oI0, Rf.oI, Bool.not_true, Bool.not_false, wipeL]
          exact ⟨trivial, trivial⟩)
      have lf : (r.filter fun j => !decide (j ∈ l)).length ≤ w.length + 1 := Nat.le_trans (List.length_filter_le _ _) R.len
      generalize eh2 : h' ++ [LO.lst ((r.filter fun j => !decide (j ∈ l)).map fun (j : Nat) => D.int (j : Nat))] = h2
      have q2 : h2[h'.length]? = some (.lst (natsD (r.filter fun j => !decide (j ∈ l)))) := by rw [← eh2]; exact app_at
      have f2 : Fr [] h' h2 := by rw [← eh2]; exact .app
      have ct := catN (f2.get _ _ hp (by simp)) q2 (by omega)
      simp only [Rf.okR_ok, Rf.okR_ex, Rf.okS_nx, Rf.okS_rt, Rf.okS_bk, Rf.okS_ct, Rf.okS_ex, Rf.okR_bind, Rf.okS_lift, Rf.okS_seq, Rf.okS_if, Rf.okS_ret, Rf.okS_drop, Rf.okS_set, Rf.okS_next, Rf.okS_retN, Rf.okS_brk, Rf.okS_cont, Rf.okS_raise, Rf.okR_fin, Rf.okR_bin, Rf.okR_test, Rf.okR_not, Rf.okR_and, Rf.okR_or, Rf.okR_andV, Rf.okR_orV, Rf.okR_notV, Rf.okR_mif, Rf.okR_C, Rf.okR_nil, Rf.okR_yes, Rf.okR_cons, Rf.okR_call, Rf.okR_callK, Rf.okR_tup, Rf.okR_lst, Rf.okR_fld, Rf.okR_meth, Rf.okR_make, Rf.okR_bm, Rf.okR_isi, Rf.okS_for, Rf.okR_lc, Rf.okR_anyD, Rf.okS_asg, Rf.okS_setFld, Rf.okR_V, Rf.okR_chain, Rf.okR_rng1, Rf.okR_rng2, Rf.okR_neg, Rf.okR_sl, Rf.okR_noPart, Rf.okR_part, Rf.okS_sub, Rf.okS_par, Rf.okR_enum, Rf.okR_dic0, Rf.okR_dic1, Rf.okS_try, Rf.okR_get1, Rf.okR_get2, Rf.okR_keys, Rf.okS_augFld, Rf.okR_setd, Rf.okR_dct, Rf.okR_sortSc2, Rf.okR_sortI, List.getElem?_cons_zero, List.getElem?_cons_succ, List.set_cons_zero, List.set_cons_succ, if_true, if_false, Bool.false_eq_true, reduceIte, reduceCtorEq, Rf.f1, Rf.gV_non, Rf.gV_bl, Rf.gV_int, Rf.gV_str, Rf.gV_tup, Rf.gV_ktp, Rf.gV_rol, Rf.gV_ref, Rf.gd0, Rf.gdA, List.cons_append, List.nil_append, List.append_nil, List.take_succ_cons, List.take_zero, List.take_nil, List.drop_succ_cons, List.drop_zero, List.drop_nil, Rf.oI0, Rf.oI, Bool.not_true, Bool.not_false, ix, i1, im]
      rw [lc]
      simp only [Rf.okR_ok, Rf.okR_ex, Rf.okS_nx, Rf.okS_rt, Rf.okS_bk, Rf.okS_ct, Rf.okS_ex, Rf.okR_bind, Rf.okS_lift, Rf.okS_seq, Rf.okS_if, Rf.okS_ret, Rf.okS_drop, Rf.okS_set, Rf.okS_next, Rf.okS_retN, Rf.okS_brk, Rf.okS_cont, Rf.okS_raise, Rf.okR_fin, Rf.okR_bin, Rf.okR_test, Rf.okR_not, Rf.okR_and, Rf.okR_or, Rf.okR_andV, Rf.okR_orV, Rf.okR_notV, Rf.okR_mif, Rf.okR_C, Rf.okR_nil, Rf.okR_yes, Rf.okR_cons, Rf.okR_call, Rf.okR_callK, Rf.okR_tup, Rf.okR_lst, Rf.okR_fld, Rf.okR_meth, Rf.okR_make, Rf.okR_bm, Rf.okR_isi, Rf.okS_for, Rf.okR_lc, Rf.okR_anyD, Rf.okS_asg, Rf.okS_setFld, Rf.okR_V, Rf.okR_chain, Rf.okR_rng1, Rf.okR_rng2, Rf.okR_neg, Rf.okR_sl, Rf.okR_noPart, Rf.okR_part, Rf.okS_sub, Rf.okS_par, Rf.okR_enum, Rf.okR_dic0, Rf.okR_dic1, Rf.okS_try, Rf.okR_get1, Rf.okR_get2, Rf.okR_keys, Rf.okS_augFld, Rf.okR_setd, Rf.okR_dct, Rf.okR_sortSc2, Rf.okR_sortI, List.getElem?_cons_zero, List.getElem?_cons_succ, List.set_cons_zero, List.set_cons_succ, if_true, if_false, Bool.false_eq_true, reduceIte, reduceCtorEq, Rf.f1, Rf.gV_non, Rf.gV_bl, Rf.gV_int, Rf.gV_str, Rf.gV_tup, Rf.gV_ktp, Rf.gV_rol, Rf.gV_ref, Rf.gd0, Rf.gdA, List.cons_append, List.nil_append, List.append_nil, List.take_succ_cons, List.take_zero, List.take_nil, List.drop_succ_cons, List.drop_zero, List.drop_nil, Rf.oI0, Rf.oI, Bool.not_true, Bool.not_false, eh2, ct, ad]
      have mem2 : ∀ j, j ∈ l ++ r.filter (fun j => !decide (j ∈ l)) ↔ j ∈ l ∨ j ∈ r := fun j => by
        rw [List.mem_append, List.mem_filter]
        constructor
        · rintro (h | h)
          · exact .inl h
          · exact .inr h.1
        · rintro (h | h)
          · exact .inl h
          · by_cases hj : j ∈ l
            · exact .inl hj
            · exact .inr ⟨h, by simp [hj]⟩
      refine ⟨w.length + 1 - (a + 1), by omega, a + 1, h2.length, l ++ r.filter (fun j => !decide (j ∈ l)), _, rfl, app_at, ?_, by simp [kl], fun j hj => ?_, fun i hi x' hx' j h1 h2 h3 => ?_, ?_, rfl, (fr.trans f2).trans .app⟩
      · refine List.nodup_append.mpr ⟨nd, (R.ris.imp (fun h => by omega) : r.Nodup).filter _, fun u hu v hv e => ?_⟩
        subst e
        have := (List.mem_filter.mp hv).2
        simp [hu] at this
      · rcases (mem2 j).mp hj with h | h
        · exact snd j h
        · obtain ⟨u, v, L⟩ := (R.mem j).mp h
          refine ⟨by omega, v, ?_⟩
          rw [← Fm.seg_app (k := k) (m := x) (j := j) (by omega) u]
          by_cases e : Fm.seg w x j = []
          · rw [e, List.append_nil]; exact sx.2.2
          · exact sx.2.2.snoc L e
      · rw [mem2]
        by_cases hi2 : i < a
        · have : i < l.length := by omega
          rw [List.getElem?_append_left this] at hx'
          exact .inl (cl i hi2 x' hx' j h1 h2 h3)
        · have : i = a := by omega
          subst this
          rw [List.getElem?_append_left ha, hx] at hx'
          cases hx'
          exact .inr ((R.mem j).mpr ⟨h1, h2, h3⟩)
      · rw [List.length_append]; omega
    · simp only [decide_eq_false ha, Bool.false_eq_true, if_false]
      obtain ⟨r, e, hr, hm⟩ := sortedN hp nd
      simp only [Rf.okR_ok, Rf.okR_ex, Rf.okS_nx, Rf.okS_rt, Rf.okS_bk, Rf.okS_ct, Rf.okS_ex, Rf.okR_bind, Rf.okS_lift, Rf.okS_seq, Rf.okS_if, Rf.okS_ret, Rf.okS_drop, Rf.okS_set, Rf.okS_next, Rf.okS_retN, Rf.okS_brk, Rf.okS_cont, Rf.okS_raise, Rf.okR_fin, Rf.okR_bin, Rf.okR_test, Rf.okR_not, Rf.okR_and, Rf.okR_or, Rf.okR_andV, Rf.okR_orV, Rf.okR_notV, Rf.okR_mif, Rf.okR_C, Rf.okR_nil, Rf.okR_yes, Rf.okR_cons, Rf.okR_call, Rf.okR_callK, Rf.okR_tup, Rf.okR_lst, Rf.okR_fld, Rf.okR_meth, Rf.okR_make, Rf.okR_bm, Rf.okR_isi, Rf.okS_for, Rf.okR_lc, Rf.okR_anyD, Rf.okS_asg, Rf.okS_setFld, Rf.okR_V, Rf.okR_chain, Rf.okR_rng1, Rf.okR_rng2, Rf.okR_neg, Rf.okR_sl, Rf.okR_noPart, Rf.okR_part, Rf.okS_sub, Rf.okS_par, Rf.okR_enum, Rf.okR_dic0, Rf.okR_dic1, Rf.okS_try, Rf.okR_get1, Rf.okR_get2, Rf.okR_keys, Rf.okS_augFld, Rf.okR_setd, Rf.okR_dct, Rf.okR_sortSc2, Rf.okR_sortI, List.getElem?_cons_zero, List.getElem?_cons_succ, List.set_cons_zero, List.set_cons_succ, if_true, if_false, Bool.false_eq_true, reduceIte, reduceCtorEq, Rf.f1, Rf.gV_non, Rf.gV_bl, Rf.gV_int, Rf.gV_str, Rf.gV_tup, Rf.gV_ktp, Rf.gV_rol, Rf.gV_ref, Rf.gd0, Rf.gdA, List.cons_append, List.nil_append, List.append_nil, List.take_succ_cons, List.take_zero, List.take_nil, List.drop_succ_cons, List.drop_zero, List.drop_nil, Rf.oI0, Rf.oI, Bool.not_true, Bool.not_false, e]
      refine ⟨_, r, rfl, app_at, Fm.row_an kl snd (fun m hm' j h1 h2 h3 => ?_) hr hm, fr.trans .app⟩
      obtain ⟨i, hi, e⟩ := List.mem_iff_getElem.mp hm'
      exact cl i (by omega) m (by rw [List.getElem?_eq_getElem hi, e]) j h1 h2 h3
  · rw [List.mem_singleton] at hj
    subst hj
    exact ⟨Nat.le_refl _, by omega, by rw [Fm.seg_self]; exact .nil⟩
theorem behind_row_ok {h : LH} {p q k : Nat} {w r : List Nat} {f g : Fm} (hp : h[p]? = some (.lst (natsD r))) (R : Fm.RowI f w k r) (T : Fm.TabI h q w g) (hw : w.length ≤ 50) :
    @okR _ (m__law_behind [.ref p, .ref q] h) ⟨fun d h' => ∃ p' r', d = .ref p' ∧ h'[p']? = some (.lst (natsD r')) ∧ Fm.RowI (.sq f g) w k r' ∧ Fr [] h h'⟩ ⟨fun _ _ => False⟩ := by
  have z0 : szOk ([] : List D).length = true := rfl
  have im0 : imD (.ref p) (h ++ [LO.lst []]) = .ok (liList p) (h ++ [LO.lst []]) := by
    have : (h ++ [LO.lst []])[p]? = some (.lst (natsD r)) := app_lt hp
    simp only [imD, this]
  show @okR _ (fin (b__law_behind [some (.ref p), some (.ref q), none, none] h)) ⟨_⟩ ⟨_⟩
  unfold b__law_behind
  simp only [Rf.okR_ok, Rf.okR_ex, Rf.okS_nx, Rf.okS_rt, Rf.okS_bk, Rf.okS_ct, Rf.okS_ex, Rf.okR_bind, Rf.okS_lift, Rf.okS_seq, Rf.okS_if, Rf.okS_ret, Rf.okS_drop, Rf.okS_set, Rf.okS_next, Rf.okS_retN, Rf.okS_brk, Rf.okS_cont, Rf.okS_raise, Rf.okR_fin, Rf.okR_bin, Rf.okR_test, Rf.okR_not, Rf.okR_and, Rf.okR_or, Rf.okR_andV, Rf.okR_orV, Rf.okR_notV, Rf.okR_mif, Rf.okR_C, Rf.okR_nil, Rf.okR_yes, Rf.okR_cons, Rf.okR_call, Rf.okR_callK, Rf.okR_tup, Rf.okR_lst, Rf.okR_fld, Rf.okR_meth, Rf.okR_make, Rf.okR_bm, Rf.okR_isi, Rf.okS_for, Rf.okR_lc, Rf.okR_anyD, Rf.okS_asg, Rf.okS_setFld, Rf.okR_V, Rf.okR_chain, Rf.okR_rng1, Rf.okR_rng2, Rf.okR_neg, Rf.okR_sl, Rf.okR_noPart, Rf.okR_part, Rf.okS_sub, Rf.okS_par, Rf.okR_enum, Rf.okR_dic0, Rf.okR_dic1, Rf.okS_try, Rf.okR_get1, Rf.okR_get2, Rf.okR_keys, Rf.okS_augFld, Rf.okR_setd, Rf.okR_dct, Rf.okR_sortSc2, Rf.okR_sortI, List.getElem?_cons_zero, List.getElem?_cons_succ, List.set_cons_zero, List.set_cons_succ, if_true, if_false, Bool.false_eq_true, reduceIte, reduceCtorEq, Rf.f1, Rf.gV_non, Rf.gV_bl, Rf.gV_int, Rf.gV_str, Rf.gV_tup, Rf.gV_ktp, Rf.gV_rol, Rf.gV_ref, Rf.gd0, Rf.gdA, List.cons_append, List.nil_append, List.append_nil, List.take_succ_cons, List.take_zero, List.take_nil, List.drop_succ_cons, List.drop_zero, List.drop_nil, Rf.oI0, Rf.oI, Bool.not_true, Bool.not_false, z0, im0]
  refine ok_for (natsD r) (fun i ls h' => ∃ (a : Nat) (l : List Nat) (y : Option D), ls = [some (.ref p), some (.ref q), some (.ref a), y] ∧ h'[a]? = some (.lst (natsD l)) ∧ (∀ j, j ∈ l ↔ ∃ m ∈ r.take i, m ≤ j ∧ j ≤ w.length ∧ g.L (Fm.seg w m j)) ∧ l.length ≤ i * (w.length + 1) ∧ Fr [] h h')
    ⟨h.length, [], none, rfl, app_at, by simp, by simp, .app⟩ (by rw [natsD_len]; have := R.len; omega) (fun i ls h' pp => ?_) (fun i d ls h' hd pp => ?_) (fun ls h' pp => ?_)
  · obtain ⟨_, _, _, _, _, _, _, fr⟩ := pp
    exact itm_list (fr.get _ _ hp (by simp))
  · obtain ⟨a, l, y, rfl, ha, hl, ll, fr⟩ := pp
    have hi : i < r.length := by
      have := (List.getElem?_eq_some_iff.mp hd).1
      rw [natsD_len] at this; exact this
    obtain ⟨m, hm⟩ : ∃ m, r[i]? = some m := ⟨_, List.getElem?_eq_getElem hi⟩
    have ed : d = .int (m : Nat) := by
      rw [natsD_at hm] at hd
      cases hd; rfl
    subst ed
    have mr := (R.mem m).mp (List.mem_of_getElem? hm)
    obtain ⟨p', s, i1, hp', S⟩ := (T.fr fr).row (k := m) (by omega)
    have sl := S.len
    have rl := R.len
    have il : i * (w.length + 1) ≤ 51 * 51 := Nat.mul_le_mul (by omega) (by omega)
    have ct := catN ha hp' (by omega)
    refine ⟨_, rfl, ?_⟩
    simp only [Rf.okR_ok, Rf.okR_ex, Rf.okS_nx, Rf.okS_rt, Rf.okS_bk, Rf.okS_ct, Rf.okS_ex, Rf.okR_bind, Rf.okS_lift, Rf.okS_seq, Rf.okS_if, Rf.okS_ret, Rf.okS_drop, Rf.okS_set, Rf.okS_next, Rf.okS_retN, Rf.okS_brk, Rf.okS_cont, Rf.okS_raise, Rf.okR_fin, Rf.okR_bin, Rf.okR_test, Rf.okR_not, Rf.okR_and, Rf.okR_or, Rf.okR_andV, Rf.okR_orV, Rf.okR_notV, Rf.okR_mif, Rf.okR_C, Rf.okR_nil, Rf.okR_yes, Rf.okR_cons, Rf.okR_call, Rf.okR_callK, Rf.okR_tup, Rf.okR_lst, Rf.okR_fld, Rf.okR_meth, Rf.okR_make, Rf.okR_bm, Rf.okR_isi, Rf.okS_for, Rf.okR_lc, Rf.okR_anyD, Rf.okS_asg, Rf.okS_setFld, Rf.okR_V, Rf.okR_chain, Rf.okR_rng1, Rf.okR_rng2, Rf.okR_neg, Rf.okR_sl, Rf.okR_noPart, Rf.okR_part, Rf.okS_sub, Rf.okS_par, Rf.okR_enum, Rf.okR_dic0, Rf.okR_dic1, Rf.okS_try, Rf.okR_get1, Rf.okR_get2, Rf.okR_keys, Rf.okS_augFld, Rf.okR_setd, Rf.okR_dct, Rf.okR_sortSc2, Rf.okR_sortI, List.getElem?_cons_zero, List.getElem?_cons_succ, List.set_cons_zero, List.set_cons_succ, if_true, if_false, Bool.false_eq_true, reduceIte, reduceCtorEq, Rf.f1, Rf.gV_non, Rf.gV_bl, Rf.gV_int, Rf.gV_str, Rf.gV_tup, Rf.gV_ktp, Rf.gV_rol, Rf.gV_ref, Rf.gd0, Rf.gdA, List.cons_append, List.nil_append, List.append_nil, List.take_succ_cons, List.take_zero, List.take_nil, List.drop_succ_cons, List.drop_zero, List.drop_nil, Rf.oI0, Rf.oI, Bool.not_true, Bool.not_false, i1, ct]
    refine ⟨_, l ++ s, _, rfl, app_at, fun j => ?_, ?_, fr.trans .app⟩
    · rw [List.mem_append, hl, List.take_add_one, hm, S.mem]
      constructor
      · rintro (⟨m', h1, h2⟩ | h2)
        · exact ⟨m', List.mem_append_left _ h1, h2⟩
        · exact ⟨m, by simp, h2⟩
      · rintro ⟨m', h1, h2⟩
        rcases List.mem_append.mp h1 with h1 | h1
        · exact .inl ⟨m', h1, h2⟩
        · have : m' = m := by simpa using h1
          subst this
          exact .inr h2
    · rw [List.length_append, Nat.add_mul]; omega
  · obtain ⟨a, l, y, rfl, ha, hl, ll, fr⟩ := pp
    rw [natsD_len] at hl ll
    have rl := R.len
    have il : r.length * (w.length + 1) ≤ 51 * 51 := Nat.mul_le_mul (by omega) (by omega)
    have st := sortN ha (by omega)
    simp only [Rf.okR_ok, Rf.okR_ex, Rf.okS_nx, Rf.okS_rt, Rf.okS_bk, Rf.okS_ct, Rf.okS_ex, Rf.okR_bind, Rf.okS_lift, Rf.okS_seq, Rf.okS_if, Rf.okS_ret, Rf.okS_drop, Rf.okS_set, Rf.okS_next, Rf.okS_retN, Rf.okS_brk, Rf.okS_cont, Rf.okS_raise, Rf.okR_fin, Rf.okR_bin, Rf.okR_test, Rf.okR_not, Rf.okR_and, Rf.okR_or, Rf.okR_andV, Rf.okR_orV, Rf.okR_notV, Rf.okR_mif, Rf.okR_C, Rf.okR_nil, Rf.okR_yes, Rf.okR_cons, Rf.okR_call, Rf.okR_callK, Rf.okR_tup, Rf.okR_lst, Rf.okR_fld, Rf.okR_meth, Rf.okR_make, Rf.okR_bm, Rf.okR_isi, Rf.okS_for, Rf.okR_lc, Rf.okR_anyD, Rf.okS_asg, Rf.okS_setFld, Rf.okR_V, Rf.okR_chain, Rf.okR_rng1, Rf.okR_rng2, Rf.okR_neg, Rf.okR_sl, Rf.okR_noPart, Rf.okR_part, Rf.okS_sub, Rf.okS_par, Rf.okR_enum, Rf.okR_dic0, Rf.okR_dic1, Rf.okS_try, Rf.okR_get1, Rf.okR_get2, Rf.okR_keys, Rf.okS_augFld, Rf.okR_setd, Rf.okR_dct, Rf.okR_sortSc2, Rf.okR_sortI, List.getElem?_cons_zero, List.getElem?_cons_succ, List.set_cons_zero, List.set_cons_succ, if_true, if_false, Bool.false_eq_true, reduceIte, reduceCtorEq, Rf.f1, Rf.gV_non, Rf.gV_bl, Rf.gV_int, Rf.gV_str, Rf.gV_tup, Rf.gV_ktp, Rf.gV_rol, Rf.gV_ref, Rf.gd0, Rf.gdA, List.cons_append, List.nil_append, List.append_nil, List.take_succ_cons, List.take_zero, List.take_nil, List.drop_succ_cons, List.drop_zero, List.drop_nil, Rf.oI0, Rf.oI, Bool.not_true, Bool.not_false, okR_sortI, st]
    refine ⟨_, _, rfl, app_at, Fm.row_sq R (fun j => ?_), fr.trans .app⟩
    rw [hl, List.take_length]
end Lw
set_option Elab.async false
set_option linter.all false
set_option maxRecDepth 100000
set_option maxHeartbeats 4000000
set_option autoImplicit false
namespace Lw
open PySem PySem.Spec L2 Rf
theorem okR_imp {α : Type} {r : R α} {Q Q' : α → LH → Prop} {Y Y' : Exn → LH → Prop} (e : @okR _ r ⟨Q⟩ ⟨Y⟩) (hq : ∀ a h, Q a h → Q' a h) (hy : ∀ x h, Y x h → Y' x h) : @okR _ r ⟨Q'⟩ ⟨Y'⟩ := by
  cases r with
  | ok d h => exact hq _ _ e
  | ex x h => exact hy _ _ e
  | bad => exact e
theorem itm_rangeK {k n : Nat} (i : Nat) (h : LH) : liRange ((k : Nat) : Int) n i h = itm (((List.range n).map (k + ·)).map fun (j : Nat) => D.int (j : Nat)) i := by
  unfold liRange itm
  by_cases hi : i < n
  · simp only [hi, if_true, List.getElem?_map, List.getElem?_range hi, Option.map_some]
    rfl
  · have : (((List.range n).map (k + ·)).map fun (j : Nat) => D.int (j : Nat))[i]? = none := by rw [List.getElem?_eq_none]; simp; omega
    simp only [hi, if_false, this]
theorem nt_row {wi : IM} {h : LH} {q1 k : Nat} {N' : Int} {x : D} {w : List Nat} {a : Fm} (T : Fm.TabI h q1 w a)
    (r2 : wi ([some (D.tup [D.str [110, 111, 116], x]), some (D.str w), some (D.int N'), some (D.str [110, 111, 116]), some (D.ref q1), none, none, none].set 6 (some (.int (k : Nat)))) h = .ok (liRange ((k : Nat) : Int) (w.length + 1 - k)) h) (hk : k < w.length + 1) (hw : w.length ≤ 50) :
    @okR _ (mLc 100000 wi (gmName 7) (mTest (mBin dNotIn (mV 7) (mBin dIx (mV 4) (mV 6)))) (mV 7) [7] ([some (D.tup [D.str [110, 111, 116], x]), some (D.str w), some (D.int N'), some (D.str [110, 111, 116]), some (D.ref q1), none, none, none].set 6 (some (.int (k : Nat)))) h)
      ⟨fun d h' => ∃ p r, d = .ref p ∧ h'[p]? = some (.lst (natsD r)) ∧ Fm.RowI (.nt a) w k r ∧ Fr [] h h'⟩ ⟨fun _ _ => False⟩ := by
  obtain ⟨p, r, i1, hp, R⟩ := T.row hk
  have lc := lc_T (g := gmName 7) (tt := mTest (mBin dNotIn (mV 7) (mBin dIx (mV 4) (mV 6)))) (te := mV 7) (L := liRange ((k : Nat) : Int) (w.length + 1 - k)) (ls0 := wipeL ([some (.tup [.str [110, 111, 116], x]), some (.str w), some (.int N'), some (.str [110, 111, 116]), some (.ref q1), none, none, none].set 6 (some (.int (k : Nat)))) [7]) (h := h) (fuel := 100000) ((List.range (w.length + 1 - k)).map (k + ·)) (fun (j : Nat) => D.int (j : Nat)) (fun j => !decide (j ∈ r)) (fun (j : Nat) => D.int (j : Nat)) (fun i => itm_rangeK i h) (by simp; omega) (by simp; omega) (fun j hj => by
    refine ⟨_, rfl, okR_is ?_, fun _ => okR_is ?_⟩
    · simp only [Rf.okR_ok, Rf.okR_ex, Rf.okS_nx, Rf.okS_rt, Rf.okS_bk, Rf.okS_ct, Rf.okS_ex, Rf.okR_bind, Rf.okS_lift, Rf.okS_seq, Rf.okS_if, Rf.okS_ret, Rf.okS_drop, Rf.okS_set, Rf.okS_next, Rf.okS_retN, Rf.okS_brk, Rf.okS_cont, Rf.okS_raise, Rf.okR_fin, Rf.okR_bin, Rf.okR_test, Rf.okR_not, Rf.okR_and, Rf.okR_or, Rf.okR_andV, Rf.okR_orV, Rf.okR_notV, Rf.okR_mif, Rf.okR_C, Rf.okR_nil, Rf.okR_yes, Rf.okR_cons, Rf.okR_call, Rf.okR_callK, Rf.okR_tup, Rf.okR_lst, Rf.okR_fld, Rf.okR_meth, Rf.okR_make, Rf.okR_bm, Rf.okR_isi, Rf.okS_for, Rf.okR_lc, Rf.okR_anyD, Rf.okS_asg, Rf.okS_setFld, Rf.okR_V, Rf.okR_chain, Rf.okR_rng1, Rf.okR_rng2, Rf.okR_neg, Rf.okR_sl, Rf.okR_noPart, Rf.okR_part, Rf.okS_sub, Rf.okS_par, Rf.okR_enum, Rf.okR_dic0, Rf.okR_dic1, Rf.okS_try, Rf.okR_get1, Rf.okR_get2, Rf.okR_keys, Rf.okS_augFld, Rf.okR_setd, Rf.okR_dct, Rf.okR_sortSc2, Rf.okR_sortI, List.getElem?_cons_zero, List.getElem?_cons_succ, List.set_cons_zero, List.set_cons_succ, if_true, if_false, Bool.false_eq_true, reduceIte, reduceCtorEq, Rf.f1, Rf.gV_non, Rf.gV_bl, Rf.gV_int, Rf.gV_str, Rf.gV_tup, Rf.gV_ktp, Rf.gV_rol, Rf.gV_ref, Rf.gd0, Rf.gdA, List.cons_append, List.nil_append, List.append_nil, List.take_succ_cons, List.take_zero, List.take_nil, List.drop_succ_cons, List.drop_zero, List.drop_nil, Rf.oI0, Rf.oI, Bool.not_true, Bool.not_false, wipeL, i1, notinN hp]
      exact ⟨trivial, trivial⟩
    · simp only [Rf.okR_ok, Rf.okR_ex, Rf.okS_nx, Rf.okS_rt, Rf.okS_bk, Rf.okS_ct, Rf.okS_ex, Rf.okR_bind, Rf.okS_lift, Rf.okS_seq, Rf.okS_if, Rf.okS_ret, Rf.okS_drop, Rf.okS_set, Rf.okS_next, Rf.okS_retN, Rf.okS_brk, Rf.okS_cont, Rf.okS_raise, Rf.okR_fin, Rf.okR_bin, Rf.okR_test, Rf.okR_not, Rf.okR_and, Rf.okR_or, Rf.okR_andV, Rf.okR_orV, Rf.okR_notV, Rf.okR_mif, Rf.okR_C, Rf.okR_nil, Rf.okR_yes, Rf.okR_cons, Rf.okR_call, Rf.okR_callK, Rf.okR_tup, Rf.okR_lst, Rf.okR_fld, Rf.okR_meth, Rf.okR_make, Rf.okR_bm, Rf.okR_isi, Rf.okS_for, Rf.okR_lc, Rf.okR_anyD, Rf.okS_asg, Rf.okS_setFld, Rf.okR_V, Rf.okR_chain, Rf.okR_rng1, Rf.okR_rng2, Rf.okR_neg, Rf.okR_sl, Rf.okR_noPart, Rf.okR_part, Rf.okS_sub, Rf.okS_par, Rf.okR_enum, Rf.okR_dic0, Rf.okR_dic1, Rf.okS_try, Rf.okR_get1, Rf.okR_get2, Rf.okR_keys, Rf.okS_augFld, Rf.okR_setd, Rf.okR_dct, Rf.okR_sortSc2, Rf.okR_sortI, List.getElem?_cons_zero, List.getElem?_cons_succ, List.set_cons_zero, List.set_cons_succ, if_true, if_false, Bool.false_eq_true, reduceIte, reduceCtorEq, Rf.f1, Rf.gV_non, Rf.gV_bl, Rf.gV_int, Rf.gV_str, Rf.gV_tup, Rf.gV_ktp, Rf.gV_rol, Rf.gV_ref, Rf.gd0, Rf.gdA, List.cons_append, List.nil_append, List.append_nil, List.take_succ_cons, List.take_zero, List.take_nil, List.drop_succ_cons, List.drop_zero, List.drop_nil, Rf.oI0, Rf.oI, Bool.not_true, Bool.not_false, wipeL]
      exact ⟨trivial, trivial⟩)
  rw [okR_lc, r2, okR_ok, lc, okR_ok]
  exact ⟨_, _, rfl, app_at, Fm.row_nt (by omega) R, .app⟩
theorem spans_ok {w : List Nat} (hw : w.length ≤ 50) : ∀ (n : Nat) (f : Fm) (h : LH), f.dp ≤ n → ∃ q h', M__law_spans n [f.FD, .str w] h = .ok (.ref q) h' ∧ Fm.TabI h' q w f ∧ Fr [] h h' := by
  intro n
  have pu : ∀ f : Fm, pureDs [f.FD, .str w] = true := fun f => by simp [pureDs, f.pure, pureD]
  have zl : szOk w.length = true := szOk_small (by omega)
  have ln : ∀ h : LH, dLen (.str w) h = .ok (.int (w.length : Nat)) h := fun h => by simp only [dLen, zl, if_true]
  have ad : ∀ (i : Nat) (h : LH), dAdd (.int (i : Nat)) (.int 1) h = .ok (.int ((i + 1 : Nat) : Int)) h := fun _ _ => rfl
  have rN : ∀ h : LH, rngK [.int ((w.length + 1 : Nat) : Int)] h = .ok (liRange 0 (w.length + 1)) h := fun h => rngK_nat (by omega)
  have z0 : szOk ([] : List D).length = true := rfl
  have z1 : ∀ a : D, szOk ([a] : List D).length = true := fun _ => rfl
  have qq : ∀ (a b : List Nat) (h : LH), dEq (.str a) (.str b) h = .ok (.bl (decide (a = b))) h := fun a b h => eq_str
  have run : ∀ (m : SM) (f : Fm) (h : LH), @okR _ (fm 8 m [f.FD, .str w] []) ⟨fun d g => ∃ q, d = .ref q ∧ Fm.TabI g q w f⟩ ⟨fun _ _ => False⟩ → ∃ q h', runA (fm 8 m) [f.FD, .str w] h = .ok (.ref q) h' ∧ Fm.TabI h' q w f ∧ Fr [] h h' := fun m f h e => by
    obtain ⟨d, g, e1, q, rfl, T⟩ := okR_eq e
    exact Fm.runA_tab (pu f) e1 T h
  have leaf : ∀ (m : SM), (m = b0__law_spans ∨ ∃ rc, m = b1__law_spans rc) → ∀ f : Fm, f.dp = 0 → @okR _ (fm 8 m [f.FD, .str w] []) ⟨fun d g => ∃ q, d = .ref q ∧ Fm.TabI g q w f⟩ ⟨fun _ _ => False⟩ := fun m hm f hl => by
    cases f with
    | non =>
      have ix0 : ∀ h : LH, dIx (.tup [.str [110, 111, 110, 101]]) (.int 0) h = .ok (.str [110, 111, 110, 101]) h := fun h => rfl
      have q1 : ∀ h : LH, dEq (.str [110, 111, 110, 101]) (.str [110, 111, 110, 101]) h = .ok (.bl true) h := fun h => rfl
      show @okR _ (fin (m [some (.tup [.str [110, 111, 110, 101]]), some (.str w), none, none, none, none, none, none] [])) ⟨_⟩ ⟨_⟩
      have fin_ : ∀ ls0, @okR _ (mLcGo (gmName 6) mYes (mLst mNil) (liRange 0 (w.length + 1)) ls0 100000 0 [] []) ⟨fun acc h => ∃ q, D.ref h.length = .ref q ∧ Fm.TabI (h ++ [.lst acc]) q w .non⟩ ⟨fun _ _ => False⟩ := fun ls0 => okR_imp (Fm.tab_lc (by omega) (fun k hk h fr => by
        simp only [Rf.okR_ok, Rf.okR_ex, Rf.okS_nx, Rf.okS_rt, Rf.okS_bk, Rf.okS_ct, Rf.okS_ex, Rf.okR_bind, Rf.okS_lift, Rf.okS_seq, Rf.okS_if, Rf.okS_ret, Rf.okS_drop, Rf.okS_set, Rf.okS_next, Rf.okS_retN, Rf.okS_brk, Rf.okS_cont, Rf.okS_raise, Rf.okR_fin, Rf.okR_bin, Rf.okR_test, Rf.okR_not, Rf.okR_and, Rf.okR_or, Rf.okR_andV, Rf.okR_orV, Rf.okR_notV, Rf.okR_mif, Rf.okR_C, Rf.okR_nil, Rf.okR_yes, Rf.okR_cons, Rf.okR_call, Rf.okR_callK, Rf.okR_tup, Rf.okR_lst, Rf.okR_fld, Rf.okR_meth, Rf.okR_make, Rf.okR_bm, Rf.okR_isi, Rf.okS_for, Rf.okR_lc, Rf.okR_anyD, Rf.okS_asg, Rf.okS_setFld, Rf.okR_V, Rf.okR_chain, Rf.okR_rng1, Rf.okR_rng2, Rf.okR_neg, Rf.okR_sl, Rf.okR_noPart, Rf.okR_part, Rf.okS_sub, Rf.okS_par, Rf.okR_enum, Rf.okR_dic0, Rf.okR_dic1, Rf.okS_try, Rf.okR_get1, Rf.okR_get2, Rf.okR_keys, Rf.okS_augFld, Rf.okR_setd, Rf.okR_dct, Rf.okR_sortSc2, Rf.okR_sortI, List.getElem?_cons_zero, List.getElem?_cons_succ, List.set_cons_zero, List.set_cons_succ, if_true, if_false, Bool.false_eq_true, reduceIte, reduceCtorEq, Rf.f1, Rf.gV_non, Rf.gV_bl, Rf.gV_int, Rf.gV_str, Rf.gV_tup, Rf.gV_ktp, Rf.gV_rol, Rf.gV_ref, Rf.gd0, Rf.gdA, List.cons_append, List.nil_append, List.append_nil, List.take_succ_cons, List.take_zero, List.take_nil, List.drop_succ_cons, List.drop_zero, List.drop_nil, Rf.oI0, Rf.oI, Bool.not_true, Bool.not_false, z0]
        exact ⟨_, [], rfl, app_at, Fm.row_non w k, .app⟩)) (fun a h z => ⟨_, rfl, z.1⟩) (fun _ _ z => z)
      rcases hm with rfl | ⟨rc, rfl⟩
      · unfold b0__law_spans
        simp only [Rf.okR_ok, Rf.okR_ex, Rf.okS_nx, Rf.okS_rt, Rf.okS_bk, Rf.okS_ct, Rf.okS_ex, Rf.okR_bind, Rf.okS_lift, Rf.okS_seq, Rf.okS_if, Rf.okS_ret, Rf.okS_drop, Rf.okS_set, Rf.okS_next, Rf.okS_retN, Rf.okS_brk, Rf.okS_cont, Rf.okS_raise, Rf.okR_fin, Rf.okR_bin, Rf.okR_test, Rf.okR_not, Rf.okR_and, Rf.okR_or, Rf.okR_andV, Rf.okR_orV, Rf.okR_notV, Rf.okR_mif, Rf.okR_C, Rf.okR_nil, Rf.okR_yes, Rf.okR_cons, Rf.okR_call, Rf.okR_callK, Rf.okR_tup, Rf.okR_lst, Rf.okR_fld, Rf.okR_meth, Rf.okR_make, Rf.okR_bm, Rf.okR_isi, Rf.okS_for, Rf.okR_lc, Rf.okR_anyD, Rf.okS_asg, Rf.okS_setFld, Rf.okR_V, Rf.okR_chain, Rf.okR_rng1, Rf.okR_rng2, Rf.okR_neg, Rf.okR_sl, Rf.okR_noPart, Rf.okR_part, Rf.okS_sub, Rf.okS_par, Rf.okR_enum, Rf.okR_dic0, Rf.okR_dic1, Rf.okS_try, Rf.okR_get1, Rf.okR_get2, Rf.okR_keys, Rf.okS_augFld, Rf.okR_setd, Rf.okR_dct, Rf.okR_sortSc2, Rf.okR_sortI, List.getElem?_cons_zero, List.getElem?_cons_succ, List.set_cons_zero, List.set_cons_succ, if_true, if_false, Bool.false_eq_true, reduceIte, reduceCtorEq, Rf.f1, Rf.gV_non, Rf.gV_bl, Rf.gV_int, Rf.gV_str, Rf.gV_tup, Rf.gV_ktp, Rf.gV_rol, Rf.gV_ref, Rf.gd0, Rf.gdA, List.cons_append, List.nil_append, List.append_nil, List.take_succ_cons, List.take_zero, List.take_nil, List.drop_succ_cons, List.drop_zero, List.drop_nil, Rf.oI0, Rf.oI, Bool.not_true, Bool.not_false, ix0, q1, ln, ad, rN, wipeL]
        exact fin_ _
      · unfold b1__law_spans
        simp only [Rf.okR_ok, Rf.okR_ex, Rf.okS_nx, Rf.okS_rt, Rf.okS_bk, Rf.okS_ct, Rf.okS_ex, Rf.okR_bind, Rf.okS_lift, Rf.okS_seq, Rf.okS_if, Rf.okS_ret, Rf.okS_drop, Rf.okS_set, Rf.okS_next, Rf.okS_retN, Rf.okS_brk, Rf.okS_cont, Rf.okS_raise, Rf.okR_fin, Rf.okR_bin, Rf.okR_test, Rf.okR_not, Rf.okR_and, Rf.okR_or, Rf.okR_andV, Rf.okR_orV, Rf.okR_notV, Rf.okR_mif, Rf.okR_C, Rf.okR_nil, Rf.okR_yes, Rf.okR_cons, Rf.okR_call, Rf.okR_callK, Rf.okR_tup, Rf.okR_lst, Rf.okR_fld, Rf.okR_meth, Rf.okR_make, Rf.okR_bm, Rf.okR_isi, Rf.okS_for, Rf.okR_lc, Rf.okR_anyD, Rf.okS_asg, Rf.okS_setFld, Rf.okR_V, Rf.okR_chain, Rf.okR_rng1, Rf.okR_rng2, Rf.okR_neg, Rf.okR_sl, Rf.okR_noPart, Rf.okR_part, Rf.okS_sub, Rf.okS_par, Rf.okR_enum, Rf.okR_dic0, Rf.okR_dic1, Rf.okS_try, Rf.okR_get1, Rf.okR_get2, Rf.okR_keys, Rf.okS_augFld, Rf.okR_setd, Rf.okR_dct, Rf.okR_sortSc2, Rf.okR_sortI, List.getElem?_cons_zero, List.getElem?_cons_succ, List.set_cons_zero, List.set_cons_succ, if_true, if_false, Bool.false_eq_true, reduceIte, reduceCtorEq, Rf.f1, Rf.gV_non, Rf.gV_bl, Rf.gV_int, Rf.gV_str, Rf.gV_tup, Rf.gV_ktp, Rf.gV_rol, Rf.gV_ref, Rf.gd0, Rf.gdA, List.cons_append, List.nil_append, List.append_nil, List.take_succ_cons, List.take_zero, List.take_nil, List.drop_succ_cons, List.drop_zero, List.drop_nil, Rf.oI0, Rf.oI, Bool.not_true, Bool.not_false, ix0, q1, ln, ad, rN, wipeL]
        exact fin_ _
    | emp =>
      have ix0 : ∀ h : LH, dIx (.tup [.str [101, 109, 112, 116, 121]]) (.int 0) h = .ok (.str [101, 109, 112, 116, 121]) h := fun h => rfl
      have q1 : ∀ h : LH, dEq (.str [101, 109, 112, 116, 121]) (.str [110, 111, 110, 101]) h = .ok (.bl false) h := fun h => rfl
      have q2 : ∀ h : LH, dEq (.str [101, 109, 112, 116, 121]) (.str [101, 109, 112, 116, 121]) h = .ok (.bl true) h := fun h => rfl
      show @okR _ (fin (m [some (.tup [.str [101, 109, 112, 116, 121]]), some (.str w), none, none, none, none, none, none] [])) ⟨_⟩ ⟨_⟩
      have fin_ : ∀ a b c d e f g : Option D, @okR _ (mLcGo (gmName 6) mYes (mLst (mCons (mV 6) mNil)) (liRange 0 (w.length + 1)) [a, b, c, d, e, f, none, g] 100000 0 [] []) ⟨fun acc h => ∃ q, D.ref h.length = .ref q ∧ Fm.TabI (h ++ [.lst acc]) q w .emp⟩ ⟨fun _ _ => False⟩ := fun a b c d e f g => okR_imp (Fm.tab_lc (by omega) (fun k hk h fr => by
        simp only [Rf.okR_ok, Rf.okR_ex, Rf.okS_nx, Rf.okS_rt, Rf.okS_bk, Rf.okS_ct, Rf.okS_ex, Rf.okR_bind, Rf.okS_lift, Rf.okS_seq, Rf.okS_if, Rf.okS_ret, Rf.okS_drop, Rf.okS_set, Rf.okS_next, Rf.okS_retN, Rf.okS_brk, Rf.okS_cont, Rf.okS_raise, Rf.okR_fin, Rf.okR_bin, Rf.okR_test, Rf.okR_not, Rf.okR_and, Rf.okR_or, Rf.okR_andV, Rf.okR_orV, Rf.okR_notV, Rf.okR_mif, Rf.okR_C, Rf.okR_nil, Rf.okR_yes, Rf.okR_cons, Rf.okR_call, Rf.okR_callK, Rf.okR_tup, Rf.okR_lst, Rf.okR_fld, Rf.okR_meth, Rf.okR_make, Rf.okR_bm, Rf.okR_isi, Rf.okS_for, Rf.okR_lc, Rf.okR_anyD, Rf.okS_asg, Rf.okS_setFld, Rf.okR_V, Rf.okR_chain, Rf.okR_rng1, Rf.okR_rng2, Rf.okR_neg, Rf.okR_sl, Rf.okR_noPart, Rf.okR_part, Rf.okS_sub, Rf.okS_par, Rf.okR_enum, Rf.okR_dic0, Rf.okR_dic1, Rf.okS_try, Rf.okR_get1, Rf.okR_get2, Rf.okR_keys, Rf.okS_augFld, Rf.okR_setd, Rf.okR_dct, Rf.okR_sortSc2, Rf.okR_sortI, List.getElem?_cons_zero, List.getElem?_cons_succ, List.set_cons_zero, List.set_cons_succ, if_true, if_false, Bool.false_eq_true, reduceIte, reduceCtorEq, Rf.f1, Rf.gV_non, Rf.gV_bl, Rf.gV_int, Rf.gV_str, Rf.gV_tup, Rf.gV_ktp, Rf.gV_rol, Rf.gV_ref, Rf.gd0, Rf.gdA, List.cons_append, List.nil_append, List.append_nil, List.take_succ_cons, List.take_zero, List.take_nil, List.drop_succ_cons, List.drop_zero, List.drop_nil, Rf.oI0, Rf.oI, Bool.not_true, Bool.not_false, z1]
        exact ⟨_, [k], rfl, app_at, Fm.row_emp (by omega), .app⟩)) (fun a h z => ⟨_, rfl, z.1⟩) (fun _ _ z => z)
      rcases hm with rfl | ⟨rc, rfl⟩
      · unfold b0__law_spans
        simp only [Rf.okR_ok, Rf.okR_ex, Rf.okS_nx, Rf.okS_rt, Rf.okS_bk, Rf.okS_ct, Rf.okS_ex, Rf.okR_bind, Rf.okS_lift, Rf.okS_seq, Rf.okS_if, Rf.okS_ret, Rf.okS_drop, Rf.okS_set, Rf.okS_next, Rf.okS_retN, Rf.okS_brk, Rf.okS_cont, Rf.okS_raise, Rf.okR_fin, Rf.okR_bin, Rf.okR_test, Rf.okR_not, Rf.okR_and, Rf.okR_or, Rf.okR_andV, Rf.okR_orV, Rf.okR_notV, Rf.okR_mif, Rf.okR_C, Rf.okR_nil, Rf.okR_yes, Rf.okR_cons, Rf.okR_call, Rf.okR_callK, Rf.okR_tup, Rf.okR_lst, Rf.okR_fld, Rf.okR_meth, Rf.okR_make, Rf.okR_bm, Rf.okR_isi, Rf.okS_for, Rf.okR_lc, Rf.okR_anyD, Rf.okS_asg, Rf.okS_setFld, Rf.okR_V, Rf.okR_chain, Rf.okR_rng1, Rf.okR_rng2, Rf.okR_neg, Rf.okR_sl, Rf.okR_noPart, Rf.okR_part, Rf.okS_sub, Rf.okS_par, Rf.okR_enum, Rf.okR_dic0, Rf.okR_dic1, Rf.okS_try, Rf.okR_get1, Rf.okR_get2, Rf.okR_keys, Rf.okS_augFld, Rf.okR_setd, Rf.okR_dct, Rf.okR_sortSc2, Rf.okR_sortI, List.getElem?_cons_zero, List.getElem?_cons_succ, List.set_cons_zero, List.set_cons_succ, if_true, if_false, Bool.false_eq_true, reduceIte, reduceCtorEq, Rf.f1, Rf.gV_non, Rf.gV_bl, Rf.gV_int, Rf.gV_str, Rf.gV_tup, Rf.gV_ktp, Rf.gV_rol, Rf.gV_ref, Rf.gd0, Rf.gdA, List.cons_append, List.nil_append, List.append_nil, List.take_succ_cons, List.take_zero, List.take_nil, List.drop_succ_cons, List.drop_zero, List.drop_nil, Rf.oI0, Rf.oI, Bool.not_true, Bool.not_false, ix0, q1, q2, ln, ad, rN, wipeL]
        exact fin_ _ _ _ _ _ _ _
      · unfold b1__law_spans
        simp only [Rf.okR_ok, Rf.okR_ex, Rf.okS_nx, Rf.okS_rt, Rf.okS_bk, Rf.okS_ct, Rf.okS_ex, Rf.okR_bind, Rf.okS_lift, Rf.okS_seq, Rf.okS_if, Rf.okS_ret, Rf.okS_drop, Rf.okS_set, Rf.okS_next, Rf.okS_retN, Rf.okS_brk, Rf.okS_cont, Rf.okS_raise, Rf.okR_fin, Rf.okR_bin, Rf.okR_test, Rf.okR_not, Rf.okR_and, Rf.okR_or, Rf.okR_andV, Rf.okR_orV, Rf.okR_notV, Rf.okR_mif, Rf.okR_C, Rf.okR_nil, Rf.okR_yes, Rf.okR_cons, Rf.okR_call, Rf.okR_callK, Rf.okR_tup, Rf.okR_lst, Rf.okR_fld, Rf.okR_meth, Rf.okR_make, Rf.okR_bm, Rf.okR_isi, Rf.okS_for, Rf.okR_lc, Rf.okR_anyD, Rf.okS_asg, Rf.okS_setFld, Rf.okR_V, Rf.okR_chain, Rf.okR_rng1, Rf.okR_rng2, Rf.okR_neg, Rf.okR_sl, Rf.okR_noPart, Rf.okR_part, Rf.okS_sub, Rf.okS_par, Rf.okR_enum, Rf.okR_dic0, Rf.okR_dic1, Rf.okS_try, Rf.okR_get1, Rf.okR_get2, Rf.okR_keys, Rf.okS_augFld, Rf.okR_setd, Rf.okR_dct, Rf.okR_sortSc2, Rf.okR_sortI, List.getElem?_cons_zero, List.getElem?_cons_succ, List.set_cons_zero, List.set_cons_succ, if_true, if_false, Bool.false_eq_true, reduceIte, reduceCtorEq, Rf.f1, Rf.gV_non, Rf.gV_bl, Rf.gV_int, Rf.gV_str, Rf.gV_tup, Rf.gV_ktp, Rf.gV_rol, Rf.gV_ref, Rf.gd0, Rf.gdA, List.cons_append, List.nil_append, List.append_nil, List.take_succ_cons, List.take_zero, List.take_nil, List.drop_succ_cons, List.drop_zero, List.drop_nil, Rf.oI0, Rf.oI, Bool.not_true, Bool.not_false, ix0, q1, q2, ln, ad, rN, wipeL]
        exact fin_ _ _ _ _ _ _ _
    | sg c =>
      have ix0 : ∀ h : LH, dIx (.tup [.str [115, 105, 103, 110], .str [c]]) (.int 0) h = .ok (.str [115, 105, 103, 110]) h := fun h => rfl
      have ix1 : ∀ h : LH, dIx (.tup [.str [115, 105, 103, 110], .str [c]]) (.int 1) h = .ok (.str [c]) h := fun h => rfl
      have q1 : ∀ h : LH, dEq (.str [115, 105, 103, 110]) (.str [110, 111, 110, 101]) h = .ok (.bl false) h := fun h => rfl
      have q2 : ∀ h : LH, dEq (.str [115, 105, 103, 110]) (.str [101, 109, 112, 116, 121]) h = .ok (.bl false) h := fun h => rfl
      have q3 : ∀ h : LH, dEq (.str [115, 105, 103, 110]) (.str [115, 105, 103, 110]) h = .ok (.bl true) h := fun h => rfl
      show @okR _ (fin (m [some (.tup [.str [115, 105, 103, 110], .str [c]]), some (.str w), none, none, none, none, none, none] [])) ⟨_⟩ ⟨_⟩
      have fin_ : ∀ c' d e f g : Option D, @okR _ (mLcGo (gmName 6) mYes (mIf (mTest (mBin dEq (mSl (mV 1) (mPart (mV 6)) (mPart (mBin dAdd (mV 6) (mC (.int 1))))) (mBin dIx (mV 0) (mC (.int 1))))) (mLst (mCons (mBin dAdd (mV 6) (mC (.int 1))) (mNil))) (mLst (mNil))) (liRange 0 (w.length + 1)) [some (.tup [.str [115, 105, 103, 110], .str [c]]), some (.str w), c', d, e, f, none, g] 100000 0 [] [])
          ⟨fun acc h => ∃ q, D.ref h.length = .ref q ∧ Fm.TabI (h ++ [.lst acc]) q w (.sg c)⟩ ⟨fun _ _ => False⟩ := fun c' d e f g => okR_imp (Fm.tab_lc (by omega) (fun k hk h fr => by
        have sl : dSl (.str w) (some ((k : Nat) : Int)) (some ((k + 1 : Nat) : Int)) h = .ok (.str ((w.drop k).take 1)) h := by
          simp only [dSl, zl, if_true, cut_mid']
          rw [show k + 1 - k = 1 by omega]
        have R := Fm.row_sg (w := w) (c := c) (k := k) (by omega)
        simp only [Rf.okR_ok, Rf.okR_ex, Rf.okS_nx, Rf.okS_rt, Rf.okS_bk, Rf.okS_ct, Rf.okS_ex, Rf.okR_bind, Rf.okS_lift, Rf.okS_seq, Rf.okS_if, Rf.okS_ret, Rf.okS_drop, Rf.okS_set, Rf.okS_next, Rf.okS_retN, Rf.okS_brk, Rf.okS_cont, Rf.okS_raise, Rf.okR_fin, Rf.okR_bin, Rf.okR_test, Rf.okR_not, Rf.okR_and, Rf.okR_or, Rf.okR_andV, Rf.okR_orV, Rf.okR_notV, Rf.okR_mif, Rf.okR_C, Rf.okR_nil, Rf.okR_yes, Rf.okR_cons, Rf.okR_call, Rf.okR_callK, Rf.okR_tup, Rf.okR_lst, Rf.okR_fld, Rf.okR_meth, Rf.okR_make, Rf.okR_bm, Rf.okR_isi, Rf.okS_for, Rf.okR_lc, Rf.okR_anyD, Rf.okS_asg, Rf.okS_setFld, Rf.okR_V, Rf.okR_chain, Rf.okR_rng1, Rf.okR_rng2, Rf.okR_neg, Rf.okR_sl, Rf.okR_noPart, Rf.okR_part, Rf.okS_sub, Rf.okS_par, Rf.okR_enum, Rf.okR_dic0, Rf.okR_dic1, Rf.okS_try, Rf.okR_get1, Rf.okR_get2, Rf.okR_keys, Rf.okS_augFld, Rf.okR_setd, Rf.okR_dct, Rf.okR_sortSc2, Rf.okR_sortI, List.getElem?_cons_zero, List.getElem?_cons_succ, List.set_cons_zero, List.set_cons_succ, if_true, if_false, Bool.false_eq_true, reduceIte, reduceCtorEq, Rf.f1, Rf.gV_non, Rf.gV_bl, Rf.gV_int, Rf.gV_str, Rf.gV_tup, Rf.gV_ktp, Rf.gV_rol, Rf.gV_ref, Rf.gd0, Rf.gdA, List.cons_append, List.nil_append, List.append_nil, List.take_succ_cons, List.take_zero, List.take_nil, List.drop_succ_cons, List.drop_zero, List.drop_nil, Rf.oI0, Rf.oI, Bool.not_true, Bool.not_false, ad, sl, ix1, qq]
        by_cases e : (w.drop k).take 1 = [c]
        · rw [if_pos e] at R
          simp only [decide_eq_true e, if_true]
          simp only [Rf.okR_ok, Rf.okR_ex, Rf.okS_nx, Rf.okS_rt, Rf.okS_bk, Rf.okS_ct, Rf.okS_ex, Rf.okR_bind, Rf.okS_lift, Rf.okS_seq, Rf.okS_if, Rf.okS_ret, Rf.okS_drop, Rf.okS_set, Rf.okS_next, Rf.okS_retN, Rf.okS_brk, Rf.okS_cont, Rf.okS_raise, Rf.okR_fin, Rf.okR_bin, Rf.okR_test, Rf.okR_not, Rf.okR_and, Rf.okR_or, Rf.okR_andV, Rf.okR_orV, Rf.okR_notV, Rf.okR_mif, Rf.okR_C, Rf.okR_nil, Rf.okR_yes, Rf.okR_cons, Rf.okR_call, Rf.okR_callK, Rf.okR_tup, Rf.okR_lst, Rf.okR_fld, Rf.okR_meth, Rf.okR_make, Rf.okR_bm, Rf.okR_isi, Rf.okS_for, Rf.okR_lc, Rf.okR_anyD, Rf.okS_asg, Rf.okS_setFld, Rf.okR_V, Rf.okR_chain, Rf.okR_rng1, Rf.okR_rng2, Rf.okR_neg, Rf.okR_sl, Rf.okR_noPart, Rf.okR_part, Rf.okS_sub, Rf.okS_par, Rf.okR_enum, Rf.okR_dic0, Rf.okR_dic1, Rf.okS_try, Rf.okR_get1, Rf.okR_get2, Rf.okR_keys, Rf.okS_augFld, Rf.okR_setd, Rf.okR_dct, Rf.okR_sortSc2, Rf.okR_sortI, List.getElem?_cons_zero, List.getElem?_cons_succ, List.set_cons_zero, List.set_cons_succ, if_true, if_false, Bool.false_eq_true, reduceIte, reduceCtorEq, Rf.f1, Rf.gV_non, Rf.gV_bl, Rf.gV_int, Rf.gV_str, Rf.gV_tup, Rf.gV_ktp, Rf.gV_rol, Rf.gV_ref, Rf.gd0, Rf.gdA, List.cons_append, List.nil_append, List.append_nil, List.take_succ_cons, List.take_zero, List.take_nil, List.drop_succ_cons, List.drop_zero, List.drop_nil, Rf.oI0, Rf.oI, Bool.not_true, Bool.not_false, ad, z1]
          exact ⟨_, _, rfl, app_at, R, .app⟩
        · rw [if_neg e] at R
          simp only [decide_eq_false e, Bool.false_eq_true, if_false]
          simp only [Rf.okR_ok, Rf.okR_ex, Rf.okS_nx, Rf.okS_rt, Rf.okS_bk, Rf.okS_ct, Rf.okS_ex, Rf.okR_bind, Rf.okS_lift, Rf.okS_seq, Rf.okS_if, Rf.okS_ret, Rf.okS_drop, Rf.okS_set, Rf.okS_next, Rf.okS_retN, Rf.okS_brk, Rf.okS_cont, Rf.okS_raise, Rf.okR_fin, Rf.okR_bin, Rf.okR_test, Rf.okR_not, Rf.okR_and, Rf.okR_or, Rf.okR_andV, Rf.okR_orV, Rf.okR_notV, Rf.okR_mif, Rf.okR_C, Rf.okR_nil, Rf.okR_yes, Rf.okR_cons, Rf.okR_call, Rf.okR_callK, Rf.okR_tup, Rf.okR_lst, Rf.okR_fld, Rf.okR_meth, Rf.okR_make, Rf.okR_bm, Rf.okR_isi, Rf.okS_for, Rf.okR_lc, Rf.okR_anyD, Rf.okS_asg, Rf.okS_setFld, Rf.okR_V, Rf.okR_chain, Rf.okR_rng1, Rf.okR_rng2, Rf.okR_neg, Rf.okR_sl, Rf.okR_noPart, Rf.okR_part, Rf.okS_sub, Rf.okS_par, Rf.okR_enum, Rf.okR_dic0, Rf.okR_dic1, Rf.okS_try, Rf.okR_get1, Rf.okR_get2, Rf.okR_keys, Rf.okS_augFld, Rf.okR_setd, Rf.okR_dct, Rf.okR_sortSc2, Rf.okR_sortI, List.getElem?_cons_zero, List.getElem?_cons_succ, List.set_cons_zero, List.set_cons_succ, if_true, if_false, Bool.false_eq_true, reduceIte, reduceCtorEq, Rf.f1, Rf.gV_non, Rf.gV_bl, Rf.gV_int, Rf.gV_str, Rf.gV_tup, Rf.gV_ktp, Rf.gV_rol, Rf.gV_ref, Rf.gd0, Rf.gdA, List.cons_append, List.nil_append, List.append_nil, List.take_succ_cons, List.take_zero, List.take_nil, List.drop_succ_cons, List.drop_zero, List.drop_nil, Rf.oI0, Rf.oI, Bool.not_true, Bool.not_false, z0]
          exact ⟨_, _, rfl, app_at, R, .app⟩)) (fun a h z => ⟨_, rfl, z.1⟩) (fun _ _ z => z)
      rcases hm with rfl | ⟨rc, rfl⟩
      · unfold b0__law_spans
        simp only [Rf.okR_ok, Rf.okR_ex, Rf.okS_nx, Rf.okS_rt, Rf.okS_bk, Rf.okS_ct, Rf.okS_ex, Rf.okR_bind, Rf.okS_lift, Rf.okS_seq, Rf.okS_if, Rf.okS_ret, Rf.okS_drop, Rf.okS_set, Rf.okS_next, Rf.okS_retN, Rf.okS_brk, Rf.okS_cont, Rf.okS_raise, Rf.okR_fin, Rf.okR_bin, Rf.okR_test, Rf.okR_not, Rf.okR_and, Rf.okR_or, Rf.okR_andV, Rf.okR_orV, Rf.okR_notV, Rf.okR_mif, Rf.okR_C, Rf.okR_nil, Rf.okR_yes, Rf.okR_cons, Rf.okR_call, Rf.okR_callK, Rf.okR_tup, Rf.okR_lst, Rf.okR_fld, Rf.okR_meth, Rf.okR_make, Rf.okR_bm, Rf.okR_isi, Rf.okS_for, Rf.okR_lc, Rf.okR_anyD, Rf.okS_asg, Rf.okS_setFld, Rf.okR_V, Rf.okR_chain, Rf.okR_rng1, Rf.okR_rng2, Rf.okR_neg, Rf.okR_sl, Rf.okR_noPart, Rf.okR_part, Rf.okS_sub, Rf.okS_par, Rf.okR_enum, Rf.okR_dic0, Rf.okR_dic1, Rf.okS_try, Rf.okR_get1, Rf.okR_get2, Rf.okR_keys, Rf.okS_augFld, Rf.okR_setd, Rf.okR_dct, Rf.okR_sortSc2, Rf.okR_sortI, List.getElem?_cons_zero, List.getElem?_cons_succ, List.set_cons_zero, List.set_cons_succ, if_true, if_false, Bool.false_eq_true, reduceIte, reduceCtorEq, Rf.f1, Rf.gV_non, Rf.gV_bl, Rf.gV_int, Rf.gV_str, Rf.gV_tup, Rf.gV_ktp, Rf.gV_rol, Rf.gV_ref, Rf.gd0, Rf.gdA, List.cons_append, List.nil_append, List.append_nil, List.take_succ_cons, List.take_zero, List.take_nil, List.drop_succ_cons, List.drop_zero, List.drop_nil, Rf.oI0, Rf.oI, Bool.not_true, Bool.not_false, ix0, q1, q2, q3, ln, ad, rN, wipeL]
        exact fin_ _ _ _ _ _
      · unfold b1__law_spans
        simp only [Rf.okR_ok, Rf.okR_ex, Rf.okS_nx, Rf.okS_rt, Rf.okS_bk, Rf.okS_ct, Rf.okS_ex, Rf.okR_bind, Rf.okS_lift, Rf.okS_seq, Rf.okS_if, Rf.okS_ret, Rf.okS_drop, Rf.okS_set, Rf.okS_next, Rf.okS_retN, Rf.okS_brk, Rf.okS_cont, Rf.okS_raise, Rf.okR_fin, Rf.okR_bin, Rf.okR_test, Rf.okR_not, Rf.okR_and, Rf.okR_or, Rf.okR_andV, Rf.okR_orV, Rf.okR_notV, Rf.okR_mif, Rf.okR_C, Rf.okR_nil, Rf.okR_yes, Rf.okR_cons, Rf.okR_call, Rf.okR_callK, Rf.okR_tup, Rf.okR_lst, Rf.okR_fld, Rf.okR_meth, Rf.okR_make, Rf.okR_bm, Rf.okR_isi, Rf.okS_for, Rf.okR_lc, Rf.okR_anyD, Rf.okS_asg, Rf.okS_setFld, Rf.okR_V, Rf.okR_chain, Rf.okR_rng1, Rf.okR_rng2, Rf.okR_neg, Rf.okR_sl, Rf.okR_noPart, Rf.okR_part, Rf.okS_sub, Rf.okS_par, Rf.okR_enum, Rf.okR_dic0, Rf.okR_dic1, Rf.okS_try, Rf.okR_get1, Rf.okR_get2, Rf.okR_keys, Rf.okS_augFld, Rf.okR_setd, Rf.okR_dct, Rf.okR_sortSc2, Rf.okR_sortI, List.getElem?_cons_zero, List.getElem?_cons_succ, List.set_cons_zero, List.set_cons_succ, if_true, if_false, Bool.false_eq_true, reduceIte, reduceCtorEq, Rf.f1, Rf.gV_non, Rf.gV_bl, Rf.gV_int, Rf.gV_str, Rf.gV_tup, Rf.gV_ktp, Rf.gV_rol, Rf.gV_ref, Rf.gd0, Rf.gdA, List.cons_append, List.nil_append, List.append_nil, List.take_succ_cons, List.take_zero, List.take_nil, List.drop_succ_cons, List.drop_zero, List.drop_nil, Rf.oI0, Rf.oI, Bool.not_true, Bool.not_false, ix0, q1, q2, q3, ln, ad, rN, wipeL]
        exact fin_ _ _ _ _ _
    | _ => cases hl
  induction n with
  | zero => intro f h hd; exact run _ f h (leaf _ (.inl rfl) f (by omega))
  | succ n ih =>
    intro f h hd
    refine run (b1__law_spans (M__law_spans n)) f h ?_
    cases f with
    | non => exact leaf _ (.inr ⟨_, rfl⟩) _ rfl
    | emp => exact leaf _ (.inr ⟨_, rfl⟩) _ rfl
    | sg c => exact leaf _ (.inr ⟨_, rfl⟩) _ rfl
    | nt a =>
      simp only [Fm.dp] at hd
      obtain ⟨q1, g1, e1, T1, fr1⟩ := ih a [] (by omega)
      have na := a.nf
      show @okR _ (fin (b1__law_spans (M__law_spans n) [some (.tup [.str [110, 111, 116], a.FD]), some (.str w), none, none, none, none, none, none] [])) ⟨_⟩ ⟨_⟩
      generalize a.FD = x at *
      have ix0 : ∀ h : LH, dIx (.tup [.str [110, 111, 116], x]) (.int 0) h = .ok (.str [110, 111, 116]) h := fun h => rfl
      have ix1 : ∀ h : LH, dIx (.tup [.str [110, 111, 116], x]) (.int 1) h = .ok x h := fun h => rfl
      have p1 : ∀ h : LH, dEq (.str [110, 111, 116]) (.str [110, 111, 110, 101]) h = .ok (.bl false) h := fun h => rfl
      have p2 : ∀ h : LH, dEq (.str [110, 111, 116]) (.str [101, 109, 112, 116, 121]) h = .ok (.bl false) h := fun h => rfl
      have p3 : ∀ h : LH, dEq (.str [110, 111, 116]) (.str [115, 105, 103, 110]) h = .ok (.bl false) h := fun h => rfl
      have p4 : ∀ h : LH, dEq (.str [110, 111, 116]) (.str [110, 111, 116]) h = .ok (.bl true) h := fun h => rfl
      unfold b1__law_spans
      simp only [Rf.okR_ok, Rf.okR_ex, Rf.okS_nx, Rf.okS_rt, Rf.okS_bk, Rf.okS_ct, Rf.okS_ex, Rf.okR_bind, Rf.okS_lift, Rf.okS_seq, Rf.okS_if, Rf.okS_ret, Rf.okS_drop, Rf.okS_set, Rf.okS_next, Rf.okS_retN, Rf.okS_brk, Rf.okS_cont, Rf.okS_raise, Rf.okR_fin, Rf.okR_bin, Rf.okR_test, Rf.okR_not, Rf.okR_and, Rf.okR_or, Rf.okR_andV, Rf.okR_orV, Rf.okR_notV, Rf.okR_mif, Rf.okR_C, Rf.okR_nil, Rf.okR_yes, Rf.okR_cons, Rf.okR_call, Rf.okR_callK, Rf.okR_tup, Rf.okR_lst, Rf.okR_fld, Rf.okR_meth, Rf.okR_make, Rf.okR_bm, Rf.okR_isi, Rf.okS_for, Rf.okR_lc, Rf.okR_anyD, Rf.okS_asg, Rf.okS_setFld, Rf.okR_V, Rf.okR_chain, Rf.okR_rng1, Rf.okR_rng2, Rf.okR_neg, Rf.okR_sl, Rf.okR_noPart, Rf.okR_part, Rf.okS_sub, Rf.okS_par, Rf.okR_enum, Rf.okR_dic0, Rf.okR_dic1, Rf.okS_try, Rf.okR_get1, Rf.okR_get2, Rf.okR_keys, Rf.okS_augFld, Rf.okR_setd, Rf.okR_dct, Rf.okR_sortSc2, Rf.okR_sortI, List.getElem?_cons_zero, List.getElem?_cons_succ, List.set_cons_zero, List.set_cons_succ, if_true, if_false, Bool.false_eq_true, reduceIte, reduceCtorEq, Rf.f1, Rf.gV_non, Rf.gV_bl, Rf.gV_int, Rf.gV_str, Rf.gV_tup, Rf.gV_ktp, Rf.gV_rol, Rf.gV_ref, Rf.gd0, Rf.gdA, List.cons_append, List.nil_append, List.append_nil, List.take_succ_cons, List.take_zero, List.take_nil, List.drop_succ_cons, List.drop_zero, List.drop_nil, Rf.oI0, Rf.oI, Bool.not_true, Bool.not_false, ix0, ix1, p1, p2, p3, p4, ln, ad, rN, gV_nf na, e1, wipeL]
      have r2 : ∀ k, k < w.length + 1 → ∀ h : LH, rngK2 [.int ((k : Nat) : Int), .int ((w.length + 1 : Nat) : Int)] h = .ok (liRange ((k : Nat) : Int) (w.length + 1 - k)) h := fun k hk h => by
        rw [rngK2_int (by omega) (by omega) (by omega) (by omega)]
        congr 2; omega
      have hwi : ∀ k, k < w.length + 1 → ∀ h : LH, imRange2 (mCons (mV 6) (mCons (mV 2) mNil)) ([some (D.tup [D.str [110, 111, 116], x]), some (D.str w), some (D.int ((w.length + 1 : Nat) : Int)), some (D.str [110, 111, 116]), some (D.ref q1), none, none, none].set 6 (some (.int (k : Nat)))) h = .ok (liRange ((k : Nat) : Int) (w.length + 1 - k)) h := fun k hk h => by
        refine okR_is ?_
        simp only [Rf.okR_ok, Rf.okR_ex, Rf.okS_nx, Rf.okS_rt, Rf.okS_bk, Rf.okS_ct, Rf.okS_ex, Rf.okR_bind, Rf.okS_lift, Rf.okS_seq, Rf.okS_if, Rf.okS_ret, Rf.okS_drop, Rf.okS_set, Rf.okS_next, Rf.okS_retN, Rf.okS_brk, Rf.okS_cont, Rf.okS_raise, Rf.okR_fin, Rf.okR_bin, Rf.okR_test, Rf.okR_not, Rf.okR_and, Rf.okR_or, Rf.okR_andV, Rf.okR_orV, Rf.okR_notV, Rf.okR_mif, Rf.okR_C, Rf.okR_nil, Rf.okR_yes, Rf.okR_cons, Rf.okR_call, Rf.okR_callK, Rf.okR_tup, Rf.okR_lst, Rf.okR_fld, Rf.okR_meth, Rf.okR_make, Rf.okR_bm, Rf.okR_isi, Rf.okS_for, Rf.okR_lc, Rf.okR_anyD, Rf.okS_asg, Rf.okS_setFld, Rf.okR_V, Rf.okR_chain, Rf.okR_rng1, Rf.okR_rng2, Rf.okR_neg, Rf.okR_sl, Rf.okR_noPart, Rf.okR_part, Rf.okS_sub, Rf.okS_par, Rf.okR_enum, Rf.okR_dic0, Rf.okR_dic1, Rf.okS_try, Rf.okR_get1, Rf.okR_get2, Rf.okR_keys, Rf.okS_augFld, Rf.okR_setd, Rf.okR_dct, Rf.okR_sortSc2, Rf.okR_sortI, List.getElem?_cons_zero, List.getElem?_cons_succ, List.set_cons_zero, List.set_cons_succ, if_true, if_false, Bool.false_eq_true, reduceIte, reduceCtorEq, Rf.f1, Rf.gV_non, Rf.gV_bl, Rf.gV_int, Rf.gV_str, Rf.gV_tup, Rf.gV_ktp, Rf.gV_rol, Rf.gV_ref, Rf.gd0, Rf.gdA, List.cons_append, List.nil_append, List.append_nil, List.take_succ_cons, List.take_zero, List.take_nil, List.drop_succ_cons, List.drop_zero, List.drop_nil, Rf.oI0, Rf.oI, Bool.not_true, Bool.not_false, r2 k hk]
        exact ⟨trivial, trivial⟩
      generalize imRange2 (mCons (mV 6) (mCons (mV 2) mNil)) = wi at hwi ⊢
      refine okR_imp (Fm.tab_lc (w := w) (f := .nt a) (Y := fun _ _ => False) (by omega) (fun k hk h fr => nt_row (T1.fr fr) (hwi k hk h) hk hw)) (fun a h z => ⟨_, rfl, z.1⟩) (fun _ _ z => z)
    | an a =>
      simp only [Fm.dp] at hd
      obtain ⟨q1, g1, e1, T1, fr1⟩ := ih a [] (by omega)
      have na := a.nf
      show @okR _ (fin (b1__law_spans (M__law_spans n) [some (.tup [.str [97, 110, 121], a.FD]), some (.str w), none, none, none, none, none, none] [])) ⟨_⟩ ⟨_⟩
      generalize a.FD = x at *
      have ix0 : ∀ h : LH, dIx (.tup [.str [97, 110, 121], x]) (.int 0) h = .ok (.str [97, 110, 121]) h := fun h => rfl
      have ix1 : ∀ h : LH, dIx (.tup [.str [97, 110, 121], x]) (.int 1) h = .ok x h := fun h => rfl
      have p1 : ∀ h : LH, dEq (.str [97, 110, 121]) (.str [110, 111, 110, 101]) h = .ok (.bl false) h := fun h => rfl
      have p2 : ∀ h : LH, dEq (.str [97, 110, 121]) (.str [101, 109, 112, 116, 121]) h = .ok (.bl false) h := fun h => rfl
      have p3 : ∀ h : LH, dEq (.str [97, 110, 121]) (.str [115, 105, 103, 110]) h = .ok (.bl false) h := fun h => rfl
      have p4 : ∀ h : LH, dEq (.str [97, 110, 121]) (.str [110, 111, 116]) h = .ok (.bl false) h := fun h => rfl
      have p5 : ∀ h : LH, dEq (.str [97, 110, 121]) (.str [97, 110, 121]) h = .ok (.bl true) h := fun h => rfl
      unfold b1__law_spans
      simp only [Rf.okR_ok, Rf.okR_ex, Rf.okS_nx, Rf.okS_rt, Rf.okS_bk, Rf.okS_ct, Rf.okS_ex, Rf.okR_bind, Rf.okS_lift, Rf.okS_seq, Rf.okS_if, Rf.okS_ret, Rf.okS_drop, Rf.okS_set, Rf.okS_next, Rf.okS_retN, Rf.okS_brk, Rf.okS_cont, Rf.okS_raise, Rf.okR_fin, Rf.okR_bin, Rf.okR_test, Rf.okR_not, Rf.okR_and, Rf.okR_or, Rf.okR_andV, Rf.okR_orV, Rf.okR_notV, Rf.okR_mif, Rf.okR_C, Rf.okR_nil, Rf.okR_yes, Rf.okR_cons, Rf.okR_call, Rf.okR_callK, Rf.okR_tup, Rf.okR_lst, Rf.okR_fld, Rf.okR_meth, Rf.okR_make, Rf.okR_bm, Rf.okR_isi, Rf.okS_for, Rf.okR_lc, Rf.okR_anyD, Rf.okS_asg, Rf.okS_setFld, Rf.okR_V, Rf.okR_chain, Rf.okR_rng1, Rf.okR_rng2, Rf.okR_neg, Rf.okR_sl, Rf.okR_noPart, Rf.okR_part, Rf.okS_sub, Rf.okS_par, Rf.okR_enum, Rf.okR_dic0, Rf.okR_dic1, Rf.okS_try, Rf.okR_get1, Rf.okR_get2, Rf.okR_keys, Rf.okS_augFld, Rf.okR_setd, Rf.okR_dct, Rf.okR_sortSc2, Rf.okR_sortI, List.getElem?_cons_zero, List.getElem?_cons_succ, List.set_cons_zero, List.set_cons_succ, if_true, if_false, Bool.false_eq_true, reduceIte, reduceCtorEq, Rf.f1, Rf.gV_non, Rf.gV_bl, Rf.gV_int, Rf.gV_str, Rf.gV_tup, Rf.gV_ktp, Rf.gV_rol, Rf.gV_ref, Rf.gd0, Rf.gdA, List.cons_append, List.nil_append, List.append_nil, List.take_succ_cons, List.take_zero, List.take_nil, List.drop_succ_cons, List.drop_zero, List.drop_nil, Rf.oI0, Rf.oI, Bool.not_true, Bool.not_false, ix0, ix1, p1, p2, p3, p4, p5, ln, ad, rN, gV_nf na, e1, wipeL]
      refine okR_imp (Fm.tab_lc (w := w) (f := .an a) (Y := fun _ _ => False) (by omega) (fun k hk h fr => ?_)) (fun a h z => ⟨_, rfl, z.1⟩) (fun _ _ z => z)
      simp only [Rf.okR_ok, Rf.okR_ex, Rf.okS_nx, Rf.okS_rt, Rf.okS_bk, Rf.okS_ct, Rf.okS_ex, Rf.okR_bind, Rf.okS_lift, Rf.okS_seq, Rf.okS_if, Rf.okS_ret, Rf.okS_drop, Rf.okS_set, Rf.okS_next, Rf.okS_retN, Rf.okS_brk, Rf.okS_cont, Rf.okS_raise, Rf.okR_fin, Rf.okR_bin, Rf.okR_test, Rf.okR_not, Rf.okR_and, Rf.okR_or, Rf.okR_andV, Rf.okR_orV, Rf.okR_notV, Rf.okR_mif, Rf.okR_C, Rf.okR_nil, Rf.okR_yes, Rf.okR_cons, Rf.okR_call, Rf.okR_callK, Rf.okR_tup, Rf.okR_lst, Rf.okR_fld, Rf.okR_meth, Rf.okR_make, Rf.okR_bm, Rf.okR_isi, Rf.okS_for, Rf.okR_lc, Rf.okR_anyD, Rf.okS_asg, Rf.okS_setFld, Rf.okR_V, Rf.okR_chain, Rf.okR_rng1, Rf.okR_rng2, Rf.okR_neg, Rf.okR_sl, Rf.okR_noPart, Rf.okR_part, Rf.okS_sub, Rf.okS_par, Rf.okR_enum, Rf.okR_dic0, Rf.okR_dic1, Rf.okS_try, Rf.okR_get1, Rf.okR_get2, Rf.okR_keys, Rf.okS_augFld, Rf.okR_setd, Rf.okR_dct, Rf.okR_sortSc2, Rf.okR_sortI, List.getElem?_cons_zero, List.getElem?_cons_succ, List.set_cons_zero, List.set_cons_succ, if_true, if_false, Bool.false_eq_true, reduceIte, reduceCtorEq, Rf.f1, Rf.gV_non, Rf.gV_bl, Rf.gV_int, Rf.gV_str, Rf.gV_tup, Rf.gV_ktp, Rf.gV_rol, Rf.gV_ref, Rf.gd0, Rf.gdA, List.cons_append, List.nil_append, List.append_nil, List.take_succ_cons, List.take_zero, List.take_nil, List.drop_succ_cons, List.drop_zero, List.drop_nil, Rf.oI0, Rf.oI, Bool.not_true, Bool.not_false]
      exact chain_ok (T1.fr fr) hk hw
    | or a b =>
      simp only [Fm.dp] at hd
      obtain ⟨q1, g1, e1, T1, fr1⟩ := ih a [] (by omega)
      obtain ⟨q2, g2, e2, T2, fr2⟩ := ih b g1 (by omega)
      have na := a.nf
      have nb := b.nf
      show @okR _ (fin (b1__law_spans (M__law_spans n) [some (.tup [.str [111, 114], a.FD, b.FD]), some (.str w), none, none, none, none, none, none] [])) ⟨_⟩ ⟨_⟩
      generalize a.FD = x at *
      generalize b.FD = y at *
      have ix0 : ∀ h : LH, dIx (.tup [.str [111, 114], x, y]) (.int 0) h = .ok (.str [111, 114]) h := fun h => rfl
      have ix1 : ∀ h : LH, dIx (.tup [.str [111, 114], x, y]) (.int 1) h = .ok x h := fun h => rfl
      have ix2 : ∀ h : LH, dIx (.tup [.str [111, 114], x, y]) (.int 2) h = .ok y h := fun h => rfl
      have p1 : ∀ h : LH, dEq (.str [111, 114]) (.str [110, 111, 110, 101]) h = .ok (.bl false) h := fun h => rfl
      have p2 : ∀ h : LH, dEq (.str [111, 114]) (.str [101, 109, 112, 116, 121]) h = .ok (.bl false) h := fun h => rfl
      have p3 : ∀ h : LH, dEq (.str [111, 114]) (.str [115, 105, 103, 110]) h = .ok (.bl false) h := fun h => rfl
      have p4 : ∀ h : LH, dEq (.str [111, 114]) (.str [110, 111, 116]) h = .ok (.bl false) h := fun h => rfl
      have p5 : ∀ h : LH, dEq (.str [111, 114]) (.str [97, 110, 121]) h = .ok (.bl false) h := fun h => rfl
      have p6 : ∀ h : LH, dEq (.str [111, 114]) (.str [111, 114]) h = .ok (.bl true) h := fun h => rfl
      unfold b1__law_spans
      simp only [Rf.okR_ok, Rf.okR_ex, Rf.okS_nx, Rf.okS_rt, Rf.okS_bk, Rf.okS_ct, Rf.okS_ex, Rf.okR_bind, Rf.okS_lift, Rf.okS_seq, Rf.okS_if, Rf.okS_ret, Rf.okS_drop, Rf.okS_set, Rf.okS_next, Rf.okS_retN, Rf.okS_brk, Rf.okS_cont, Rf.okS_raise, Rf.okR_fin, Rf.okR_bin, Rf.okR_test, Rf.okR_not, Rf.okR_and, Rf.okR_or, Rf.okR_andV, Rf.okR_orV, Rf.okR_notV, Rf.okR_mif, Rf.okR_C, Rf.okR_nil, Rf.okR_yes, Rf.okR_cons, Rf.okR_call, Rf.okR_callK, Rf.okR_tup, Rf.okR_lst, Rf.okR_fld, Rf.okR_meth, Rf.okR_make, Rf.okR_bm, Rf.okR_isi, Rf.okS_for, Rf.okR_lc, Rf.okR_anyD, Rf.okS_asg, Rf.okS_setFld, Rf.okR_V, Rf.okR_chain, Rf.okR_rng1, Rf.okR_rng2, Rf.okR_neg, Rf.okR_sl, Rf.okR_noPart, Rf.okR_part, Rf.okS_sub, Rf.okS_par, Rf.okR_enum, Rf.okR_dic0, Rf.okR_dic1, Rf.okS_try, Rf.okR_get1, Rf.okR_get2, Rf.okR_keys, Rf.okS_augFld, Rf.okR_setd, Rf.okR_dct, Rf.okR_sortSc2, Rf.okR_sortI, List.getElem?_cons_zero, List.getElem?_cons_succ, List.set_cons_zero, List.set_cons_succ, if_true, if_false, Bool.false_eq_true, reduceIte, reduceCtorEq, Rf.f1, Rf.gV_non, Rf.gV_bl, Rf.gV_int, Rf.gV_str, Rf.gV_tup, Rf.gV_ktp, Rf.gV_rol, Rf.gV_ref, Rf.gd0, Rf.gdA, List.cons_append, List.nil_append, List.append_nil, List.take_succ_cons, List.take_zero, List.take_nil, List.drop_succ_cons, List.drop_zero, List.drop_nil, Rf.oI0, Rf.oI, Bool.not_true, Bool.not_false, ix0, ix1, ix2, p1, p2, p3, p4, p5, p6, ln, ad, rN, gV_nf na, gV_nf nb, e1, e2, wipeL]
      refine okR_imp (Fm.tab_lc (w := w) (f := .or a b) (Y := fun _ _ => False) (by omega) (fun k hk h fr => ?_)) (fun a h z => ⟨_, rfl, z.1⟩) (fun _ _ z => z)
      obtain ⟨p, r, i1, hp, R⟩ := (T1.fr (fr2.trans fr)).row hk
      obtain ⟨p', s, i2, hp', S⟩ := (T2.fr fr).row hk
      have rl := R.len
      have sl := S.len
      have ct := catN hp hp' (by omega)
      have st := sortN (app_at (h := h) (o := .lst (natsD (r ++ s)))) (by rw [List.length_append]; omega)
      simp only [Rf.okR_ok, Rf.okR_ex, Rf.okS_nx, Rf.okS_rt, Rf.okS_bk, Rf.okS_ct, Rf.okS_ex, Rf.okR_bind, Rf.okS_lift, Rf.okS_seq, Rf.okS_if, Rf.okS_ret, Rf.okS_drop, Rf.okS_set, Rf.okS_next, Rf.okS_retN, Rf.okS_brk, Rf.okS_cont, Rf.okS_raise, Rf.okR_fin, Rf.okR_bin, Rf.okR_test, Rf.okR_not, Rf.okR_and, Rf.okR_or, Rf.okR_andV, Rf.okR_orV, Rf.okR_notV, Rf.okR_mif, Rf.okR_C, Rf.okR_nil, Rf.okR_yes, Rf.okR_cons, Rf.okR_call, Rf.okR_callK, Rf.okR_tup, Rf.okR_lst, Rf.okR_fld, Rf.okR_meth, Rf.okR_make, Rf.okR_bm, Rf.okR_isi, Rf.okS_for, Rf.okR_lc, Rf.okR_anyD, Rf.okS_asg, Rf.okS_setFld, Rf.okR_V, Rf.okR_chain, Rf.okR_rng1, Rf.okR_rng2, Rf.okR_neg, Rf.okR_sl, Rf.okR_noPart, Rf.okR_part, Rf.okS_sub, Rf.okS_par, Rf.okR_enum, Rf.okR_dic0, Rf.okR_dic1, Rf.okS_try, Rf.okR_get1, Rf.okR_get2, Rf.okR_keys, Rf.okS_augFld, Rf.okR_setd, Rf.okR_dct, Rf.okR_sortSc2, Rf.okR_sortI, List.getElem?_cons_zero, List.getElem?_cons_succ, List.set_cons_zero, List.set_cons_succ, if_true, if_false, Bool.false_eq_true, reduceIte, reduceCtorEq, Rf.f1, Rf.gV_non, Rf.gV_bl, Rf.gV_int, Rf.gV_str, Rf.gV_tup, Rf.gV_ktp, Rf.gV_rol, Rf.gV_ref, Rf.gd0, Rf.gdA, List.cons_append, List.nil_append, List.append_nil, List.take_succ_cons, List.take_zero, List.take_nil, List.drop_succ_cons, List.drop_zero, List.drop_nil, Rf.oI0, Rf.oI, Bool.not_true, Bool.not_false, okR_sortI, i1, i2, ct, st]
      exact ⟨_, _, rfl, app_at, Fm.row_or R S, Fr.trans .app .app⟩
    | bo a b =>
      simp only [Fm.dp] at hd
      obtain ⟨q1, g1, e1, T1, fr1⟩ := ih a [] (by omega)
      obtain ⟨q2, g2, e2, T2, fr2⟩ := ih b g1 (by omega)
      have na := a.nf
      have nb := b.nf
      show @okR _ (fin (b1__law_spans (M__law_spans n) [some (.tup [.str [98, 111, 116, 104], a.FD, b.FD]), some (.str w), none, none, none, none, none, none] [])) ⟨_⟩ ⟨_⟩
      generalize a.FD = x at *
      generalize b.FD = y at *
      have ix0 : ∀ h : LH, dIx (.tup [.str [98, 111, 116, 104], x, y]) (.int 0) h = .ok (.str [98, 111, 116, 104]) h := fun h => rfl
      have ix1 : ∀ h : LH, dIx (.tup [.str [98, 111, 116, 104], x, y]) (.int 1) h = .ok x h := fun h => rfl
      have ix2 : ∀ h : LH, dIx (.tup [.str [98, 111, 116, 104], x, y]) (.int 2) h = .ok y h := fun h => rfl
      have p1 : ∀ h : LH, dEq (.str [98, 111, 116, 104]) (.str [110, 111, 110, 101]) h = .ok (.bl false) h := fun h => rfl
      have p2 : ∀ h : LH, dEq (.str [98, 111, 116, 104]) (.str [101, 109, 112, 116, 121]) h = .ok (.bl false) h := fun h => rfl
      have p3 : ∀ h : LH, dEq (.str [98, 111, 116, 104]) (.str [115, 105, 103, 110]) h = .ok (.bl false) h := fun h => rfl
      have p4 : ∀ h : LH, dEq (.str [98, 111, 116, 104]) (.str [110, 111, 116]) h = .ok (.bl false) h := fun h => rfl
      have p5 : ∀ h : LH, dEq (.str [98, 111, 116, 104]) (.str [97, 110, 121]) h = .ok (.bl false) h := fun h => rfl
      have p6 : ∀ h : LH, dEq (.str [98, 111, 116, 104]) (.str [111, 114]) h = .ok (.bl false) h := fun h => rfl
      have p7 : ∀ h : LH, dEq (.str [98, 111, 116, 104]) (.str [98, 111, 116, 104]) h = .ok (.bl true) h := fun h => rfl
      unfold b1__law_spans
      simp only [Rf.okR_ok, Rf.okR_ex, Rf.okS_nx, Rf.okS_rt, Rf.okS_bk, Rf.okS_ct, Rf.okS_ex, Rf.okR_bind, Rf.okS_lift, Rf.okS_seq, Rf.okS_if, Rf.okS_ret, Rf.okS_drop, Rf.okS_set, Rf.okS_next, Rf.okS_retN, Rf.okS_brk, Rf.okS_cont, Rf.okS_raise, Rf.okR_fin, Rf.okR_bin, Rf.okR_test, Rf.okR_not, Rf.okR_and, Rf.okR_or, Rf.okR_andV, Rf.okR_orV, Rf.okR_notV, Rf.okR_mif, Rf.okR_C, Rf.okR_nil, Rf.okR_yes, Rf.okR_cons, Rf.okR_call, Rf.okR_callK, Rf.okR_tup, Rf.okR_lst, Rf.okR_fld, Rf.okR_meth, Rf.okR_make, Rf.okR_bm, Rf.okR_isi, Rf.okS_for, Rf.okR_lc, Rf.okR_anyD, Rf.okS_asg, Rf.okS_setFld, Rf.okR_V, Rf.okR_chain, Rf.okR_rng1, Rf.okR_rng2, Rf.okR_neg, Rf.okR_sl, Rf.okR_noPart, Rf.okR_part, Rf.okS_sub, Rf.okS_par, Rf.okR_enum, Rf.okR_dic0, Rf.okR_dic1, Rf.okS_try, Rf.okR_get1, Rf.okR_get2, Rf.okR_keys, Rf.okS_augFld, Rf.okR_setd, Rf.okR_dct, Rf.okR_sortSc2, Rf.okR_sortI, List.getElem?_cons_zero, List.getElem?_cons_succ, List.set_cons_zero, List.set_cons_succ, if_true, if_false, Bool.false_eq_true, reduceIte, reduceCtorEq, Rf.f1, Rf.gV_non, Rf.gV_bl, Rf.gV_int, Rf.gV_str, Rf.gV_tup, Rf.gV_ktp, Rf.gV_rol, Rf.gV_ref, Rf.gd0, Rf.gdA, List.cons_append, List.nil_append, List.append_nil, List.take_succ_cons, List.take_zero, List.take_nil, List.drop_succ_cons, List.drop_zero, List.drop_nil, Rf.oI0, Rf.oI, Bool.not_true, Bool.not_false, ix0, ix1, ix2, p1, p2, p3, p4, p5, p6, p7, ln, ad, rN, gV_nf na, gV_nf nb, e1, e2, wipeL]
      refine okR_imp (Fm.tab_lc (w := w) (f := .bo a b) (Y := fun _ _ => False) (by omega) (fun k hk h fr => ?_)) (fun a h z => ⟨_, rfl, z.1⟩) (fun _ _ z => z)
      obtain ⟨p, r, i1, hp, R⟩ := (T1.fr (fr2.trans fr)).row hk
      obtain ⟨p', s, i2, hp', S⟩ := (T2.fr fr).row hk
      have rl := R.len
      have im : imD (.ref p) h = .ok (liList p) h := by simp only [imD, hp]
      have lc := lc_T (g := gmName 7) (tt := mTest (mBin dIn (mV 7) (mBin dIx (mV 5) (mV 6)))) (te := mV 7) (L := liList p) (ls0 := wipeL [some (.tup [.str [98, 111, 116, 104], x, y]), some (.str w), some (.int ((w.length + 1 : Nat) : Int)), some (.str [98, 111, 116, 104]), some (.ref q1), some (.ref q2), some (.int (k : Nat)), none] [7]) (h := h) (fuel := 100000) r (fun (j : Nat) => D.int (j : Nat)) (fun j => decide (j ∈ s)) (fun (j : Nat) => D.int (j : Nat)) (fun i => itm_list hp) (by omega) (by omega) (fun j hj => by
        refine ⟨_, rfl, okR_is ?_, fun _ => okR_is ?_⟩
        · simp only [Rf.okR_ok, Rf.okR_ex, Rf.okS_nx, Rf.okS_rt, Rf.okS_bk, Rf.okS_ct, Rf.okS_ex, Rf.okR_bind, Rf.okS_lift, Rf.okS_seq, Rf.okS_if, Rf.okS_ret, Rf.okS_drop, Rf.okS_set, Rf.okS_next, Rf.okS_retN, Rf.okS_brk, Rf.okS_cont, Rf.okS_raise, Rf.okR_fin, Rf.okR_bin, Rf.okR_test, Rf.okR_not, Rf.okR_and, Rf.okR_or, Rf.okR_andV, Rf.okR_orV, Rf.okR_notV, Rf.okR_mif, Rf.okR_C, Rf.okR_nil, Rf.okR_yes, Rf.okR_cons, Rf.okR_call, Rf.okR_callK, Rf.okR_tup, Rf.okR_lst, Rf.okR_fld, Rf.okR_meth, Rf.okR_make, Rf.okR_bm, Rf.okR_isi, Rf.okS_for, Rf.okR_lc, Rf.okR_anyD, Rf.okS_asg, Rf.okS_setFld, Rf.okR_V, Rf.okR_chain, Rf.okR_rng1, Rf.okR_rng2, Rf.okR_neg, Rf.okR_sl, Rf.okR_noPart, Rf.okR_part, Rf.okS_sub, Rf.okS_par, Rf.okR_enum, Rf.okR_dic0, Rf.okR_dic1, Rf.okS_try, Rf.okR_get1, Rf.okR_get2, Rf.okR_keys, Rf.okS_augFld, Rf.okR_setd, Rf.okR_dct, Rf.okR_sortSc2, Rf.okR_sortI, List.getElem?_cons_zero, List.getElem?_cons_succ, List.set_cons_zero, List.set_cons_succ, if_true, if_false, Bool.false_eq_true, reduceIte, reduceCtorEq, Rf.f1, Rf.gV_non, Rf.gV_bl, Rf.gV_int, Rf.gV_str, Rf.gV_tup, Rf.gV_ktp, Rf.gV_rol, Rf.gV_ref, Rf.gd0, Rf.gdA, List.cons_append, List.nil_append, List.append_nil, List.take_succ_cons, List.take_zero, List.take_nil, List.drop_succ_cons, List.drop_zero, List.drop_nil, Rf.oI0, Rf.oI, Bool.not_true, Bool.not_false, wipeL, i2, inN hp']
          exact ⟨trivial, trivial⟩
        · simp only [Rf.okR_ok, Rf.okR_ex, Rf.okS_nx, Rf.okS_rt, Rf.okS_bk, Rf.okS_ct, Rf.okS_ex, Rf.okR_bind, Rf.okS_lift, Rf.okS_seq, Rf.okS_if, Rf.okS_ret, Rf.okS_drop, Rf.okS_set, Rf.okS_next, Rf.okS_retN, Rf.okS_brk, Rf.okS_cont, Rf.okS_raise, Rf.okR_fin, Rf.okR_bin, Rf.okR_test, Rf.okR_not, Rf.okR_and, Rf.okR_or, Rf.okR_andV, Rf.okR_orV, Rf.okR_notV, Rf.okR_mif, Rf.okR_C, Rf.okR_nil, Rf.okR_yes, Rf.okR_cons, Rf.okR_call, Rf.okR_callK, Rf.okR_tup, Rf.okR_lst, Rf.okR_fld, Rf.okR_meth, Rf.okR_make, Rf.okR_bm, Rf.okR_isi, Rf.okS_for, Rf.okR_lc, Rf.okR_anyD, Rf.okS_asg, Rf.okS_setFld, Rf.okR_V, Rf.okR_chain, Rf.okR_rng1, Rf.okR_rng2, Rf.okR_neg, Rf.okR_sl, Rf.okR_noPart, Rf.okR_part, Rf.okS_sub, Rf.okS_par, Rf.okR_enum, Rf.okR_dic0, Rf.okR_dic1, Rf.okS_try, Rf.okR_get1, Rf.okR_get2, Rf.okR_keys, Rf.okS_augFld, Rf.okR_setd, Rf.okR_dct, Rf.okR_sortSc2, Rf.okR_sortI, List.getElem?_cons_zero, List.getElem?_cons_succ, List.set_cons_zero, List.set_cons_succ, if_true, if_false, Bool.false_eq_true, reduceIte, reduceCtorEq, Rf.f1, Rf.gV_non, Rf.gV_bl, Rf.gV_int, Rf.gV_str, Rf.gV_tup, Rf.gV_ktp, Rf.gV_rol, Rf.gV_ref, Rf.gd0, Rf.gdA, List.cons_append, List.nil_append, List.append_nil, List.take_succ_cons, List.take_zero, List.take_nil, List.drop_succ_cons, List.drop_zero, List.drop_nil, Rf.oI0, Rf.oI, Bool.not_true, Bool.not_false, wipeL]
          exact ⟨trivial, trivial⟩)
      simp only [Rf.okR_ok, Rf.okR_ex, Rf.okS_nx, Rf.okS_rt, Rf.okS_bk, Rf.okS_ct, Rf.okS_ex, Rf.okR_bind, Rf.okS_lift, Rf.okS_seq, Rf.okS_if, Rf.okS_ret, Rf.okS_drop, Rf.okS_set, Rf.okS_next, Rf.okS_retN, Rf.okS_brk, Rf.okS_cont, Rf.okS_raise, Rf.okR_fin, Rf.okR_bin, Rf.okR_test, Rf.okR_not, Rf.okR_and, Rf.okR_or, Rf.okR_andV, Rf.okR_orV, Rf.okR_notV, Rf.okR_mif, Rf.okR_C, Rf.okR_nil, Rf.okR_yes, Rf.okR_cons, Rf.okR_call, Rf.okR_callK, Rf.okR_tup, Rf.okR_lst, Rf.okR_fld, Rf.okR_meth, Rf.okR_make, Rf.okR_bm, Rf.okR_isi, Rf.okS_for, Rf.okR_lc, Rf.okR_anyD, Rf.okS_asg, Rf.okS_setFld, Rf.okR_V, Rf.okR_chain, Rf.okR_rng1, Rf.okR_rng2, Rf.okR_neg, Rf.okR_sl, Rf.okR_noPart, Rf.okR_part, Rf.okS_sub, Rf.okS_par, Rf.okR_enum, Rf.okR_dic0, Rf.okR_dic1, Rf.okS_try, Rf.okR_get1, Rf.okR_get2, Rf.okR_keys, Rf.okS_augFld, Rf.okR_setd, Rf.okR_dct, Rf.okR_sortSc2, Rf.okR_sortI, List.getElem?_cons_zero, List.getElem?_cons_succ, List.set_cons_zero, List.set_cons_succ, if_true, if_false, Bool.false_eq_true, reduceIte, reduceCtorEq, Rf.f1, Rf.gV_non, Rf.gV_bl, Rf.gV_int, Rf.gV_str, Rf.gV_tup, Rf.gV_ktp, Rf.gV_rol, Rf.gV_ref, Rf.gd0, Rf.gdA, List.cons_append, List.nil_append, List.append_nil, List.take_succ_cons, List.take_zero, List.take_nil, List.drop_succ_cons, List.drop_zero, List.drop_nil, Rf.oI0, Rf.oI, Bool.not_true, Bool.not_false, i1, im]
      rw [lc]
      exact ⟨_, _, rfl, app_at, Fm.row_bo R S, .app⟩
    | sq a b =>
      simp only [Fm.dp] at hd
      obtain ⟨q1, g1, e1, T1, fr1⟩ := ih a [] (by omega)
      obtain ⟨q2, g2, e2, T2, fr2⟩ := ih b g1 (by omega)
      have na := a.nf
      have nb := b.nf
      show @okR _ (fin (b1__law_spans (M__law_spans n) [some (.tup [.str [116, 104, 101, 110], a.FD, b.FD]), some (.str w), none, none, none, none, none, none] [])) ⟨_⟩ ⟨_⟩
      generalize a.FD = x at *
      generalize b.FD = y at *
      have ix0 : ∀ h : LH, dIx (.tup [.str [116, 104, 101, 110], x, y]) (.int 0) h = .ok (.str [116, 104, 101, 110]) h := fun h => rfl
      have ix1 : ∀ h : LH, dIx (.tup [.str [116, 104, 101, 110], x, y]) (.int 1) h = .ok x h := fun h => rfl
      have ix2 : ∀ h : LH, dIx (.tup [.str [116, 104, 101, 110], x, y]) (.int 2) h = .ok y h := fun h => rfl
      have p1 : ∀ h : LH, dEq (.str [116, 104, 101, 110]) (.str [110, 111, 110, 101]) h = .ok (.bl false) h := fun h => rfl
      have p2 : ∀ h : LH, dEq (.str [116, 104, 101, 110]) (.str [101, 109, 112, 116, 121]) h = .ok (.bl false) h := fun h => rfl
      have p3 : ∀ h : LH, dEq (.str [116, 104, 101, 110]) (.str [115, 105, 103, 110]) h = .ok (.bl false) h := fun h => rfl
      have p4 : ∀ h : LH, dEq (.str [116, 104, 101, 110]) (.str [110, 111, 116]) h = .ok (.bl false) h := fun h => rfl
      have p5 : ∀ h : LH, dEq (.str [116, 104, 101, 110]) (.str [97, 110, 121]) h = .ok (.bl false) h := fun h => rfl
      have p6 : ∀ h : LH, dEq (.str [116, 104, 101, 110]) (.str [111, 114]) h = .ok (.bl false) h := fun h => rfl
      have p7 : ∀ h : LH, dEq (.str [116, 104, 101, 110]) (.str [98, 111, 116, 104]) h = .ok (.bl false) h := fun h => rfl
      unfold b1__law_spans
      simp only [Rf.okR_ok, Rf.okR_ex, Rf.okS_nx, Rf.okS_rt, Rf.okS_bk, Rf.okS_ct, Rf.okS_ex, Rf.okR_bind, Rf.okS_lift, Rf.okS_seq, Rf.okS_if, Rf.okS_ret, Rf.okS_drop, Rf.okS_set, Rf.okS_next, Rf.okS_retN, Rf.okS_brk, Rf.okS_cont, Rf.okS_raise, Rf.okR_fin, Rf.okR_bin, Rf.okR_test, Rf.okR_not, Rf.okR_and, Rf.okR_or, Rf.okR_andV, Rf.okR_orV, Rf.okR_notV, Rf.okR_mif, Rf.okR_C, Rf.okR_nil, Rf.okR_yes, Rf.okR_cons, Rf.okR_call, Rf.okR_callK, Rf.okR_tup, Rf.okR_lst, Rf.okR_fld, Rf.okR_meth, Rf.okR_make, Rf.okR_bm, Rf.okR_isi, Rf.okS_for, Rf.okR_lc, Rf.okR_anyD, Rf.okS_asg, Rf.okS_setFld, Rf.okR_V, Rf.okR_chain, Rf.okR_rng1, Rf.okR_rng2, Rf.okR_neg, Rf.okR_sl, Rf.okR_noPart, Rf.okR_part, Rf.okS_sub, Rf.okS_par, Rf.okR_enum, Rf.okR_dic0, Rf.okR_dic1, Rf.okS_try, Rf.okR_get1, Rf.okR_get2, Rf.okR_keys, Rf.okS_augFld, Rf.okR_setd, Rf.okR_dct, Rf.okR_sortSc2, Rf.okR_sortI, List.getElem?_cons_zero, List.getElem?_cons_succ, List.set_cons_zero, List.set_cons_succ, if_true, if_false, Bool.false_eq_true, reduceIte, reduceCtorEq, Rf.f1, Rf.gV_non, Rf.gV_bl, Rf.gV_int, Rf.gV_str, Rf.gV_tup, Rf.gV_ktp, Rf.gV_rol, Rf.gV_ref, Rf.gd0, Rf.gdA, List.cons_append, List.nil_append, List.append_nil, List.take_succ_cons, List.take_zero, List.take_nil, List.drop_succ_cons, List.drop_zero, List.drop_nil, Rf.oI0, Rf.oI, Bool.not_true, Bool.not_false, ix0, ix1, ix2, p1, p2, p3, p4, p5, p6, p7, ln, ad, rN, gV_nf na, gV_nf nb, e1, e2, wipeL]
      refine okR_imp (Fm.tab_lc (w := w) (f := .sq a b) (Y := fun _ _ => False) (by omega) (fun k hk h fr => ?_)) (fun a h z => ⟨_, rfl, z.1⟩) (fun _ _ z => z)
      obtain ⟨p, r, i1, hp, R⟩ := (T1.fr (fr2.trans fr)).row hk
      simp only [Rf.okR_ok, Rf.okR_ex, Rf.okS_nx, Rf.okS_rt, Rf.okS_bk, Rf.okS_ct, Rf.okS_ex, Rf.okR_bind, Rf.okS_lift, Rf.okS_seq, Rf.okS_if, Rf.okS_ret, Rf.okS_drop, Rf.okS_set, Rf.okS_next, Rf.okS_retN, Rf.okS_brk, Rf.okS_cont, Rf.okS_raise, Rf.okR_fin, Rf.okR_bin, Rf.okR_test, Rf.okR_not, Rf.okR_and, Rf.okR_or, Rf.okR_andV, Rf.okR_orV, Rf.okR_notV, Rf.okR_mif, Rf.okR_C, Rf.okR_nil, Rf.okR_yes, Rf.okR_cons, Rf.okR_call, Rf.okR_callK, Rf.okR_tup, Rf.okR_lst, Rf.okR_fld, Rf.okR_meth, Rf.okR_make, Rf.okR_bm, Rf.okR_isi, Rf.okS_for, Rf.okR_lc, Rf.okR_anyD, Rf.okS_asg, Rf.okS_setFld, Rf.okR_V, Rf.okR_chain, Rf.okR_rng1, Rf.okR_rng2, Rf.okR_neg, Rf.okR_sl, Rf.okR_noPart, Rf.okR_part, Rf.okS_sub, Rf.okS_par, Rf.okR_enum, Rf.okR_dic0, Rf.okR_dic1, Rf.okS_try, Rf.okR_get1, Rf.okR_get2, Rf.okR_keys, Rf.okS_augFld, Rf.okR_setd, Rf.okR_dct, Rf.okR_sortSc2, Rf.okR_sortI, List.getElem?_cons_zero, List.getElem?_cons_succ, List.set_cons_zero, List.set_cons_succ, if_true, if_false, Bool.false_eq_true, reduceIte, reduceCtorEq, Rf.f1, Rf.gV_non, Rf.gV_bl, Rf.gV_int, Rf.gV_str, Rf.gV_tup, Rf.gV_ktp, Rf.gV_rol, Rf.gV_ref, Rf.gd0, Rf.gdA, List.cons_append, List.nil_append, List.append_nil, List.take_succ_cons, List.take_zero, List.take_nil, List.drop_succ_cons, List.drop_zero, List.drop_nil, Rf.oI0, Rf.oI, Bool.not_true, Bool.not_false, i1]
      exact behind_row_ok hp R (T2.fr fr) hw
theorem has_ok {w : List Nat} (hw : w.length ≤ 50) {f : Fm} (hd : f.dp ≤ 62) (h : LH) : ∃ b : Bool, m__law_has [f.FD, .str w] h = .ok (.bl b) h ∧ (b = true ↔ f.L w) := by
  obtain ⟨q, g, e, T, _⟩ := spans_ok hw 62 f [] hd
  have e : m__law_spans [f.FD, .str w] [] = .ok (.ref q) g := e
  obtain ⟨p, r, i1, hp, R⟩ := T.row (k := 0) (by omega)
  have i1 : dIx (.ref q) (.int 0) g = .ok (.ref p) g := i1
  have zl : szOk w.length = true := szOk_small (by omega)
  have ln : ∀ h : LH, dLen (.str w) h = .ok (.int (w.length : Nat)) h := fun h => by simp only [dLen, zl, if_true]
  refine ⟨decide (w.length ∈ r), runA_is h (by simp [pureDs, f.pure, pureD]) ?_ rfl, ?_⟩
  · show @okR _ (fin (b__law_has [some f.FD, some (.str w)] [])) ⟨_⟩ ⟨_⟩
    unfold b__law_has
    simp only [Rf.okR_ok, Rf.okR_ex, Rf.okS_nx, Rf.okS_rt, Rf.okS_bk, Rf.okS_ct, Rf.okS_ex, Rf.okR_bind, Rf.okS_lift, Rf.okS_seq, Rf.okS_if, Rf.okS_ret, Rf.okS_drop, Rf.okS_set, Rf.okS_next, Rf.okS_retN, Rf.okS_brk, Rf.okS_cont, Rf.okS_raise, Rf.okR_fin, Rf.okR_bin, Rf.okR_test, Rf.okR_not, Rf.okR_and, Rf.okR_or, Rf.okR_andV, Rf.okR_orV, Rf.okR_notV, Rf.okR_mif, Rf.okR_C, Rf.okR_nil, Rf.okR_yes, Rf.okR_cons, Rf.okR_call, Rf.okR_callK, Rf.okR_tup, Rf.okR_lst, Rf.okR_fld, Rf.okR_meth, Rf.okR_make, Rf.okR_bm, Rf.okR_isi, Rf.okS_for, Rf.okR_lc, Rf.okR_anyD, Rf.okS_asg, Rf.okS_setFld, Rf.okR_V, Rf.okR_chain, Rf.okR_rng1, Rf.okR_rng2, Rf.okR_neg, Rf.okR_sl, Rf.okR_noPart, Rf.okR_part, Rf.okS_sub, Rf.okS_par, Rf.okR_enum, Rf.okR_dic0, Rf.okR_dic1, Rf.okS_try, Rf.okR_get1, Rf.okR_get2, Rf.okR_keys, Rf.okS_augFld, Rf.okR_setd, Rf.okR_dct, Rf.okR_sortSc2, Rf.okR_sortI, List.getElem?_cons_zero, List.getElem?_cons_succ, List.set_cons_zero, List.set_cons_succ, if_true, if_false, Bool.false_eq_true, reduceIte, reduceCtorEq, Rf.f1, Rf.gV_non, Rf.gV_bl, Rf.gV_int, Rf.gV_str, Rf.gV_tup, Rf.gV_ktp, Rf.gV_rol, Rf.gV_ref, Rf.gd0, Rf.gdA, List.cons_append, List.nil_append, List.append_nil, List.take_succ_cons, List.take_zero, List.take_nil, List.drop_succ_cons, List.drop_zero, List.drop_nil, Rf.oI0, Rf.oI, Bool.not_true, Bool.not_false, ln, gV_nf f.nf, e, i1, inN hp]
  · rw [decide_eq_true_iff, R.mem, Fm.seg_all]
    exact ⟨fun z => z.2.2, fun z => ⟨Nat.zero_le _, Nat.le_refl _, z⟩⟩
end Lw
set_option Elab.async false
set_option linter.all false
set_option maxRecDepth 100000
set_option maxHeartbeats 2000000
set_option autoImplicit false
namespace Lw
open PySem PySem.Spec L2 Rf
theorem tg_F (f : Fm) (h : LH) : tgOf f.FD h = some .tuple := by cases f <;> rfl
theorem aft1_ok {al : List Nat} (ha : okT al = true) (s : Nat) {f : Fm} (hs : f.Sg al) (hd : f.dp + f.ed ≤ 59) (h : LH) : m_after [f.FD, .str [s]] h = .ok (f.aft s).FD h := after_ok ha s 62 f h hs (by omega) hd
theorem emp1_ok {f : Fm} (hd : f.dp ≤ 62) (h : LH) : m_has_empty [f.FD] h = .ok (.bl f.he) h := empty_ok 62 f h hd
theorem loop_ok {al w : List Nat} (ha : okT al = true) {f : Fm} (hs : f.Sg al) (hd : f.dp ≤ 4) (hw : w.length ≤ 8) {N : Ls → LH → Prop} {T : D → LH → Prop} {B C : Ls → LH → Prop} {X : Exn → Ls → LH → Prop} {h : LH}
    (H : ∀ y, N [some (Fm.afts w f).FD, some (.str w), some (.str al), y] h) :
    @okS (mForGo (gmName 3) (mSet 0 (mCallK gd0 m_after (mCons (mV 0) (mCons (mV 3) (mNil))) (mNil))) (liStr w) 100000 0 [some f.FD, some (.str w), some (.str al), none] h) ⟨N, T, B, C, X⟩ := by
  refine ok_for (w.map fun c => D.str [c]) (fun i ls h' => h' = h ∧ ∃ y, ls = [some (Fm.afts (w.take i) f).FD, some (.str w), some (.str al), y]) ⟨rfl, none, rfl⟩ (by simp; omega) (fun i ls h' pp => itm_str) (fun i d ls h' hd' pp => ?_) (fun ls h' pp => ?_)
  · obtain ⟨rfl, y, rfl⟩ := pp
    have hi : i < w.length := by
      have := (List.getElem?_eq_some_iff.mp hd').1
      simpa using this
    obtain ⟨c, hc⟩ : ∃ c, w[i]? = some c := ⟨_, List.getElem?_eq_getElem hi⟩
    have ed : d = .str [c] := by
      rw [List.getElem?_map, hc] at hd'
      cases hd'; rfl
    subst ed
    have ht : w.take (i + 1) = w.take i ++ [c] := by rw [List.take_add_one, hc]; rfl
    have g1 := Fm.rest_dp (w := w.take i) hd (by rw [List.length_take]; omega)
    have g2 := (Fm.afts_dp (w.take i) f).2
    have g3 := f.ed_le
    have e := aft1_ok ha c (Fm.afts_Sg (w.take i) f hs) (by omega) h'
    refine ⟨_, rfl, ?_⟩
    have e2 : Fm.afts (w.take i ++ [c]) f = (Fm.afts (w.take i) f).aft c := by unfold Fm.afts; rw [List.foldl_append]; rfl
    simp only [Rf.okR_ok, Rf.okR_ex, Rf.okS_nx, Rf.okS_rt, Rf.okS_bk, Rf.okS_ct, Rf.okS_ex, Rf.okR_bind, Rf.okS_lift, Rf.okS_seq, Rf.okS_if, Rf.okS_ret, Rf.okS_drop, Rf.okS_set, Rf.okS_next, Rf.okS_retN, Rf.okS_brk, Rf.okS_cont, Rf.okS_raise, Rf.okR_fin, Rf.okR_bin, Rf.okR_test, Rf.okR_not, Rf.okR_and, Rf.okR_or, Rf.okR_andV, Rf.okR_orV, Rf.okR_notV, Rf.okR_mif, Rf.okR_C, Rf.okR_nil, Rf.okR_yes, Rf.okR_cons, Rf.okR_call, Rf.okR_callK, Rf.okR_tup, Rf.okR_lst, Rf.okR_fld, Rf.okR_meth, Rf.okR_make, Rf.okR_bm, Rf.okR_isi, Rf.okS_for, Rf.okR_lc, Rf.okR_anyD, Rf.okS_asg, Rf.okS_setFld, Rf.okR_V, Rf.okR_chain, Rf.okR_rng1, Rf.okR_rng2, Rf.okR_neg, Rf.okR_sl, Rf.okR_noPart, Rf.okR_part, Rf.okS_sub, Rf.okS_par, Rf.okR_enum, Rf.okR_dic0, Rf.okR_dic1, Rf.okS_try, Rf.okR_get1, Rf.okR_get2, Rf.okR_keys, Rf.okS_augFld, Rf.okR_setd, Rf.okR_dct, Rf.okR_sortSc2, Rf.okR_sortI, List.getElem?_cons_zero, List.getElem?_cons_succ, List.set_cons_zero, List.set_cons_succ, if_true, if_false, Bool.false_eq_true, reduceIte, reduceCtorEq, Rf.f1, Rf.gV_non, Rf.gV_bl, Rf.gV_int, Rf.gV_str, Rf.gV_tup, Rf.gV_ktp, Rf.gV_rol, Rf.gV_ref, Rf.gd0, Rf.gdA, List.cons_append, List.nil_append, List.append_nil, List.take_succ_cons, List.take_zero, List.take_nil, List.drop_succ_cons, List.drop_zero, List.drop_nil, Rf.oI0, Rf.oI, Bool.not_true, Bool.not_false, gV_nf (Fm.afts (w.take i) f).nf, e]
    exact ⟨trivial, _, by rw [ht, e2]⟩
  · obtain ⟨rfl, y, rfl⟩ := pp
    rw [List.length_map, List.take_length]
    exact H y
theorem fits_ok {al w : List Nat} (A : Al al) (ha : okT al = true) {f : Fm} (hs : f.Sg al) (hd : f.dp ≤ 4) (hw : w.length ≤ 8) (hwa : ∀ c ∈ w, c ∈ al) (h : LH) : m_fits [f.FD, .str w, .str al] h = .ok (.bl (Fm.afts w f).he) h := by
  refine runA_is h (by simp [pureDs, f.pure, pureD]) ?_ rfl
  have al0 := A.look
  have fsz : f.sz ≤ 31 := by have := Fm.sz_le hd; omega
  have lf := look_form_ok ha hs (by omega) (by omega : f.sz ≤ 2000)
  have lw := fun h => look_word_ok hwa (by omega) h
  have g1 := Fm.rest_dp (w := w) hd hw
  have em := emp1_ok (f := Fm.afts w f) (by omega)
  have im : imD (.str w) [] = .ok (liStr w) [] := rfl
  show @okR _ (fin (b_fits [some f.FD, some (.str w), some (.str al), none] [])) ⟨_⟩ ⟨_⟩
  unfold b_fits
  simp only [Rf.okR_ok, Rf.okR_ex, Rf.okS_nx, Rf.okS_rt, Rf.okS_bk, Rf.okS_ct, Rf.okS_ex, Rf.okR_bind, Rf.okS_lift, Rf.okS_seq, Rf.okS_if, Rf.okS_ret, Rf.okS_drop, Rf.okS_set, Rf.okS_next, Rf.okS_retN, Rf.okS_brk, Rf.okS_cont, Rf.okS_raise, Rf.okR_fin, Rf.okR_bin, Rf.okR_test, Rf.okR_not, Rf.okR_and, Rf.okR_or, Rf.okR_andV, Rf.okR_orV, Rf.okR_notV, Rf.okR_mif, Rf.okR_C, Rf.okR_nil, Rf.okR_yes, Rf.okR_cons, Rf.okR_call, Rf.okR_callK, Rf.okR_tup, Rf.okR_lst, Rf.okR_fld, Rf.okR_meth, Rf.okR_make, Rf.okR_bm, Rf.okR_isi, Rf.okS_for, Rf.okR_lc, Rf.okR_anyD, Rf.okS_asg, Rf.okS_setFld, Rf.okR_V, Rf.okR_chain, Rf.okR_rng1, Rf.okR_rng2, Rf.okR_neg, Rf.okR_sl, Rf.okR_noPart, Rf.okR_part, Rf.okS_sub, Rf.okS_par, Rf.okR_enum, Rf.okR_dic0, Rf.okR_dic1, Rf.okS_try, Rf.okR_get1, Rf.okR_get2, Rf.okR_keys, Rf.okS_augFld, Rf.okR_setd, Rf.okR_dct, Rf.okR_sortSc2, Rf.okR_sortI, List.getElem?_cons_zero, List.getElem?_cons_succ, List.set_cons_zero, List.set_cons_succ, if_true, if_false, Bool.false_eq_true, reduceIte, reduceCtorEq, Rf.f1, Rf.gV_non, Rf.gV_bl, Rf.gV_int, Rf.gV_str, Rf.gV_tup, Rf.gV_ktp, Rf.gV_rol, Rf.gV_ref, Rf.gd0, Rf.gdA, List.cons_append, List.nil_append, List.append_nil, List.take_succ_cons, List.take_zero, List.take_nil, List.drop_succ_cons, List.drop_zero, List.drop_nil, Rf.oI0, Rf.oI, Bool.not_true, Bool.not_false, gV_nf f.nf, al0, lf, lw, im]
  refine loop_ok ha hs hd hw (fun y => ?_)
  simp only [Rf.okR_ok, Rf.okR_ex, Rf.okS_nx, Rf.okS_rt, Rf.okS_bk, Rf.okS_ct, Rf.okS_ex, Rf.okR_bind, Rf.okS_lift, Rf.okS_seq, Rf.okS_if, Rf.okS_ret, Rf.okS_drop, Rf.okS_set, Rf.okS_next, Rf.okS_retN, Rf.okS_brk, Rf.okS_cont, Rf.okS_raise, Rf.okR_fin, Rf.okR_bin, Rf.okR_test, Rf.okR_not, Rf.okR_and, Rf.okR_or, Rf.okR_andV, Rf.okR_orV, Rf.okR_notV, Rf.okR_mif, Rf.okR_C, Rf.okR_nil, Rf.okR_yes, Rf.okR_cons, Rf.okR_call, Rf.okR_callK, Rf.okR_tup, Rf.okR_lst, Rf.okR_fld, Rf.okR_meth, Rf.okR_make, Rf.okR_bm, Rf.okR_isi, Rf.okS_for, Rf.okR_lc, Rf.okR_anyD, Rf.okS_asg, Rf.okS_setFld, Rf.okR_V, Rf.okR_chain, Rf.okR_rng1, Rf.okR_rng2, Rf.okR_neg, Rf.okR_sl, Rf.okR_noPart, Rf.okR_part, Rf.okS_sub, Rf.okS_par, Rf.okR_enum, Rf.okR_dic0, Rf.okR_dic1, Rf.okS_try, Rf.okR_get1, Rf.okR_get2, Rf.okR_keys, Rf.okS_augFld, Rf.okR_setd, Rf.okR_dct, Rf.okR_sortSc2, Rf.okR_sortI, List.getElem?_cons_zero, List.getElem?_cons_succ, List.set_cons_zero, List.set_cons_succ, if_true, if_false, Bool.false_eq_true, reduceIte, reduceCtorEq, Rf.f1, Rf.gV_non, Rf.gV_bl, Rf.gV_int, Rf.gV_str, Rf.gV_tup, Rf.gV_ktp, Rf.gV_rol, Rf.gV_ref, Rf.gd0, Rf.gdA, List.cons_append, List.nil_append, List.append_nil, List.take_succ_cons, List.take_zero, List.take_nil, List.drop_succ_cons, List.drop_zero, List.drop_nil, Rf.oI0, Rf.oI, Bool.not_true, Bool.not_false, gV_nf (Fm.afts w f).nf, em]
theorem rest_form_ok {al w : List Nat} (A : Al al) (ha : okT al = true) {f : Fm} (hs : f.Sg al) (hd : f.dp ≤ 4) (hw : w.length ≤ 8) (hwa : ∀ c ∈ w, c ∈ al) (h : LH) : m_rest_form [f.FD, .str w, .str al] h = .ok (Fm.afts w f).FD h := by
  refine runA_is h (by simp [pureDs, f.pure, pureD]) ?_ (Fm.pure _)
  have al0 := A.look
  have fsz : f.sz ≤ 31 := by have := Fm.sz_le hd; omega
  have lf := look_form_ok ha hs (by omega) (by omega : f.sz ≤ 2000)
  have lw := fun h => look_word_ok hwa (by omega) h
  have im : imD (.str w) [] = .ok (liStr w) [] := rfl
  show @okR _ (fin (b_rest_form [some f.FD, some (.str w), some (.str al), none] [])) ⟨_⟩ ⟨_⟩
  unfold b_rest_form
  simp only [Rf.okR_ok, Rf.okR_ex, Rf.okS_nx, Rf.okS_rt, Rf.okS_bk, Rf.okS_ct, Rf.okS_ex, Rf.okR_bind, Rf.okS_lift, Rf.okS_seq, Rf.okS_if, Rf.okS_ret, Rf.okS_drop, Rf.okS_set, Rf.okS_next, Rf.okS_retN, Rf.okS_brk, Rf.okS_cont, Rf.okS_raise, Rf.okR_fin, Rf.okR_bin, Rf.okR_test, Rf.okR_not, Rf.okR_and, Rf.okR_or, Rf.okR_andV, Rf.okR_orV, Rf.okR_notV, Rf.okR_mif, Rf.okR_C, Rf.okR_nil, Rf.okR_yes, Rf.okR_cons, Rf.okR_call, Rf.okR_callK, Rf.okR_tup, Rf.okR_lst, Rf.okR_fld, Rf.okR_meth, Rf.okR_make, Rf.okR_bm, Rf.okR_isi, Rf.okS_for, Rf.okR_lc, Rf.okR_anyD, Rf.okS_asg, Rf.okS_setFld, Rf.okR_V, Rf.okR_chain, Rf.okR_rng1, Rf.okR_rng2, Rf.okR_neg, Rf.okR_sl, Rf.okR_noPart, Rf.okR_part, Rf.okS_sub, Rf.okS_par, Rf.okR_enum, Rf.okR_dic0, Rf.okR_dic1, Rf.okS_try, Rf.okR_get1, Rf.okR_get2, Rf.okR_keys, Rf.okS_augFld, Rf.okR_setd, Rf.okR_dct, Rf.okR_sortSc2, Rf.okR_sortI, List.getElem?_cons_zero, List.getElem?_cons_succ, List.set_cons_zero, List.set_cons_succ, if_true, if_false, Bool.false_eq_true, reduceIte, reduceCtorEq, Rf.f1, Rf.gV_non, Rf.gV_bl, Rf.gV_int, Rf.gV_str, Rf.gV_tup, Rf.gV_ktp, Rf.gV_rol, Rf.gV_ref, Rf.gd0, Rf.gdA, List.cons_append, List.nil_append, List.append_nil, List.take_succ_cons, List.take_zero, List.take_nil, List.drop_succ_cons, List.drop_zero, List.drop_nil, Rf.oI0, Rf.oI, Bool.not_true, Bool.not_false, gV_nf f.nf, al0, lf, lw, im]
  refine loop_ok ha hs hd hw (fun y => ?_)
  simp only [Rf.okR_ok, Rf.okR_ex, Rf.okS_nx, Rf.okS_rt, Rf.okS_bk, Rf.okS_ct, Rf.okS_ex, Rf.okR_bind, Rf.okS_lift, Rf.okS_seq, Rf.okS_if, Rf.okS_ret, Rf.okS_drop, Rf.okS_set, Rf.okS_next, Rf.okS_retN, Rf.okS_brk, Rf.okS_cont, Rf.okS_raise, Rf.okR_fin, Rf.okR_bin, Rf.okR_test, Rf.okR_not, Rf.okR_and, Rf.okR_or, Rf.okR_andV, Rf.okR_orV, Rf.okR_notV, Rf.okR_mif, Rf.okR_C, Rf.okR_nil, Rf.okR_yes, Rf.okR_cons, Rf.okR_call, Rf.okR_callK, Rf.okR_tup, Rf.okR_lst, Rf.okR_fld, Rf.okR_meth, Rf.okR_make, Rf.okR_bm, Rf.okR_isi, Rf.okS_for, Rf.okR_lc, Rf.okR_anyD, Rf.okS_asg, Rf.okS_setFld, Rf.okR_V, Rf.okR_chain, Rf.okR_rng1, Rf.okR_rng2, Rf.okR_neg, Rf.okR_sl, Rf.okR_noPart, Rf.okR_part, Rf.okS_sub, Rf.okS_par, Rf.okR_enum, Rf.okR_dic0, Rf.okR_dic1, Rf.okS_try, Rf.okR_get1, Rf.okR_get2, Rf.okR_keys, Rf.okS_augFld, Rf.okR_setd, Rf.okR_dct, Rf.okR_sortSc2, Rf.okR_sortI, List.getElem?_cons_zero, List.getElem?_cons_succ, List.set_cons_zero, List.set_cons_succ, if_true, if_false, Bool.false_eq_true, reduceIte, reduceCtorEq, Rf.f1, Rf.gV_non, Rf.gV_bl, Rf.gV_int, Rf.gV_str, Rf.gV_tup, Rf.gV_ktp, Rf.gV_rol, Rf.gV_ref, Rf.gd0, Rf.gdA, List.cons_append, List.nil_append, List.append_nil, List.take_succ_cons, List.take_zero, List.take_nil, List.drop_succ_cons, List.drop_zero, List.drop_nil, Rf.oI0, Rf.oI, Bool.not_true, Bool.not_false, gV_nf (Fm.afts w f).nf]
theorem size_ok {al : List Nat} (A : Al al) (ha : okT al = true) {f : Fm} (hs : f.Sg al) (hd : f.dp ≤ 60) (hz : f.sz ≤ 2000) (h : LH) : m_size_of [f.FD, .str al] h = .ok (.int (f.sz : Nat)) h := by
  refine runA_is h (by simp [pureDs, f.pure, pureD]) ?_ rfl
  have al0 := A.look
  have lf := look_form_ok ha hs hd hz
  have pa := parts_ok ha hs hd hz
  show @okR _ (fin (b_size_of [some f.FD, some (.str al)] [])) ⟨_⟩ ⟨_⟩
  unfold b_size_of
  simp only [Rf.okR_ok, Rf.okR_ex, Rf.okS_nx, Rf.okS_rt, Rf.okS_bk, Rf.okS_ct, Rf.okS_ex, Rf.okR_bind, Rf.okS_lift, Rf.okS_seq, Rf.okS_if, Rf.okS_ret, Rf.okS_drop, Rf.okS_set, Rf.okS_next, Rf.okS_retN, Rf.okS_brk, Rf.okS_cont, Rf.okS_raise, Rf.okR_fin, Rf.okR_bin, Rf.okR_test, Rf.okR_not, Rf.okR_and, Rf.okR_or, Rf.okR_andV, Rf.okR_orV, Rf.okR_notV, Rf.okR_mif, Rf.okR_C, Rf.okR_nil, Rf.okR_yes, Rf.okR_cons, Rf.okR_call, Rf.okR_callK, Rf.okR_tup, Rf.okR_lst, Rf.okR_fld, Rf.okR_meth, Rf.okR_make, Rf.okR_bm, Rf.okR_isi, Rf.okS_for, Rf.okR_lc, Rf.okR_anyD, Rf.okS_asg, Rf.okS_setFld, Rf.okR_V, Rf.okR_chain, Rf.okR_rng1, Rf.okR_rng2, Rf.okR_neg, Rf.okR_sl, Rf.okR_noPart, Rf.okR_part, Rf.okS_sub, Rf.okS_par, Rf.okR_enum, Rf.okR_dic0, Rf.okR_dic1, Rf.okS_try, Rf.okR_get1, Rf.okR_get2, Rf.okR_keys, Rf.okS_augFld, Rf.okR_setd, Rf.okR_dct, Rf.okR_sortSc2, Rf.okR_sortI, List.getElem?_cons_zero, List.getElem?_cons_succ, List.set_cons_zero, List.set_cons_succ, if_true, if_false, Bool.false_eq_true, reduceIte, reduceCtorEq, Rf.f1, Rf.gV_non, Rf.gV_bl, Rf.gV_int, Rf.gV_str, Rf.gV_tup, Rf.gV_ktp, Rf.gV_rol, Rf.gV_ref, Rf.gd0, Rf.gdA, List.cons_append, List.nil_append, List.append_nil, List.take_succ_cons, List.take_zero, List.take_nil, List.drop_succ_cons, List.drop_zero, List.drop_nil, Rf.oI0, Rf.oI, Bool.not_true, Bool.not_false, gV_nf f.nf, al0, lf, pa]
theorem turned_two {rc : FM} {v : List Nat} {x y x' y' : D} (hv : v = [111, 114] ∨ v = [98, 111, 116, 104]) (nx : isFn x = false) (ny : isFn y = false) (nx' : isFn x' = false) (ny' : isFn y' = false)
    (ex : rc [x] [] = .ok x' []) (ey : rc [y] [] = .ok y' []) : @okR _ (fm 3 (b1_turned rc) [.tup [.str v, x, y]] []) ⟨fun d _ => d = .tup [.str v, x', y']⟩ ⟨fun _ _ => False⟩ := by
  have z3 : ∀ a b c : D, szOk ([a, b, c] : List D).length = true := fun _ _ _ => rfl
  have z1 : ∀ a : D, szOk ([a] : List D).length = true := fun _ => rfl
  have ix0 : ∀ h : LH, dIx (.tup [.str v, x, y]) (.int 0) h = .ok (.str v) h := fun h => rfl
  have i1 : ∀ h : LH, dIn (.str v) (.tup [.str [110, 111, 110, 101], .str [101, 109, 112, 116, 121], .str [115, 105, 103, 110]]) h = .ok (.bl false) h := fun h => by
    rcases hv with rfl | rfl <;> rfl
  have q1 : ∀ h : LH, dEq (.str v) (.str [116, 104, 101, 110]) h = .ok (.bl false) h := fun h => by
    rcases hv with rfl | rfl <;> rfl
  have sl : ∀ h : LH, dSl (.tup [.str v, x, y]) (some 1) none h = .ok (.tup [x, y]) h := fun h => rfl
  have im : ∀ h : LH, imD (.tup [x, y]) h = .ok (liSeq [x, y]) h := fun h => rfl
  have lc := lc_T (g := gmName 2) (tt := mYes) (te := mCallK gd0 rc (mCons (mV 2) mNil) mNil) (L := liSeq [x, y]) (ls0 := wipeL [some (.tup [.str v, x, y]), some (.str v), none] [2]) (h := []) (fuel := 100000) [(x, x'), (y, y')] (fun p => p.1) (fun _ => true) (fun p => p.2) (fun i => rfl) (by simp) (by simp) (fun p hp => by
    simp only [List.mem_cons, List.not_mem_nil, or_false] at hp
    rcases hp with rfl | rfl
    · refine ⟨_, rfl, rfl, fun _ => okR_is ?_⟩
      simp only [Rf.okR_ok, Rf.okR_ex, Rf.okS_nx, Rf.okS_rt, Rf.okS_bk, Rf.okS_ct, Rf.okS_ex, Rf.okR_bind, Rf.okS_lift, Rf.okS_seq, Rf.okS_if, Rf.okS_ret, Rf.okS_drop, Rf.okS_set, Rf.okS_next, Rf.okS_retN, Rf.okS_brk, Rf.okS_cont, Rf.okS_raise, Rf.okR_fin, Rf.okR_bin, Rf.okR_test, Rf.okR_not, Rf.okR_and, Rf.okR_or, Rf.okR_andV, Rf.okR_orV, Rf.okR_notV, Rf.okR_mif, Rf.okR_C, Rf.okR_nil, Rf.okR_yes, Rf.okR_cons, Rf.okR_call, Rf.okR_callK, Rf.okR_tup, Rf.okR_lst, Rf.okR_fld, Rf.okR_meth, Rf.okR_make, Rf.okR_bm, Rf.okR_isi, Rf.okS_for, Rf.okR_lc, Rf.okR_anyD, Rf.okS_asg, Rf.okS_setFld, Rf.okR_V, Rf.okR_chain, Rf.okR_rng1, Rf.okR_rng2, Rf.okR_neg, Rf.okR_sl, Rf.okR_noPart, Rf.okR_part, Rf.okS_sub, Rf.okS_par, Rf.okR_enum, Rf.okR_dic0, Rf.okR_dic1, Rf.okS_try, Rf.okR_get1, Rf.okR_get2, Rf.okR_keys, Rf.okS_augFld, Rf.okR_setd, Rf.okR_dct, Rf.okR_sortSc2, Rf.okR_sortI, List.getElem?_cons_zero, List.getElem?_cons_succ, List.set_cons_zero, List.set_cons_succ, if_true, if_false, Bool.false_eq_true, reduceIte, reduceCtorEq, Rf.f1, Rf.gV_non, Rf.gV_bl, Rf.gV_int, Rf.gV_str, Rf.gV_tup, Rf.gV_ktp, Rf.gV_rol, Rf.gV_ref, Rf.gd0, Rf.gdA, List.cons_append, List.nil_append, List.append_nil, List.take_succ_cons, List.take_zero, List.take_nil, List.drop_succ_cons, List.drop_zero, List.drop_nil, Rf.oI0, Rf.oI, Bool.not_true, Bool.not_false, wipeL, gV_nf nx, ex]
      exact ⟨trivial, trivial⟩
    · refine ⟨_, rfl, rfl, fun _ => okR_is ?_⟩
      simp only [Rf.okR_ok, Rf.okR_ex, Rf.okS_nx, Rf.okS_rt, Rf.okS_bk, Rf.okS_ct, Rf.okS_ex, Rf.okR_bind, Rf.okS_lift, Rf.okS_seq, Rf.okS_if, Rf.okS_ret, Rf.okS_drop, Rf.okS_set, Rf.okS_next, Rf.okS_retN, Rf.okS_brk, Rf.okS_cont, Rf.okS_raise, Rf.okR_fin, Rf.okR_bin, Rf.okR_test, Rf.okR_not, Rf.okR_and, Rf.okR_or, Rf.okR_andV, Rf.okR_orV, Rf.okR_notV, Rf.okR_mif, Rf.okR_C, Rf.okR_nil, Rf.okR_yes, Rf.okR_cons, Rf.okR_call, Rf.okR_callK, Rf.okR_tup, Rf.okR_lst, Rf.okR_fld, Rf.okR_meth, Rf.okR_make, Rf.okR_bm, Rf.okR_isi, Rf.okS_for, Rf.okR_lc, Rf.okR_anyD, Rf.okS_asg, Rf.okS_setFld, Rf.okR_V, Rf.okR_chain, Rf.okR_rng1, Rf.okR_rng2, Rf.okR_neg, Rf.okR_sl, Rf.okR_noPart, Rf.okR_part, Rf.okS_sub, Rf.okS_par, Rf.okR_enum, Rf.okR_dic0, Rf.okR_dic1, Rf.okS_try, Rf.okR_get1, Rf.okR_get2, Rf.okR_keys, Rf.okS_augFld, Rf.okR_setd, Rf.okR_dct, Rf.okR_sortSc2, Rf.okR_sortI, List.getElem?_cons_zero, List.getElem?_cons_succ, List.set_cons_zero, List.set_cons_succ, if_true, if_false, Bool.false_eq_true, reduceIte, reduceCtorEq, Rf.f1, Rf.gV_non, Rf.gV_bl, Rf.gV_int, Rf.gV_str, Rf.gV_tup, Rf.gV_ktp, Rf.gV_rol, Rf.gV_ref, Rf.gd0, Rf.gdA, List.cons_append, List.nil_append, List.append_nil, List.take_succ_cons, List.take_zero, List.take_nil, List.drop_succ_cons, List.drop_zero, List.drop_nil, Rf.oI0, Rf.oI, Bool.not_true, Bool.not_false, wipeL, gV_nf ny, ey]
      exact ⟨trivial, trivial⟩)
  have lc : mLcGo (gmName 2) mYes (mCallK gd0 rc (mCons (mV 2) mNil) mNil) (liSeq [x, y]) (wipeL [some (.tup [.str v, x, y]), some (.str v), none] [2]) 100000 0 [] [] = .ok [x', y'] [] := lc
  have tp : dTuple (.ref 0) [.lst [x', y']] = .ok (.tup [x', y']) [.lst [x', y']] := rfl
  have ad : ∀ h : LH, dAdd (.tup [.str v]) (.tup [x', y']) h = .ok (.tup [.str v, x', y']) h := fun h => rfl
  show @okR _ (fin (b1_turned rc [some (.tup [.str v, x, y]), none, none] [])) ⟨_⟩ ⟨_⟩
  unfold b1_turned
  simp only [Rf.okR_ok, Rf.okR_ex, Rf.okS_nx, Rf.okS_rt, Rf.okS_bk, Rf.okS_ct, Rf.okS_ex, Rf.okR_bind, Rf.okS_lift, Rf.okS_seq, Rf.okS_if, Rf.okS_ret, Rf.okS_drop, Rf.okS_set, Rf.okS_next, Rf.okS_retN, Rf.okS_brk, Rf.okS_cont, Rf.okS_raise, Rf.okR_fin, Rf.okR_bin, Rf.okR_test, Rf.okR_not, Rf.okR_and, Rf.okR_or, Rf.okR_andV, Rf.okR_orV, Rf.okR_notV, Rf.okR_mif, Rf.okR_C, Rf.okR_nil, Rf.okR_yes, Rf.okR_cons, Rf.okR_call, Rf.okR_callK, Rf.okR_tup, Rf.okR_lst, Rf.okR_fld, Rf.okR_meth, Rf.okR_make, Rf.okR_bm, Rf.okR_isi, Rf.okS_for, Rf.okR_lc, Rf.okR_anyD, Rf.okS_asg, Rf.okS_setFld, Rf.okR_V, Rf.okR_chain, Rf.okR_rng1, Rf.okR_rng2, Rf.okR_neg, Rf.okR_sl, Rf.okR_noPart, Rf.okR_part, Rf.okS_sub, Rf.okS_par, Rf.okR_enum, Rf.okR_dic0, Rf.okR_dic1, Rf.okS_try, Rf.okR_get1, Rf.okR_get2, Rf.okR_keys, Rf.okS_augFld, Rf.okR_setd, Rf.okR_dct, Rf.okR_sortSc2, Rf.okR_sortI, List.getElem?_cons_zero, List.getElem?_cons_succ, List.set_cons_zero, List.set_cons_succ, if_true, if_false, Bool.false_eq_true, reduceIte, reduceCtorEq, Rf.f1, Rf.gV_non, Rf.gV_bl, Rf.gV_int, Rf.gV_str, Rf.gV_tup, Rf.gV_ktp, Rf.gV_rol, Rf.gV_ref, Rf.gd0, Rf.gdA, List.cons_append, List.nil_append, List.append_nil, List.take_succ_cons, List.take_zero, List.take_nil, List.drop_succ_cons, List.drop_zero, List.drop_nil, Rf.oI0, Rf.oI, Bool.not_true, Bool.not_false, ix0, i1, q1, z3, z1, sl, im]
  rw [lc]
  simp only [Rf.okR_ok, Rf.okR_ex, Rf.okS_nx, Rf.okS_rt, Rf.okS_bk, Rf.okS_ct, Rf.okS_ex, Rf.okR_bind, Rf.okS_lift, Rf.okS_seq, Rf.okS_if, Rf.okS_ret, Rf.okS_drop, Rf.okS_set, Rf.okS_next, Rf.okS_retN, Rf.okS_brk, Rf.okS_cont, Rf.okS_raise, Rf.okR_fin, Rf.okR_bin, Rf.okR_test, Rf.okR_not, Rf.okR_and, Rf.okR_or, Rf.okR_andV, Rf.okR_orV, Rf.okR_notV, Rf.okR_mif, Rf.okR_C, Rf.okR_nil, Rf.okR_yes, Rf.okR_cons, Rf.okR_call, Rf.okR_callK, Rf.okR_tup, Rf.okR_lst, Rf.okR_fld, Rf.okR_meth, Rf.okR_make, Rf.okR_bm, Rf.okR_isi, Rf.okS_for, Rf.okR_lc, Rf.okR_anyD, Rf.okS_asg, Rf.okS_setFld, Rf.okR_V, Rf.okR_chain, Rf.okR_rng1, Rf.okR_rng2, Rf.okR_neg, Rf.okR_sl, Rf.okR_noPart, Rf.okR_part, Rf.okS_sub, Rf.okS_par, Rf.okR_enum, Rf.okR_dic0, Rf.okR_dic1, Rf.okS_try, Rf.okR_get1, Rf.okR_get2, Rf.okR_keys, Rf.okS_augFld, Rf.okR_setd, Rf.okR_dct, Rf.okR_sortSc2, Rf.okR_sortI, List.getElem?_cons_zero, List.getElem?_cons_succ, List.set_cons_zero, List.set_cons_succ, if_true, if_false, Bool.false_eq_true, reduceIte, reduceCtorEq, Rf.f1, Rf.gV_non, Rf.gV_bl, Rf.gV_int, Rf.gV_str, Rf.gV_tup, Rf.gV_ktp, Rf.gV_rol, Rf.gV_ref, Rf.gd0, Rf.gdA, List.cons_append, List.nil_append, List.append_nil, List.take_succ_cons, List.take_zero, List.take_nil, List.drop_succ_cons, List.drop_zero, List.drop_nil, Rf.oI0, Rf.oI, Bool.not_true, Bool.not_false, List.length_nil, tp, ad]
theorem turned_one {rc : FM} {v : List Nat} {x x' : D} (hv : v = [97, 110, 121] ∨ v = [110, 111, 116]) (nx : isFn x = false) (nx' : isFn x' = false)
    (ex : rc [x] [] = .ok x' []) : @okR _ (fm 3 (b1_turned rc) [.tup [.str v, x]] []) ⟨fun d _ => d = .tup [.str v, x']⟩ ⟨fun _ _ => False⟩ := by
  have z3 : ∀ a b c : D, szOk ([a, b, c] : List D).length = true := fun _ _ _ => rfl
  have z1 : ∀ a : D, szOk ([a] : List D).length = true := fun _ => rfl
  have ix0 : ∀ h : LH, dIx (.tup [.str v, x]) (.int 0) h = .ok (.str v) h := fun h => rfl
  have i1 : ∀ h : LH, dIn (.str v) (.tup [.str [110, 111, 110, 101], .str [101, 109, 112, 116, 121], .str [115, 105, 103, 110]]) h = .ok (.bl false) h := fun h => by
    rcases hv with rfl | rfl <;> rfl
  have q1 : ∀ h : LH, dEq (.str v) (.str [116, 104, 101, 110]) h = .ok (.bl false) h := fun h => by
    rcases hv with rfl | rfl <;> rfl
  have sl : ∀ h : LH, dSl (.tup [.str v, x]) (some 1) none h = .ok (.tup [x]) h := fun h => rfl
  have im : ∀ h : LH, imD (.tup [x]) h = .ok (liSeq [x]) h := fun h => rfl
  have lc := lc_T (g := gmName 2) (tt := mYes) (te := mCallK gd0 rc (mCons (mV 2) mNil) mNil) (L := liSeq [x]) (ls0 := wipeL [some (.tup [.str v, x]), some (.str v), none] [2]) (h := []) (fuel := 100000) [(x, x')] (fun p => p.1) (fun _ => true) (fun p => p.2) (fun i => rfl) (by simp) (by simp) (fun p hp => by
    simp only [List.mem_cons, List.not_mem_nil, or_false] at hp
    subst hp
    refine ⟨_, rfl, rfl, fun _ => okR_is ?_⟩
    simp only [Rf.okR_ok, Rf.okR_ex, Rf.okS_nx, Rf.okS_rt, Rf.okS_bk, Rf.okS_ct, Rf.okS_ex, Rf.okR_bind, Rf.okS_lift, Rf.okS_seq, Rf.okS_if, Rf.okS_ret, Rf.okS_drop, Rf.okS_set, Rf.okS_next, Rf.okS_retN, Rf.okS_brk, Rf.okS_cont, Rf.okS_raise, Rf.okR_fin, Rf.okR_bin, Rf.okR_test, Rf.okR_not, Rf.okR_and, Rf.okR_or, Rf.okR_andV, Rf.okR_orV, Rf.okR_notV, Rf.okR_mif, Rf.okR_C, Rf.okR_nil, Rf.okR_yes, Rf.okR_cons, Rf.okR_call, Rf.okR_callK, Rf.okR_tup, Rf.okR_lst, Rf.okR_fld, Rf.okR_meth, Rf.okR_make, Rf.okR_bm, Rf.okR_isi, Rf.okS_for, Rf.okR_lc, Rf.okR_anyD, Rf.okS_asg, Rf.okS_setFld, Rf.okR_V, Rf.okR_chain, Rf.okR_rng1, Rf.okR_rng2, Rf.okR_neg, Rf.okR_sl, Rf.okR_noPart, Rf.okR_part, Rf.okS_sub, Rf.okS_par, Rf.okR_enum, Rf.okR_dic0, Rf.okR_dic1, Rf.okS_try, Rf.okR_get1, Rf.okR_get2, Rf.okR_keys, Rf.okS_augFld, Rf.okR_setd, Rf.okR_dct, Rf.okR_sortSc2, Rf.okR_sortI, List.getElem?_cons_zero, List.getElem?_cons_succ, List.set_cons_zero, List.set_cons_succ, if_true, if_false, Bool.false_eq_true, reduceIte, reduceCtorEq, Rf.f1, Rf.gV_non, Rf.gV_bl, Rf.gV_int, Rf.gV_str, Rf.gV_tup, Rf.gV_ktp, Rf.gV_rol, Rf.gV_ref, Rf.gd0, Rf.gdA, List.cons_append, List.nil_append, List.append_nil, List.take_succ_cons, List.take_zero, List.take_nil, List.drop_succ_cons, List.drop_zero, List.drop_nil, Rf.oI0, Rf.oI, Bool.not_true, Bool.not_false, wipeL, gV_nf nx, ex]
    exact ⟨trivial, trivial⟩)
  have lc : mLcGo (gmName 2) mYes (mCallK gd0 rc (mCons (mV 2) mNil) mNil) (liSeq [x]) (wipeL [some (.tup [.str v, x]), some (.str v), none] [2]) 100000 0 [] [] = .ok [x'] [] := lc
  have tp : dTuple (.ref 0) [.lst [x']] = .ok (.tup [x']) [.lst [x']] := rfl
  have ad : ∀ h : LH, dAdd (.tup [.str v]) (.tup [x']) h = .ok (.tup [.str v, x']) h := fun h => rfl
  show @okR _ (fin (b1_turned rc [some (.tup [.str v, x]), none, none] [])) ⟨_⟩ ⟨_⟩
  unfold b1_turned
  simp only [Rf.okR_ok, Rf.okR_ex, Rf.okS_nx, Rf.okS_rt, Rf.okS_bk, Rf.okS_ct, Rf.okS_ex, Rf.okR_bind, Rf.okS_lift, Rf.okS_seq, Rf.okS_if, Rf.okS_ret, Rf.okS_drop, Rf.okS_set, Rf.okS_next, Rf.okS_retN, Rf.okS_brk, Rf.okS_cont, Rf.okS_raise, Rf.okR_fin, Rf.okR_bin, Rf.okR_test, Rf.okR_not, Rf.okR_and, Rf.okR_or, Rf.okR_andV, Rf.okR_orV, Rf.okR_notV, Rf.okR_mif, Rf.okR_C, Rf.okR_nil, Rf.okR_yes, Rf.okR_cons, Rf.okR_call, Rf.okR_callK, Rf.okR_tup, Rf.okR_lst, Rf.okR_fld, Rf.okR_meth, Rf.okR_make, Rf.okR_bm, Rf.okR_isi, Rf.okS_for, Rf.okR_lc, Rf.okR_anyD, Rf.okS_asg, Rf.okS_setFld, Rf.okR_V, Rf.okR_chain, Rf.okR_rng1, Rf.okR_rng2, Rf.okR_neg, Rf.okR_sl, Rf.okR_noPart, Rf.okR_part, Rf.okS_sub, Rf.okS_par, Rf.okR_enum, Rf.okR_dic0, Rf.okR_dic1, Rf.okS_try, Rf.okR_get1, Rf.okR_get2, Rf.okR_keys, Rf.okS_augFld, Rf.okR_setd, Rf.okR_dct, Rf.okR_sortSc2, Rf.okR_sortI, List.getElem?_cons_zero, List.getElem?_cons_succ, List.set_cons_zero, List.set_cons_succ, if_true, if_false, Bool.false_eq_true, reduceIte, reduceCtorEq, Rf.f1, Rf.gV_non, Rf.gV_bl, Rf.gV_int, Rf.gV_str, Rf.gV_tup, Rf.gV_ktp, Rf.gV_rol, Rf.gV_ref, Rf.gd0, Rf.gdA, List.cons_append, List.nil_append, List.append_nil, List.take_succ_cons, List.take_zero, List.take_nil, List.drop_succ_cons, List.drop_zero, List.drop_nil, Rf.oI0, Rf.oI, Bool.not_true, Bool.not_false, ix0, i1, q1, z3, z1, sl, im]
  rw [lc]
  simp only [Rf.okR_ok, Rf.okR_ex, Rf.okS_nx, Rf.okS_rt, Rf.okS_bk, Rf.okS_ct, Rf.okS_ex, Rf.okR_bind, Rf.okS_lift, Rf.okS_seq, Rf.okS_if, Rf.okS_ret, Rf.okS_drop, Rf.okS_set, Rf.okS_next, Rf.okS_retN, Rf.okS_brk, Rf.okS_cont, Rf.okS_raise, Rf.okR_fin, Rf.okR_bin, Rf.okR_test, Rf.okR_not, Rf.okR_and, Rf.okR_or, Rf.okR_andV, Rf.okR_orV, Rf.okR_notV, Rf.okR_mif, Rf.okR_C, Rf.okR_nil, Rf.okR_yes, Rf.okR_cons, Rf.okR_call, Rf.okR_callK, Rf.okR_tup, Rf.okR_lst, Rf.okR_fld, Rf.okR_meth, Rf.okR_make, Rf.okR_bm, Rf.okR_isi, Rf.okS_for, Rf.okR_lc, Rf.okR_anyD, Rf.okS_asg, Rf.okS_setFld, Rf.okR_V, Rf.okR_chain, Rf.okR_rng1, Rf.okR_rng2, Rf.okR_neg, Rf.okR_sl, Rf.okR_noPart, Rf.okR_part, Rf.okS_sub, Rf.okS_par, Rf.okR_enum, Rf.okR_dic0, Rf.okR_dic1, Rf.okS_try, Rf.okR_get1, Rf.okR_get2, Rf.okR_keys, Rf.okS_augFld, Rf.okR_setd, Rf.okR_dct, Rf.okR_sortSc2, Rf.okR_sortI, List.getElem?_cons_zero, List.getElem?_cons_succ, List.set_cons_zero, List.set_cons_succ, if_true, if_false, Bool.false_eq_true, reduceIte, reduceCtorEq, Rf.f1, Rf.gV_non, Rf.gV_bl, Rf.gV_int, Rf.gV_str, Rf.gV_tup, Rf.gV_ktp, Rf.gV_rol, Rf.gV_ref, Rf.gd0, Rf.gdA, List.cons_append, List.nil_append, List.append_nil, List.take_succ_cons, List.take_zero, List.take_nil, List.drop_succ_cons, List.drop_zero, List.drop_nil, Rf.oI0, Rf.oI, Bool.not_true, Bool.not_false, List.length_nil, tp, ad]
theorem turned_sq {rc : FM} {x y x' y' : D} (nx : isFn x = false) (ny : isFn y = false) (nx' : isFn x' = false) (ny' : isFn y' = false)
    (ex : rc [x] [] = .ok x' []) (ey : rc [y] [] = .ok y' []) : @okR _ (fm 3 (b1_turned rc) [.tup [.str [116, 104, 101, 110], x, y]] []) ⟨fun d _ => d = .tup [.str [116, 104, 101, 110], y', x']⟩ ⟨fun _ _ => False⟩ := by
  have z3 : ∀ a b c : D, szOk ([a, b, c] : List D).length = true := fun _ _ _ => rfl
  have ix0 : ∀ h : LH, dIx (.tup [.str [116, 104, 101, 110], x, y]) (.int 0) h = .ok (.str [116, 104, 101, 110]) h := fun h => rfl
  have ix1 : ∀ h : LH, dIx (.tup [.str [116, 104, 101, 110], x, y]) (.int 1) h = .ok x h := fun h => rfl
  have ix2 : ∀ h : LH, dIx (.tup [.str [116, 104, 101, 110], x, y]) (.int 2) h = .ok y h := fun h => rfl
  have i1 : ∀ h : LH, dIn (.str [116, 104, 101, 110]) (.tup [.str [110, 111, 110, 101], .str [101, 109, 112, 116, 121], .str [115, 105, 103, 110]]) h = .ok (.bl false) h := fun h => rfl
  have q1 : ∀ h : LH, dEq (.str [116, 104, 101, 110]) (.str [116, 104, 101, 110]) h = .ok (.bl true) h := fun h => rfl
  show @okR _ (fin (b1_turned rc [some (.tup [.str [116, 104, 101, 110], x, y]), none, none] [])) ⟨_⟩ ⟨_⟩
  unfold b1_turned
  simp only [Rf.okR_ok, Rf.okR_ex, Rf.okS_nx, Rf.okS_rt, Rf.okS_bk, Rf.okS_ct, Rf.okS_ex, Rf.okR_bind, Rf.okS_lift, Rf.okS_seq, Rf.okS_if, Rf.okS_ret, Rf.okS_drop, Rf.okS_set, Rf.okS_next, Rf.okS_retN, Rf.okS_brk, Rf.okS_cont, Rf.okS_raise, Rf.okR_fin, Rf.okR_bin, Rf.okR_test, Rf.okR_not, Rf.okR_and, Rf.okR_or, Rf.okR_andV, Rf.okR_orV, Rf.okR_notV, Rf.okR_mif, Rf.okR_C, Rf.okR_nil, Rf.okR_yes, Rf.okR_cons, Rf.okR_call, Rf.okR_callK, Rf.okR_tup, Rf.okR_lst, Rf.okR_fld, Rf.okR_meth, Rf.okR_make, Rf.okR_bm, Rf.okR_isi, Rf.okS_for, Rf.okR_lc, Rf.okR_anyD, Rf.okS_asg, Rf.okS_setFld, Rf.okR_V, Rf.okR_chain, Rf.okR_rng1, Rf.okR_rng2, Rf.okR_neg, Rf.okR_sl, Rf.okR_noPart, Rf.okR_part, Rf.okS_sub, Rf.okS_par, Rf.okR_enum, Rf.okR_dic0, Rf.okR_dic1, Rf.okS_try, Rf.okR_get1, Rf.okR_get2, Rf.okR_keys, Rf.okS_augFld, Rf.okR_setd, Rf.okR_dct, Rf.okR_sortSc2, Rf.okR_sortI, List.getElem?_cons_zero, List.getElem?_cons_succ, List.set_cons_zero, List.set_cons_succ, if_true, if_false, Bool.false_eq_true, reduceIte, reduceCtorEq, Rf.f1, Rf.gV_non, Rf.gV_bl, Rf.gV_int, Rf.gV_str, Rf.gV_tup, Rf.gV_ktp, Rf.gV_rol, Rf.gV_ref, Rf.gd0, Rf.gdA, List.cons_append, List.nil_append, List.append_nil, List.take_succ_cons, List.take_zero, List.take_nil, List.drop_succ_cons, List.drop_zero, List.drop_nil, Rf.oI0, Rf.oI, Bool.not_true, Bool.not_false, ix0, ix1, ix2, i1, q1, z3, gV_nf nx, gV_nf ny, ex, ey]
theorem turned_ok : ∀ (n : Nat) (f : Fm) (h : LH), f.dp ≤ n → M_turned n [f.FD] h = .ok f.trn.FD h := by
  intro n
  have pu : ∀ f : Fm, pureDs [f.FD] = true := fun f => by simp [pureDs, f.pure]
  have leaf : ∀ (m : SM), (m = b0_turned ∨ ∃ rc, m = b1_turned rc) → ∀ f : Fm, f.dp = 0 → @okR _ (fm 3 m [f.FD] []) ⟨fun d _ => d = f.trn.FD⟩ ⟨fun _ _ => False⟩ := fun m hm f hl => by
    cases f with
    | non => rcases hm with rfl | ⟨rc, rfl⟩ <;> rfl
    | emp => rcases hm with rfl | ⟨rc, rfl⟩ <;> rfl
    | sg c => rcases hm with rfl | ⟨rc, rfl⟩ <;> rfl
    | _ => cases hl
  induction n with
  | zero => intro f h hd; exact runA_is h (pu f) (leaf _ (.inl rfl) f (by omega)) (Fm.pure _)
  | succ n ih =>
    intro f h hd
    cases f with
    | non => exact runA_is h (pu _) (leaf _ (.inr ⟨_, rfl⟩) _ rfl) (Fm.pure _)
    | emp => exact runA_is h (pu _) (leaf _ (.inr ⟨_, rfl⟩) _ rfl) (Fm.pure _)
    | sg c => exact runA_is h (pu _) (leaf _ (.inr ⟨_, rfl⟩) _ rfl) (Fm.pure _)
    | or a b =>
      simp only [Fm.dp] at hd
      exact runA_is h (pu _) (turned_two (.inl rfl) a.nf b.nf a.trn.nf b.trn.nf (ih a [] (by omega)) (ih b [] (by omega))) (Fm.pure _)
    | bo a b =>
      simp only [Fm.dp] at hd
      exact runA_is h (pu _) (turned_two (.inr rfl) a.nf b.nf a.trn.nf b.trn.nf (ih a [] (by omega)) (ih b [] (by omega))) (Fm.pure _)
    | sq a b =>
      simp only [Fm.dp] at hd
      exact runA_is h (pu _) (turned_sq a.nf b.nf a.trn.nf b.trn.nf (ih a [] (by omega)) (ih b [] (by omega))) (Fm.pure _)
    | an a =>
      simp only [Fm.dp] at hd
      exact runA_is h (pu _) (turned_one (.inl rfl) a.nf a.trn.nf (ih a [] (by omega))) (Fm.pure _)
    | nt a =>
      simp only [Fm.dp] at hd
      exact runA_is h (pu _) (turned_one (.inr rfl) a.nf a.trn.nf (ih a [] (by omega))) (Fm.pure _)
theorem turned_form_ok {al : List Nat} (A : Al al) (ha : okT al = true) {f : Fm} (hs : f.Sg al) (hd : f.dp ≤ 8) (hz : f.sz ≤ 2000) (h : LH) : m_turned_form [f.FD, .str al] h = .ok f.trn.FD h := by
  refine runA_is h (by simp [pureDs, f.pure, pureD]) ?_ (Fm.pure _)
  have al0 := A.look
  have lf := look_form_ok ha hs (by omega) hz
  have tr : ∀ h, m_turned [f.FD] h = .ok f.trn.FD h := fun h => turned_ok 8 f h hd
  show @okR _ (fin (b_turned_form [some f.FD, some (.str al)] [])) ⟨_⟩ ⟨_⟩
  unfold b_turned_form
  simp only [Rf.okR_ok, Rf.okR_ex, Rf.okS_nx, Rf.okS_rt, Rf.okS_bk, Rf.okS_ct, Rf.okS_ex, Rf.okR_bind, Rf.okS_lift, Rf.okS_seq, Rf.okS_if, Rf.okS_ret, Rf.okS_drop, Rf.okS_set, Rf.okS_next, Rf.okS_retN, Rf.okS_brk, Rf.okS_cont, Rf.okS_raise, Rf.okR_fin, Rf.okR_bin, Rf.okR_test, Rf.okR_not, Rf.okR_and, Rf.okR_or, Rf.okR_andV, Rf.okR_orV, Rf.okR_notV, Rf.okR_mif, Rf.okR_C, Rf.okR_nil, Rf.okR_yes, Rf.okR_cons, Rf.okR_call, Rf.okR_callK, Rf.okR_tup, Rf.okR_lst, Rf.okR_fld, Rf.okR_meth, Rf.okR_make, Rf.okR_bm, Rf.okR_isi, Rf.okS_for, Rf.okR_lc, Rf.okR_anyD, Rf.okS_asg, Rf.okS_setFld, Rf.okR_V, Rf.okR_chain, Rf.okR_rng1, Rf.okR_rng2, Rf.okR_neg, Rf.okR_sl, Rf.okR_noPart, Rf.okR_part, Rf.okS_sub, Rf.okS_par, Rf.okR_enum, Rf.okR_dic0, Rf.okR_dic1, Rf.okS_try, Rf.okR_get1, Rf.okR_get2, Rf.okR_keys, Rf.okS_augFld, Rf.okR_setd, Rf.okR_dct, Rf.okR_sortSc2, Rf.okR_sortI, List.getElem?_cons_zero, List.getElem?_cons_succ, List.set_cons_zero, List.set_cons_succ, if_true, if_false, Bool.false_eq_true, reduceIte, reduceCtorEq, Rf.f1, Rf.gV_non, Rf.gV_bl, Rf.gV_int, Rf.gV_str, Rf.gV_tup, Rf.gV_ktp, Rf.gV_rol, Rf.gV_ref, Rf.gd0, Rf.gdA, List.cons_append, List.nil_append, List.append_nil, List.take_succ_cons, List.take_zero, List.take_nil, List.drop_succ_cons, List.drop_zero, List.drop_nil, Rf.oI0, Rf.oI, Bool.not_true, Bool.not_false, gV_nf f.nf, al0, lf, tr]
theorem count_two {rc : FM} {v : List Nat} {x y : D} {a b : Nat} (nx : isFn x = false) (ny : isFn y = false) (tx : ∀ h, tgOf x h = some .tuple) (ty : ∀ h, tgOf y h = some .tuple)
    (ex : rc [x] [] = .ok (.int (a : Nat)) []) (ey : rc [y] [] = .ok (.int (b : Nat)) []) : @okR _ (fm 2 (b1__law_count rc) [.tup [.str v, x, y]] []) ⟨fun d _ => d = .int ((a + b + 1 : Nat) : Int)⟩ ⟨fun _ _ => False⟩ := by
  have sl : ∀ h : LH, dSl (.tup [.str v, x, y]) (some 1) none h = .ok (.tup [x, y]) h := fun h => rfl
  have im : ∀ h : LH, imD (.tup [x, y]) h = .ok (liSeq [x, y]) h := fun h => rfl
  show @okR _ (fin (b1__law_count rc [some (.tup [.str v, x, y]), none] [])) ⟨_⟩ ⟨_⟩
  unfold b1__law_count
  simp only [Rf.okR_ok, Rf.okR_ex, Rf.okS_nx, Rf.okS_rt, Rf.okS_bk, Rf.okS_ct, Rf.okS_ex, Rf.okR_bind, Rf.okS_lift, Rf.okS_seq, Rf.okS_if, Rf.okS_ret, Rf.okS_drop, Rf.okS_set, Rf.okS_next, Rf.okS_retN, Rf.okS_brk, Rf.okS_cont, Rf.okS_raise, Rf.okR_fin, Rf.okR_bin, Rf.okR_test, Rf.okR_not, Rf.okR_and, Rf.okR_or, Rf.okR_andV, Rf.okR_orV, Rf.okR_notV, Rf.okR_mif, Rf.okR_C, Rf.okR_nil, Rf.okR_yes, Rf.okR_cons, Rf.okR_call, Rf.okR_callK, Rf.okR_tup, Rf.okR_lst, Rf.okR_fld, Rf.okR_meth, Rf.okR_make, Rf.okR_bm, Rf.okR_isi, Rf.okS_for, Rf.okR_lc, Rf.okR_anyD, Rf.okS_asg, Rf.okS_setFld, Rf.okR_V, Rf.okR_chain, Rf.okR_rng1, Rf.okR_rng2, Rf.okR_neg, Rf.okR_sl, Rf.okR_noPart, Rf.okR_part, Rf.okS_sub, Rf.okS_par, Rf.okR_enum, Rf.okR_dic0, Rf.okR_dic1, Rf.okS_try, Rf.okR_get1, Rf.okR_get2, Rf.okR_keys, Rf.okS_augFld, Rf.okR_setd, Rf.okR_dct, Rf.okR_sortSc2, Rf.okR_sortI, List.getElem?_cons_zero, List.getElem?_cons_succ, List.set_cons_zero, List.set_cons_succ, if_true, if_false, Bool.false_eq_true, reduceIte, reduceCtorEq, Rf.f1, Rf.gV_non, Rf.gV_bl, Rf.gV_int, Rf.gV_str, Rf.gV_tup, Rf.gV_ktp, Rf.gV_rol, Rf.gV_ref, Rf.gd0, Rf.gdA, List.cons_append, List.nil_append, List.append_nil, List.take_succ_cons, List.take_zero, List.take_nil, List.drop_succ_cons, List.drop_zero, List.drop_nil, Rf.oI0, Rf.oI, Bool.not_true, Bool.not_false, sl, im]
  refine ok_lc [x, y] (fun i acc h => h = [] ∧ acc = ([D.int (a : Nat), .int (b : Nat)] : List D).take i) ⟨rfl, rfl⟩ (by simp) (by simp) (fun i acc h pp => rfl) (fun i d acc h hd pp => ?_) (fun acc h pp => ?_)
  · obtain ⟨rfl, rfl⟩ := pp
    match i, hd with
    | 0, hd =>
      cases hd
      refine ⟨_, rfl, ?_⟩
      simp only [Rf.okR_ok, Rf.okR_ex, Rf.okS_nx, Rf.okS_rt, Rf.okS_bk, Rf.okS_ct, Rf.okS_ex, Rf.okR_bind, Rf.okS_lift, Rf.okS_seq, Rf.okS_if, Rf.okS_ret, Rf.okS_drop, Rf.okS_set, Rf.okS_next, Rf.okS_retN, Rf.okS_brk, Rf.okS_cont, Rf.okS_raise, Rf.okR_fin, Rf.okR_bin, Rf.okR_test, Rf.okR_not, Rf.okR_and, Rf.okR_or, Rf.okR_andV, Rf.okR_orV, Rf.okR_notV, Rf.okR_mif, Rf.okR_C, Rf.okR_nil, Rf.okR_yes, Rf.okR_cons, Rf.okR_call, Rf.okR_callK, Rf.okR_tup, Rf.okR_lst, Rf.okR_fld, Rf.okR_meth, Rf.okR_make, Rf.okR_bm, Rf.okR_isi, Rf.okS_for, Rf.okR_lc, Rf.okR_anyD, Rf.okS_asg, Rf.okS_setFld, Rf.okR_V, Rf.okR_chain, Rf.okR_rng1, Rf.okR_rng2, Rf.okR_neg, Rf.okR_sl, Rf.okR_noPart, Rf.okR_part, Rf.okS_sub, Rf.okS_par, Rf.okR_enum, Rf.okR_dic0, Rf.okR_dic1, Rf.okS_try, Rf.okR_get1, Rf.okR_get2, Rf.okR_keys, Rf.okS_augFld, Rf.okR_setd, Rf.okR_dct, Rf.okR_sortSc2, Rf.okR_sortI, List.getElem?_cons_zero, List.getElem?_cons_succ, List.set_cons_zero, List.set_cons_succ, if_true, if_false, Bool.false_eq_true, reduceIte, reduceCtorEq, Rf.f1, Rf.gV_non, Rf.gV_bl, Rf.gV_int, Rf.gV_str, Rf.gV_tup, Rf.gV_ktp, Rf.gV_rol, Rf.gV_ref, Rf.gd0, Rf.gdA, List.cons_append, List.nil_append, List.append_nil, List.take_succ_cons, List.take_zero, List.take_nil, List.drop_succ_cons, List.drop_zero, List.drop_nil, Rf.oI0, Rf.oI, Bool.not_true, Bool.not_false, wipeL, gV_nf nx, tx, luk_c, ex]
      exact ⟨trivial, by trivial⟩
    | 1, hd =>
      cases hd
      refine ⟨_, rfl, ?_⟩
      simp only [Rf.okR_ok, Rf.okR_ex, Rf.okS_nx, Rf.okS_rt, Rf.okS_bk, Rf.okS_ct, Rf.okS_ex, Rf.okR_bind, Rf.okS_lift, Rf.okS_seq, Rf.okS_if, Rf.okS_ret, Rf.okS_drop, Rf.okS_set, Rf.okS_next, Rf.okS_retN, Rf.okS_brk, Rf.okS_cont, Rf.okS_raise, Rf.okR_fin, Rf.okR_bin, Rf.okR_test, Rf.okR_not, Rf.okR_and, Rf.okR_or, Rf.okR_andV, Rf.okR_orV, Rf.okR_notV, Rf.okR_mif, Rf.okR_C, Rf.okR_nil, Rf.okR_yes, Rf.okR_cons, Rf.okR_call, Rf.okR_callK, Rf.okR_tup, Rf.okR_lst, Rf.okR_fld, Rf.okR_meth, Rf.okR_make, Rf.okR_bm, Rf.okR_isi, Rf.okS_for, Rf.okR_lc, Rf.okR_anyD, Rf.okS_asg, Rf.okS_setFld, Rf.okR_V, Rf.okR_chain, Rf.okR_rng1, Rf.okR_rng2, Rf.okR_neg, Rf.okR_sl, Rf.okR_noPart, Rf.okR_part, Rf.okS_sub, Rf.okS_par, Rf.okR_enum, Rf.okR_dic0, Rf.okR_dic1, Rf.okS_try, Rf.okR_get1, Rf.okR_get2, Rf.okR_keys, Rf.okS_augFld, Rf.okR_setd, Rf.okR_dct, Rf.okR_sortSc2, Rf.okR_sortI, List.getElem?_cons_zero, List.getElem?_cons_succ, List.set_cons_zero, List.set_cons_succ, if_true, if_false, Bool.false_eq_true, reduceIte, reduceCtorEq, Rf.f1, Rf.gV_non, Rf.gV_bl, Rf.gV_int, Rf.gV_str, Rf.gV_tup, Rf.gV_ktp, Rf.gV_rol, Rf.gV_ref, Rf.gd0, Rf.gdA, List.cons_append, List.nil_append, List.append_nil, List.take_succ_cons, List.take_zero, List.take_nil, List.drop_succ_cons, List.drop_zero, List.drop_nil, Rf.oI0, Rf.oI, Bool.not_true, Bool.not_false, wipeL, gV_nf ny, ty, luk_c, ey]
      exact ⟨trivial, by trivial⟩
    | i + 2, hd => simp at hd
  · obtain ⟨rfl, rfl⟩ := pp
    have sm : dSum (.ref 0) [.lst [D.int (a : Nat), .int (b : Nat)]] = .ok (.int ((([a, b] : List Nat).sum : Nat) : Int)) [.lst [D.int (a : Nat), .int (b : Nat)]] := sum_nats (l := [a, b]) rfl
    have e : ([D.int (a : Nat), .int (b : Nat)] : List D).take ([x, y] : List D).length = [D.int (a : Nat), .int (b : Nat)] := rfl
    rw [e]
    have ad : ∀ (i j : Int) (h : LH), dAdd (.int i) (.int j) h = .ok (.int (i + j)) h := fun _ _ _ => rfl
    simp only [Rf.okR_ok, Rf.okR_ex, Rf.okS_nx, Rf.okS_rt, Rf.okS_bk, Rf.okS_ct, Rf.okS_ex, Rf.okR_bind, Rf.okS_lift, Rf.okS_seq, Rf.okS_if, Rf.okS_ret, Rf.okS_drop, Rf.okS_set, Rf.okS_next, Rf.okS_retN, Rf.okS_brk, Rf.okS_cont, Rf.okS_raise, Rf.okR_fin, Rf.okR_bin, Rf.okR_test, Rf.okR_not, Rf.okR_and, Rf.okR_or, Rf.okR_andV, Rf.okR_orV, Rf.okR_notV, Rf.okR_mif, Rf.okR_C, Rf.okR_nil, Rf.okR_yes, Rf.okR_cons, Rf.okR_call, Rf.okR_callK, Rf.okR_tup, Rf.okR_lst, Rf.okR_fld, Rf.okR_meth, Rf.okR_make, Rf.okR_bm, Rf.okR_isi, Rf.okS_for, Rf.okR_lc, Rf.okR_anyD, Rf.okS_asg, Rf.okS_setFld, Rf.okR_V, Rf.okR_chain, Rf.okR_rng1, Rf.okR_rng2, Rf.okR_neg, Rf.okR_sl, Rf.okR_noPart, Rf.okR_part, Rf.okS_sub, Rf.okS_par, Rf.okR_enum, Rf.okR_dic0, Rf.okR_dic1, Rf.okS_try, Rf.okR_get1, Rf.okR_get2, Rf.okR_keys, Rf.okS_augFld, Rf.okR_setd, Rf.okR_dct, Rf.okR_sortSc2, Rf.okR_sortI, List.getElem?_cons_zero, List.getElem?_cons_succ, List.set_cons_zero, List.set_cons_succ, if_true, if_false, Bool.false_eq_true, reduceIte, reduceCtorEq, Rf.f1, Rf.gV_non, Rf.gV_bl, Rf.gV_int, Rf.gV_str, Rf.gV_tup, Rf.gV_ktp, Rf.gV_rol, Rf.gV_ref, Rf.gd0, Rf.gdA, List.cons_append, List.nil_append, List.append_nil, List.take_succ_cons, List.take_zero, List.take_nil, List.drop_succ_cons, List.drop_zero, List.drop_nil, Rf.oI0, Rf.oI, Bool.not_true, Bool.not_false, List.length_nil, sm, ad]
    congr 1
    simp only [List.sum_cons, List.sum_nil]; omega
theorem count_one {rc : FM} {v : List Nat} {x : D} {a : Nat} (nx : isFn x = false) (tx : ∀ h, tgOf x h = some .tuple)
    (ex : rc [x] [] = .ok (.int (a : Nat)) []) : @okR _ (fm 2 (b1__law_count rc) [.tup [.str v, x]] []) ⟨fun d _ => d = .int ((a + 1 : Nat) : Int)⟩ ⟨fun _ _ => False⟩ := by
  have sl : ∀ h : LH, dSl (.tup [.str v, x]) (some 1) none h = .ok (.tup [x]) h := fun h => rfl
  have im : ∀ h : LH, imD (.tup [x]) h = .ok (liSeq [x]) h := fun h => rfl
  show @okR _ (fin (b1__law_count rc [some (.tup [.str v, x]), none] [])) ⟨_⟩ ⟨_⟩
  unfold b1__law_count
  simp only [Rf.okR_ok, Rf.okR_ex, Rf.okS_nx, Rf.okS_rt, Rf.okS_bk, Rf.okS_ct, Rf.okS_ex, Rf.okR_bind, Rf.okS_lift, Rf.okS_seq, Rf.okS_if, Rf.okS_ret, Rf.okS_drop, Rf.okS_set, Rf.okS_next, Rf.okS_retN, Rf.okS_brk, Rf.okS_cont, Rf.okS_raise, Rf.okR_fin, Rf.okR_bin, Rf.okR_test, Rf.okR_not, Rf.okR_and, Rf.okR_or, Rf.okR_andV, Rf.okR_orV, Rf.okR_notV, Rf.okR_mif, Rf.okR_C, Rf.okR_nil, Rf.okR_yes, Rf.okR_cons, Rf.okR_call, Rf.okR_callK, Rf.okR_tup, Rf.okR_lst, Rf.okR_fld, Rf.okR_meth, Rf.okR_make, Rf.okR_bm, Rf.okR_isi, Rf.okS_for, Rf.okR_lc, Rf.okR_anyD, Rf.okS_asg, Rf.okS_setFld, Rf.okR_V, Rf.okR_chain, Rf.okR_rng1, Rf.okR_rng2, Rf.okR_neg, Rf.okR_sl, Rf.okR_noPart, Rf.okR_part, Rf.okS_sub, Rf.okS_par, Rf.okR_enum, Rf.okR_dic0, Rf.okR_dic1, Rf.okS_try, Rf.okR_get1, Rf.okR_get2, Rf.okR_keys, Rf.okS_augFld, Rf.okR_setd, Rf.okR_dct, Rf.okR_sortSc2, Rf.okR_sortI, List.getElem?_cons_zero, List.getElem?_cons_succ, List.set_cons_zero, List.set_cons_succ, if_true, if_false, Bool.false_eq_true, reduceIte, reduceCtorEq, Rf.f1, Rf.gV_non, Rf.gV_bl, Rf.gV_int, Rf.gV_str, Rf.gV_tup, Rf.gV_ktp, Rf.gV_rol, Rf.gV_ref, Rf.gd0, Rf.gdA, List.cons_append, List.nil_append, List.append_nil, List.take_succ_cons, List.take_zero, List.take_nil, List.drop_succ_cons, List.drop_zero, List.drop_nil, Rf.oI0, Rf.oI, Bool.not_true, Bool.not_false, sl, im]
  refine ok_lc [x] (fun i acc h => h = [] ∧ acc = ([D.int (a : Nat)] : List D).take i) ⟨rfl, rfl⟩ (by simp) (by simp) (fun i acc h pp => rfl) (fun i d acc h hd pp => ?_) (fun acc h pp => ?_)
  · obtain ⟨rfl, rfl⟩ := pp
    match i, hd with
    | 0, hd =>
      cases hd
      refine ⟨_, rfl, ?_⟩
      simp only [Rf.okR_ok, Rf.okR_ex, Rf.okS_nx, Rf.okS_rt, Rf.okS_bk, Rf.okS_ct, Rf.okS_ex, Rf.okR_bind, Rf.okS_lift, Rf.okS_seq, Rf.okS_if, Rf.okS_ret, Rf.okS_drop, Rf.okS_set, Rf.okS_next, Rf.okS_retN, Rf.okS_brk, Rf.okS_cont, Rf.okS_raise, Rf.okR_fin, Rf.okR_bin, Rf.okR_test, Rf.okR_not, Rf.okR_and, Rf.okR_or, Rf.okR_andV, Rf.okR_orV, Rf.okR_notV, Rf.okR_mif, Rf.okR_C, Rf.okR_nil, Rf.okR_yes, Rf.okR_cons, Rf.okR_call, Rf.okR_callK, Rf.okR_tup, Rf.okR_lst, Rf.okR_fld, Rf.okR_meth, Rf.okR_make, Rf.okR_bm, Rf.okR_isi, Rf.okS_for, Rf.okR_lc, Rf.okR_anyD, Rf.okS_asg, Rf.okS_setFld, Rf.okR_V, Rf.okR_chain, Rf.okR_rng1, Rf.okR_rng2, Rf.okR_neg, Rf.okR_sl, Rf.okR_noPart, Rf.okR_part, Rf.okS_sub, Rf.okS_par, Rf.okR_enum, Rf.okR_dic0, Rf.okR_dic1, Rf.okS_try, Rf.okR_get1, Rf.okR_get2, Rf.okR_keys, Rf.okS_augFld, Rf.okR_setd, Rf.okR_dct, Rf.okR_sortSc2, Rf.okR_sortI, List.getElem?_cons_zero, List.getElem?_cons_succ, List.set_cons_zero, List.set_cons_succ, if_true, if_false, Bool.false_eq_true, reduceIte, reduceCtorEq, Rf.f1, Rf.gV_non, Rf.gV_bl, Rf.gV_int, Rf.gV_str, Rf.gV_tup, Rf.gV_ktp, Rf.gV_rol, Rf.gV_ref, Rf.gd0, Rf.gdA, List.cons_append, List.nil_append, List.append_nil, List.take_succ_cons, List.take_zero, List.take_nil, List.drop_succ_cons, List.drop_zero, List.drop_nil, Rf.oI0, Rf.oI, Bool.not_true, Bool.not_false, wipeL, gV_nf nx, tx, luk_c, ex]
      exact ⟨trivial, by trivial⟩
    | i + 1, hd => simp at hd
  · obtain ⟨rfl, rfl⟩ := pp
    have sm : dSum (.ref 0) [.lst [D.int (a : Nat)]] = .ok (.int ((([a] : List Nat).sum : Nat) : Int)) [.lst [D.int (a : Nat)]] := sum_nats (l := [a]) rfl
    have e : ([D.int (a : Nat)] : List D).take ([x] : List D).length = [D.int (a : Nat)] := rfl
    rw [e]
    have ad : ∀ (i j : Int) (h : LH), dAdd (.int i) (.int j) h = .ok (.int (i + j)) h := fun _ _ _ => rfl
    simp only [Rf.okR_ok, Rf.okR_ex, Rf.okS_nx, Rf.okS_rt, Rf.okS_bk, Rf.okS_ct, Rf.okS_ex, Rf.okR_bind, Rf.okS_lift, Rf.okS_seq, Rf.okS_if, Rf.okS_ret, Rf.okS_drop, Rf.okS_set, Rf.okS_next, Rf.okS_retN, Rf.okS_brk, Rf.okS_cont, Rf.okS_raise, Rf.okR_fin, Rf.okR_bin, Rf.okR_test, Rf.okR_not, Rf.okR_and, Rf.okR_or, Rf.okR_andV, Rf.okR_orV, Rf.okR_notV, Rf.okR_mif, Rf.okR_C, Rf.okR_nil, Rf.okR_yes, Rf.okR_cons, Rf.okR_call, Rf.okR_callK, Rf.okR_tup, Rf.okR_lst, Rf.okR_fld, Rf.okR_meth, Rf.okR_make, Rf.okR_bm, Rf.okR_isi, Rf.okS_for, Rf.okR_lc, Rf.okR_anyD, Rf.okS_asg, Rf.okS_setFld, Rf.okR_V, Rf.okR_chain, Rf.okR_rng1, Rf.okR_rng2, Rf.okR_neg, Rf.okR_sl, Rf.okR_noPart, Rf.okR_part, Rf.okS_sub, Rf.okS_par, Rf.okR_enum, Rf.okR_dic0, Rf.okR_dic1, Rf.okS_try, Rf.okR_get1, Rf.okR_get2, Rf.okR_keys, Rf.okS_augFld, Rf.okR_setd, Rf.okR_dct, Rf.okR_sortSc2, Rf.okR_sortI, List.getElem?_cons_zero, List.getElem?_cons_succ, List.set_cons_zero, List.set_cons_succ, if_true, if_false, Bool.false_eq_true, reduceIte, reduceCtorEq, Rf.f1, Rf.gV_non, Rf.gV_bl, Rf.gV_int, Rf.gV_str, Rf.gV_tup, Rf.gV_ktp, Rf.gV_rol, Rf.gV_ref, Rf.gd0, Rf.gdA, List.cons_append, List.nil_append, List.append_nil, List.take_succ_cons, List.take_zero, List.take_nil, List.drop_succ_cons, List.drop_zero, List.drop_nil, Rf.oI0, Rf.oI, Bool.not_true, Bool.not_false, List.length_nil, sm, ad]
    congr 1
    simp only [List.sum_cons, List.sum_nil]; omega
theorem count_ok : ∀ (n : Nat) (f : Fm) (h : LH), f.dp ≤ n → M__law_count n [f.FD] h = .ok (.int (f.sz : Nat)) h := by
  intro n
  have pu : ∀ f : Fm, pureDs [f.FD] = true := fun f => by simp [pureDs, f.pure]
  have leaf : ∀ (m : SM), (m = b0__law_count ∨ ∃ rc, m = b1__law_count rc) → ∀ f : Fm, f.dp = 0 → @okR _ (fm 2 m [f.FD] []) ⟨fun d _ => d = .int (f.sz : Nat)⟩ ⟨fun _ _ => False⟩ := fun m hm f hl => by
    cases f with
    | non => rcases hm with rfl | ⟨rc, rfl⟩ <;> rfl
    | emp => rcases hm with rfl | ⟨rc, rfl⟩ <;> rfl
    | sg c => rcases hm with rfl | ⟨rc, rfl⟩ <;> rfl
    | _ => cases hl
  induction n with
  | zero => intro f h hd; exact runA_is h (pu f) (leaf _ (.inl rfl) f (by omega)) rfl
  | succ n ih =>
    intro f h hd
    cases f with
    | non => exact runA_is h (pu _) (leaf _ (.inr ⟨_, rfl⟩) _ rfl) rfl
    | emp => exact runA_is h (pu _) (leaf _ (.inr ⟨_, rfl⟩) _ rfl) rfl
    | sg c => exact runA_is h (pu _) (leaf _ (.inr ⟨_, rfl⟩) _ rfl) rfl
    | or a b =>
      simp only [Fm.dp] at hd
      exact runA_is h (pu _) (count_two a.nf b.nf (tg_F a) (tg_F b) (ih a [] (by omega)) (ih b [] (by omega))) rfl
    | bo a b =>
      simp only [Fm.dp] at hd
      exact runA_is h (pu _) (count_two a.nf b.nf (tg_F a) (tg_F b) (ih a [] (by omega)) (ih b [] (by omega))) rfl
    | sq a b =>
      simp only [Fm.dp] at hd
      exact runA_is h (pu _) (count_two a.nf b.nf (tg_F a) (tg_F b) (ih a [] (by omega)) (ih b [] (by omega))) rfl
    | an a =>
      simp only [Fm.dp] at hd
      exact runA_is h (pu _) (count_one a.nf (tg_F a) (ih a [] (by omega))) rfl
    | nt a =>
      simp only [Fm.dp] at hd
      exact runA_is h (pu _) (count_one a.nf (tg_F a) (ih a [] (by omega))) rfl
end Lw
set_option Elab.async false
set_option linter.all false
set_option maxRecDepth 100000
set_option maxHeartbeats 2000000
set_option autoImplicit false
namespace Lw
open PySem PySem.Spec L2 Rf
def isA (al : List Nat) : Prop := al = [97] ∨ al = [97, 98] ∨ al = [97, 98, 99] ∨ al = [120, 122]
theorem al_of {al : List Nat} (h : isA al) : Al al ∧ okT al = true ∧ 1 ≤ al.length ∧ al.length < 1000 := by
  rcases h with rfl | rfl | rfl | rfl
  · exact ⟨⟨fun h => runA_pure (h' := (match (fm 1 b_look_signs) [.str [97]] [] with | .ok _ g => g | _ => [])) rfl (by kernel_rfl) rfl, by decide, by decide, by decide⟩, by decide, by decide, by decide⟩
  · exact ⟨⟨fun h => runA_pure (h' := (match (fm 1 b_look_signs) [.str [97, 98]] [] with | .ok _ g => g | _ => [])) rfl (by kernel_rfl) rfl, by decide, by decide, by decide⟩, by decide, by decide, by decide⟩
  · exact ⟨⟨fun h => runA_pure (h' := (match (fm 1 b_look_signs) [.str [97, 98, 99]] [] with | .ok _ g => g | _ => [])) rfl (by kernel_rfl) rfl, by decide, by decide, by decide⟩, by decide, by decide, by decide⟩
  · exact ⟨⟨fun h => runA_pure (h' := (match (fm 1 b_look_signs) [.str [120, 122]] [] with | .ok _ g => g | _ => [])) rfl (by kernel_rfl) rfl, by decide, by decide, by decide⟩, by decide, by decide, by decide⟩
theorem is_ok (a : Bool) (h : LH) : m__law_is [.bl a, .bl a] h = .ok (.bl true) h := by
  cases a <;> kernel_rfl
theorem ne_bl (a : Bool) (h : LH) : dNe (.bl a) (.bl a) h = .ok (.bl false) h := by cases a <;> rfl
theorem law_true (ns : List Int) : ∃ h', m_law [.rol (ns.map D.int)] [] = .ok (.bl true) h' := by
  obtain ⟨row, hne, e0⟩ := town_ok ns
  have main : @okR _ (m_law [.rol (ns.map D.int)] []) ⟨fun d _ => d = .bl true⟩ ⟨fun _ _ => False⟩ := by
    show @okR _ (fin (b_law [some (.rol (ns.map D.int)), none, none, none, none, none, none, none, none, none] [])) ⟨_⟩ ⟨_⟩
    have et : m__law_town = townM := rfl
    have ep : m__law_pick = pickM := rfl
    have ed : m__law_draw = runA drawM := rfl
    have ew : m__law_word = wordM := rfl
    have nf : isFn (D.rol (ns.map D.int)) = false := rfl
    generalize D.rol (ns.map D.int) = x at e0 nf ⊢
    have T0 : Town [.lst [], .lst (row.map D.int), .lst [.ref 1, .int 0]] 2 1 row 0 := ⟨rfl, rfl, hne, by decide⟩
    generalize eh0 : [LO.lst [], .lst (row.map D.int), .lst [.ref 1, .int 0]] = h0 at e0 T0
    obtain ⟨j, y, h1, row1, hj, ea, T1, fr1, hl1⟩ := pickN T0 [.str [97], .str [97, 98], .str [97, 98], .str [97, 98], .str [97, 98, 99], .str [120, 122]] (by decide) (by decide)
    obtain ⟨al, rfl, iA⟩ : ∃ al, y = .str al ∧ isA al := by
      have := List.mem_of_getElem? hj
      simp only [List.mem_cons, List.not_mem_nil, or_false] at this
      unfold isA
      rcases this with rfl | rfl | rfl | rfl | rfl | rfl
      · exact ⟨_, rfl, .inl rfl⟩
      · exact ⟨_, rfl, .inr (.inl rfl)⟩
      · exact ⟨_, rfl, .inr (.inl rfl)⟩
      · exact ⟨_, rfl, .inr (.inl rfl)⟩
      · exact ⟨_, rfl, .inr (.inr (.inl rfl))⟩
      · exact ⟨_, rfl, .inr (.inr (.inr rfl))⟩
    obtain ⟨A, ha, al1, al2⟩ := al_of iA
    have ea' : m__law_alphabet [.ref 2] h0 = .ok (.str al) h1 := by
      refine okR_is ?_
      have z6 : ∀ a b c d e f : D, szOk ([a, b, c, d, e, f] : List D).length = true := fun _ _ _ _ _ _ => rfl
      show @okR _ (fin (b__law_alphabet [some (.ref 2)] h0)) ⟨_⟩ ⟨_⟩
      unfold b__law_alphabet
      simp only [Rf.okR_ok, Rf.okR_ex, Rf.okS_nx, Rf.okS_rt, Rf.okS_bk, Rf.okS_ct, Rf.okS_ex, Rf.okR_bind, Rf.okS_lift, Rf.okS_seq, Rf.okS_if, Rf.okS_ret, Rf.okS_drop, Rf.okS_set, Rf.okS_next, Rf.okS_retN, Rf.okS_brk, Rf.okS_cont, Rf.okS_raise, Rf.okR_fin, Rf.okR_bin, Rf.okR_test, Rf.okR_not, Rf.okR_and, Rf.okR_or, Rf.okR_andV, Rf.okR_orV, Rf.okR_notV, Rf.okR_mif, Rf.okR_C, Rf.okR_nil, Rf.okR_yes, Rf.okR_cons, Rf.okR_call, Rf.okR_callK, Rf.okR_tup, Rf.okR_lst, Rf.okR_fld, Rf.okR_meth, Rf.okR_make, Rf.okR_bm, Rf.okR_isi, Rf.okS_for, Rf.okR_lc, Rf.okR_any, Rf.okS_asg, Rf.okS_setFld, Rf.okR_V, Rf.okR_chain, Rf.okR_rng1, Rf.okR_rng2, Rf.okR_neg, Rf.okR_sl, Rf.okR_noPart, Rf.okR_part, Rf.okS_sub, Rf.okS_par, List.getElem?_cons_zero, List.getElem?_cons_succ, List.set_cons_zero, List.set_cons_succ, if_true, if_false, Bool.false_eq_true, reduceIte, reduceCtorEq, Rf.tgOf, Rf.luk_c, Rf.f1, Rf.gV_non, Rf.gV_bl, Rf.gV_int, Rf.gV_str, Rf.gV_tup, Rf.gV_ktp, Rf.gV_rol, Rf.gV_ref, Rf.gd0, Rf.gdA, List.cons_append, List.nil_append, List.append_nil, List.take_succ_cons, List.take_zero, List.take_nil, List.drop_succ_cons, List.drop_zero, List.drop_nil, Rf.oI0, Rf.oI, Bool.not_true, Bool.not_false, z6, ep, ea]
      exact ⟨trivial, trivial⟩
    obtain ⟨f, h2, row2, c2, ef, sf, df, T2, fr2⟩ := form_drawn al1 al2 6 4 h1 row1 _ (by decide) T1
    have ef' : m__law_form [.ref 2, .str al, .int 4] h1 = .ok f.FD h2 := ef
    have fsz : f.sz ≤ 31 := by have := Fm.sz_le df; omega
    have isf := is_form_ok A ha sf (by omega : f.dp ≤ 60) (by omega : f.sz ≤ 2000)
    have szo := size_ok A ha sf (by omega : f.dp ≤ 60) (by omega : f.sz ≤ 2000)
    have cnt : ∀ h, m__law_count [f.FD] h = .ok (.int (f.sz : Nat)) h := fun h => count_ok 8 f h (by omega)
    have nn : ∀ h : LH, dNotN (.bl true) (.bl true) h = .ok (.bl false) h := fun h => rfl
    have nz : ∀ h : LH, dNe (.int (f.sz : Nat)) (.int (f.sz : Nat)) h = .ok (.bl false) h := fun h => by simp only [dNe, eqD, eqS, decide_true]; rfl
    have trn := turned_form_ok A ha sf (by omega : f.dp ≤ 8) (by omega : f.sz ≤ 2000)
    obtain ⟨tsz, tdp⟩ := f.trn_sz
    have r14 : ∀ h : LH, rngK [.int 14] h = .ok (liRange 0 14) h := fun h => rngK_nat (n := 14) (by decide)
    unfold b_law s_law_0 s_law_1 s_law_2 s_law_3 s_law_4 s_law_5
    simp only [Rf.okR_ok, Rf.okR_ex, Rf.okS_nx, Rf.okS_rt, Rf.okS_bk, Rf.okS_ct, Rf.okS_ex, Rf.okR_bind, Rf.okS_lift, Rf.okS_seq, Rf.okS_if, Rf.okS_ret, Rf.okS_drop, Rf.okS_set, Rf.okS_next, Rf.okS_retN, Rf.okS_brk, Rf.okS_cont, Rf.okS_raise, Rf.okR_fin, Rf.okR_bin, Rf.okR_test, Rf.okR_not, Rf.okR_and, Rf.okR_or, Rf.okR_andV, Rf.okR_orV, Rf.okR_notV, Rf.okR_mif, Rf.okR_C, Rf.okR_nil, Rf.okR_yes, Rf.okR_cons, Rf.okR_call, Rf.okR_callK, Rf.okR_tup, Rf.okR_lst, Rf.okR_fld, Rf.okR_meth, Rf.okR_make, Rf.okR_bm, Rf.okR_isi, Rf.okS_for, Rf.okR_lc, Rf.okR_anyD, Rf.okS_asg, Rf.okS_setFld, Rf.okR_V, Rf.okR_chain, Rf.okR_rng1, Rf.okR_rng2, Rf.okR_neg, Rf.okR_sl, Rf.okR_noPart, Rf.okR_part, Rf.okS_sub, Rf.okS_par, Rf.okR_enum, Rf.okR_dic0, Rf.okR_dic1, Rf.okS_try, Rf.okR_get1, Rf.okR_get2, Rf.okR_keys, Rf.okS_augFld, Rf.okR_setd, Rf.okR_dct, Rf.okR_sortSc2, Rf.okR_sortI, List.getElem?_cons_zero, List.getElem?_cons_succ, List.set_cons_zero, List.set_cons_succ, if_true, if_false, Bool.false_eq_true, reduceIte, reduceCtorEq, Rf.f1, Rf.gV_non, Rf.gV_bl, Rf.gV_int, Rf.gV_str, Rf.gV_tup, Rf.gV_ktp, Rf.gV_rol, Rf.gV_ref, Rf.gd0, Rf.gdA, List.cons_append, List.nil_append, List.append_nil, List.take_succ_cons, List.take_zero, List.take_nil, List.drop_succ_cons, List.drop_zero, List.drop_nil, Rf.oI0, Rf.oI, Bool.not_true, Bool.not_false, gV_nf nf, et, e0, ea', ef', gV_nf f.nf, isf, nn, szo, cnt, nz, trn, r14]
    clear isf szo cnt nz trn
    refine ok_for ((List.range 14).map fun (k : Nat) => D.int (k : Nat)) (fun i ls h' => ∃ (y5 y6 y7 y8 y9 : Option D) (row' : List Int) (c' : Int), ls = [some x, some (.ref 2), some (.str al), some f.FD, some f.trn.FD, y5, y6, y7, y8, y9] ∧ Town h' 2 1 row' c')
      ⟨_, _, _, _, _, row2, c2, rfl, T2⟩ (by decide) (fun i ls h' pp => by
        unfold liRange itm
        by_cases hi : i < 14
        · simp only [hi, if_true, List.getElem?_map, List.getElem?_range hi, Option.map_some, Int.zero_add]
        · have : (List.map (fun (k : Nat) => D.int (k : Nat)) (List.range 14))[i]? = none := by rw [List.getElem?_eq_none]; simp; omega
          simp only [hi, if_false, this]) (fun i d ls h' hd pp => ?_) (fun ls h' pp => ?_)
    · obtain ⟨y5, y6, y7, y8, y9, row', c', hls, T'⟩ := pp
      rw [hls]
      refine ⟨_, rfl, ?_⟩
      obtain ⟨w, h3, row3, c3, hwa, hwl, e3, T3, fr3⟩ := wordF (most := 7) T' al1 (by omega) (by decide) (by decide)
      have wl : w.length ≤ 7 := by omega
      have zl : szOk w.length = true := szOk_small (by omega)
      have ln : ∀ h : LH, dLen (.str w) h = .ok (.int (w.length : Nat)) h := fun h => by simp only [dLen, zl, if_true]
      obtain ⟨b, hb, ib⟩ : ∃ b : Bool, (∀ h, m__law_has [f.FD, .str w] h = .ok (.bl b) h) ∧ (b = true ↔ f.L w) := by
        obtain ⟨b, _, ib⟩ := has_ok (w := w) (by omega) (f := f) (by omega) []
        refine ⟨b, fun h => ?_, ib⟩
        obtain ⟨b', e', ib'⟩ := has_ok (w := w) (by omega) (f := f) (by omega) h
        rw [e', show b' = b from by rw [Bool.eq_iff_iff, ib', ib]]
      have ft := fits_ok A ha sf df (w := w) (by omega) hwa
      have hee : (Fm.afts w f).he = b := by
        rw [Bool.eq_iff_iff, Fm.he_iff, Fm.afts_L, List.append_nil, ib]
      rw [hee] at ft
      have mn : ∀ h : LH, dMin2 [.int (w.length : Nat), .int 2] h = .ok (.int ((min w.length 2 : Nat) : Int)) h := fun h => by
        show R.ok (D.int (if (2 : Int) < ((w.length : Nat) : Int) then 2 else ((w.length : Nat) : Int))) h = _
        congr 2
        split <;> omega
      have ad : ∀ (i j : Int) (h : LH), dAdd (.int i) (.int j) h = .ok (.int (i + j)) h := fun _ _ _ => rfl
      obtain ⟨c, h4, row4, hc, e4, T4, fr4, _⟩ := drawF (n := ((min w.length 2 : Nat) : Int) + 1) T3 (by omega) (by omega)
      have cl : c ≤ w.length ∧ c ≤ 2 := by omega
      have s1 : ∀ h : LH, dSl (.str w) none (some ((c : Nat) : Int)) h = .ok (.str (w.take c)) h := fun h => by
        simp only [dSl, zl, if_true, cut_to]
      have s2 : ∀ h : LH, dSl (.str w) (some ((c : Nat) : Int)) none h = .ok (.str (w.drop c)) h := fun h => by
        simp only [dSl, zl, if_true, cut_from w cl.1]
      have tl : (w.take c).length ≤ 2 := by rw [List.length_take]; omega
      have dl : (w.drop c).length ≤ 7 := by rw [List.length_drop]; omega
      have rf := rest_form_ok A ha sf df (w := w.take c) (by omega) (fun u hu => hwa u (List.mem_of_mem_take hu))
      have gS := Fm.afts_Sg (w.take c) f sf
      have gd := Fm.rest_dp (w := w.take c) df (by omega)
      have gz := Fm.rest_sz (w := w.take c) df tl
      have isg := is_form_ok A ha gS (by omega) gz
      have gnf := (Fm.afts (w.take c) f).nf
      have hb2 : ∀ h, m__law_has [(Fm.afts (w.take c) f).FD, .str (w.drop c)] h = .ok (.bl b) h := fun h => by
        obtain ⟨b', e', ib'⟩ := has_ok (w := w.drop c) (by omega) (f := Fm.afts (w.take c) f) (by omega) h
        rw [e', show b' = b from by rw [Bool.eq_iff_iff, ib', ib, Fm.afts_L, List.take_append_drop]]
      have rvl : (w.reverse).length ≤ 50 := by rw [List.length_reverse]; omega
      have hb3 : ∀ h, m__law_has [f.trn.FD, .str w.reverse] h = .ok (.bl b) h := fun h => by
        obtain ⟨b', e', ib'⟩ := has_ok (w := w.reverse) rvl (f := f.trn) (by omega) h
        rw [e', show b' = b from by rw [Bool.eq_iff_iff, ib', ib, Fm.trn_L, List.reverse_reverse]]
      unfold s_law_5_b
      simp only [Rf.okR_ok, Rf.okR_ex, Rf.okS_nx, Rf.okS_rt, Rf.okS_bk, Rf.okS_ct, Rf.okS_ex, Rf.okR_bind, Rf.okS_lift, Rf.okS_seq, Rf.okS_if, Rf.okS_ret, Rf.okS_drop, Rf.okS_set, Rf.okS_next, Rf.okS_retN, Rf.okS_brk, Rf.okS_cont, Rf.okS_raise, Rf.okR_fin, Rf.okR_bin, Rf.okR_test, Rf.okR_not, Rf.okR_and, Rf.okR_or, Rf.okR_andV, Rf.okR_orV, Rf.okR_notV, Rf.okR_mif, Rf.okR_C, Rf.okR_nil, Rf.okR_yes, Rf.okR_cons, Rf.okR_call, Rf.okR_callK, Rf.okR_tup, Rf.okR_lst, Rf.okR_fld, Rf.okR_meth, Rf.okR_make, Rf.okR_bm, Rf.okR_isi, Rf.okS_for, Rf.okR_lc, Rf.okR_anyD, Rf.okS_asg, Rf.okS_setFld, Rf.okR_V, Rf.okR_chain, Rf.okR_rng1, Rf.okR_rng2, Rf.okR_neg, Rf.okR_sl, Rf.okR_noPart, Rf.okR_part, Rf.okS_sub, Rf.okS_par, Rf.okR_enum, Rf.okR_dic0, Rf.okR_dic1, Rf.okS_try, Rf.okR_get1, Rf.okR_get2, Rf.okR_keys, Rf.okS_augFld, Rf.okR_setd, Rf.okR_dct, Rf.okR_sortSc2, Rf.okR_sortI, List.getElem?_cons_zero, List.getElem?_cons_succ, List.set_cons_zero, List.set_cons_succ, if_true, if_false, Bool.false_eq_true, reduceIte, reduceCtorEq, Rf.f1, Rf.gV_non, Rf.gV_bl, Rf.gV_int, Rf.gV_str, Rf.gV_tup, Rf.gV_ktp, Rf.gV_rol, Rf.gV_ref, Rf.gd0, Rf.gdA, List.cons_append, List.nil_append, List.append_nil, List.take_succ_cons, List.take_zero, List.take_nil, List.drop_succ_cons, List.drop_zero, List.drop_nil, Rf.oI0, Rf.oI, Bool.not_true, Bool.not_false, ew, e3, gV_nf f.nf, hb, ft, is_ok, ln, mn, ad, ed, e4, s1, rf, gV_nf gnf, isg, nn, s2, hb2, ne_bl, gV_nf f.trn.nf, okR_revS, zl, hb3]
      exact ⟨_, _, _, _, _, row4, _, rfl, T4⟩
    · obtain ⟨y5, y6, y7, y8, y9, row', c', hls, T'⟩ := pp
      rw [hls]
      unfold s_law_6
      simp only [Rf.okR_ok, Rf.okR_ex, Rf.okS_nx, Rf.okS_rt, Rf.okS_bk, Rf.okS_ct, Rf.okS_ex, Rf.okR_bind, Rf.okS_lift, Rf.okS_seq, Rf.okS_if, Rf.okS_ret, Rf.okS_drop, Rf.okS_set, Rf.okS_next, Rf.okS_retN, Rf.okS_brk, Rf.okS_cont, Rf.okS_raise, Rf.okR_fin, Rf.okR_bin, Rf.okR_test, Rf.okR_not, Rf.okR_and, Rf.okR_or, Rf.okR_andV, Rf.okR_orV, Rf.okR_notV, Rf.okR_mif, Rf.okR_C, Rf.okR_nil, Rf.okR_yes, Rf.okR_cons, Rf.okR_call, Rf.okR_callK, Rf.okR_tup, Rf.okR_lst, Rf.okR_fld, Rf.okR_meth, Rf.okR_make, Rf.okR_bm, Rf.okR_isi, Rf.okS_for, Rf.okR_lc, Rf.okR_anyD, Rf.okS_asg, Rf.okS_setFld, Rf.okR_V, Rf.okR_chain, Rf.okR_rng1, Rf.okR_rng2, Rf.okR_neg, Rf.okR_sl, Rf.okR_noPart, Rf.okR_part, Rf.okS_sub, Rf.okS_par, Rf.okR_enum, Rf.okR_dic0, Rf.okR_dic1, Rf.okS_try, Rf.okR_get1, Rf.okR_get2, Rf.okR_keys, Rf.okS_augFld, Rf.okR_setd, Rf.okR_dct, Rf.okR_sortSc2, Rf.okR_sortI, List.getElem?_cons_zero, List.getElem?_cons_succ, List.set_cons_zero, List.set_cons_succ, if_true, if_false, Bool.false_eq_true, reduceIte, reduceCtorEq, Rf.f1, Rf.gV_non, Rf.gV_bl, Rf.gV_int, Rf.gV_str, Rf.gV_tup, Rf.gV_ktp, Rf.gV_rol, Rf.gV_ref, Rf.gd0, Rf.gdA, List.cons_append, List.nil_append, List.append_nil, List.take_succ_cons, List.take_zero, List.take_nil, List.drop_succ_cons, List.drop_zero, List.drop_nil, Rf.oI0, Rf.oI, Bool.not_true, Bool.not_false]
  obtain ⟨d, h', e, rfl⟩ := okR_eq main
  exact ⟨h', e⟩
end Lw
set_option Elab.async false
set_option linter.all false
set_option maxRecDepth 100000
set_option maxHeartbeats 0
namespace Lw
open PySem PySem.Spec PyProof.Rows L2 Rf
theorem facts {P : Program} {w : World} {K : PySem.W.Frag} {h : Heap} {mg : Str → Option Value} {f : Addr} (X : K.In h) (G : h.Ns mainGlobals mg) (hfa : mg ("law" : Str) = some (.ref f)) (S : SaysT fx fa fn tf h K) :
    ∃ fd : FuncData, (∀ (s : Shared) (v : Value), BindsTo s fd ⟨[v], []⟩ [("script", v)]) ∧ ∀ base : Heap, (∀ p ∈ tf.map (He.cT K), LamX.TabB base mg p.1 p.2) → FnRef P w K mg base 128 f fd ["script"] m_law := by
  obtain ⟨fd, F⟩ := S.c.def_ 28 (d := d_law) rfl
  have F : FunD K (Str.ofString "law") (Str.ofString "law") (defArgs st_law) (defBody st_law) (defScope st_law) [] [] (He.ga K (Str.ofString "law")) fd := F
  have b := FunD.bindsA (ps := ["script"]) F fun _ _ _ _ _ _ us hl => match us, hl with | [_], _ => rfl
  refine ⟨fd, fun s v => b s [v] rfl, fun base TB => ?_⟩
  have hh : Fc fx fa fn K mg base := fc_of S X G TB
  have ef := hfa.symm.trans (hh.glo 51)
  cases ef
  exact fr_law (P := P) (w := w) (base := base) hh F
end Lw
open PySem PySem.W PySem.Calls PyProof.Rows
theorem PySem.Challenge.cw_signworks_k03_whole_fits_holds : PySem.Challenge.rw_signworks_k03_whole_fits.Holds := by
  w_on; o_law
  refine HandSHeadRun.head_any (r := OpenLaw.row PySem.Challenge.rw_signworks_k03_whole_fits) (q := view (OpenLaw.row PySem.Challenge.rw_signworks_k03_whole_fits).prog [45]) (H := Lw.hk) (ob := Lw.ob) (M := 20000) (loose := Lw.names) (d := HandSHeadRun.topDef (OpenLaw.row PySem.Challenge.rw_signworks_k03_whole_fits).prog 45) (kwd := []) Lw.ob_eq
    (by kernel_rfl) (fun s => by kernel_rfl) Lw.run (by kernel_rfl) (by kernel_rfl) (by kernel_rfl) (by rfl) (by first | assumption | decide +kernel) (by decide +kernel) ⟨rfl, rfl, rfl, rfl, rfl, by decide +kernel⟩ ?hw ?hc
  case hw => w_witness2
  case hc =>
    refine LamX.walk_ofTsE (l := PySem.Challenge.rw_signworks_k03_whole_fits) (n := 63) (k := 128) (x := "script") (CX := fun _ => Rf.CXn) rfl (by decide) (by kernel_rfl) ⟨rfl, by decide, by decide⟩ ?F (fun _ _ _ _ _ z => z)
    intro w mg fa h Y G hmg0
    obtain ⟨K, KX, S⟩ := Y
    have hmg : mg ("law" : PySem.Str) = some (.ref fa) := by
      have e : (HandSHeadRun.topDef (OpenLaw.row PySem.Challenge.rw_signworks_k03_whole_fits).prog 45).name = ("law" : PySem.Str) := by kernel_rfl
      rw [← e]
      exact hmg0
    obtain ⟨fd, hb, hF⟩ := Lw.facts (P := (PySem.Challenge.rw_signworks_k03_whole_fits).prog) (w := w) KX G hmg S
    exact ⟨K, KX, Rf.law_at KX S hb hF Lw.law_true⟩
