import PyProof.Rows.All
import Wide.All
import OpenK.AllK
import Wide.FinOn
import KE.OsRunLaw
import PySem.Challenge.RW_ownletters_k04_errors_made
import HandS.ForMost
import HandS.Exc
import HandS.TupAny
import HandS.WideBits
import HandS.TupLe
import HandS.Deep
import HandS.IsInst
import HandS.RaiseMore
import HandS.WordsExc
import HandS.CallSlots
import HandS.EndBits
import HandS.Conv
import HandS.More
import HandS.Text
import PyProof.ListStr
import HandS.TupMul
import HandS.Small
import HandS.Words
import HandS.Codes
import PyProof.ReprLen
import HandS.StrMore
import HandS.Style
import PyProof.SliceStr2
import PyProof.StrLawsIn
import HandS.Star
import HandS.Property
import HandS.ClsMeth
import HandS.ExcInit
import HandS.ExcField
import HandS.TryOnly
import HandS.Zip
import HandS.NoneIn
import HandS.SetFor
import HandS.Strs
import HandS.Flow
import HandS.DictComp
import HandS.ListItems
import KE.KOpsOwn
import KE.KDictList
import HandS.Finally
import KE.KDictZip
import KE.KTurns
import HandS.Set
import HandS.List
import PyProof.Rows.SortShellAny
import HandS.GenCall
import HandS.GenList
import KE.LtSeq
import KE.GoesMore
import HandS.Iter
import HandS.Defaults
import OpenK.KMeth
import PyProof.TupleOfStr
import HandS.TryMany
import HandS.HotCalls
import HandS.ExcIs
import KE.KExcIs
import HandS.SortRule
import KE.KSortTupAny
import HandS.SetKeys
import KE.GoesZip
set_option Elab.async false
set_option linter.all false
set_option maxRecDepth 100000
set_option maxHeartbeats 4000000
namespace L2.DL
section
local macro_rules | `(tactic| k_head) => `(tactic| k_headL)
open PySem PySem.W PyProof.Rows in
set_option maxHeartbeats 0 in
open_top head for PySem.Challenge.rw_ownletters_k04_errors_made
end
end L2.DL
/-! DLa: data trees over the hand layer: trees, what stands for them, the state relation. -/
namespace L2.DL
open PySem PySem.Spec PyProof.Rows
abbrev Txt := List Nat
def sV (s : Txt) : Str := ⟨s.toArray⟩
theorem sV_inj {s t : Txt} (h : sV s = sV t) : s = t := by
  unfold sV at h
  have : s.toArray = t.toArray := congrArg Str.cps h
  simpa using congrArg Array.toList this
theorem sV_cps (s : Txt) : (sV s).cps.toList = s := by simp [sV]
theorem sV_len (s : Txt) : (sV s).length = s.length := by simp [sV, Str.length]
theorem sV_of (x : Str) : sV x.cps.toList = x := by cases x; simp [sV]
abbrev DK := Sum Int Txt
def kOf : DK → Key
  | .inl i => .inl i
  | .inr s => .inr (sV s)
theorem kOf_inj {a b : DK} (h : kOf a = kOf b) : a = b := by
  cases a <;> cases b <;> simp [kOf] at h
  · rw [h]
  · rw [sV_inj h]
/-- data trees -/
inductive D where
  | non | bl (b : Bool) | int (i : Int) | str (s : Txt)
  | tup (xs : List D) | lst (xs : List D) | dct (kvs : List (DK × D))
  | obj (C : Addr) (fs : List (Str × D))
  | cell (a : Addr) | ty (n : String) | scr (ns : List Int)
  | exc (a C dd : Addr) (fs : List (Str × D))
  | tupT (ts : List Txt)
  | kt
  deriving Inhabited
/-- a tuple: as it was laid, or its object told -/
def TupA (H : Hp) (a : Addr) (vs : List V) : Prop := H a = some (.tup vs) ∨ ∃ o : Obj, o.dict = none ∧ H a = some (.frz o (.tup vs))
theorem TupA.same {H H' : Hp} {a : Addr} {vs : List V} (s : Same H H') (h : TupA H a vs) : TupA H' a vs := by
  rcases h with h | ⟨o, d, h⟩
  · exact .inl (s _ _ h)
  · exact .inr ⟨o, d, s _ _ h⟩
/-- the empty tuple that stands in the text (a default) -/
def KT0 (K : PySem.W.Frag) (a : Addr) : Prop := ∃ (o : Obj) (n : Nat), K.lookup a = some o ∧ o.cls = .type "tuple" ∧ o.data = .seq #[] n
theorem KT0.sq {K : PySem.W.Frag} {H : Hp} {a : Addr} (h : KT0 K a) : SqT K H a [] := by
  obtain ⟨o, n, h1, h2, h3⟩ := h
  exact .inr ⟨o, #[], n, h1, h2, h3, Nat.zero_le _, .nil⟩
theorem TupA.sq {K : PySem.W.Frag} {H H' : Hp} {a : Addr} {vs : List V} (s : Same H H') (h : TupA H a vs) : SqT K H' a vs := by
  rcases h with h | ⟨o, d, h⟩
  · exact .inl (.inl (s _ _ h))
  · exact .inl (.inr ⟨o, s _ _ h⟩)
mutual
/-- in the part H of the heap that stays, v is the tree d -/
inductive Rep (K : PySem.W.Frag) (H : Hp) : D → V → Prop
  | non : Rep K H .non .non
  | bl (b : Bool) : Rep K H (.bl b) (.bl b)
  | int (i : Int) : Rep K H (.int i) (.int i)
  | str (s : Txt) : Rep K H (.str s) (.str (sV s))
  | tup {xs : List D} {a : Addr} {vs : List V} : TupA H a vs → RepL K H xs vs → Rep K H (.tup xs) (.ref a)
  | lst {xs : List D} {a : Addr} {vs : List V} : H a = some (.lst vs) → RepL K H xs vs → Rep K H (.lst xs) (.ref a)
  | dct {kvs : List (DK × D)} {a : Addr} {ws : List (Key × V)} : Rd H a (.dK ws) → RepKV K H kvs ws → Rep K H (.dct kvs) (.ref a)
  | obj {C a dx : Addr} {fs : List (Str × D)} {ws : List (Str × V)} : H a = some (.ins C dx ws) → RepF K H fs ws → Rep K H (.obj C fs) (.ref a)
  | cell (a : Addr) : Rep K H (.cell a) (.ref a)
  | ty (n : String) : Rep K H (.ty n) (.ty n)
  | scr {ns : List Int} {a : Addr} : SqL K H a (ns.map V.int) → Rep K H (.scr ns) (.ref a)
  | exc {a C dd : Addr} {fs : List (Str × D)} {ws : List (Str × V)} : H dd = some (.xd ws) → RepF K H fs ws → Rep K H (.exc a C dd fs) (.ref a)
  | tupT {ts : List Txt} {a : Addr} {o : Obj} : o.dict = none → H a = some (.frz o (.tup ((ts.map sV).map V.str))) → Rep K H (.tupT ts) (.ref a)
  | kt {a : Addr} : KT0 K a → Rep K H .kt (.ref a)
inductive RepL (K : PySem.W.Frag) (H : Hp) : List D → List V → Prop
  | nil : RepL K H [] []
  | cons {d : D} {v : V} {ds : List D} {vs : List V} : Rep K H d v → RepL K H ds vs → RepL K H (d :: ds) (v :: vs)
inductive RepKV (K : PySem.W.Frag) (H : Hp) : List (DK × D) → List (Key × V) → Prop
  | nil : RepKV K H [] []
  | cons {k : DK} {d : D} {v : V} {ds : List (DK × D)} {vs : List (Key × V)} : Rep K H d v → RepKV K H ds vs → RepKV K H ((k, d) :: ds) ((kOf k, v) :: vs)
inductive RepF (K : PySem.W.Frag) (H : Hp) : List (Str × D) → List (Str × V) → Prop
  | nil : RepF K H [] []
  | cons {k : Str} {d : D} {v : V} {ds : List (Str × D)} {vs : List (Str × V)} : Rep K H d v → RepF K H ds vs → RepF K H ((k, d) :: ds) ((k, v) :: vs)
end
/-- one part of the heap reads as another does -/
structure Le (K : PySem.W.Frag) (H H' : Hp) : Prop where
  tup : ∀ a vs, TupA H a vs → TupA H' a vs
  lst : ∀ a vs, H a = some (.lst vs) → H' a = some (.lst vs)
  dct : ∀ a ws, Rd H a (.dK ws) → Rd H' a (.dK ws)
  obj : ∀ a C dx ws, H a = some (.ins C dx ws) → H' a = some (.ins C dx ws)
  scr : ∀ a vs, SqL K H a vs → SqL K H' a vs
  xd : ∀ a ws, H a = some (.xd ws) → H' a = some (.xd ws)
  tx : ∀ a o vs, H a = some (.frz o (.tup vs)) → H' a = some (.frz o (.tup vs))
theorem Same.rd {H H' : Hp} {a : Addr} {u : HO} (s : Same H H') (h : Rd H a u) : Rd H' a u := by
  rcases h with h | ⟨o, h⟩
  · exact .inl (s _ _ h)
  · exact .inr ⟨o, s _ _ h⟩
theorem Le.of {K : PySem.W.Frag} {H H' : Hp} (s : Same H H') : Le K H H' :=
  ⟨fun _ _ h => TupA.same s h, fun _ _ h => s _ _ h, fun _ _ h => Same.rd s h, fun _ _ _ _ h => s _ _ h, fun _ _ h => s.seq h, fun _ _ h => s _ _ h, fun _ _ _ h => s _ _ h⟩
theorem Le.trans {K : PySem.W.Frag} {A B C : Hp} (h : Le K A B) (g : Le K B C) : Le K A C := ⟨fun a vs q => g.tup a vs (h.tup a vs q), fun a vs q => g.lst a vs (h.lst a vs q), fun a vs q => g.dct a vs (h.dct a vs q), fun a c dx vs q => g.obj a c dx vs (h.obj a c dx vs q), fun a vs q => g.scr a vs (h.scr a vs q), fun a vs q => g.xd a vs (h.xd a vs q), fun a o vs q => g.tx a o vs (h.tx a o vs q)⟩
section
variable {K : PySem.W.Frag} {H H' : Hp}
mutual
theorem Rep.le (l : Le K H H') : ∀ {d : D} {v : V}, Rep K H d v → Rep K H' d v
  | _, _, .non => .non
  | _, _, .bl b => .bl b
  | _, _, .int i => .int i
  | _, _, .str s => .str s
  | _, _, .tup h r => .tup (l.tup _ _ h) (RepL.le l r)
  | _, _, .lst h r => .lst (l.lst _ _ h) (RepL.le l r)
  | _, _, .dct h r => .dct (l.dct _ _ h) (RepKV.le l r)
  | _, _, .obj h r => .obj (l.obj _ _ _ _ h) (RepF.le l r)
  | _, _, .cell a => .cell a
  | _, _, .ty n => .ty n
  | _, _, .scr h => .scr (l.scr _ _ h)
  | _, _, .exc h r => .exc (l.xd _ _ h) (RepF.le l r)
  | _, _, .tupT d h => .tupT d (l.tx _ _ _ h)
  | _, _, .kt h => .kt h
theorem RepL.le (l : Le K H H') : ∀ {d : List D} {v : List V}, RepL K H d v → RepL K H' d v
  | _, _, .nil => .nil
  | _, _, .cons h r => .cons (Rep.le l h) (RepL.le l r)
theorem RepKV.le (l : Le K H H') : ∀ {d : List (DK × D)} {v : List (Key × V)}, RepKV K H d v → RepKV K H' d v
  | _, _, .nil => .nil
  | _, _, .cons h r => .cons (Rep.le l h) (RepKV.le l r)
theorem RepF.le (l : Le K H H') : ∀ {d : List (Str × D)} {v : List (Str × V)}, RepF K H d v → RepF K H' d v
  | _, _, .nil => .nil
  | _, _, .cons h r => .cons (Rep.le l h) (RepF.le l r)
end
theorem Rep.same {d : D} {v : V} (r : Rep K H d v) (s : Same H H') : Rep K H' d v := r.le (Le.of s)
theorem RepL.same {d : List D} {v : List V} (r : RepL K H d v) (s : Same H H') : RepL K H' d v := r.le (Le.of s)
theorem RepKV.same {d : List (DK × D)} {v : List (Key × V)} (r : RepKV K H d v) (s : Same H H') : RepKV K H' d v := r.le (Le.of s)
theorem RepF.same {d : List (Str × D)} {v : List (Str × V)} (r : RepF K H d v) (s : Same H H') : RepF K H' d v := r.le (Le.of s)
theorem RepL.length : ∀ {d : List D} {v : List V}, RepL K H d v → d.length = v.length
  | _, _, .nil => rfl
  | _, _, .cons _ r => by simp [RepL.length r]
theorem RepL.get' : ∀ {ds : List D} {vs : List V} {i : Nat} {d : D}, RepL K H ds vs → ds[i]? = some d → ∃ v, vs[i]? = some v ∧ Rep K H d v
  | _, _, _, _, .nil, e => by simp at e
  | _, _, 0, _, .cons h _, e => by simp at e; subst e; exact ⟨_, rfl, h⟩
  | _, _, i + 1, _, .cons _ r, e => by
    obtain ⟨d, h1, h2⟩ := RepL.get' (i := i) r (by simpa using e)
    exact ⟨d, by simpa using h1, h2⟩
theorem RepL.append : ∀ {ds es : List D} {vs ws : List V}, RepL K H ds vs → RepL K H es ws → RepL K H (ds ++ es) (vs ++ ws)
  | _, _, _, _, .nil, s => s
  | _, _, _, _, .cons h r, s => .cons h (RepL.append r s)
theorem RepL.take : ∀ {ds : List D} {vs : List V} (n : Nat), RepL K H ds vs → RepL K H (ds.take n) (vs.take n)
  | _, _, 0, _ => by simp; exact .nil
  | _, _, _ + 1, .nil => .nil
  | _, _, n + 1, .cons h r => .cons h (RepL.take n r)
theorem RepL.drop : ∀ {ds : List D} {vs : List V} (n : Nat), RepL K H ds vs → RepL K H (ds.drop n) (vs.drop n)
  | _, _, 0, r => r
  | _, _, _ + 1, .nil => .nil
  | _, _, n + 1, .cons _ r => RepL.drop n r
theorem RepL.set : ∀ {ds : List D} {vs : List V} (n : Nat) {d : D} {v : V}, RepL K H ds vs → Rep K H d v → RepL K H (ds.set n d) (vs.set n v)
  | _, _, _, _, _, .nil, _ => .nil
  | _, _, 0, _, _, .cons _ r, q => .cons q r
  | _, _, n + 1, _, _, .cons h r, q => .cons h (RepL.set n r q)
theorem RepL.eraseIdx : ∀ {ds : List D} {vs : List V} (n : Nat), RepL K H ds vs → RepL K H (ds.eraseIdx n) (vs.eraseIdx n)
  | _, _, _, .nil => .nil
  | _, _, 0, .cons _ r => r
  | _, _, n + 1, .cons h r => .cons h (RepL.eraseIdx n r)
theorem RepL.dropLast : ∀ {ds : List D} {vs : List V}, RepL K H ds vs → RepL K H ds.dropLast vs.dropLast
  | _, _, .nil => .nil
  | _, _, .cons _ .nil => .nil
  | _, _, .cons h (.cons h' r) => .cons h (RepL.dropLast (.cons h' r))
end
/-! ### cells, own slots -/
inductive Cell where
  | pur (tab : Bool) | lst (xs : List D) | dct (kvs : List (DK × D)) | obj (C : Addr) (fs : List (Str × D))
  /-- a table that is walked: it is read alone meanwhile -/
  | lck (o : Obj) (ws : List (Key × V)) (kvs : List (DK × D))
  /-- a thing told by what is true of its object -/
  | ext (φ : PySem.W.Frag → Hp → HO → Prop)
abbrev Cs := Addr → Option Cell
def cput (C : Cs) (a : Addr) (c : Cell) : Cs := fun b => if b = a then some c else C b
theorem cput_same {C : Cs} {a : Addr} {c : Cell} : cput C a c a = some c := by unfold cput; rw [if_pos rfl]
theorem cput_ne {C : Cs} {a b : Addr} {c : Cell} (h : b ≠ a) : cput C a c b = C b := by unfold cput; rw [if_neg h]
/-- a source of draws, a table or a list: what it holds is not told -/
def PurO : Bool → HO → Prop
  | true, o => ∃ i j : Int, 0 ≤ j ∧ j < 4294967296 ∧ o = .dK [(.inr (sV [100, 105, 103, 105, 116, 115]), .int i), (.inr (sV [109, 105, 120, 101, 100]), .int j)]
  | false, o => ∃ i j : Int, 0 ≤ j ∧ j < 4294967296 ∧ o = .lst [.int i, .int j]
inductive Cont where
  | lst (xs : List D) | dct (kvs : List (DK × D)) | obj (C : Addr) (fs : List (Str × D))
@[reducible] def Cont.d : Cont → D
  | .lst xs => .lst xs
  | .dct kvs => .dct kvs
  | .obj C fs => .obj C fs
def RepC (K : PySem.W.Frag) (Hs : Hp) : Cell → HO → Prop
  | .pur b, o => PurO b o
  | .lst xs, o => ∃ vs, o = .lst vs ∧ RepL K Hs xs vs
  | .dct kvs, o => ∃ ws, o = .dK ws ∧ RepKV K Hs kvs ws
  | .obj C fs, o => ∃ dx ws, o = .ins C dx ws ∧ RepF K Hs fs ws
  | .lck od ws kvs, o => o = .frz od (.dK ws) ∧ RepKV K Hs kvs ws
  | .ext φ, o => ∃ Hs0, Le K Hs0 Hs ∧ φ K Hs0 o
def RepO (K : PySem.W.Frag) (Hs : Hp) : Cont → HO → Prop
  | .lst xs, o => ∃ vs, o = .lst vs ∧ RepL K Hs xs vs
  | .dct kvs, o => ∃ ws, o = .dK ws ∧ RepKV K Hs kvs ws
  | .obj C fs, o => ∃ dx ws, o = .ins C dx ws ∧ RepF K Hs fs ws
theorem RepC.same {K : PySem.W.Frag} {H H' : Hp} {c : Cell} {o : HO} (r : RepC K H c o) (s : Same H H') : RepC K H' c o := by
  cases c with
  | pur b => exact r
  | lst xs => obtain ⟨vs, e, r⟩ := r; exact ⟨vs, e, r.same s⟩
  | dct kvs => obtain ⟨vs, e, r⟩ := r; exact ⟨vs, e, r.same s⟩
  | obj C fs => obtain ⟨dx, vs, e, r⟩ := r; exact ⟨dx, vs, e, r.same s⟩
  | lck od ws kvs => exact ⟨r.1, r.2.same s⟩
  | ext φ => obtain ⟨Hs0, s0, r⟩ := r; exact ⟨Hs0, s0.trans (Le.of s), r⟩
theorem RepO.same {K : PySem.W.Frag} {H H' : Hp} {c : Cont} {o : HO} (r : RepO K H c o) (s : Same H H') : RepO K H' c o := by
  cases c with
  | lst xs => obtain ⟨vs, e, r⟩ := r; exact ⟨vs, e, r.same s⟩
  | dct kvs => obtain ⟨vs, e, r⟩ := r; exact ⟨vs, e, r.same s⟩
  | obj C fs => obtain ⟨dx, vs, e, r⟩ := r; exact ⟨dx, vs, e, r.same s⟩
theorem RepO.rep {K : PySem.W.Frag} {H : Hp} {c : Cont} {o : HO} {p : Addr} (r : RepO K H c o) (h : H p = some o) : Rep K H c.d (.ref p) := by
  cases c with
  | lst xs => obtain ⟨vs, e, r⟩ := r; subst e; exact .lst h r
  | dct kvs => obtain ⟨vs, e, r⟩ := r; subst e; exact .dct (.inl h) r
  | obj C fs => obtain ⟨dx, vs, e, r⟩ := r; subst e; exact .obj h r
inductive Slot where
  | non | shr (d : D) | own (c : Cont)
abbrev Env := List Slot
structure Fits (K : PySem.W.Frag) (Hs H : Hp) (C : Cs) : Prop where
  sub : Same Hs H
  cel : ∀ a c, C a = some c → Hs a = none ∧ ∃ o, H a = some o ∧ RepC K Hs c o
/-- the entry: what stays, the heap, the cells; the floor: what stays at least -/
structure Z0 where
  Hs : Hp
  H : Hp
  C : Cs
  F : Hp
structure Bas (Z : Z0) (Hs H : Hp) (C : Cs) : Prop where
  fl : Same Z.F Hs
  kp : ∀ a o, Z.H a = some o → Z.C a = none → H a = some o ∧ C a = none ∧ (Z.Hs a = none → Hs a = none)
  th : ∀ a o, Z.H a = some o → ∃ o', H a = some o'
structure Slots (K : PySem.W.Frag) (Z : Z0) (σ : St) (Hs H : Hp) (env : Env) (C : Cs) : Prop where
  len : env.length = σ.length
  shr : ∀ (i : Nat) (d : D), env[i]? = some (Slot.shr d) → ∃ v, σ[i]? = some (some v) ∧ Rep K Hs d v
  own : ∀ (i : Nat) (c : Cont), env[i]? = some (Slot.own c) → ∃ p o, σ[i]? = some (some (V.ref p)) ∧ H p = some o ∧ RepO K Hs c o ∧ Hs p = none ∧ C p = none ∧ Z.H p = none
  sep : ∀ (i j : Nat) (c c' : Cont) (p : Addr), i ≠ j → env[i]? = some (Slot.own c) → env[j]? = some (Slot.own c') → σ[i]? = some (some (V.ref p)) → σ[j]? ≠ some (some (V.ref p))
structure SR (K : PySem.W.Frag) (Z : Z0) (σ : St) (Hs H : Hp) (env : Env) (C : Cs) : Prop where
  fit : Fits K Hs H C
  bas : Bas Z Hs H C
  slt : Slots K Z σ Hs H env C
/-- a step of an expression -/
structure Tr (Hs H : Hp) (C : Cs) (Hs' H' : Hp) (C' : Cs) : Prop where
  fr : Same Hs Hs'
  kp : ∀ a o, H a = some o → C a = none → H' a = some o ∧ C' a = none
theorem Tr.refl {Hs H : Hp} {C : Cs} : Tr Hs H C Hs H C := ⟨Same.refl _, fun _ _ h c => ⟨h, c⟩⟩
theorem Tr.trans {Hs H Hs1 H1 Hs2 H2 : Hp} {C C1 C2 : Cs} (a : Tr Hs H C Hs1 H1 C1) (b : Tr Hs1 H1 C1 Hs2 H2 C2) : Tr Hs H C Hs2 H2 C2 :=
  ⟨a.fr.trans b.fr, fun x o h c => let ⟨h1, c1⟩ := a.kp x o h c; b.kp x o h1 c1⟩
/-! ### results -/
abbrev RR (α : Type) := PySem.W.Frag → Z0 → St → Hp → Hp → Env → Cs → α → V → Prop
def RShr : RR D := fun K _ _ Hs _ _ _ d v => Rep K Hs d v
/-- shared, or a container of nobody else's whose items are shared -/
def RPk : RR D := fun K _ _ Hs H _ C d v => Rep K Hs d v ∨ ∃ c p o, d = c.d ∧ v = .ref p ∧ H p = some o ∧ RepO K Hs c o ∧ C p = none
/-- a new container -/
def RFr : RR Cont := fun K Z σ Hs H env C c v => ∃ p o, v = .ref p ∧ H p = some o ∧ RepO K Hs c o ∧ Hs p = none ∧ C p = none ∧ Z.H p = none ∧
  ∀ (i : Nat) (c' : Cont), env[i]? = some (Slot.own c') → σ[i]? ≠ some (some (V.ref p))
inductive XD where
  | own (C : Addr) (fs : List (Str × D)) | blt (n : String)
abbrev DM (α : Type) := Env → Cs → (α → Env → Cs → Prop) → Prop
abbrev EX := XD → Env → Cs → Prop
abbrev EM (α : Type) := EX → DM α
def RX (K : PySem.W.Frag) (Hs H : Hp) : XD → Value → Option Addr → Prop
  | .own C fs, cls, dx => cls = .ref C ∧ ∃ x ws, dx = some x ∧ Hs x = some (.xd ws) ∧ RepF K Hs fs ws
  | .blt n, cls, _ => cls = .type n
def LG (K : PySem.W.Frag) {α : Type} (R : RR α) (Z : Z0) (m : DM α) : TE := fun σ H Q => ∃ Hs env C P, SR K Z σ Hs H env C ∧ m env C P ∧
  ∀ d env' C' v Hs' H', P d env' C' → Tr Hs H C Hs' H' C' → SR K Z σ Hs' H' env' C' → R K Z σ Hs' H' env' C' d v → Q v H'
def LT (K : PySem.W.Frag) (Z : Z0) (m : DM Bool) : TT := fun σ H Q => ∃ Hs env C P, SR K Z σ Hs H env C ∧ m env C P ∧
  ∀ b env' C' Hs' H', P b env' C' → Tr Hs H C Hs' H' C' → SR K Z σ Hs' H' env' C' → Q b H'
/-- several results -/
inductive RAll (K : PySem.W.Frag) (R : RR D) (Z : Z0) (σ : St) (Hs H : Hp) (env : Env) (C : Cs) : List D → List V → Prop
  | nil : RAll K R Z σ Hs H env C [] []
  | cons {d : D} {v : V} {ds : List D} {vs : List V} : R K Z σ Hs H env C d v → RAll K R Z σ Hs H env C ds vs → RAll K R Z σ Hs H env C (d :: ds) (v :: vs)
def LA (K : PySem.W.Frag) (R : RR D) (Z : Z0) (m : DM (List D)) : TA := fun σ H Q => ∃ Hs env C P, SR K Z σ Hs H env C ∧ m env C P ∧
  ∀ ds env' C' vs Hs' H', P ds env' C' → Tr Hs H C Hs' H' C' → SR K Z σ Hs' H' env' C' → RAll K R Z σ Hs' H' env' C' ds vs → Q vs H'
/-- what is wished of exceptions is taken -/
def DXw (K : PySem.W.Frag) (Z : Z0) (E : EX) : WX := fun cls dx σ H => ∃ Hs env C x, SR K Z σ Hs H env C ∧ RX K Hs H x cls dx ∧ E x env C
def DX (X : Cx) (Z : Z0) (E : EX) : Prop := Takes X (DXw X.K Z E)
def DE (X : Cx) {α : Type} (R : RR α) (e : Expr) (m : EM α) : Prop := ∀ Z E, DX X Z E → PE X e (LG X.K R Z (m E))
def DT (X : Cx) (e : Expr) (m : EM Bool) : Prop := ∀ Z E, DX X Z E → PT X e (LT X.K Z (m E))
def DA (X : Cx) (R : RR D) (es : List Expr) (m : EM (List D)) : Prop := ∀ Z E, DX X Z E → PA X es (LA X.K R Z (m E))
/-! ### statements -/
inductive Ret where
  | shr (d : D) | frs (c : Cont)
def RRet (K : PySem.W.Frag) (Z : Z0) (Hs H : Hp) (C : Cs) : Ret → V → Prop
  | .shr d, v => Rep K Hs d v
  | .frs c, v => ∃ p o, v = .ref p ∧ H p = some o ∧ RepO K Hs c o ∧ Hs p = none ∧ C p = none ∧ Z.H p = none
structure DEnds where
  nx : Env → Cs → Prop
  rt : Ret → Cs → Prop
  bk : Env → Cs → Prop := fun _ _ => False
  ct : Env → Cs → Prop := fun _ _ => False
abbrev SM := EX → DEnds → Env → Cs → Prop
def EndsOk (K : PySem.W.Frag) (Z : Z0) (dE : DEnds) (D : Ends) : Prop :=
  (∀ σ Hs H env C, SR K Z σ Hs H env C → dE.nx env C → D.nx σ H) ∧
  (∀ r v Hs H C, Fits K Hs H C → Bas Z Hs H C → RRet K Z Hs H C r v → dE.rt r C → D.rt v H) ∧
  (∀ σ Hs H env C, SR K Z σ Hs H env C → dE.bk env C → D.bk σ H) ∧
  (∀ σ Hs H env C, SR K Z σ Hs H env C → dE.ct env C → D.ct σ H)
def LS (K : PySem.W.Frag) (Z : Z0) (m : DEnds → Env → Cs → Prop) : TS := fun D σ H => ∃ Hs env C dE, SR K Z σ Hs H env C ∧ EndsOk K Z dE D ∧ m dE env C
def DS (X : Cx) (st : Stmt) (m : SM) : Prop := ∀ Z E, DX X Z E → PS X st (LS X.K Z (m E))
def DSs (X : Cx) (sts : List Stmt) (m : SM) : Prop := ∀ Z E, DX X Z E → PSs X sts (LS X.K Z (m E))
end L2.DL
/-! DLb: steps of the state; operators, names, constants, tests. -/
namespace L2.DL
open PySem PySem.Spec PyProof.Rows
section
variable {K : PySem.W.Frag} {Z : Z0} {σ : St} {Hs H Hs' H' : Hp} {env : DL.Env} {C C' : Cs} {p : Addr} {o : HO} {d : D} {v : V} {c : Cont}
theorem same_upd {H : Hp} {p : Addr} {o : HO} (h : H p = none) : Same H (upd H p o) := fun b u e => by
  rw [upd_ne (ne_of_none e h)]; exact e
theorem Fits.nothing (f : Fits K Hs H C) (h : H p = none) : Hs p = none ∧ C p = none := by
  constructor
  · cases e : Hs p with
    | none => rfl
    | some u => rw [f.sub _ _ e] at h; cases h
  · cases e : C p with
    | none => rfl
    | some u => obtain ⟨_, o, e1, _⟩ := f.cel _ _ e; rw [e1] at h; cases h
theorem Fits.lay (f : Fits K Hs H C) (h : H p = none) : Fits K (upd Hs p o) (upd H p o) C := by
  obtain ⟨h1, h2⟩ := f.nothing h
  refine ⟨fun b u e => ?_, fun a c e => ?_⟩
  · by_cases hb : b = p
    · subst hb; rw [upd_same] at e ⊢; exact e
    · rw [upd_ne hb] at e ⊢; exact f.sub _ _ e
  · have ha : a ≠ p := fun q => by rw [q, h2] at e; cases e
    obtain ⟨q, u, e1, r⟩ := f.cel _ _ e
    exact ⟨by rw [upd_ne ha]; exact q, u, by rw [upd_ne ha]; exact e1, r.same (same_upd h1)⟩
theorem Fits.layP (f : Fits K Hs H C) (h : H p = none) : Fits K Hs (upd H p o) C := by
  refine ⟨fun b u e => ?_, fun a c e => ?_⟩
  · rw [upd_ne (ne_of_none (f.sub _ _ e) h)]; exact f.sub _ _ e
  · obtain ⟨q, u, e1, r⟩ := f.cel _ _ e
    exact ⟨q, u, by rw [upd_ne (ne_of_none e1 h)]; exact e1, r⟩
theorem Fits.frz (f : Fits K Hs H C) (h : H p = some o) (h1 : Hs p = Option.none) (h2 : C p = Option.none) : Fits K (upd Hs p o) H C := by
  refine ⟨fun b u e => ?_, fun a c e => ?_⟩
  · by_cases hb : b = p
    · subst hb; rw [upd_same] at e; cases e; exact h
    · rw [upd_ne hb] at e; exact f.sub _ _ e
  · have ha : a ≠ p := fun q => by rw [q, h2] at e; cases e
    obtain ⟨q, u, e1, r⟩ := f.cel _ _ e
    exact ⟨by rw [upd_ne ha]; exact q, u, e1, r.same (same_upd h1)⟩
theorem Bas.lay (b : Bas Z Hs H C) (f : Fits K Hs H C) (h : H p = none) : Bas Z (upd Hs p o) (upd H p o) C := by
  obtain ⟨h1, h2⟩ := f.nothing h
  refine ⟨fun x u e => same_upd h1 _ _ (b.fl _ _ e), fun a u e c => ?_, fun a u e => ?_⟩
  · obtain ⟨e1, e2, e3⟩ := b.kp a u e c
    have ha : a ≠ p := ne_of_none e1 h
    exact ⟨by rw [upd_ne ha]; exact e1, e2, fun q => by rw [upd_ne ha]; exact e3 q⟩
  · obtain ⟨o', e1⟩ := b.th a u e
    exact ⟨o', by rw [upd_ne (ne_of_none e1 h)]; exact e1⟩
theorem Bas.layP (b : Bas Z Hs H C) (h : H p = none) : Bas Z Hs (upd H p o) C := by
  refine ⟨b.fl, fun a u e c => ?_, fun a u e => ?_⟩
  · obtain ⟨e1, e2, e3⟩ := b.kp a u e c
    exact ⟨by rw [upd_ne (ne_of_none e1 h)]; exact e1, e2, e3⟩
  · obtain ⟨o', e1⟩ := b.th a u e
    exact ⟨o', by rw [upd_ne (ne_of_none e1 h)]; exact e1⟩
theorem Bas.frz (b : Bas Z Hs H C) (h1 : Hs p = none) (hz : Z.H p = none) : Bas Z (upd Hs p o) H C := by
  refine ⟨fun x u e => same_upd h1 _ _ (b.fl _ _ e), fun a u e c => ?_, b.th⟩
  obtain ⟨e1, e2, e3⟩ := b.kp a u e c
  have ha : a ≠ p := ne_of_none e hz
  exact ⟨e1, e2, fun q => by rw [upd_ne ha]; exact e3 q⟩
theorem Bas.zfree (b : Bas Z Hs H C) (h : H p = none) : Z.H p = none := by
  cases e : Z.H p with
  | none => rfl
  | some u =>
    obtain ⟨o', e1⟩ := b.th _ _ e
    rw [e1] at h
    cases h
theorem th_upd {o' : HO} (t : ∀ a o, Z.H a = some o → ∃ o', H a = some o') : ∀ a o, Z.H a = some o → ∃ u, upd H p o' a = some u := fun a u e => by
  by_cases ha : a = p
  · subst ha
    exact ⟨o', upd_same⟩
  · rw [upd_ne ha]
    exact t a u e
/-- a new object that stays -/
theorem SR.lay (r : SR K Z σ Hs H env C) (h : H p = none) (o : HO) : SR K Z σ (upd Hs p o) (upd H p o) env C := by
  obtain ⟨h1, h2⟩ := r.fit.nothing h
  refine ⟨r.fit.lay h, r.bas.lay r.fit h, r.slt.len, fun i d e => ?_, fun i c e => ?_, r.slt.sep⟩
  · obtain ⟨v, e1, q⟩ := r.slt.shr i d e
    exact ⟨v, e1, q.same (same_upd h1)⟩
  · obtain ⟨q, u, e1, e2, r1, n1, n2, n3⟩ := r.slt.own i c e
    have hq : q ≠ p := ne_of_none e2 h
    exact ⟨q, u, e1, by rw [upd_ne hq]; exact e2, r1.same (same_upd h1), by rw [upd_ne hq]; exact n1, n2, n3⟩
theorem Tr.lay (f : Fits K Hs H C) (h : H p = none) (o : HO) : Tr Hs H C (upd Hs p o) (upd H p o) C :=
  ⟨same_upd (f.nothing h).1, fun a u e c => ⟨by rw [upd_ne (ne_of_none e h)]; exact e, c⟩⟩
/-- a new object of nobody's -/
theorem SR.layP (r : SR K Z σ Hs H env C) (h : H p = none) (o : HO) : SR K Z σ Hs (upd H p o) env C := by
  refine ⟨r.fit.layP h, r.bas.layP h, r.slt.len, r.slt.shr, fun i c e => ?_, r.slt.sep⟩
  obtain ⟨q, u, e1, e2, r1, n1, n2, n3⟩ := r.slt.own i c e
  exact ⟨q, u, e1, by rw [upd_ne (ne_of_none e2 h)]; exact e2, r1, n1, n2, n3⟩
theorem Tr.layP (h : H p = none) (o : HO) : Tr Hs H C Hs (upd H p o) C :=
  ⟨Same.refl _, fun a u e c => ⟨by rw [upd_ne (ne_of_none e h)]; exact e, c⟩⟩
/-- a thing of nobody's stays from now on -/
theorem SR.frz (r : SR K Z σ Hs H env C) (h : H p = some o) (h1 : Hs p = none) (h2 : C p = none) (hz : Z.H p = none)
    (no : ∀ (i : Nat) (c' : Cont), env[i]? = some (Slot.own c') → σ[i]? ≠ some (some (V.ref p))) : SR K Z σ (upd Hs p o) H env C := by
  refine ⟨r.fit.frz h h1 h2, r.bas.frz h1 hz, r.slt.len, fun i d e => ?_, fun i c e => ?_, r.slt.sep⟩
  · obtain ⟨v, e1, q⟩ := r.slt.shr i d e
    exact ⟨v, e1, q.same (same_upd h1)⟩
  · obtain ⟨q, u, e1, e2, r1, n1, n2, n3⟩ := r.slt.own i c e
    have hq : q ≠ p := fun z => no i c e (by rw [← z]; exact e1)
    exact ⟨q, u, e1, e2, r1.same (same_upd h1), by rw [upd_ne hq]; exact n1, n2, n3⟩
theorem Tr.frz (h1 : Hs p = none) : Tr Hs H C (upd Hs p o) H C := ⟨same_upd h1, fun _ _ e c => ⟨e, c⟩⟩
/-- a slot's container stays from now on -/
theorem SR.frzS {i : Nat} (r : SR K Z σ Hs H env C) (hi : env[i]? = some (Slot.own c)) :
    ∃ p o, σ[i]? = some (some (V.ref p)) ∧ H p = some o ∧ Hs p = none ∧ RepO K Hs c o ∧ SR K Z σ (upd Hs p o) H (env.set i (.shr c.d)) C := by
  obtain ⟨p, o, e1, e2, r1, n1, n2, n3⟩ := r.slt.own i c hi
  refine ⟨p, o, e1, e2, n1, r1, r.fit.frz e2 n1 n2, r.bas.frz n1 n3, by rw [List.length_set]; exact r.slt.len, fun j d e => ?_, fun j c' e => ?_, fun j k c' c'' q ne e f => ?_⟩
  · by_cases hj : i = j
    · subst hj
      rw [List.getElem?_set_self (List.getElem?_eq_some_iff.mp hi).1] at e
      cases e
      exact ⟨_, e1, (r1.same (same_upd n1)).rep upd_same⟩
    · rw [List.getElem?_set_ne hj] at e
      obtain ⟨v, e1, q⟩ := r.slt.shr j d e
      exact ⟨v, e1, q.same (same_upd n1)⟩
  · by_cases hj : i = j
    · subst hj
      rw [List.getElem?_set_self (List.getElem?_eq_some_iff.mp hi).1] at e
      cases e
    · rw [List.getElem?_set_ne hj] at e
      obtain ⟨q, u, f1, f2, r2, m1, m2, m3⟩ := r.slt.own j c' e
      have hq : q ≠ p := fun z => r.slt.sep i j c c' p hj hi e e1 (by rw [← z]; exact f1)
      exact ⟨q, u, f1, f2, r2.same (same_upd n1), by rw [upd_ne hq]; exact m1, m2, m3⟩
  · by_cases hj : i = j
    · subst hj
      rw [List.getElem?_set_self (List.getElem?_eq_some_iff.mp hi).1] at e
      cases e
    · by_cases hk : i = k
      · subst hk
        rw [List.getElem?_set_self (List.getElem?_eq_some_iff.mp hi).1] at f
        cases f
      · rw [List.getElem?_set_ne hj] at e
        rw [List.getElem?_set_ne hk] at f
        exact r.slt.sep j k c' c'' q ne e f
/-- a slot is stored, shared -/
theorem SR.setS {i : Nat} (r : SR K Z σ Hs H env C) (hv : Rep K Hs d v) : SR K Z (σ.set i (some v)) Hs H (env.set i (.shr d)) C := by
  refine ⟨r.fit, r.bas, by rw [List.length_set, List.length_set]; exact r.slt.len, fun j d' e => ?_, fun j c' e => ?_, fun j k c' c'' q ne e f => ?_⟩
  · by_cases hj : i = j
    · subst hj
      have hl : i < env.length := by
        have := (List.getElem?_eq_some_iff.mp e).1
        simpa using this
      rw [List.getElem?_set_self hl] at e
      cases e
      exact ⟨v, List.getElem?_set_self (by rw [← r.slt.len]; exact hl), hv⟩
    · rw [List.getElem?_set_ne hj] at e ⊢
      exact r.slt.shr j d' e
  · by_cases hj : i = j
    · subst hj
      have hl : i < env.length := by
        have := (List.getElem?_eq_some_iff.mp e).1
        simpa using this
      rw [List.getElem?_set_self hl] at e
      cases e
    · rw [List.getElem?_set_ne hj] at e ⊢
      exact r.slt.own j c' e
  · by_cases hj : i = j
    · subst hj
      have hl : i < env.length := by
        have := (List.getElem?_eq_some_iff.mp e).1
        simpa using this
      rw [List.getElem?_set_self hl] at e
      cases e
    · by_cases hk : i = k
      · subst hk
        have hl : i < env.length := by
          have := (List.getElem?_eq_some_iff.mp f).1
          simpa using this
        rw [List.getElem?_set_self hl] at f
        cases f
      · rw [List.getElem?_set_ne hj] at e ⊢
        rw [List.getElem?_set_ne hk] at f ⊢
        exact r.slt.sep j k c' c'' q ne e f
/-- a slot takes a new container -/
theorem SR.setO {i : Nat} (r : SR K Z σ Hs H env C) (h : RFr K Z σ Hs H env C c v) : SR K Z (σ.set i (some v)) Hs H (env.set i (.own c)) C := by
  obtain ⟨p, o, rfl, e2, r1, n1, n2, n3, no⟩ := h
  have lt : ∀ {x : Slot}, (env.set i x)[i]? = some x → i < env.length := fun e => by
    have := (List.getElem?_eq_some_iff.mp e).1
    simpa using this
  refine ⟨r.fit, r.bas, by rw [List.length_set, List.length_set]; exact r.slt.len, fun j d' e => ?_, fun j c' e => ?_, fun j k c' c'' q ne e f g => ?_⟩
  · by_cases hj : i = j
    · subst hj
      have hl : i < env.length := by
        have := (List.getElem?_eq_some_iff.mp e).1
        simpa using this
      rw [List.getElem?_set_self hl] at e
      cases e
    · rw [List.getElem?_set_ne hj] at e ⊢
      exact r.slt.shr j d' e
  · by_cases hj : i = j
    · subst hj
      have hl : i < env.length := by
        have := (List.getElem?_eq_some_iff.mp e).1
        simpa using this
      rw [List.getElem?_set_self hl] at e
      cases e
      exact ⟨p, o, List.getElem?_set_self (by rw [← r.slt.len]; exact hl), e2, r1, n1, n2, n3⟩
    · rw [List.getElem?_set_ne hj] at e ⊢
      exact r.slt.own j c' e
  · by_cases hj : i = j
    · subst hj
      have hl : i < env.length := by
        have := (List.getElem?_eq_some_iff.mp e).1
        simpa using this
      rw [List.getElem?_set_self (by rw [← r.slt.len]; exact hl)] at g
      cases g
      rw [List.getElem?_set_ne ne] at f ⊢
      exact no k c'' f
    · by_cases hk : i = k
      · subst hk
        have hl : i < env.length := by
          have := (List.getElem?_eq_some_iff.mp f).1
          simpa using this
        rw [List.getElem?_set_self (by rw [← r.slt.len]; exact hl)]
        rw [List.getElem?_set_ne hj] at e g
        intro z
        cases z
        exact no j c' e g
      · rw [List.getElem?_set_ne hj] at e g
        rw [List.getElem?_set_ne hk] at f ⊢
        exact r.slt.sep j k c' c'' q ne e f g
/-- a slot's container is written -/
theorem SR.wrO {i : Nat} {c' : Cont} {o' : HO} (r : SR K Z σ Hs H env C) (hi : env[i]? = some (Slot.own c)) (hp : σ[i]? = some (some (V.ref p))) (h : RepO K Hs c' o') :
    SR K Z σ Hs (upd H p o') (env.set i (.own c')) C := by
  obtain ⟨p', o, e1, e2, r1, n1, n2, n3⟩ := r.slt.own i c hi
  rw [hp] at e1
  cases e1
  have il := (List.getElem?_eq_some_iff.mp hi).1
  refine ⟨⟨fun b u e => ?_, fun a c e => ?_⟩, ⟨r.bas.fl, fun a u e c => ?_, th_upd r.bas.th⟩, by rw [List.length_set]; exact r.slt.len, fun j d' e => ?_, fun j c2 e => ?_, fun j k c2 c3 q ne e f => ?_⟩
  · rw [upd_ne (ne_of_none e n1)]; exact r.fit.sub _ _ e
  · obtain ⟨q, u, e1, r2⟩ := r.fit.cel _ _ e
    have ha : a ≠ p := fun z => by rw [z, n2] at e; cases e
    exact ⟨q, u, by rw [upd_ne ha]; exact e1, r2⟩
  · obtain ⟨q1, q2, q3⟩ := r.bas.kp a u e c
    exact ⟨by rw [upd_ne (ne_of_none e n3)]; exact q1, q2, q3⟩
  · by_cases hj : i = j
    · subst hj
      rw [List.getElem?_set_self il] at e
      cases e
    · rw [List.getElem?_set_ne hj] at e
      exact r.slt.shr j d' e
  · by_cases hj : i = j
    · subst hj
      rw [List.getElem?_set_self il] at e
      cases e
      exact ⟨p, o', hp, upd_same, h, n1, n2, n3⟩
    · rw [List.getElem?_set_ne hj] at e
      obtain ⟨q, u, f1, f2, r2, m1, m2, m3⟩ := r.slt.own j c2 e
      have hq : q ≠ p := fun z => r.slt.sep i j c c2 p hj hi e hp (by rw [← z]; exact f1)
      exact ⟨q, u, f1, by rw [upd_ne hq]; exact f2, r2, m1, m2, m3⟩
  · by_cases hj : i = j
    · subst hj
      by_cases hk : i = k
      · exact absurd hk ne
      · rw [List.getElem?_set_ne hk] at f
        exact r.slt.sep i k c c3 q ne hi f
    · rw [List.getElem?_set_ne hj] at e
      by_cases hk : i = k
      · subst hk
        exact r.slt.sep j i c2 c q ne e hi
      · rw [List.getElem?_set_ne hk] at f
        exact r.slt.sep j k c2 c3 q ne e f
/-- a cell is written -/
theorem SR.wrC {a : Addr} {cl cl' : Cell} {o' : HO} (r : SR K Z σ Hs H env C) (ha : C a = some cl) (h : RepC K Hs cl' o') : SR K Z σ Hs (upd H a o') env (cput C a cl') := by
  obtain ⟨q, u, e1, r1⟩ := r.fit.cel _ _ ha
  refine ⟨⟨fun b u e => ?_, fun b c e => ?_⟩, ⟨r.bas.fl, fun b u e c => ?_, th_upd r.bas.th⟩, r.slt.len, r.slt.shr, fun j c2 e => ?_, r.slt.sep⟩
  · rw [upd_ne (ne_of_none e q)]; exact r.fit.sub _ _ e
  · by_cases hb : b = a
    · subst hb
      rw [cput_same] at e
      cases e
      exact ⟨q, o', upd_same, h⟩
    · rw [cput_ne hb] at e
      obtain ⟨q, u, e1, r2⟩ := r.fit.cel _ _ e
      exact ⟨q, u, by rw [upd_ne hb]; exact e1, r2⟩
  · obtain ⟨q1, q2, q3⟩ := r.bas.kp b u e c
    have hb : b ≠ a := fun z => by rw [z, ha] at q2; cases q2
    exact ⟨by rw [upd_ne hb]; exact q1, by rw [cput_ne hb]; exact q2, q3⟩
  · obtain ⟨q, u, f1, f2, r2, m1, m2, m3⟩ := r.slt.own j c2 e
    have hq : q ≠ a := fun z => by rw [z, ha] at m2; cases m2
    exact ⟨q, u, f1, by rw [upd_ne hq]; exact f2, r2, m1, by rw [cput_ne hq]; exact m2, m3⟩
/-! ### reading a result -/
theorem RPk.tr (h : RPk K Z σ Hs H env C d v) (t : Tr Hs H C Hs' H' C') {Z' : Z0} {σ' : St} {env' : DL.Env} : RPk K Z' σ' Hs' H' env' C' d v := by
  rcases h with h | ⟨c, p, o, e1, e2, e3, e4, e5⟩
  · exact .inl (h.same t.fr)
  · obtain ⟨q1, q2⟩ := t.kp _ _ e3 e5
    exact .inr ⟨c, p, o, e1, e2, q1, e4.same t.fr, q2⟩
/-- read through a cell -/
def dr (C : Cs) : D → D
  | .cell a => match C a with
    | some (.lst xs) => .lst xs
    | some (.dct kvs) => .dct kvs
    | some (.obj c fs) => .obj c fs
    | some (.lck _ _ kvs) => .dct kvs
    | _ => .cell a
  | .tupT ts => .tup (ts.map .str)
  | d => d
theorem repl_strs {K : PySem.W.Frag} {Hs : Hp} : ∀ ts : List Txt, RepL K Hs (ts.map .str) ((ts.map sV).map V.str)
  | [] => .nil
  | t :: r => .cons (.str t) (repl_strs r)
/-- what v is now -/
inductive RNow (K : PySem.W.Frag) (Hs H : Hp) : D → V → Prop
  | non : RNow K Hs H .non .non
  | bl (b : Bool) : RNow K Hs H (.bl b) (.bl b)
  | int (i : Int) : RNow K Hs H (.int i) (.int i)
  | str (s : Txt) : RNow K Hs H (.str s) (.str (sV s))
  | tup {xs : List D} {a : Addr} {vs : List V} : TupA Hs a vs → RepL K Hs xs vs → RNow K Hs H (.tup xs) (.ref a)
  | lst {xs : List D} {a : Addr} {vs : List V} : H a = some (.lst vs) → RepL K Hs xs vs → RNow K Hs H (.lst xs) (.ref a)
  | dct {kvs : List (DK × D)} {a : Addr} {ws : List (Key × V)} : Rd H a (.dK ws) → RepKV K Hs kvs ws → RNow K Hs H (.dct kvs) (.ref a)
  | obj {C a dx : Addr} {fs : List (Str × D)} {ws : List (Str × V)} : H a = some (.ins C dx ws) → RepF K Hs fs ws → RNow K Hs H (.obj C fs) (.ref a)
  | cell (a : Addr) : RNow K Hs H (.cell a) (.ref a)
  | ty (n : String) : RNow K Hs H (.ty n) (.ty n)
  | scr {ns : List Int} {a : Addr} : SqL K H a (ns.map V.int) → RNow K Hs H (.scr ns) (.ref a)
  | exc {a C dd : Addr} {fs : List (Str × D)} {ws : List (Str × V)} : Hs dd = some (.xd ws) → RepF K Hs fs ws → RNow K Hs H (.exc a C dd fs) (.ref a)
  | tupT {ts : List Txt} {a : Addr} {o : Obj} : o.dict = none → Hs a = some (.frz o (.tup ((ts.map sV).map V.str))) → RNow K Hs H (.tupT ts) (.ref a)
  | kt {a : Addr} : KT0 K a → RNow K Hs H .kt (.ref a)
theorem Rep.now (f : Fits K Hs H C) (h : Rep K Hs d v) : RNow K Hs H d v := by
  cases h with
  | non => exact .non
  | bl b => exact .bl b
  | int i => exact .int i
  | str s => exact .str s
  | tup e r => exact .tup e r
  | lst e r => exact .lst (f.sub _ _ e) r
  | dct e r => exact .dct (Same.rd f.sub e) r
  | obj e r => exact .obj (f.sub _ _ e) r
  | cell a => exact .cell a
  | ty n => exact .ty n
  | scr e => exact .scr (f.sub.seq e)
  | exc e r => exact .exc e r
  | tupT d e => exact .tupT d e
  | kt h => exact .kt h
theorem RPk.now (f : Fits K Hs H C) (h : RPk K Z σ Hs H env C d v) : RNow K Hs H (dr C d) v := by
  rcases h with h | ⟨c, p, o, e1, e2, e3, e4, e5⟩
  · have h' := h.now f
    cases h' with
    | cell a =>
      show RNow K Hs H (match C a with
        | some (.lst xs) => D.lst xs
        | some (.dct kvs) => D.dct kvs
        | some (.obj c fs) => D.obj c fs
        | some (.lck _ _ kvs) => D.dct kvs
        | _ => D.cell a) (.ref a)
      cases e : C a with
      | none => exact .cell a
      | some cl =>
        obtain ⟨_, o, e1, r⟩ := f.cel _ _ e
        cases cl with
        | pur => exact .cell a
        | ext φ => exact .cell a
        | lst xs => obtain ⟨vs, rfl, r⟩ := r; exact .lst e1 r
        | dct xs => obtain ⟨vs, rfl, r⟩ := r; exact .dct (.inl e1) r
        | lck od ws xs => obtain ⟨rfl, r⟩ := r; exact .dct (.inr ⟨_, e1⟩) r
        | obj C fs => obtain ⟨dx, vs, rfl, r⟩ := r; exact .obj e1 r
    | non => exact .non
    | bl b => exact .bl b
    | int i => exact .int i
    | str s => exact .str s
    | tup e r => exact .tup e r
    | lst e r => exact .lst e r
    | dct e r => exact .dct e r
    | obj e r => exact .obj e r
    | ty n => exact .ty n
    | scr e => exact .scr e
    | exc e r => exact .exc e r
    | tupT d e => exact .tup (.inr ⟨_, d, e⟩) (repl_strs _)
    | kt e => exact .kt e
  · subst e1 e2
    cases c with
    | lst xs => obtain ⟨vs, rfl, r⟩ := e4; exact .lst e3 r
    | dct kvs => obtain ⟨vs, rfl, r⟩ := e4; exact .dct (.inl e3) r
    | obj C fs => obtain ⟨dx, vs, rfl, r⟩ := e4; exact .obj e3 r
@[simp] theorem dr_non {C : Cs} : dr C .non = .non := rfl
@[simp] theorem dr_bl {C : Cs} {b} : dr C (.bl b) = .bl b := rfl
@[simp] theorem dr_int {C : Cs} {b} : dr C (.int b) = .int b := rfl
@[simp] theorem dr_str {C : Cs} {b} : dr C (.str b) = .str b := rfl
@[simp] theorem dr_tup {C : Cs} {b} : dr C (.tup b) = .tup b := rfl
@[simp] theorem dr_lst {C : Cs} {b} : dr C (.lst b) = .lst b := rfl
@[simp] theorem dr_dct {C : Cs} {b} : dr C (.dct b) = .dct b := rfl
@[simp] theorem dr_obj {C : Cs} {b c} : dr C (.obj b c) = .obj b c := rfl
@[simp] theorem dr_ty {C : Cs} {b} : dr C (.ty b) = .ty b := rfl
@[simp] theorem dr_scr {C : Cs} {b} : dr C (.scr b) = .scr b := rfl
theorem dr_cell {C : Cs} {a : Addr} : dr C (.cell a) = match C a with
    | some (.lst xs) => .lst xs
    | some (.dct kvs) => .dct kvs
    | some (.obj c fs) => .obj c fs
    | some (.lck _ _ kvs) => .dct kvs
    | _ => .cell a := rfl
end
/-! ### a result stands for another kind of result -/
section
variable {X : Cx} {e : Expr}
/-- the mapping of a result -/
def mMap {α β : Type} (f : α → β) (m : EM α) : EM β := fun E env C Q => m E env C fun a env' C' => Q (f a) env' C'
theorem DE.pk {m : EM D} (h : DE X RShr e m) : DE X RPk e m := fun Z E hE => ⟨fun pins s σ H Q I ⟨Hs, env, C, P, r, q, k⟩ =>
  (h Z E hE).run pins s σ H Q I ⟨Hs, env, C, P, r, q, fun d env' C' v Hs' H' p t s rr => k d env' C' v Hs' H' p t s (.inl rr)⟩⟩
/-- a new container, read as a tree -/
theorem DE.frz {m : EM Cont} (h : DE X RFr e m) : DE X RShr e (mMap Cont.d m) := fun Z E hE => ⟨fun pins s σ H Q I ⟨Hs, env, C, P, r, q, k⟩ =>
  (h Z E hE).run pins s σ H Q I ⟨Hs, env, C, fun c env' C' => P c.d env' C', r, q, fun c env' C' v Hs' H' p t s ⟨p', o, e1, e2, r1, n1, n2, n3, no⟩ => by
    subst e1
    exact k c.d env' C' _ (upd Hs' p' o) H' p (t.trans (Tr.frz n1)) (s.frz e2 n1 n2 n3 no) ((r1.same (same_upd n1)).rep upd_same)⟩⟩
theorem DE.frP {m : EM Cont} (h : DE X RFr e m) : DE X RPk e (mMap Cont.d m) := (DE.frz h).pk
end
end L2.DL
/-! DLc: expressions: names, constants, operators, comparisons, tests. -/
namespace L2.DL
open PySem PySem.Spec PyProof.Rows
section
variable {X : Cx} {e a b : Expr} {pos : Pos}
/-! ### names, constants -/
def mC {α : Type} (d : α) : EM α := fun _ env C Q => Q d env C
def mVar (i : Nat) : EM D := fun _ env C Q => match env[i]? with
  | some (.shr d) => Q d env C
  | some (.own c) => Q c.d (env.set i (.shr c.d)) C
  | _ => False
def mPeek (i : Nat) : EM D := fun _ env C Q => match env[i]? with
  | some (.shr d) => Q d env C
  | some (.own c) => Q c.d env C
  | _ => False
theorem d_var {i : Nat} (h : PE X e (tVar i)) : DE X RShr e (mVar i) := fun Z E hE => ⟨fun pins s σ H Q I ⟨Hs, env, C, P, r, q, k⟩ => by
  refine h.run pins s σ H Q I ?_
  unfold mVar at q
  split at q
  · rename_i d he
    obtain ⟨v, e1, rv⟩ := r.slt.shr i d he
    exact ⟨v, e1, k _ _ _ v Hs H q Tr.refl r rv⟩
  · rename_i c he
    obtain ⟨p, o, e1, e2, n1, rc, r'⟩ := r.frzS he
    exact ⟨_, e1, k _ _ _ _ _ H q (Tr.frz n1) r' ((rc.same (same_upd n1)).rep upd_same)⟩
  · exact q.elim⟩
theorem d_peek {i : Nat} (h : PE X e (tVar i)) : DE X RPk e (mPeek i) := fun Z E hE => ⟨fun pins s σ H Q I ⟨Hs, env, C, P, r, q, k⟩ => by
  refine h.run pins s σ H Q I ?_
  unfold mPeek at q
  split at q
  · rename_i d he
    obtain ⟨v, e1, rv⟩ := r.slt.shr i d he
    exact ⟨v, e1, k _ _ _ v Hs H q Tr.refl r (.inl rv)⟩
  · rename_i c he
    obtain ⟨p, o, e1, e2, rc, n1, n2, n3⟩ := r.slt.own i c he
    exact ⟨_, e1, k _ _ _ _ Hs H q Tr.refl r (.inr ⟨c, p, o, rfl, rfl, e2, rc, n2⟩)⟩
  · exact q.elim⟩
/-- a value that leans on no heap -/
theorem d_const {v : V} {d : D} (h : PE X e (tC v)) (r : ∀ Hs, Rep X.K Hs d v) : DE X RShr e (mC d) := fun Z E hE => ⟨fun pins s σ H Q I ⟨Hs, env, C, P, sr, q, k⟩ =>
  h.run pins s σ H Q I (k _ _ _ v Hs H q Tr.refl sr (r Hs))⟩
theorem d_int {i : Int} {j pos} : DE X RShr (.Constant (.int i) j pos) (mC (.int i)) := d_const pe_int fun _ => .int i
theorem d_bl {i : Bool} {j pos} : DE X RShr (.Constant (.bool i) j pos) (mC (.bl i)) := d_const pe_bl fun _ => .bl i
theorem d_non {j pos} : DE X RShr (.Constant .none j pos) (mC .non) := d_const pe_non fun _ => .non
theorem d_str {x : Str} {j pos} : DE X RShr (.Constant (.str x) j pos) (mC (.str x.cps.toList)) := d_const pe_str fun _ => by
  have := @Rep.str X.K (fun _ => none) x.cps.toList
  rename_i Hs
  have h := @Rep.str X.K Hs x.cps.toList
  rw [sV_of] at h
  exact h
/-! ### operators by values -/
structure OpD (X : Cx) (f : Value → Value → Sem Value) {α : Type} (R : RR α) (g : D → D → (α → Prop) → Prop) : Prop where
  ex : ∃ r : R2, OpR X f r ∧ ∀ Z σ Hs H env C d e v u (P : α → Prop) Q, SR X.K Z σ Hs H env C → RNow X.K Hs H d v → RNow X.K Hs H e u → g d e P →
    (∀ a w Hs' H', P a → Tr Hs H C Hs' H' C → SR X.K Z σ Hs' H' env C → R X.K Z σ Hs' H' env C a w → Q w H') → r v u H Q
def mOp {α : Type} (g : D → D → (α → Prop) → Prop) (ma mb : EM D) : EM α := fun E env C Q => ma E env C fun d env1 C1 => mb E env1 C1 fun e env2 C2 => g (dr C2 d) (dr C2 e) fun x => Q x env2 C2
theorem opd_run {f : Value → Value → Sem Value} {α : Type} {R : RR α} {g : D → D → (α → Prop) → Prop} (o : OpD X f R g) {ma mb : EM D} (ha : DE X RPk a ma) (hb : DE X RPk b mb) :
    ∃ r : R2, OpR X f r ∧ ∀ Z E, DX X Z E → ∀ σ H Q, LG X.K R Z (mOp g ma mb E) σ H Q → tOp r (LG X.K RPk Z (ma E)) (LG X.K RPk Z (mb E)) σ H Q := by
  obtain ⟨r, hr, hg⟩ := o.ex
  refine ⟨r, hr, fun Z E hE σ H Q ⟨Hs, env, C, P, sr, q, k⟩ => ?_⟩
  refine ⟨Hs, env, C, _, sr, q, fun d env1 C1 v Hs1 H1 q1 t1 s1 r1 => ?_⟩
  refine ⟨Hs1, env1, C1, _, s1, q1, fun e env2 C2 u Hs2 H2 q2 t2 s2 r2 => ?_⟩
  exact hg Z σ Hs2 H2 env2 C2 _ _ v u _ Q s2 ((r1.tr t2 (Z' := Z) (σ' := σ) (env' := env2)).now s2.fit) (r2.now s2.fit) q2 fun x w Hs' H' p t s rr => k _ _ _ w Hs' H' p ((t1.trans t2).trans t) s rr
theorem d_op {op : Operator} {α : Type} {R : RR α} {g : D → D → (α → Prop) → Prop} (o : OpD X (binaryOp op) R g) {ma mb : EM D} (ha : DE X RPk a ma) (hb : DE X RPk b mb) : DE X R (.BinOp a op b pos) (mOp g ma mb) := fun Z E hE => by
  obtain ⟨r, hr, i⟩ := opd_run o ha hb
  exact ⟨fun pins s σ H Q I q => (pe_op hr (ha Z E hE) (hb Z E hE)).run pins s σ H Q I (i Z E hE σ H Q q)⟩
theorem d_cmp {op : CmpOp} {g : D → D → (D → Prop) → Prop} (o : OpD X (compareOp op) RShr g) {ma mb : EM D} (ha : DE X RPk a ma) (hb : DE X RPk b mb) (hm : behindInMarks op b = false) : DE X RShr (.Compare a [op] [b] pos) (mOp g ma mb) := fun Z E hE => by
  obtain ⟨r, hr, i⟩ := opd_run o ha hb
  exact ⟨fun pins s σ H Q I q => (pe_cmpR hr (ha Z E hE) (hb Z E hE) hm).run pins s σ H Q I (i Z E hE σ H Q q)⟩
/-- a value as a test -/
def mTst (m : EM D) : EM Bool := fun E env C Q => m E env C fun d env1 C1 => ∃ k, d = .bl k ∧ Q k env1 C1
theorem dt_cmp {op : CmpOp} {g : D → D → (D → Prop) → Prop} (o : OpD X (compareOp op) RShr g) {ma mb : EM D} (ha : DE X RPk a ma) (hb : DE X RPk b mb) (hm : behindInMarks op b = false) : DT X (.Compare a [op] [b] pos) (mTst (mOp g ma mb)) := fun Z E hE => by
  obtain ⟨r, hr, i⟩ := opd_run o ha hb
  refine ⟨fun pins s σ H Q I ⟨Hs, env, C, P, sr, q, k⟩ => (pt_cmpR hr (ha Z E hE) (hb Z E hE) hm).run pins s σ H Q I ?_⟩
  refine i Z E hE σ H _ ⟨Hs, env, C, _, sr, q, fun d env' C' v Hs' H' p t s rr => ?_⟩
  obtain ⟨b, rfl, p⟩ := p
  cases rr
  exact ⟨b, rfl, k _ _ _ Hs' H' p t s⟩
/-! ### chains a < b < c -/
def mChain (g g' : D → D → (D → Prop) → Prop) (ma mb mc : EM D) : EM D := fun E env C Q => ma E env C fun d env1 C1 => mb E env1 C1 fun e env2 C2 => g (dr C2 d) (dr C2 e) fun x => ∃ k, x = .bl k ∧
  (if k = true then mc E env2 C2 fun f env3 C3 => g' (dr C3 e) (dr C3 f) fun y => Q y env3 C3 else Q (.bl false) env2 C2)
/-! ### and, or, not, if as values and tests -/
/-- a plain expression as a test: its truth -/
def truD : D → Option Bool
  | .non => some false
  | .bl b => some b
  | .int i => some (i != 0)
  | .str s => if s.length ≤ sizeLine then some (!s.isEmpty) else none
  | .tup xs => some (!xs.isEmpty)
  | .lst xs => some (!xs.isEmpty)
  | .dct kvs => none
  | _ => none
def mTru (m : EM D) : EM Bool := fun E env C Q => m E env C fun d env1 C1 => match truD (dr C1 d) with
  | some k => Q k env1 C1
  | none => False
theorem isEmpty_rep {K : PySem.W.Frag} {H : Hp} {ds : List D} {vs : List V} (r : RepL K H ds vs) : ds.isEmpty = vs.isEmpty := by
  cases r <;> rfl
theorem tru_now {K : PySem.W.Frag} {Hs H : Hp} {d : D} {v : V} {k : Bool} (sub : Same Hs H) (r : RNow K Hs H d v) (h : truD d = some k) : TruV K v H k := by
  cases r with
  | non => simpa [truD, TruV] using h.symm
  | bl b => simpa [truD, TruV] using h.symm
  | int i => simpa [truD, TruV] using h.symm
  | str s =>
    have h' : (if s.length ≤ sizeLine then some (!s.isEmpty) else none) = some k := h
    split at h'
    · rename_i hs
      refine ⟨by rw [sV_len]; exact hs, ?_⟩
      have e : k = !s.isEmpty := (Option.some.inj h').symm
      rw [e, sV_len]
      cases s with
      | nil => rfl
      | cons x r =>
        show true = (((r.length + 1 : Nat) : Int) != 0)
        symm
        rw [bne_iff_ne]
        omega
    · cases h'
  | tup e r =>
    refine .inr (.inl ⟨_, TupA.sq sub e, ?_⟩)
    rw [← isEmpty_rep r]
    exact (Option.some.inj h).symm
  | lst e r =>
    refine .inl ⟨_, SqL.of e, ?_⟩
    rw [← isEmpty_rep r]
    exact (Option.some.inj h).symm
  | dct e r => cases h
  | obj e r => cases h
  | cell a => cases h
  | ty n => cases h
  | scr e => cases h
  | exc e r => cases h
  | tupT d e => cases h
  | kt e => cases h
theorem dt_tru {ma : EM D} (ha : DE X RPk a ma) (he : ∀ whole, isTrue a X.env whole = (do let v ← whole; standAt a.pos; holding [v] (truthy v))) : DT X a (mTru ma) := fun Z E hE => by
  refine ⟨fun pins s σ H Q I ⟨Hs, env, C, P, sr, q, k⟩ => (pt_truth (ha Z E hE) he).run pins s σ H Q I ?_⟩
  refine ⟨Hs, env, C, _, sr, q, fun d env1 C1 v Hs1 H1 q1 t1 s1 r1 => ?_⟩
  have n := r1.now s1.fit
  cases e : truD (dr C1 d) with
  | none => simp only [e] at q1
  | some b =>
    simp only [e] at q1
    exact ⟨b, tru_now s1.fit.sub n e, k _ _ _ Hs1 H1 q1 t1 s1⟩
def mAndT (m m' : EM Bool) : EM Bool := fun E env C Q => m E env C fun k env1 C1 => if k = true then m' E env1 C1 Q else Q false env1 C1
def mOrT (m m' : EM Bool) : EM Bool := fun E env C Q => m E env C fun k env1 C1 => if k = true then Q true env1 C1 else m' E env1 C1 Q
def mNotT (m : EM Bool) : EM Bool := fun E env C Q => m E env C fun k env1 C1 => Q (!k) env1 C1
def DW (X : Cx) (e : Expr) (m : EM Bool) : Prop := ∀ Z E, DX X Z E → PW X e (LT X.K Z (m E))
theorem DW.pt {m : EM Bool} (h : DW X e m) : DT X e m := fun Z E hE => (h Z E hE).pt
variable {rest : List Expr} {mA mB : EM Bool}
theorem dw_and1 (ha : DT X a mA) : DW X (.BoolOp .And [a] pos) mA := fun Z E hE => pw_and1 (ha Z E hE)
theorem dw_or1 (ha : DT X a mA) : DW X (.BoolOp .Or [a] pos) mA := fun Z E hE => pw_or1 (ha Z E hE)
theorem dw_and (ha : DT X a mA) (hb : DW X (.BoolOp .And (b :: rest) pos) mB) : DW X (.BoolOp .And (a :: b :: rest) pos) (mAndT mA mB) := fun Z E hE => by
  refine ⟨fun wh pins s σ H Q I ⟨Hs, env, C, P, sr, q, k⟩ => (pw_and (ha Z E hE) (hb Z E hE)).run wh pins s σ H Q I ?_⟩
  refine ⟨Hs, env, C, _, sr, q, fun b env1 C1 Hs1 H1 q1 t1 s1 => ?_⟩
  cases b with
  | true =>
    rw [if_pos rfl] at q1 ⊢
    exact ⟨Hs1, env1, C1, P, s1, q1, fun b env2 C2 Hs2 H2 q2 t2 s2 => k _ _ _ _ _ q2 (t1.trans t2) s2⟩
  | false =>
    rw [if_neg Bool.false_ne_true] at q1 ⊢
    exact k _ _ _ _ _ q1 t1 s1
theorem dw_or (ha : DT X a mA) (hb : DW X (.BoolOp .Or (b :: rest) pos) mB) : DW X (.BoolOp .Or (a :: b :: rest) pos) (mOrT mA mB) := fun Z E hE => by
  refine ⟨fun wh pins s σ H Q I ⟨Hs, env, C, P, sr, q, k⟩ => (pw_or (ha Z E hE) (hb Z E hE)).run wh pins s σ H Q I ?_⟩
  refine ⟨Hs, env, C, _, sr, q, fun b env1 C1 Hs1 H1 q1 t1 s1 => ?_⟩
  cases b with
  | true =>
    rw [if_pos rfl] at q1 ⊢
    exact k _ _ _ _ _ q1 t1 s1
  | false =>
    rw [if_neg Bool.false_ne_true] at q1 ⊢
    exact ⟨Hs1, env1, C1, P, s1, q1, fun b env2 C2 Hs2 H2 q2 t2 s2 => k _ _ _ _ _ q2 (t1.trans t2) s2⟩
theorem dt_not (ha : DT X a mA) : DT X (.UnaryOp .Not a pos) (mNotT mA) := fun Z E hE => by
  refine ⟨fun pins s σ H Q I ⟨Hs, env, C, P, sr, q, k⟩ => (pt_not (ha Z E hE)).run pins s σ H Q I ?_⟩
  exact ⟨Hs, env, C, _, sr, q, fun b env1 C1 Hs1 H1 q1 t1 s1 => k _ _ _ _ _ q1 t1 s1⟩
/-- as values: all but the last True or False -/
def mAndV (m m' : EM D) : EM D := fun E env C Q => m E env C fun x env1 C1 => ∃ k, x = .bl k ∧ if k = true then m' E env1 C1 Q else Q (.bl false) env1 C1
def mOrV (m m' : EM D) : EM D := fun E env C Q => m E env C fun x env1 C1 => ∃ k, x = .bl k ∧ if k = true then Q (.bl true) env1 C1 else m' E env1 C1 Q
def mNotV (m : EM D) : EM D := fun E env C Q => m E env C fun x env1 C1 => ∃ k, x = .bl k ∧ Q (.bl (!k)) env1 C1
def mIf {α : Type} (t : EM Bool) (ma mb : EM α) : EM α := fun E env C Q => t E env C fun k env1 C1 => if k = true then ma E env1 C1 Q else mb E env1 C1 Q
theorem d_if {α : Type} {R : RR α} {c : Expr} {mc : EM Bool} {ma mb : EM α} (hc : DT X c mc) (ha : DE X R a ma) (hb : DE X R b mb) : DE X R (.IfExp c a b pos) (mIf mc ma mb) := fun Z E hE => by
  refine ⟨fun pins s σ H Q I ⟨Hs, env, C, P, sr, q, k⟩ => (pe_ifExp (hc Z E hE) (ha Z E hE) (hb Z E hE)).run pins s σ H Q I ?_⟩
  refine ⟨Hs, env, C, _, sr, q, fun c env1 C1 Hs1 H1 q1 t1 s1 => ?_⟩
  cases c with
  | true =>
    rw [if_pos rfl] at q1 ⊢
    exact ⟨Hs1, env1, C1, P, s1, q1, fun d env2 C2 v Hs2 H2 q2 t2 s2 r2 => k _ _ _ _ _ _ q2 (t1.trans t2) s2 r2⟩
  | false =>
    rw [if_neg Bool.false_ne_true] at q1 ⊢
    exact ⟨Hs1, env1, C1, P, s1, q1, fun d env2 C2 v Hs2 H2 q2 t2 s2 r2 => k _ _ _ _ _ _ q2 (t1.trans t2) s2 r2⟩
/-- - a -/
def gNeg (d : D) (P : D → Prop) : Prop := match d with
  | .int i => P (.int (-i))
  | _ => False
def mUn (g : D → (D → Prop) → Prop) (ma : EM D) : EM D := fun E env C Q => ma E env C fun d env1 C1 => g (dr C1 d) fun x => Q x env1 C1
theorem d_neg {ma : EM D} (ha : DE X RPk a ma) : DE X RShr (.UnaryOp .USub a pos) (mUn gNeg ma) := fun Z E hE => by
  refine ⟨fun pins s σ H Q I ⟨Hs, env, C, P, sr, q, k⟩ => (pe_un un_neg (ha Z E hE)).run pins s σ H Q I ?_⟩
  refine ⟨Hs, env, C, _, sr, q, fun d env1 C1 v Hs1 H1 q1 t1 s1 r1 => ?_⟩
  have n := r1.now s1.fit
  generalize dr C1 d = x at n q1
  cases n with
  | int i => exact ⟨i, rfl, k _ _ _ _ _ _ q1 t1 s1 (.int _)⟩
  | _ => exact False.elim q1
end
end L2.DL
/-! DLd: the operators over trees. -/
namespace L2.DL
open PySem PySem.Spec PyProof.Rows
theorem sV_app (s t : Txt) : sV s ++ sV t = sV (s ++ t) := by
  show Str.append _ _ = _
  unfold Str.append sV
  simp
def keyP : DK → PyData
  | .inl i => .int i
  | .inr s => .str (sV s)
/-! trees that are data -/
mutual
def toP : D → PyData
  | .non => .none
  | .bl b => .bool b
  | .int i => .int i
  | .str s => .str (sV s)
  | .tup xs => .tuple (toPs xs)
  | .lst xs => .list (toPs xs)
  | .dct kvs => .dict (toPkv kvs)
  | .tupT ts => .tuple (ts.map fun t => .str (sV t))
  | _ => .none
def toPs : List D → List PyData
  | [] => []
  | d :: r => toP d :: toPs r
def toPkv : List (DK × D) → List (PyData × PyData)
  | [] => []
  | (k, d) :: r => (keyP k, toP d) :: toPkv r
end
mutual
/-- plain data: no dicts, no objects -/
def isP : D → Bool
  | .non => true
  | .bl _ => true
  | .int _ => true
  | .str _ => true
  | .tup xs => isPs xs
  | .lst xs => isPs xs
  | .tupT _ => true
  | _ => false
def isPs : List D → Bool
  | [] => true
  | d :: r => isP d && isPs r
end
section
variable {K : PySem.W.Frag} {Hs H : Hp}
theorem dp_strs : ∀ ts : List Txt, DpAll K H ((ts.map sV).map V.str) (ts.map fun t => PyData.str (sV t))
  | [] => .nil
  | t :: r => .cons (.str _) (dp_strs r)
mutual
theorem Rep.dp (s : Same Hs H) : ∀ {d : D} {v : V}, Rep K Hs d v → isP d = true → Dp K H v (toP d)
  | _, _, .non, _ => .non
  | _, _, .bl b, _ => .bl b
  | _, _, .int i, _ => .int i
  | _, _, .str x, _ => .str _
  | _, _, .tup h r, p => .tup (TupA.sq s h) (RepL.dp s r p)
  | _, _, .lst h r, p => .lst (SqL.of (s _ _ h)) (RepL.dp s r p)
  | _, _, .dct h r, p => by cases p
  | _, _, .obj h r, p => by cases p
  | _, _, .cell a, p => by cases p
  | _, _, .ty n, p => by cases p
  | _, _, .scr h, p => by cases p
  | _, _, .exc h r, p => by cases p
  | _, _, .tupT d h, _ => .tup (TupA.sq s (.inr ⟨_, d, h⟩)) (dp_strs _)
  | _, _, .kt h, p => by cases p
theorem RepL.dp (s : Same Hs H) : ∀ {d : List D} {v : List V}, RepL K Hs d v → isPs d = true → DpAll K H v (toPs d)
  | _, _, .nil, _ => .nil
  | _, _, .cons h r, p => by
    have p' := Bool.and_eq_true_iff.mp p
    exact .cons (Rep.dp s h p'.1) (RepL.dp s r p'.2)
end
theorem RNow.dp (s : Same Hs H) {d : D} {v : V} (n : RNow K Hs H d v) (p : isP d = true) : Dp K H v (toP d) := by
  cases n with
  | non => exact .non
  | bl b => exact .bl b
  | int i => exact .int i
  | str x => exact .str _
  | tup h r => exact .tup (TupA.sq s h) (RepL.dp s r p)
  | lst h r => exact .lst (SqL.of h) (RepL.dp s r p)
  | dct h r => cases p
  | obj h r => cases p
  | cell a => cases p
  | ty n => cases p
  | scr h => cases p
  | exc h r => cases p
  | tupT d h => exact .tup (TupA.sq s (.inr ⟨_, d, h⟩)) (dp_strs _)
  | kt h => cases p
end
/-- may be compared as data -/
def okD (d : D) : Bool := isP d && SeqAt.shaped (toP d)
/-- == of data -/
def eqv (d e : D) : Bool := PyData.eqv (toP d) (toP e)
section
variable {X : Cx}
/-! ### + -/
def gAdd (d e : D) (P : D → Prop) : Prop := match d, e with
  | .int i, .int j => P (.int (i + j))
  | .str s, .str t => s.length + t.length ≤ sizeLine ∧ P (.str (s ++ t))
  | .tup xs, .tup ys => xs.length + ys.length ≤ sizeLine ∧ P (.tup (xs ++ ys))
  | .lst xs, .lst ys => xs.length + ys.length ≤ sizeLine ∧ P (.lst (xs ++ ys))
  | _, _ => False
theorem opd_add : OpD X (binaryOp .Add) RShr gAdd := by
  refine ⟨_, op_add.or (op_add_str.or (op_catA.or op_cat)), ?_⟩
  intro Z σ Hs H env C d e v u P Q sr n n' g k
  cases n with
  | int i => cases n' with
    | int j => exact .inl ⟨i, j, rfl, rfl, k _ _ Hs H g Tr.refl sr (.int _)⟩
    | _ => exact False.elim g
  | str s => cases n' with
    | str t =>
      refine .inr (.inl ⟨_, _, rfl, rfl, by rw [sV_len, sV_len]; exact g.1, ?_⟩)
      rw [sV_app]
      exact k _ _ Hs H g.2 Tr.refl sr (.str _)
    | _ => exact False.elim g
  | tup h r => cases n' with
    | tup h' r' =>
      have l1 := r.length
      have l2 := r'.length
      refine .inr (.inr (.inl ⟨_, _, _, _, rfl, rfl, TupA.sq sr.fit.sub h, TupA.sq sr.fit.sub h', by rw [← l1, ← l2]; exact g.1, fun e => ?_, fun ne e => ?_, fun ne ne' p hp => ?_⟩))
      · subst e
        cases r
        exact k _ _ Hs H g.2 Tr.refl sr (.tup h' r')
      · subst e
        cases r'
        have g2 := g.2
        rw [List.append_nil] at g2
        exact k _ _ Hs H g2 Tr.refl sr (.tup h r)
      · exact k _ _ _ _ g.2 (Tr.lay sr.fit hp _) (sr.lay hp _) (.tup (.inl upd_same) ((r.same (same_upd (sr.fit.nothing hp).1)).append (r'.same (same_upd (sr.fit.nothing hp).1))))
    | _ => exact False.elim g
  | lst h r => cases n' with
    | lst h' r' =>
      have l1 := r.length
      have l2 := r'.length
      refine .inr (.inr (.inr ⟨_, _, _, _, rfl, rfl, h, h', by rw [← l1, ← l2]; exact g.1, fun p hp => ?_⟩))
      exact k _ _ _ _ g.2 (Tr.lay sr.fit hp _) (sr.lay hp _) (.lst upd_same ((r.same (same_upd (sr.fit.nothing hp).1)).append (r'.same (same_upd (sr.fit.nothing hp).1))))
    | _ => exact False.elim g
  | _ => exact False.elim g
/-- an int operator under a condition -/
def gI (C : Int → Int → Prop) (f : Int → Int → Int) (d e : D) (P : D → Prop) : Prop := match d, e with
  | .int i, .int j => C i j ∧ P (.int (f i j))
  | _, _ => False
theorem opd_I {f : Value → Value → Sem Value} {C : Int → Int → Prop} {h : Int → Int → Int} (o : OpR X f (rI C fun i j => .int (h i j))) : OpD X f RShr (gI C h) := by
  refine ⟨_, o, ?_⟩
  intro Z σ Hs H env C d e v u P Q sr n n' g k
  cases n with
  | int i => cases n' with
    | int j => exact ⟨i, j, rfl, rfl, g.1, k _ _ Hs H g.2 Tr.refl sr (.int _)⟩
    | _ => exact False.elim g
  | _ => exact False.elim g
def gI0 (f : Int → Int → Int) (d e : D) (P : D → Prop) : Prop := match d, e with
  | .int i, .int j => P (.int (f i j))
  | _, _ => False
theorem opd_I0 {f : Value → Value → Sem Value} {h : Int → Int → Int} (o : OpR X f (rI0 fun i j => .int (h i j))) : OpD X f RShr (gI0 h) := by
  refine ⟨_, o, ?_⟩
  intro Z σ Hs H env C d e v u P Q sr n n' g k
  cases n with
  | int i => cases n' with
    | int j => exact ⟨i, j, rfl, rfl, k _ _ Hs H g Tr.refl sr (.int _)⟩
    | _ => exact False.elim g
  | _ => exact False.elim g
theorem opd_sub : OpD X (binaryOp .Sub) RShr (gI0 fun i j => i - j) := opd_I0 op_sub
def MulOk (i j : Int) : Prop := CMulX i j
def DivOk (i j : Int) : Prop := CDivW i j
theorem opd_div : OpD X (binaryOp .FloorDiv) RShr (gI DivOk fun i j => i / j) := opd_I op_fdivW
theorem opd_mod : OpD X (binaryOp .Mod) RShr (gI (fun _ j => 0 < j) fun i j => i % j) := opd_I op_mod
def PowOk (i j : Int) : Prop := 0 ≤ j ∧ (Builtin.Int.intBits i : Int) * j ≤ 2 ^ 27
theorem op_powW : OpR X (binaryOp .Pow) (rI PowOk fun i j => .int (i ^ j.toNat)) := opI fun _ _ _ _ _ _ _ hc q => pow_int hc.1 hc.2 q
theorem opd_pow : OpD X (binaryOp .Pow) RShr (gI PowOk fun i j => i ^ j.toNat) := opd_I op_powW
/-! ### ==, != -/
def scD : D → D → Bool
  | .non, .non => true | .non, .int _ => true | .int _, .non => true | .non, .bl _ => true | .bl _, .non => true | .non, .str _ => true | .str _, .non => true
  | .int _, .int _ => true | .bl _, .bl _ => true | .str _, .str _ => true
  | .int _, .str _ => true | .str _, .int _ => true | .bl _, .str _ => true | .str _, .bl _ => true
  | _, _ => false
theorem scal_of {K : PySem.W.Frag} {Hs H : Hp} {d e : D} {v u : V} (n : RNow K Hs H d v) (n' : RNow K Hs H e u) (h : scD d e = true) : scal v u = true ∧ decide (v = u) = eqv d e := by
  cases n <;> cases n' <;> first
    | (cases h; done)
    | exact ⟨rfl, rfl⟩
    | (refine ⟨rfl, ?_⟩; simp [eqv, toP, PyData.eqv]; done)
    | (refine ⟨rfl, ?_⟩; simp only [eqv, toP, PyData.eqv, V.int.injEq, V.bl.injEq, V.str.injEq]; rw [Bool.beq_eq_decide_eq]; done)
def gEq (neg : Bool) (d e : D) (P : D → Prop) : Prop := (scD d e = true ∨ (okD d = true ∧ okD e = true)) ∧ P (.bl (if neg then !eqv d e else eqv d e))
theorem opd_eq (hu : X.A.units + 64 < cLine) : OpD X (compareOp .Eq) RShr (gEq false) := by
  refine ⟨_, op_eq.or (op_eqD hu), ?_⟩
  intro Z σ Hs H env C d e v u P Q sr n n' g k
  obtain ⟨h | ⟨h1, h2⟩, p⟩ := g
  · obtain ⟨s1, s2⟩ := scal_of n n' h
    refine .inl ⟨s1, ?_⟩
    rw [s2]
    exact k _ _ Hs H p Tr.refl sr (.bl _)
  · have a1 := Bool.and_eq_true_iff.mp h1
    have a2 := Bool.and_eq_true_iff.mp h2
    exact .inr ⟨_, _, n.dp sr.fit.sub a1.1, n'.dp sr.fit.sub a2.1, a1.2, a2.2, k _ _ Hs H p Tr.refl sr (.bl _)⟩
theorem opd_ne (hu : X.A.units + 64 < cLine) : OpD X (compareOp .NotEq) RShr (gEq true) := by
  refine ⟨_, op_ne.or (op_neD hu), ?_⟩
  intro Z σ Hs H env C d e v u P Q sr n n' g k
  obtain ⟨h | ⟨h1, h2⟩, p⟩ := g
  · obtain ⟨s1, s2⟩ := scal_of n n' h
    refine .inl ⟨s1, ?_⟩
    rw [s2]
    exact k _ _ Hs H p Tr.refl sr (.bl _)
  · have a1 := Bool.and_eq_true_iff.mp h1
    have a2 := Bool.and_eq_true_iff.mp h2
    exact .inr ⟨_, _, n.dp sr.fit.sub a1.1, n'.dp sr.fit.sub a2.1, a1.2, a2.2, k _ _ Hs H p Tr.refl sr (.bl _)⟩
/-! ### order -/
def gOrd (fi : Int → Int → Bool) (fs : Txt → Txt → Bool) (d e : D) (P : D → Prop) : Prop := match d, e with
  | .int i, .int j => P (.bl (fi i j))
  | .str s, .str t => P (.bl (fs s t))
  | _, _ => False
theorem opd_lt : OpD X (compareOp .Lt) RShr (gOrd (fun i j => decide (i < j)) fun s t => decide (s < t)) := by
  refine ⟨_, op_lt.or op_lt_str, ?_⟩
  intro Z σ Hs H env C d e v u P Q sr n n' g k
  cases n with
  | int i => cases n' with
    | int j => exact .inl ⟨i, j, rfl, rfl, k _ _ Hs H g Tr.refl sr (.bl _)⟩
    | _ => exact False.elim g
  | str s => cases n' with
    | str t => exact .inr ⟨_, _, rfl, rfl, by rw [sV_cps, sV_cps]; exact k _ _ Hs H g Tr.refl sr (.bl _)⟩
    | _ => exact False.elim g
  | _ => exact False.elim g
theorem opd_ge : OpD X (compareOp .GtE) RShr (gOrd (fun i j => decide (j ≤ i)) fun s t => !decide (s < t)) := by
  refine ⟨_, op_ge.or op_ge_str, ?_⟩
  intro Z σ Hs H env C d e v u P Q sr n n' g k
  cases n with
  | int i => cases n' with
    | int j => exact .inl ⟨i, j, rfl, rfl, k _ _ Hs H g Tr.refl sr (.bl _)⟩
    | _ => exact False.elim g
  | str s => cases n' with
    | str t => exact .inr ⟨_, _, rfl, rfl, by rw [sV_cps, sV_cps]; exact k _ _ Hs H g Tr.refl sr (.bl _)⟩
    | _ => exact False.elim g
  | _ => exact False.elim g
/-! ### in, not in -/
def flD : D → Bool
  | .non => true | .bl _ => true | .int _ => true | .str _ => true | _ => false
theorem flat_now {K : PySem.W.Frag} {Hs H : Hp} {d : D} {v : V} (n : RNow K Hs H d v) (h : flD d = true) : flatV v = true := by
  cases n <;> first | rfl | (cases h; done)
theorem flat_rep {K : PySem.W.Frag} {Hs : Hp} {d : D} {v : V} (n : Rep K Hs d v) (h : flD d = true) : flatV v = true := by
  cases n <;> first | rfl | (cases h; done)
theorem flats_rep {K : PySem.W.Frag} {Hs : Hp} : ∀ {ds : List D} {vs : List V}, RepL K Hs ds vs → ds.all flD = true → vs.all flatV = true
  | _, _, .nil, _ => rfl
  | _, _, .cons h r, f => by
    rw [List.all_cons, Bool.and_eq_true] at f ⊢
    exact ⟨flat_rep h f.1, flats_rep r f.2⟩
theorem eqV_now {K : PySem.W.Frag} {Hs H : Hp} {d e : D} {v u : V} (n : Rep K Hs d v) (n' : RNow K Hs H e u) (h : flD d = true) (h' : flD e = true) : eqV v u = eqv d e := by
  cases n <;> first | (cases h; done) | (cases n' <;> first | (cases h'; done) | rfl | (simp [eqV, eqv, toP, PyData.eqv]; done))
theorem any_now {K : PySem.W.Frag} {Hs H : Hp} {e : D} {u : V} (n' : RNow K Hs H e u) (h' : flD e = true) : ∀ {ds : List D} {vs : List V}, RepL K Hs ds vs → ds.all flD = true → (vs.any fun y => eqV y u) = ds.any fun y => eqv y e
  | _, _, .nil, _ => rfl
  | _, _, .cons h r, f => by
    rw [List.all_cons, Bool.and_eq_true] at f
    rw [List.any_cons, List.any_cons, eqV_now h n' f.1 h', any_now n' h' r f.2]
theorem any_toP (e : PyData) : ∀ ds : List D, ((toPs ds).any fun z => PyData.eqv z e) = ds.any fun y => PyData.eqv (toP y) e
  | [] => rfl
  | d :: r => by
    rw [toPs, List.any_cons, List.any_cons, any_toP e r]
/-- membership -/
def inD (e : D) (ds : List D) : Bool := ds.any fun y => eqv y e
def dkOf : D → Option DK
  | .int i => some (.inl i)
  | .str s => some (.inr s)
  | _ => none
/-- what a table holds at a key -/
def look (k : DK) : List (DK × D) → Option D
  | [] => none
  | (j, d) :: r => if j = k then some d else look k r
def gIn (neg : Bool) (d e : D) (P : D → Prop) : Prop := match e with
  | .lst xs => ((flD d = true ∧ xs.all flD = true) ∨ (okD d = true ∧ okD (.lst xs) = true)) ∧ P (.bl (if neg then !inD d xs else inD d xs))
  | .tup xs => (flD d = true ∧ xs.all flD = true) ∧ P (.bl (if neg then !inD d xs else inD d xs))
  | .str t => ∃ c, d = .str [c] ∧ P (.bl (if neg then !decide (c ∈ t) else decide (c ∈ t)))
  | .dct kvs => ∃ k, dkOf d = some k ∧ P (.bl (if neg then !(look k kvs).isSome else (look k kvs).isSome))
  | _ => False
theorem dk_now {K : PySem.W.Frag} {Hs H : Hp} {d : D} {v : V} {k : DK} (n : RNow K Hs H d v) (h : dkOf d = some k) : v = kV (kOf k) := by
  cases n <;> first | (simp [dkOf] at h; done) | (simp only [dkOf, Option.some.injEq] at h; subst h; rfl)
theorem look_rep {K : PySem.W.Frag} {Hs : Hp} {k : DK} : ∀ {kvs : List (DK × D)} {ws : List (Key × V)}, RepKV K Hs kvs ws →
    (∀ d, look k kvs = some d → ∃ v, valV ws (kOf k) = some v ∧ Rep K Hs d v) ∧ (look k kvs = none → valV ws (kOf k) = none)
  | _, _, .nil => ⟨fun d h => by simp [look] at h, fun _ => rfl⟩
  | _, _, @RepKV.cons _ _ j d v ds vs h r => by
    obtain ⟨i1, i2⟩ := look_rep (k := k) r
    by_cases e : j = k
    · subst e
      refine ⟨fun d' h' => ?_, fun h' => ?_⟩
      · have h2 : d = d' := by simpa [look] using h'
        subst h2
        exact ⟨v, valV_pos rfl, h⟩
      · simp [look] at h'
    · have ne : ¬ kOf j = kOf k := fun z => e (kOf_inj z)
      refine ⟨fun d' h' => ?_, fun h' => ?_⟩
      · simp only [look, if_neg e] at h'
        obtain ⟨v', q1, q2⟩ := i1 d' h'
        exact ⟨v', (valV_neg (p := (kOf j, v)) ne).trans q1, q2⟩
      · simp only [look, if_neg e] at h'
        exact (valV_neg (p := (kOf j, v)) ne).trans (i2 h')
theorem look_some {K : PySem.W.Frag} {Hs : Hp} {k : DK} {kvs : List (DK × D)} {ws : List (Key × V)} (r : RepKV K Hs kvs ws) : (valV ws (kOf k)).isSome = (look k kvs).isSome := by
  obtain ⟨i1, i2⟩ := look_rep (k := k) r
  cases e : look k kvs with
  | none => rw [i2 e]; rfl
  | some d => obtain ⟨v, q, _⟩ := i1 d e; rw [q]; rfl
theorem op_din (hu : X.A.units + 1 < cLine) : OpR X (compareOp .In) (fun y x H Q => ∃ a o, x = .ref a ∧ DGet H a y o ∧ Q (.bl o.isSome) H) := by
  intro pins s σ H x y v u Q I rx ry h
  obtain ⟨a, o, rfl, g, q⟩ := h
  cases ry
  exact d_in hu I g rx fun s' I' => ⟨.bl _, H, I', rfl, q⟩
theorem opd_in (hu : X.A.units + 65 < cLine) : OpD X (compareOp .In) RShr (gIn false) := by
  refine ⟨_, op_in_seq.or ((op_inD hu).or (op_in_sign.or (op_din (by omega)))), ?_⟩
  intro Z σ Hs H env C d e v u P Q sr n n' g k
  cases n' with
  | lst h r =>
    obtain ⟨⟨f1, f2⟩ | ⟨o1, o2⟩, p⟩ := g
    · refine .inl ⟨_, _, rfl, .inl (SqL.of h), flat_now n f1, flats_rep r f2, ?_⟩
      have e1 : inV v _ = inD d _ := any_now n f1 r f2
      rw [if_neg Bool.false_ne_true, e1]
      exact k _ _ Hs H p Tr.refl sr (.bl _)
    · have a1 := Bool.and_eq_true_iff.mp o1
      have a2 := Bool.and_eq_true_iff.mp o2
      refine .inr (.inl ⟨toP d, toPs _, n.dp sr.fit.sub a1.1, .lst (SqL.of h) (RepL.dp sr.fit.sub r a2.1), a1.2, a2.2, ?_⟩)
      rw [any_toP]
      exact k _ _ Hs H p Tr.refl sr (.bl _)
  | tup h r =>
    obtain ⟨⟨f1, f2⟩, p⟩ := g
    refine .inl ⟨_, _, rfl, .inr (TupA.sq sr.fit.sub h), flat_now n f1, flats_rep r f2, ?_⟩
    have e1 : inV v _ = inD d _ := any_now n f1 r f2
    rw [if_neg Bool.false_ne_true, e1]
    exact k _ _ Hs H p Tr.refl sr (.bl _)
  | str t =>
    obtain ⟨c, rfl, p⟩ := g
    cases n with
    | str s =>
      refine .inr (.inr (.inl ⟨c, _, rfl, rfl, ?_⟩))
      rw [sV_cps]
      exact k _ _ Hs H p Tr.refl sr (.bl _)
  | dct h r =>
    obtain ⟨kk, e, p⟩ := g
    have hv := dk_now n e
    subst hv
    refine .inr (.inr (.inr ⟨_, _, rfl, .inl ⟨_, _, h, rfl, rfl⟩, ?_⟩))
    rw [look_some r]
    exact k _ _ Hs H p Tr.refl sr (.bl _)
  | _ => exact False.elim g
end
end L2.DL
/-! DLe: argument lists, displays, subscripts, slices, calls of built-ins. -/
namespace L2.DL
open PySem PySem.Spec PyProof.Rows
section
variable {X : Cx} {e a b : Expr} {es : List Expr} {pos : Pos}
/-! ### argument lists -/
/-- a kind of result that lasts -/
def Lasts (R : RR D) : Prop := ∀ K Z σ Hs H env C d v Hs' H' env' C', R K Z σ Hs H env C d v → Tr Hs H C Hs' H' C' → R K Z σ Hs' H' env' C' d v
theorem lasts_shr : Lasts RShr := fun _ _ _ _ _ _ _ _ _ _ _ _ _ r t => r.same t.fr
theorem lasts_pk : Lasts RPk := fun _ _ _ _ _ _ _ _ _ _ _ _ _ r t => r.tr t
theorem RAll.tr {R : RR D} (l : Lasts R) {K : PySem.W.Frag} {Z : Z0} {σ : St} {Hs H Hs' H' : Hp} {env env' : DL.Env} {C C' : Cs} (t : Tr Hs H C Hs' H' C') :
    ∀ {ds : List D} {vs : List V}, RAll K R Z σ Hs H env C ds vs → RAll K R Z σ Hs' H' env' C' ds vs
  | _, _, .nil => .nil
  | _, _, .cons h r => .cons (l _ _ _ _ _ _ _ _ _ _ _ _ _ h t) (RAll.tr l t r)
def mNil : EM (List D) := fun _ env C Q => Q [] env C
def mCons (m : EM D) (ms : EM (List D)) : EM (List D) := fun E env C Q => m E env C fun d env1 C1 => ms E env1 C1 fun ds env2 C2 => Q (d :: ds) env2 C2
theorem da_nil {R : RR D} : DA X R [] mNil := fun Z E hE => ⟨fun pos pins s σ H Q I ⟨Hs, env, C, P, sr, q, k⟩ => (pa_nil).run pos pins s σ H Q I (k _ _ _ _ _ _ q Tr.refl sr .nil)⟩
theorem da_cons {R : RR D} (l : Lasts R) {m : EM D} {ms : EM (List D)} (h : DE X R e m) (hs : DA X R es ms) (st : starEach (e :: es) X.env = (false, eval e X.env) :: starEach es X.env) : DA X R (e :: es) (mCons m ms) := fun Z E hE => by
  refine ⟨fun pos pins s σ H Q I ⟨Hs, env, C, P, sr, q, k⟩ => (pa_cons (h Z E hE) (hs Z E hE) st).run pos pins s σ H Q I ?_⟩
  refine ⟨Hs, env, C, _, sr, q, fun d env1 C1 v Hs1 H1 q1 t1 s1 r1 => ?_⟩
  refine ⟨Hs1, env1, C1, _, s1, q1, fun ds env2 C2 vs Hs2 H2 q2 t2 s2 r2 => ?_⟩
  exact k _ _ _ _ Hs2 H2 q2 (t1.trans t2) s2 (.cons (l _ _ _ _ _ _ _ _ _ _ _ _ _ r1 t2) r2)
theorem RAll.rep {K : PySem.W.Frag} {Z : Z0} {σ : St} {Hs H : Hp} {env : DL.Env} {C : Cs} : ∀ {ds : List D} {vs : List V}, RAll K RShr Z σ Hs H env C ds vs → RepL K Hs ds vs
  | _, _, .nil => .nil
  | _, _, .cons h r => .cons h r.rep
/-! ### displays -/
def mLst (ms : EM (List D)) : EM Cont := fun E env C Q => ms E env C fun ds env1 C1 => ds.length ≤ sizeLine ∧ Q (.lst ds) env1 C1
def mTup (ms : EM (List D)) : EM D := fun E env C Q => ms E env C fun ds env1 C1 => ds.length ≤ sizeLine ∧ Q (.tup ds) env1 C1
/-- a fresh container laid -/
theorem fr_lay {K : PySem.W.Frag} {Z : Z0} {σ : St} {Hs H : Hp} {env : DL.Env} {C : Cs} {p : Addr} {o : HO} {c : Cont} (sr : SR K Z σ Hs H env C) (hp : H p = none) (r : RepO K Hs c o) :
    RFr K Z σ Hs (upd H p o) env C c (.ref p) := by
  obtain ⟨n1, n2⟩ := sr.fit.nothing hp
  refine ⟨p, o, rfl, upd_same, r, n1, n2, sr.bas.zfree hp, fun i c' e z => ?_⟩
  obtain ⟨q, u, e1, e2, _⟩ := sr.slt.own i c' e
  rw [e1] at z
  cases z
  rw [hp] at e2
  cases e2
theorem d_lst {ms : EM (List D)} (h : DA X RShr es ms) : DE X RFr (.List es pos) (mLst ms) := fun Z E hE => by
  refine ⟨fun pins s σ H Q I ⟨Hs, env, C, P, sr, q, k⟩ => (pe_lst (h Z E hE)).run pins s σ H Q I ?_⟩
  refine ⟨Hs, env, C, _, sr, q, fun ds env1 C1 vs Hs1 H1 q1 t1 s1 r1 => ?_⟩
  have r := r1.rep
  refine ⟨by rw [← r.length]; exact q1.1, fun p hp => ?_⟩
  exact k _ _ _ _ Hs1 _ q1.2 (t1.trans (Tr.layP hp _)) (s1.layP hp _) (fr_lay s1 hp ⟨_, rfl, r⟩)
theorem d_tup {ms : EM (List D)} {kk : Nat} (h : DA X RShr es ms) : DE X RShr (.Tuple es kk pos) (mTup ms) := fun Z E hE => by
  refine ⟨fun pins s σ H Q I ⟨Hs, env, C, P, sr, q, k⟩ => (pe_tup (h Z E hE)).run pins s σ H Q I ?_⟩
  refine ⟨Hs, env, C, _, sr, q, fun ds env1 C1 vs Hs1 H1 q1 t1 s1 r1 => ?_⟩
  have r := r1.rep
  refine ⟨by rw [← r.length]; exact q1.1, fun p hp => ?_⟩
  exact k _ _ _ _ _ _ q1.2 (t1.trans (Tr.lay s1.fit hp _)) (s1.lay hp _) (.tup (.inl upd_same) (r.same (same_upd (s1.fit.nothing hp).1)))
theorem d_dct0 : DE X RFr (.Dict [] [] pos) (mC (.dct [])) := fun Z E hE => by
  refine ⟨fun pins s σ H Q I ⟨Hs, env, C, P, sr, q, k⟩ => pe_dnewK.run pins s σ H Q I fun p hp => ?_⟩
  exact k _ _ _ _ Hs _ q (Tr.layP hp _) (sr.layP hp _) (fr_lay sr hp ⟨_, rfl, .nil⟩)
/-! ### subscripts -/
structure IxD (X : Cx) (g : D → D → (D → Prop) → Prop) : Prop where
  ex : ∃ r : R2, IxR X r ∧ ∀ Z σ Hs H env C d e v u (P : D → Prop) Q, SR X.K Z σ Hs H env C → RNow X.K Hs H d v → RNow X.K Hs H e u → g d e P →
    (∀ a w Hs' H', P a → Tr Hs H C Hs' H' C → SR X.K Z σ Hs' H' env C → RShr X.K Z σ Hs' H' env C a w → Q w H') → r v u H Q
def gIx (d e : D) (P : D → Prop) : Prop := match d with
  | .lst xs => ∃ i x, e = .int i ∧ atI xs i = some x ∧ P x
  | .tup xs => ∃ i x, e = .int i ∧ atI xs i = some x ∧ P x
  | .str s => ∃ i c, e = .int i ∧ s.length ≤ sizeLine ∧ atI s i = some c ∧ P (.str [c])
  | .dct kvs => ∃ k x, dkOf e = some k ∧ look k kvs = some x ∧ P x
  | .scr ns => ∃ i n, e = .int i ∧ atI ns i = some n ∧ P (.int n)
  | _ => False
theorem ix_dict (hu : X.A.units + 1 < cLine) : IxR X (fun x y H Q => ∃ a v, x = .ref a ∧ DGet H a y (some v) ∧ Q v H) := by
  intro value slice pins s σ H x y v u Q I rx ry h hs
  obtain ⟨a, z, rfl, g, q⟩ := h
  cases rx
  exact tail_any (dict_typeIs I g) F.slot_dict_getitem.lookup (d_getItem hu I g ry fun w' s' I' r' => ⟨z, H, I', r', q⟩) hs
theorem atI_rep {K : PySem.W.Frag} {Hs : Hp} {xs : List D} {vs : List V} {i : Int} {x : D} (r : RepL K Hs xs vs) (h : atI xs i = some x) : ∃ v, atI vs i = some v ∧ Rep K Hs x v := by
  unfold atI at h ⊢
  rw [r.length] at h
  cases e : ixN vs.length i with
  | none => rw [e] at h; cases h
  | some j =>
    rw [e] at h
    obtain ⟨v, h1, h2⟩ := r.get' (i := j) h
    exact ⟨v, h1, h2⟩
theorem atI_map {α β : Type} (f : α → β) {xs : List α} {i : Int} {x : α} (h : atI xs i = some x) : atI (xs.map f) i = some (f x) := by
  unfold atI at h ⊢
  rw [List.length_map]
  cases e : ixN xs.length i with
  | none => rw [e] at h; cases h
  | some j =>
    rw [e] at h
    show (xs.map f)[j]? = some (f x)
    rw [List.getElem?_map, show xs[j]? = some x from h]
    rfl
theorem ixd (hu : X.A.units + 1 < cLine) : IxD X gIx := by
  refine ⟨_, ix_seq.or (ix_dict hu), ?_⟩
  intro Z σ Hs H env C d e v u P Q sr n n' g k
  cases n with
  | lst h r =>
    obtain ⟨i, x, rfl, hi, p⟩ := g
    cases n'
    obtain ⟨w, h1, h2⟩ := atI_rep r hi
    exact .inl (.inl ⟨_, _, i, w, rfl, rfl, SqL.of h, h1, k _ _ Hs H p Tr.refl sr h2⟩)
  | tup h r =>
    obtain ⟨i, x, rfl, hi, p⟩ := g
    cases n'
    obtain ⟨w, h1, h2⟩ := atI_rep r hi
    exact .inl (.inr (.inl ⟨_, _, i, w, rfl, rfl, TupA.sq sr.fit.sub h, h1, k _ _ Hs H p Tr.refl sr h2⟩))
  | str s =>
    obtain ⟨i, c, rfl, hl, hi, p⟩ := g
    cases n'
    exact .inl (.inr (.inr ⟨_, i, c, rfl, rfl, by rw [sV_len]; exact hl, by rw [sV_cps]; exact hi, k _ _ Hs H p Tr.refl sr (.str [c])⟩))
  | dct h r =>
    obtain ⟨kk, x, e1, hl, p⟩ := g
    have hv := dk_now n' e1
    subst hv
    obtain ⟨w, q1, q2⟩ := (look_rep r).1 x hl
    exact .inr ⟨_, w, rfl, .inl ⟨_, _, h, rfl, q1.symm⟩, k _ _ Hs H p Tr.refl sr q2⟩
  | scr h =>
    obtain ⟨i, m, rfl, hi, p⟩ := g
    cases n'
    exact .inl (.inl ⟨_, _, i, .int m, rfl, rfl, h, atI_map V.int hi, k _ _ Hs H p Tr.refl sr (.int m)⟩)
  | _ => exact False.elim g
theorem d_ix (hu : X.A.units + 1 < cLine) {ma mb : EM D} (ha : DE X RPk a ma) (hb : DE X RPk b mb) (hs : PlainIx b) : DE X RShr (.Subscript a b pos) (mOp gIx ma mb) := fun Z E hE => by
  obtain ⟨r, hr, hg⟩ := (ixd (X := X) hu).ex
  refine ⟨fun pins s σ H Q I ⟨Hs, env, C, P, sr, q, k⟩ => (pe_ix hr (ha Z E hE) (hb Z E hE) hs).run pins s σ H Q I ?_⟩
  refine ⟨Hs, env, C, _, sr, q, fun d env1 C1 v Hs1 H1 q1 t1 s1 r1 => ?_⟩
  refine ⟨Hs1, env1, C1, _, s1, q1, fun e env2 C2 u Hs2 H2 q2 t2 s2 r2 => ?_⟩
  exact hg Z σ Hs2 H2 env2 C2 _ _ v u _ Q s2 ((r1.tr t2 (Z' := Z) (σ' := σ) (env' := env2)).now s2.fit) (r2.now s2.fit) q2 fun x w Hs' H' p t s rr => k _ _ _ w Hs' H' p ((t1.trans t2).trans t) s rr
/-! ### slices -/
/-- the part from lo to hi -/
def cutL {α : Type} (xs : List α) (lo hi : Option Int) : List α := (xs.drop (HT.sIx xs.length 0 lo)).take (HT.sIx xs.length xs.length hi - HT.sIx xs.length 0 lo)
def mPart (m : EM D) : EM (Option Int) := fun E env C Q => m E env C fun d env1 C1 => ∃ i, d = .int i ∧ Q (some i) env1 C1
def mNoP : EM (Option Int) := fun _ env C Q => Q none env C
def gCut (d : D) (lo hi : Option Int) (P : D → Prop) : Prop := match d with
  | .lst xs => P (.lst (cutL xs lo hi))
  | .tup xs => P (.tup (cutL xs lo hi))
  | .str s => s.length ≤ sizeLine ∧ P (.str (cutL s lo hi))
  | _ => False
def mCut (m : EM D) (ml mh : EM (Option Int)) : EM D := fun E env C Q => m E env C fun d env1 C1 => ml E env1 C1 fun lo env2 C2 => mh E env2 C2 fun hi env3 C3 => gCut (dr C3 d) lo hi fun x => Q x env3 C3
/-! ### calls of built-ins by name -/
inductive RNs (K : PySem.W.Frag) (Hs H : Hp) : List D → List V → Prop
  | nil : RNs K Hs H [] []
  | cons {d : D} {v : V} {ds : List D} {vs : List V} : RNow K Hs H d v → RNs K Hs H ds vs → RNs K Hs H (d :: ds) (v :: vs)
theorem RAll.now {K : PySem.W.Frag} {Z : Z0} {σ : St} {Hs H : Hp} {env : DL.Env} {C : Cs} (f : Fits K Hs H C) : ∀ {ds : List D} {vs : List V}, RAll K RPk Z σ Hs H env C ds vs → RNs K Hs H (ds.map (dr C)) vs
  | _, _, .nil => .nil
  | _, _, .cons h r => .cons (h.now f) (r.now f)
structure CallD (X : Cx) (f : Value) {α : Type} (R : RR α) (g : List D → (α → Prop) → Prop) : Prop where
  ex : ∃ r, CallR X f r ∧ ∀ Z σ Hs H env C ds vs (P : α → Prop) Q, SR X.K Z σ Hs H env C → RNs X.K Hs H ds vs → g ds P →
    (∀ a w Hs' H', P a → Tr Hs H C Hs' H' C → SR X.K Z σ Hs' H' env C → R X.K Z σ Hs' H' env C a w → Q w H') → r vs H Q
def mCallB {α : Type} (g : List D → (α → Prop) → Prop) (ms : EM (List D)) : EM α := fun E env C Q => ms E env C fun ds env1 C1 => g (ds.map (dr C1)) fun x => Q x env1 C1
theorem callB_run {α : Type} {R : RR α} {f : Value} {g : List D → (α → Prop) → Prop} (c : CallD X f R g) {ms : EM (List D)} (h : DA X RPk es ms) :
    ∃ r, CallR X f r ∧ ∀ Z E, DX X Z E → ∀ σ H Q, LG X.K R Z (mCallB g ms E) σ H Q → tCB r (LA X.K RPk Z (ms E)) σ H Q := by
  obtain ⟨r, hr, hg⟩ := c.ex
  refine ⟨r, hr, fun Z E hE σ H Q ⟨Hs, env, C, P, sr, q, k⟩ => ?_⟩
  refine ⟨Hs, env, C, _, sr, q, fun ds env1 C1 vs Hs1 H1 q1 t1 s1 r1 => ?_⟩
  exact hg Z σ Hs1 H1 env1 C1 _ vs _ Q s1 (r1.now s1.fit) q1 fun x w Hs' H' p t s rr => k _ _ _ w Hs' H' p (t1.trans t) s rr
theorem d_callB {α : Type} {R : RR α} {id : String} {x : Str} {p : Pos} {g : List D → (α → Prop) → Prop} (c : CallD X (.builtin id) R g) {ms : EM (List D)} (h : DA X RPk (e :: es) ms)
    (hg : Gl X x) (hm : X.mg x = none) (hv : bootBuiltins x = some (.builtin id)) (hn : x ≠ "__name__") (hdb : (x == ("__debug__" : Str)) = false)
    (he : starEach (e :: es) X.env = (false, eval e X.env) :: starEach es X.env) (hpl : (backTo pos (starEach es X.env)).any (·.1) = false) : DE X R (.Call (.Name x p) (e :: es) [] pos) (mCallB g ms) := fun Z E hE => by
  obtain ⟨r, hr, i⟩ := callB_run c h
  exact ⟨fun pins s σ H Q I q => (pe_callB hr hg hm hv (h Z E hE) hn hdb he hpl).run pins s σ H Q I (i Z E hE σ H Q q)⟩
end
end L2.DL
/-! DLg: statements. -/
namespace L2.DL
open PySem PySem.Spec PyProof.Rows
section
variable {X : Cx} {e a b : Expr} {es : List Expr} {st : Stmt} {sts : List Stmt} {pos : Pos} {K : PySem.W.Frag} {Z Z' : Z0}
/-! ### a raised floor -/
structure Up (Z Z' : Z0) : Prop where
  fl : Same Z.F Z'.F
  hs : Z'.Hs = Z.Hs
  h : Z'.H = Z.H
  c : Z'.C = Z.C
theorem Bas.up {Hs H : Hp} {C : Cs} (u : Up Z Z') (b : Bas Z' Hs H C) : Bas Z Hs H C :=
  ⟨u.fl.trans b.fl, by rw [← u.hs, ← u.h, ← u.c]; exact b.kp, by rw [← u.h]; exact b.th⟩
theorem SR.up {σ : St} {Hs H : Hp} {env : DL.Env} {C : Cs} (u : Up Z Z') (r : SR K Z' σ Hs H env C) : SR K Z σ Hs H env C :=
  ⟨r.fit, r.bas.up u, r.slt.len, r.slt.shr, fun i c e => by
    obtain ⟨p, o, e1, e2, r1, n1, n2, n3⟩ := r.slt.own i c e
    exact ⟨p, o, e1, e2, r1, n1, n2, by rw [← u.h]; exact n3⟩, r.slt.sep⟩
theorem SR.raise {σ : St} {Hs H : Hp} {env : DL.Env} {C : Cs} (r : SR K Z σ Hs H env C) : SR K { Z with F := Hs } σ Hs H env C :=
  ⟨r.fit, ⟨Same.refl _, r.bas.kp, r.bas.th⟩, r.slt.len, r.slt.shr, r.slt.own, r.slt.sep⟩
theorem Up.raise {σ : St} {Hs H : Hp} {env : DL.Env} {C : Cs} (r : SR K Z σ Hs H env C) : Up Z { Z with F := Hs } := ⟨r.bas.fl, rfl, rfl, rfl⟩
theorem DX.up {E : EX} (u : Up Z Z') (h : DX X Z E) : DX X Z' E := Takes.imp h fun _ _ _ _ ⟨Hs, env, C, x, r, q, e⟩ => ⟨Hs, env, C, x, r.up u, q, e⟩
theorem RRet.up {Hs H : Hp} {C : Cs} {r : Ret} {v : V} (u : Up Z Z') (h : RRet K Z' Hs H C r v) : RRet K Z Hs H C r v := by
  cases r with
  | shr d => exact h
  | frs c => obtain ⟨p, o, e1, e2, r1, n1, n2, n3⟩ := h; exact ⟨p, o, e1, e2, r1, n1, n2, by rw [← u.h]; exact n3⟩
theorem EndsOk.up {dE : DEnds} {D : Ends} (u : Up Z Z') (h : EndsOk K Z dE D) : EndsOk K Z' dE D :=
  ⟨fun σ Hs H env C r q => h.1 σ Hs H env C (r.up u) q, fun r v Hs H C f b rr q => h.2.1 r v Hs H C f (b.up u) (rr.up u) q,
    fun σ Hs H env C r q => h.2.2.1 σ Hs H env C (r.up u) q, fun σ Hs H env C r q => h.2.2.2 σ Hs H env C (r.up u) q⟩
/-! ### blocks -/
def sNext : SM := fun _ dE env C => dE.nx env C
def sSeq (m m' : SM) : SM := fun E dE env C => m E { dE with nx := fun env1 C1 => m' E dE env1 C1 } env C
theorem ds_nil : DSs X [] sNext := fun Z E hE => ⟨fun pins s σ H D I ⟨Hs, env, C, dE, sr, ok, q⟩ => pss_nil.run pins s σ H D I (ok.1 _ _ _ _ _ sr q)⟩
theorem ds_cons {m m' : SM} (h : DS X st m) (h' : DSs X sts m') : DSs X (st :: sts) (sSeq m m') := fun Z E hE => ⟨fun pins s σ H D I ⟨Hs, env, C, dE, sr, ok, q⟩ =>
  (pss_cons (h Z E hE) (h' Z E hE)).run pins s σ H D I ⟨Hs, env, C, { dE with nx := fun env1 C1 => m' E dE env1 C1 }, sr, ⟨fun σ1 Hs1 H1 env1 C1 r1 q1 => ⟨Hs1, env1, C1, dE, r1, ok, q1⟩, ok.2.1, ok.2.2.1, ok.2.2.2⟩, q⟩⟩
theorem ds_one {m : SM} (h : DS X st m) : DSs X [st] m := fun Z E hE => pss_one (h Z E hE)
def sDrop (m : EM D) : SM := fun E dE env C => m E env C fun _ env1 C1 => dE.nx env1 C1
def sRet (m : EM D) : SM := fun E dE env C => m E env C fun d _ C1 => dE.rt (.shr d) C1
theorem ds_ret {m : EM D} (h : DE X RShr e m) : DS X (.Return (some e) pos) (sRet m) := fun Z E hE => ⟨fun pins s σ H D I ⟨Hs, env, C, dE, sr, ok, q⟩ =>
  (ps_ret (h Z E hE)).run pins s σ H D I ⟨Hs, env, C, _, sr, q, fun d env1 C1 v Hs1 H1 q1 t1 s1 r1 => ok.2.1 (.shr d) _ _ _ _ s1.fit s1.bas r1 q1⟩⟩
def sRetF (m : EM Cont) : SM := fun E dE env C => m E env C fun c _ C1 => dE.rt (.frs c) C1
theorem ds_retF {m : EM Cont} (h : DE X RFr e m) : DS X (.Return (some e) pos) (sRetF m) := fun Z E hE => ⟨fun pins s σ H D I ⟨Hs, env, C, dE, sr, ok, q⟩ =>
  (ps_ret (h Z E hE)).run pins s σ H D I ⟨Hs, env, C, _, sr, q, fun d env1 C1 v Hs1 H1 q1 t1 s1 ⟨p, o, e1, e2, r1, n1, n2, n3, no⟩ => ok.2.1 (.frs d) _ _ _ _ s1.fit s1.bas ⟨p, o, e1, e2, r1, n1, n2, n3⟩ q1⟩⟩
/-- return of a container that the slot owns -/
def sRetO (i : Nat) : SM := fun _ dE env C => match env[i]? with
  | some (.own c) => dE.rt (.frs c) C
  | some (.shr d) => dE.rt (.shr d) C
  | _ => False
theorem ds_retO {i : Nat} (h : PE X e (tVar i)) : DS X (.Return (some e) pos) (sRetO i) := fun Z E hE => ⟨fun pins s σ H D I ⟨Hs, env, C, dE, sr, ok, q⟩ => by
  refine (ps_ret h).run pins s σ H D I ?_
  unfold sRetO at q
  split at q
  · rename_i c he
    obtain ⟨p, o, e1, e2, rc, n1, n2, n3⟩ := sr.slt.own i c he
    exact ⟨_, e1, ok.2.1 (.frs c) _ _ _ _ sr.fit sr.bas ⟨p, o, rfl, e2, rc, n1, n2, n3⟩ q⟩
  · rename_i d he
    obtain ⟨v, e1, rv⟩ := sr.slt.shr i d he
    exact ⟨_, e1, ok.2.1 (.shr d) _ _ _ _ sr.fit sr.bas rv q⟩
  · exact q.elim⟩
def sIf (t : EM Bool) (m m' : SM) : SM := fun E dE env C => t E env C fun k env1 C1 => if k = true then m E dE env1 C1 else m' E dE env1 C1
theorem ds_if {c : Expr} {sa sb : List Stmt} {mc : EM Bool} {m m' : SM} (hc : DT X c mc) (h : DSs X sa m) (h' : DSs X sb m') : DS X (.If c sa sb pos) (sIf mc m m') := fun Z E hE => ⟨fun pins s σ H D I ⟨Hs, env, C, dE, sr, ok, q⟩ => by
  refine (ps_if (hc Z E hE) (h Z E hE) (h' Z E hE)).run pins s σ H D I ?_
  refine ⟨Hs, env, C, _, sr, q, fun k env1 C1 Hs1 H1 q1 t1 s1 => ?_⟩
  cases k with
  | true => rw [if_pos rfl] at q1 ⊢; exact ⟨Hs1, env1, C1, dE, s1, ok, q1⟩
  | false => rw [if_neg Bool.false_ne_true] at q1 ⊢; exact ⟨Hs1, env1, C1, dE, s1, ok, q1⟩⟩
/-! ### name = e -/
def sSet (i : Nat) (m : EM D) : SM := fun E dE env C => m E env C fun d env1 C1 => dE.nx (env1.set i (.shr d)) C1
theorem ds_set {i : Nat} {te : Expr} {m : EM D} (h : DE X RShr e m) (hp : ∀ {t : TE}, PE X e t → PS X (.Assign [te] e pos) (tAsg t (gName i))) : DS X (.Assign [te] e pos) (sSet i m) := fun Z E hE => ⟨fun pins s σ H D I ⟨Hs, env, C, dE, sr, ok, q⟩ =>
  (hp (h Z E hE)).run pins s σ H D I ⟨Hs, env, C, _, sr, q, fun d env1 C1 v Hs1 H1 q1 t1 s1 r1 => ok.1 _ _ _ _ _ (s1.setS r1) q1⟩⟩
def sSetO (i : Nat) (m : EM Cont) : SM := fun E dE env C => m E env C fun c env1 C1 => dE.nx (env1.set i (.own c)) C1
/-! ### targets -/
abbrev GM := D → (DL.Env → Cs → Prop) → DL.Env → Cs → Prop
def LGt (K : PySem.W.Frag) (Z : Z0) (m : GM) : TG := fun v σ H Q => ∃ Hs env C d P, SR K Z σ Hs H env C ∧ Rep K Hs d v ∧ m d P env C ∧ ∀ σ' Hs' H' env' C', SR K Z σ' Hs' H' env' C' → P env' C' → Q σ' H'
def DG (X : Cx) (tg : Expr) (m : GM) : Prop := ∀ Z, PG X tg (LGt X.K Z m)
def gN (i : Nat) : GM := fun d P env C => P (env.set i (.shr d)) C
theorem dg_name {i : Nat} (h : PG X e (gName i)) : DG X e (gN i) := fun Z => ⟨fun pins s σ H v u Q I r ⟨Hs, env, C, d, P, sr, rd, q, k⟩ => h.run pins s σ H v u Q I r (k _ _ _ _ _ (sr.setS rd) q)⟩
abbrev GMs := List D → (DL.Env → Cs → Prop) → DL.Env → Cs → Prop
def LGs (K : PySem.W.Frag) (Z : Z0) (m : GMs) : TGs := fun vs σ H Q => ∃ Hs env C ds P, SR K Z σ Hs H env C ∧ RepL K Hs ds vs ∧ m ds P env C ∧ ∀ σ' Hs' H' env' C', SR K Z σ' Hs' H' env' C' → P env' C' → Q σ' H'
def DGs (X : Cx) (tgs : List Expr) (m : GMs) : Prop := ∀ Z, PGs X tgs (LGs X.K Z m)
def gsNil : GMs := fun ds P env C => ds = [] ∧ P env C
def gsCons (m : GM) (ms : GMs) : GMs := fun ds P env C => match ds with
  | d :: r => m d (fun env1 C1 => ms r P env1 C1) env C
  | [] => False
theorem dgs_nil : DGs X [] gsNil := fun Z => ⟨fun pins s σ H vs us Q I r ⟨Hs, env, C, ds, P, sr, rd, q, k⟩ => pgs_nil.run pins s σ H vs us Q I r (by
  obtain ⟨rfl, q⟩ := q
  cases rd
  exact ⟨rfl, k _ _ _ _ _ sr q⟩)⟩
/-- the targets behind the first keep what stays (they are names) -/
theorem dgs_cons {i : Nat} {ms : GMs} (h : PG X e (gName i)) (h' : DGs X es ms) (hs : (assignEach (e :: es) X.env).map (·.2) = assign e X.env :: (assignEach es X.env).map (·.2)) : DGs X (e :: es) (gsCons (gN i) ms) := fun Z => by
  refine ⟨fun pins s σ H vs us Q I r ⟨Hs, env, C, ds, P, sr, rd, q, k⟩ => (pgs_cons h (h' Z) hs).run pins s σ H vs us Q I r ?_⟩
  cases rd with
  | nil => exact q.elim
  | cons h1 r1 => exact ⟨_, _, rfl, Hs, _, C, _, P, sr.setS h1, r1, q, k⟩
def gTupD (n : Nat) (ms : GMs) : GM := fun d P env C => match d with
  | .tup ds => ds.length = n ∧ ms ds P env C
  | _ => False
theorem dg_tup {k n : Nat} {ms : GMs} (hc : X.calm = true) (h : DGs X es ms) (hn : (assignEach es X.env).length = n) (hst : (assignEach es X.env).findIdx? (·.1) = none) : DG X (.Tuple es k pos) (gTupD n ms) := fun Z => by
  refine ⟨fun pins s σ H v u Q I r ⟨Hs, env, C, d, P, sr, rd, q, kk⟩ => (pg_tup hc (h Z) hn hst).run pins s σ H v u Q I r ?_⟩
  cases rd with
  | tup h1 r1 => exact ⟨_, _, rfl, TupA.sq sr.fit.sub h1, by rw [← r1.length]; exact q.1, Hs, env, C, _, P, sr, r1, q.2, kk⟩
  | _ => exact q.elim
/-- target = e -/
def sAsg (g : GM) (m : EM D) : SM := fun E dE env C => m E env C fun d env1 C1 => g d dE.nx env1 C1
theorem ds_asg {tg : Expr} {m : EM D} {g : GM} (h : DE X RShr e m) (hg : DG X tg g) (hs : swapsWithSole [tg] e pos.line X.env = pure false) (hw : swappedStores [tg] e X.env = pure none)
    (h1 : (assignEach [tg] X.env).map (·.2) = [assign tg X.env]) : DS X (.Assign [tg] e pos) (sAsg g m) := fun Z E hE => ⟨fun pins s σ H D I ⟨Hs, env, C, dE, sr, ok, q⟩ =>
  (ps_asg (h Z E hE) (hg Z) hs hw h1).run pins s σ H D I ⟨Hs, env, C, _, sr, q, fun d env1 C1 v Hs1 H1 q1 t1 s1 r1 => ⟨Hs1, env1, C1, d, dE.nx, s1, r1, q1, fun σ' Hs' H' env' C' s' p => ok.1 _ _ _ _ _ s' p⟩⟩⟩
/-- a, b = x, y by the stores swapped -/
def sPar (i j : Nat) (ms : EM (List D)) : SM := fun E dE env C => ms E env C fun ds env1 C1 => match ds with
  | [d, e] => dE.nx ((env1.set i (.shr d)).set j (.shr e)) C1
  | _ => False
theorem ds_par {i j : Nat} {ms : EM (List D)} (h : DA X RShr es ms) (hp : ∀ {t : TA}, PA X es t → PS X st (tPar i j t)) : DS X st (sPar i j ms) := fun Z E hE => ⟨fun pins s σ H D I ⟨Hs, env, C, dE, sr, ok, q⟩ =>
  (hp (h Z E hE)).run pins s σ H D I ⟨Hs, env, C, _, sr, q, fun ds env1 C1 vs Hs1 H1 q1 t1 s1 r1 => by
    have r := r1.rep
    cases r with
    | nil => exact q1.elim
    | cons h1 r => cases r with
      | nil => exact q1.elim
      | cons h2 r => cases r with
        | cons h3 r => exact q1.elim
        | nil => exact ⟨_, _, rfl, ok.1 _ _ _ _ _ ((s1.setS h1).setS h2) q1⟩⟩⟩
/-! ### while -/
/-! ### for -/
/-- what an iterator gives: the trees ds, whatever else the heap does -/
structure Walks (K : PySem.W.Frag) (J : It) (ds : List D) (F : Hp) : Prop where
  go : ∀ (i : Nat) (d : D) Hs H C, ds[i]? = some d → Same F Hs → Fits K Hs H C → J.go i H
  yld : ∀ (i : Nat) (d : D) Hs H C x H', ds[i]? = some d → Same F Hs → Fits K Hs H C → J.yld i H x H' → ∃ Hs', Rep K Hs' d x ∧ Same Hs Hs' ∧ ∀ Z σ env, SR K Z σ Hs H env C → SR K Z σ Hs' H' env C ∧ Tr Hs H C Hs' H' C
  stop : ∀ Hs H C, Same F Hs → Fits K Hs H C → J.stop ds.length H
def LI (K : PySem.W.Frag) (Z : Z0) (m : DM (List D)) : TI := fun σ H R => ∃ Hs env C P, SR K Z σ Hs H env C ∧ m env C P ∧
  ∀ ds env' C' J Hs' H', P ds env' C' → Tr Hs H C Hs' H' C' → SR K Z σ Hs' H' env' C' → Walks K J ds Hs' → R J H'
def DI (X : Cx) (tg iter : Expr) (m : EM (List D)) : Prop := ∀ Z E, DX X Z E → PI X tg iter (LI X.K Z (m E))
def forL (g : GM) (mb : SM) (E : EX) (dE : DEnds) : List D → DL.Env → Cs → Prop
  | [], env, C => dE.nx env C
  | d :: ds, env, C => g d (fun env1 C1 => mb E { dE with nx := forL g mb E dE ds, ct := forL g mb E dE ds, bk := dE.nx } env1 C1) env C
def sFor (g : GM) (mi : EM (List D)) (mb : SM) : SM := fun E dE env C => mi E env C fun ds env1 C1 => forL g mb E dE ds env1 C1
theorem ds_for {tg iter : Expr} {body : List Stmt} {g : GM} {mi : EM (List D)} {mb : SM} (hp : PassesOwn (model X.prog X.w) X.A X.env X.xe) (hc : X.calm = true) (hi : DI X tg iter mi) (hg : DG X tg g) (hb : DSs X body mb)
    (hs : ∀ x, foldedSetIterable iter X.env x = pure x) : DS X (.For tg iter body [] pos) (sFor g mi mb) := fun Z E hE => ⟨fun pins s σ H D I ⟨Hs, env, C, dE, sr, ok, q⟩ => by
  have hg' : PG X tg (fun v σ H Q => ∃ Z', LGt X.K Z' g v σ H Q) := ⟨fun pins s σ H v u Q I r ⟨Z', q⟩ => (hg Z').run pins s σ H v u Q I r q⟩
  have hb' : PSs X body (fun D σ H => ∃ Z', DX X Z' E ∧ LS X.K Z' (mb E) D σ H) := ⟨fun pins s σ H D I ⟨Z', hE', q⟩ => (hb Z' E hE').run pins s σ H D I q⟩
  refine (ps_for hp hc (hi Z E hE) hg' hb' hs).run pins s σ H D I ?_
  refine ⟨Hs, env, C, _, sr, q, fun ds env1 C1 J Hs1 H1 q1 t1 s1 wk => ?_⟩
  have u : Up Z { Z with F := Hs1 } := Up.raise s1
  refine ⟨fun i m σ H => m = ds.length - i ∧ i ≤ ds.length ∧ ∃ Hs env C, SR X.K { Z with F := Hs1 } σ Hs H env C ∧ forL g mb E dE (ds.drop i) env C, ⟨ds.length, by simp, Nat.zero_le _, Hs1, env1, C1, s1.raise, by simpa using q1⟩, ?_⟩
  rintro i m σ2 H2 ⟨rfl, hi2, Hs2, env2, C2, s2, q2⟩
  by_cases hlt : i < ds.length
  · have hd : ds[i]? = some ds[i] := by simp [hlt]
    rw [List.drop_eq_getElem_cons hlt] at q2
    refine .inr ⟨wk.go i _ Hs2 H2 C2 hd s2.bas.fl s2.fit, fun σ' H' => ∃ Hs env C, SR X.K { Z with F := Hs1 } σ' Hs H' env C ∧ forL g mb E dE (ds.drop (i + 1)) env C, fun σ' H' ⟨Hs', env', C', s', q'⟩ => ⟨ds.length - (i + 1), by omega, rfl, hlt, Hs', env', C', s', q'⟩, fun x H' y => ?_⟩
    obtain ⟨Hs3, r3, l3, f3⟩ := wk.yld i _ Hs2 H2 C2 x H' hd s2.bas.fl s2.fit y
    obtain ⟨s3, t3⟩ := f3 _ _ _ s2
    refine ⟨{ Z with F := Hs1 }, Hs3, env2, C2, _, fun env1 C1 => mb E { dE with nx := forL g mb E dE (ds.drop (i + 1)), ct := forL g mb E dE (ds.drop (i + 1)), bk := dE.nx } env1 C1, s3, r3, q2, fun σ' Hs' H' env' C' s' p => ⟨{ Z with F := Hs1 }, DX.up u hE, Hs', env', C', { dE with nx := forL g mb E dE (ds.drop (i + 1)), ct := forL g mb E dE (ds.drop (i + 1)), bk := dE.nx }, s', ⟨?_, (ok.up u).2.1, (ok.up u).1, ?_⟩, p⟩⟩
    · exact fun σ Hs H env C r z => ⟨Hs, env, C, r, z⟩
    · exact fun σ Hs H env C r z => ⟨Hs, env, C, r, z⟩
  · have e : i = ds.length := by omega
    subst e
    rw [List.drop_length] at q2
    exact .inl ⟨wk.stop Hs2 H2 C2 s2.bas.fl s2.fit, (ok.up u).1 _ _ _ _ _ s2 q2⟩⟩
end
end L2.DL
/-! DLh: what is walked; list comprehensions. -/
namespace L2.DL
open PySem PySem.Spec PyProof.Rows
section
variable {X : Cx} {tg e e2 : Expr} {es : List Expr} {pos : Pos} {K : PySem.W.Frag} {Z Z' : Z0}
/-- a list, a tuple, a text, by what it is -/
def iSeq (K : PySem.W.Frag) (te : TE) : TI := fun σ H R => te σ H fun x H1 => (∃ a, x = .ref a ∧ (∃ xs, SqL K H1 a xs) ∧ R (Itl K a) H1) ∨ (∃ a, x = .ref a ∧ (∃ xs, SqT K H1 a xs) ∧ R (Itt K a) H1) ∨ ∃ z, x = .str z ∧ R (Its z) H1
theorem pi_seq {te : TE} (he : PE X e te) : PI X tg e (iSeq X.K te) := by
  refine ⟨fun pins s σ H R I h => ?_⟩
  refine thn (he.run pins s σ H _ I h) fun v s1 ⟨x, H1, I1, r1, q1⟩ => ?_
  rcases q1 with ⟨a, rfl, ⟨xs, hq⟩, q⟩ | ⟨a, rfl, ⟨xs, hq⟩, q⟩ | ⟨z, rfl, q⟩
  · cases r1
    obtain ⟨its, rv, p, hz⟩ := I1.list hq
    refine wpAny_pyIter_list p.isList ?_
    refine ⟨s1.heap.objs.size, [s1.heap.objs.size], _, _, H1, rfl, I1.kept (t' := s1.toks) fun b o e => Heap.get?_push_of_some _ e, turn_list a _, ⟨_, Heap.get?_push_size _ rfl, rfl, rfl⟩, fun b hb => ?_, q⟩
    have e : b = s1.heap.objs.size := by simpa using hb
    subst e
    exact I1.fpOk (Nat.le_refl _) (I1.hok.fresh (Nat.le_refl _))
  · cases r1
    obtain ⟨its, rv, p, hz⟩ := I1.tuple hq
    refine wpAny_pyIter_tuple (show s1.heap.IsTuple a its.toArray from p) ?_
    refine ⟨s1.heap.objs.size, [s1.heap.objs.size], _, _, H1, rfl, I1.kept (t' := s1.toks) fun b o e => Heap.get?_push_of_some _ e, turn_tuple a _, ⟨_, Heap.get?_push_size _ rfl, rfl, rfl⟩, fun b hb => ?_, q⟩
    have e : b = s1.heap.objs.size := by simpa using hb
    subst e
    exact I1.fpOk (Nat.le_refl _) (I1.hok.fresh (Nat.le_refl _))
  · obtain ⟨t, rfl⟩ := r1
    cases ha : z.cps.all (· < 128)
    · exact wpAny_pyIter_wide ha (pi_one (tk := s1.toks) I1 _ (turn_str _ z t "str_iterator" (.inr rfl)) ⟨_, Heap.get?_push_size _ rfl, rfl, rfl⟩ q)
    · exact wpAny_pyIter_ascii ha (pi_one (tk := s1.toks) I1 _ (turn_str _ z t "str_ascii_iterator" (.inl rfl)) ⟨_, Heap.get?_push_size _ rfl, rfl, rfl⟩ q)
/-- the trees that are walked -/
def iterD : D → Option (List D)
  | .lst xs => some xs
  | .tup xs => some xs
  | .tupT ts => some (ts.map .str)
  | .kt => some []
  | .str s => some (s.map fun c => .str [c])
  | .scr ns => some (ns.map .int)
  | _ => none
/-- what stays in F is read alike from there on -/
theorem rep_walk_list {a : Addr} {ds : List D} {F : Hp} {vs : List V} (h : F a = some (.lst vs)) (r : RepL K F ds vs) : Walks K (Itl K a) ds F := by
  refine ⟨fun i d Hs H C e s f => ?_, fun i d Hs H C x H' e s f y => ?_, fun Hs H C s f => ?_⟩
  · obtain ⟨v, h1, h2⟩ := r.get' e
    exact ⟨vs, v, SqL.of (f.sub _ _ (s _ _ h)), h1⟩
  · obtain ⟨rfl, y⟩ := y
    obtain ⟨v, h1, h2⟩ := r.get' e
    have e1 := y vs (SqL.of (f.sub _ _ (s _ _ h)))
    rw [h1] at e1
    cases e1
    exact ⟨Hs, h2.same s, Same.refl _, fun Z σ env sr => ⟨sr, Tr.refl⟩⟩
  · exact ⟨vs, SqL.of (f.sub _ _ (s _ _ h)), by rw [r.length]; exact Nat.le_refl _⟩
theorem rep_walk_tup {a : Addr} {ds : List D} {F : Hp} {vs : List V} (h : TupA F a vs) (r : RepL K F ds vs) : Walks K (Itt K a) ds F := by
  refine ⟨fun i d Hs H C e s f => ?_, fun i d Hs H C x H' e s f y => ?_, fun Hs H C s f => ?_⟩
  · obtain ⟨v, h1, h2⟩ := r.get' e
    exact ⟨vs, v, TupA.sq f.sub (TupA.same s h), h1⟩
  · obtain ⟨rfl, y⟩ := y
    obtain ⟨v, h1, h2⟩ := r.get' e
    have e1 := y vs (TupA.sq f.sub (TupA.same s h))
    rw [h1] at e1
    cases e1
    exact ⟨Hs, h2.same s, Same.refl _, fun Z σ env sr => ⟨sr, Tr.refl⟩⟩
  · exact ⟨vs, TupA.sq f.sub (TupA.same s h), by rw [r.length]; exact Nat.le_refl _⟩
theorem rep_walk_kt {a : Addr} {F : Hp} (h : KT0 K a) : Walks K (Itt K a) [] F := by
  refine ⟨fun i d Hs H C e s f => by simp at e, fun i d Hs H C x H' e s f y => by simp at e, fun Hs H C s f => ?_⟩
  exact ⟨[], h.sq, Nat.le_refl _⟩
theorem rep_walk_scr {a : Addr} {ns : List Int} {F : Hp} (h : SqL K F a (ns.map V.int)) : Walks K (Itl K a) (ns.map .int) F := by
  refine ⟨fun i d Hs H C e s f => ?_, fun i d Hs H C x H' e s f y => ?_, fun Hs H C s f => ?_⟩
  · obtain ⟨n, h1, rfl⟩ := List.getElem?_map (f := D.int) (l := ns) (i := i) ▸ e |> Option.map_eq_some_iff.mp
    exact ⟨_, .int n, f.sub.seq (s.seq h), by rw [List.getElem?_map, h1]; rfl⟩
  · obtain ⟨rfl, y⟩ := y
    obtain ⟨n, h1, rfl⟩ := List.getElem?_map (f := D.int) (l := ns) (i := i) ▸ e |> Option.map_eq_some_iff.mp
    have e1 := y _ (f.sub.seq (s.seq h))
    rw [List.getElem?_map, h1] at e1
    cases e1
    exact ⟨Hs, .int n, Same.refl _, fun Z σ env sr => ⟨sr, Tr.refl⟩⟩
  · exact ⟨_, f.sub.seq (s.seq h), by simp⟩
theorem walk_str {s : Txt} {F : Hp} : Walks K (Its (sV s)) (s.map fun c => D.str [c]) F := by
  refine ⟨fun i d Hs H C e _ f => ?_, fun i d Hs H C x H' e _ f y => ?_, fun Hs H C _ f => ?_⟩
  · have := (List.getElem?_eq_some_iff.mp e).1
    show i < (sV s).cps.size
    simpa [sV] using this
  · obtain ⟨rfl, c, h1, rfl⟩ := y
    rw [List.getElem?_map] at e
    obtain ⟨c', h2, rfl⟩ := Option.map_eq_some_iff.mp e
    have h3 : s[i]? = some c := by simpa [sV] using h1
    rw [h2] at h3
    cases h3
    exact ⟨Hs, .str [c], Same.refl _, fun Z σ env sr => ⟨sr, Tr.refl⟩⟩
  · show (sV s).cps.size ≤ _
    simp [sV]
def mIter (m : EM D) : EM (List D) := fun E env C Q => m E env C fun d env1 C1 => match iterD d with
  | some ds => Q ds env1 C1
  | none => False
theorem di_seq {m : EM D} (h : DE X RShr e m) : DI X tg e (mIter m) := fun Z E hE => ⟨fun pins s σ H R I ⟨Hs, env, C, P, sr, q, k⟩ => by
  refine (pi_seq (h Z E hE)).run pins s σ H R I ?_
  refine ⟨Hs, env, C, _, sr, q, fun d env1 C1 v Hs1 H1 q1 t1 s1 r1 => ?_⟩
  cases r1 with
  | lst e1 r => exact .inl ⟨_, rfl, ⟨_, SqL.of (s1.fit.sub _ _ e1)⟩, k _ _ _ _ _ _ q1 t1 s1 (rep_walk_list e1 r)⟩
  | tup e1 r => exact .inr (.inl ⟨_, rfl, ⟨_, TupA.sq s1.fit.sub e1⟩, k _ _ _ _ _ _ q1 t1 s1 (rep_walk_tup e1 r)⟩)
  | tupT d e1 => exact .inr (.inl ⟨_, rfl, ⟨_, TupA.sq s1.fit.sub (.inr ⟨_, d, e1⟩)⟩, k _ _ _ _ _ _ q1 t1 s1 (rep_walk_tup (.inr ⟨_, d, e1⟩) (repl_strs _))⟩)
  | kt h => exact .inr (.inl ⟨_, rfl, ⟨_, h.sq⟩, k _ _ _ _ _ _ q1 t1 s1 (rep_walk_kt h)⟩)
  | str z => exact .inr (.inr ⟨_, rfl, k _ _ _ _ _ _ q1 t1 s1 walk_str⟩)
  | scr e1 => exact .inl ⟨_, rfl, ⟨_, s1.fit.sub.seq e1⟩, k _ _ _ _ _ _ q1 t1 s1 (rep_walk_scr e1)⟩
  | _ => exact q1.elim⟩
/-- the ints from lo on -/
def intsFrom (lo : Int) : Nat → List D
  | 0 => []
  | n + 1 => .int lo :: intsFrom (lo + 1) n
theorem intsFrom_get : ∀ (n : Nat) (lo : Int) (i : Nat), (intsFrom lo n)[i]? = if i < n then some (.int (lo + i)) else none
  | 0, lo, i => by simp [intsFrom]
  | n + 1, lo, 0 => by simp [intsFrom]
  | n + 1, lo, i + 1 => by
    simp only [intsFrom, List.getElem?_cons_succ, intsFrom_get n]
    by_cases h : i < n
    · rw [if_pos h, if_pos (by omega)]
      congr 2
      push_cast
      omega
    · rw [if_neg h, if_neg (by omega)]
theorem intsFrom_len : ∀ (n : Nat) (lo : Int), (intsFrom lo n).length = n
  | 0, _ => rfl
  | n + 1, lo => by simp [intsFrom, intsFrom_len n]
theorem walk_range {lo : Int} {n : Nat} {F : Hp} : Walks K (Itr lo n) (intsFrom lo n) F := by
  refine ⟨fun i d Hs H C e _ f => ?_, fun i d Hs H C x H' e _ f y => ?_, fun Hs H C _ f => ?_⟩
  · rw [intsFrom_get] at e
    show i < n
    by_cases h : i < n
    · exact h
    · rw [if_neg h] at e; cases e
  · obtain ⟨rfl, rfl⟩ := y
    rw [intsFrom_get] at e
    by_cases h : i < n
    · rw [if_pos h] at e
      cases e
      exact ⟨Hs, .int _, Same.refl _, fun Z σ env sr => ⟨sr, Tr.refl⟩⟩
    · rw [if_neg h] at e; cases e
  · show n ≤ _
    rw [intsFrom_len]
    exact Nat.le_refl _
def mRng1 (ms : EM (List D)) : EM (List D) := fun E env C Q => ms E env C fun ds env1 C1 => match ds with
  | [.int j] => (-(2 ^ 62) ≤ j ∧ j < 2 ^ 62) ∧ Q (intsFrom 0 j.toNat) env1 C1
  | _ => False
def mRng2 (ms : EM (List D)) : EM (List D) := fun E env C Q => ms E env C fun ds env1 C1 => match ds with
  | [.int i, .int j] => (-(2 ^ 62) ≤ i ∧ i < 2 ^ 62 ∧ -(2 ^ 62) ≤ j ∧ j < 2 ^ 62) ∧ Q (intsFrom i (j - i).toNat) env1 C1
  | _ => False
theorem di_rng1 {p : Pos} {ms : EM (List D)} (hg : Gl X "range") (hm : X.mg "range" = none) (h : DA X RShr [e] ms) (hs : starEach [e] X.env = [(false, eval e X.env)]) : DI X tg (.Call (.Name "range" p) [e] [] pos) (mRng1 ms) := fun Z E hE => ⟨fun pins s σ H R I ⟨Hs, env, C, P, sr, q, k⟩ => by
  refine (pi_range1 hg hm (h Z E hE) hs).run pins s σ H R I ?_
  refine ⟨Hs, env, C, _, sr, q, fun ds env1 C1 vs Hs1 H1 q1 t1 s1 r1 => ?_⟩
  split at q1
  · rename_i j
    have r := r1.rep
    cases r with
    | cons a r => cases a; cases r; exact ⟨j, rfl, q1.1.1, q1.1.2, k _ _ _ _ _ _ q1.2 t1 s1 walk_range⟩
  · exact q1.elim⟩
/-- pairs (0, a), (1, b), .. -/
def enumD : Nat → List D → List D
  | _, [] => []
  | i, d :: r => .tup [.int i, d] :: enumD (i + 1) r
theorem enumD_get : ∀ (ds : List D) (k i : Nat), (enumD k ds)[i]? = (ds[i]?).map fun d => .tup [.int ((k + i : Nat) : Int), d]
  | [], k, i => by simp [enumD]
  | d :: r, k, 0 => by simp [enumD]
  | d :: r, k, i + 1 => by
    simp only [enumD, List.getElem?_cons_succ, enumD_get r]
    congr 2
    funext d
    congr 3
    omega
theorem enumD_len : ∀ (ds : List D) (k : Nat), (enumD k ds).length = ds.length
  | [], _ => rfl
  | d :: r, k => by simp [enumD, enumD_len r]
theorem rep_walk_enum {a : Addr} {ds : List D} {F : Hp} {vs : List V} (h : F a = some (.lst vs)) (r : RepL K F ds vs) : Walks K (Ite K a) (enumD 0 ds) F := by
  refine ⟨fun i d Hs H C e s f => ?_, fun i d Hs H C x H' e s f y => ?_, fun Hs H C s f => ?_⟩
  · rw [enumD_get] at e
    obtain ⟨d', e', rfl⟩ := Option.map_eq_some_iff.mp e
    obtain ⟨v, h1, h2⟩ := r.get' e'
    exact ⟨vs, v, SqL.of (f.sub _ _ (s _ _ h)), h1⟩
  · rw [enumD_get] at e
    obtain ⟨d', e', rfl⟩ := Option.map_eq_some_iff.mp e
    obtain ⟨T, x, rfl, hT, rfl, y⟩ := y
    obtain ⟨v, h1, h2⟩ := r.get' e'
    have e1 := y vs (SqL.of (f.sub _ _ (s _ _ h)))
    rw [h1] at e1
    cases e1
    have su := same_upd (o := .tup [.int (i : Nat), x]) (f.nothing hT).1
    refine ⟨upd Hs T (.tup [.int (i : Nat), x]), ?_, su, fun Z σ env sr => ⟨sr.lay hT _, Tr.lay f hT _⟩⟩
    rw [Nat.zero_add]
    exact .tup (.inl upd_same) (.cons (.int _) (.cons ((h2.same s).same su) .nil))
  · refine ⟨vs, SqL.of (f.sub _ _ (s _ _ h)), ?_⟩
    rw [enumD_len, r.length]
    exact Nat.le_refl _
def mEnum (ms : EM (List D)) : EM (List D) := fun E env C Q => ms E env C fun ds env1 C1 => match ds with
  | [.lst xs] => Q (enumD 0 xs) env1 C1
  | _ => False
theorem di_enum {p tpos : Pos} {elts : List Expr} {kk : Nat} {ms : EM (List D)} (hg : Gl X "enumerate") (hm : X.mg "enumerate" = none) (h : DA X RShr [e] ms) (hs : starEach [e] X.env = [(false, eval e X.env)]) : DI X (.Tuple elts kk tpos) (.Call (.Name "enumerate" p) [e] [] pos) (mEnum ms) := fun Z E hE => ⟨fun pins s σ H R I ⟨Hs, env, C, P, sr, q, k⟩ => by
  refine (pi_enum hg hm (h Z E hE) hs).run pins s σ H R I ?_
  refine ⟨Hs, env, C, _, sr, q, fun ds env1 C1 vs Hs1 H1 q1 t1 s1 r1 => ?_⟩
  split at q1
  · rename_i xs
    have r := r1.rep
    cases r with
    | cons a r => cases r; cases a with
      | lst e1 ra => exact ⟨_, _, rfl, SqL.of (s1.fit.sub _ _ e1), k _ _ _ _ _ _ q1 t1 s1 (rep_walk_enum e1 ra)⟩
  · exact q1.elim⟩
/-- pairs of the items at the same places -/
def zipD : List D → List D → List D
  | d :: r, e :: r' => .tup [d, e] :: zipD r r'
  | _, _ => []
end
end L2.DL
/-! DLi: list comprehensions. -/
namespace L2.DL
open PySem PySem.Spec PyProof.Rows
section
variable {X : Cx} {tg e e2 : Expr} {es : List Expr} {pos : Pos} {K : PySem.W.Frag} {Z Z' : Z0}
/-! ### targets that store names at vs alone -/
def LGw (K : PySem.W.Frag) (vs : List Nat) (Z : Z0) (m : GM) : TG := fun v σ H Q => ∃ Hs env C d P, SR K Z σ Hs H env C ∧ Rep K Hs d v ∧ m d P env C ∧ ∀ σ' Hs' H' env' C', SR K Z σ' Hs' H' env' C' → Tr Hs H C Hs' H' C' → wipe σ' vs = wipe σ vs → P env' C' → Q σ' H'
def DGw (X : Cx) (vs : List Nat) (tg : Expr) (m : GM) : Prop := ∀ Z, PG X tg (LGw X.K vs Z m)
theorem wipe_set {σ : St} {v : Option V} {i : Nat} : ∀ {vs : List Nat}, i ∈ vs → wipe (σ.set i v) vs = wipe σ vs
  | w :: vs, h => by
    unfold wipe
    by_cases hm : i ∈ vs
    · rw [wipe_set hm]
    · have e : i = w := by
        rcases List.mem_cons.mp h with h | h
        · exact h
        · exact absurd h hm
      subst e
      have : ∀ (us : List Nat), i ∉ us → wipe (σ.set i v) us = (wipe σ us).set i v := by
        intro us
        induction us with
        | nil => intro _; rfl
        | cons u us ih =>
          intro hn
          unfold wipe
          rw [ih (fun z => hn (List.mem_cons_of_mem _ z))]
          rw [List.set_comm]
          intro z
          exact hn (by rw [z]; exact List.mem_cons_self)
      rw [this vs hm, List.set_set]
theorem wipe_wipe {σ : St} {vs : List Nat} : wipe (wipe σ vs) vs = wipe σ vs := by
  have : ∀ us : List Nat, (∀ i ∈ us, i ∈ vs) → wipe (wipe σ us) vs = wipe σ vs := by
    intro us
    induction us with
    | nil => intro _; rfl
    | cons u us ih =>
      intro h
      show wipe ((wipe σ us).set u none) vs = wipe σ vs
      rw [wipe_set (h u List.mem_cons_self)]
      exact ih fun i hi => h i (List.mem_cons_of_mem _ hi)
  exact this vs fun _ h => h
theorem dgw_name {i : Nat} {vs : List Nat} (h : PG X e (gName i)) (hi : i ∈ vs) : DGw X vs e (gN i) := fun Z => ⟨fun pins s σ H v u Q I r ⟨Hs, env, C, d, P, sr, rd, q, k⟩ => h.run pins s σ H v u Q I r (k _ _ _ _ _ (sr.setS rd) Tr.refl (wipe_set hi) q)⟩
def LGsw (K : PySem.W.Frag) (vs : List Nat) (Z : Z0) (m : GMs) : TGs := fun xs σ H Q => ∃ Hs env C ds P, SR K Z σ Hs H env C ∧ RepL K Hs ds xs ∧ m ds P env C ∧ ∀ σ' Hs' H' env' C', SR K Z σ' Hs' H' env' C' → Tr Hs H C Hs' H' C' → wipe σ' vs = wipe σ vs → P env' C' → Q σ' H'
def DGsw (X : Cx) (vs : List Nat) (tgs : List Expr) (m : GMs) : Prop := ∀ Z, PGs X tgs (LGsw X.K vs Z m)
theorem dgsw_nil {vs : List Nat} : DGsw X vs [] gsNil := fun Z => ⟨fun pins s σ H vs us Q I r ⟨Hs, env, C, ds, P, sr, rd, q, k⟩ => pgs_nil.run pins s σ H vs us Q I r (by
  obtain ⟨rfl, q⟩ := q
  cases rd
  exact ⟨rfl, k _ _ _ _ _ sr Tr.refl rfl q⟩)⟩
theorem dgsw_cons {i : Nat} {vs : List Nat} {ms : GMs} (h : PG X e (gName i)) (hi : i ∈ vs) (h' : DGsw X vs es ms) (hs : (assignEach (e :: es) X.env).map (·.2) = assign e X.env :: (assignEach es X.env).map (·.2)) : DGsw X vs (e :: es) (gsCons (gN i) ms) := fun Z => by
  refine ⟨fun pins s σ H xs us Q I r ⟨Hs, env, C, ds, P, sr, rd, q, k⟩ => (pgs_cons h (h' Z) hs).run pins s σ H xs us Q I r ?_⟩
  cases rd with
  | nil => exact q.elim
  | cons h1 r1 => exact ⟨_, _, rfl, Hs, _, C, _, P, sr.setS h1, r1, q, fun σ' Hs' H' env' C' s t w p => k _ _ _ _ _ s t (w.trans (wipe_set hi)) p⟩
theorem dgw_tup {k n : Nat} {vs : List Nat} {ms : GMs} (hc : X.calm = true) (h : DGsw X vs es ms) (hn : (assignEach es X.env).length = n) (hst : (assignEach es X.env).findIdx? (·.1) = none) : DGw X vs (.Tuple es k pos) (gTupD n ms) := fun Z => by
  refine ⟨fun pins s σ H v u Q I r ⟨Hs, env, C, d, P, sr, rd, q, kk⟩ => (pg_tup hc (h Z) hn hst).run pins s σ H v u Q I r ?_⟩
  cases rd with
  | tup h1 r1 => exact ⟨_, _, rfl, TupA.sq sr.fit.sub h1, by rw [← r1.length]; exact q.1, Hs, env, C, _, P, sr, r1, q.2, kk⟩
  | _ => exact q.elim
/-! ### slots forgotten for a while -/
def wipeE (env : DL.Env) : List Nat → DL.Env
  | [] => env
  | v :: vs => (wipeE env vs).set v .non
theorem wipeE_len (env : DL.Env) : ∀ vs, (wipeE env vs).length = env.length
  | [] => rfl
  | v :: vs => by unfold wipeE; rw [List.length_set, wipeE_len env vs]
theorem wipeE_get {env : DL.Env} {i : Nat} {x : Slot} : ∀ {vs : List Nat}, (wipeE env vs)[i]? = some x → (i ∉ vs ∧ env[i]? = some x) ∨ x = .non
  | [], h => .inl ⟨by simp, h⟩
  | v :: vs, h => by
    unfold wipeE at h
    by_cases hv : v = i
    · subst hv
      have hl : v < (wipeE env vs).length := by
        have := (List.getElem?_eq_some_iff.mp h).1
        simpa using this
      rw [List.getElem?_set_self hl] at h
      exact .inr (Option.some.inj h).symm
    · rw [List.getElem?_set_ne hv] at h
      rcases wipeE_get h with ⟨h1, h2⟩ | h1
      · exact .inl ⟨by simp only [List.mem_cons, not_or]; exact ⟨fun z => hv z.symm, h1⟩, h2⟩
      · exact .inr h1
/-- no slot at vs owns a thing -/
def noOwn (env : DL.Env) (vs : List Nat) : Bool := vs.all fun i => match env[i]? with
  | some (.own _) => false
  | _ => true
theorem SR.wiped {σ : St} {Hs H : Hp} {env : DL.Env} {C : Cs} {vs : List Nat} (r : SR K Z σ Hs H env C) : SR K Z (wipe σ vs) Hs H (wipeE env vs) C := by
  refine ⟨r.fit, r.bas, by rw [wipeE_len, wipe_length]; exact r.slt.len, fun i d e => ?_, fun i c e => ?_, fun i j c c' p ne e f g => ?_⟩
  · rcases wipeE_get e with ⟨h1, h2⟩ | h1
    · obtain ⟨v, e1, q⟩ := r.slt.shr i d h2
      exact ⟨v, by rw [wipe_out h1]; exact e1, q⟩
    · cases h1
  · rcases wipeE_get e with ⟨h1, h2⟩ | h1
    · rw [wipe_out h1]
      exact r.slt.own i c h2
    · cases h1
  · rcases wipeE_get e with ⟨h1, h2⟩ | h1
    · rcases wipeE_get f with ⟨h3, h4⟩ | h3
      · rw [wipe_out h1] at g
        rw [wipe_out h3]
        exact r.slt.sep i j c c' p ne h2 h4 g
      · cases h3
    · cases h1
theorem wipeE_out {env : DL.Env} {i : Nat} : ∀ {vs : List Nat}, i ∉ vs → (wipeE env vs)[i]? = env[i]?
  | [], _ => rfl
  | v :: vs, h => by
    have h1 : v ≠ i := fun z => h (by rw [z]; exact List.mem_cons_self)
    unfold wipeE
    rw [List.getElem?_set_ne h1]
    exact wipeE_out fun z => h (List.mem_cons_of_mem _ z)
/-- the forgotten slots come back -/
theorem SR.unwipe {σ : St} {Hs H Hs' H' : Hp} {env : DL.Env} {C C' : Cs} {vs : List Nat} (no : noOwn env vs = true) (r : SR K Z σ Hs H env C) (s : Same Hs Hs') (r' : SR K Z' (wipe σ vs) Hs' H' (wipeE env vs) C')
    (b : Bas Z Hs' H' C') (zh : ∀ p, Z'.H p = none → Z.H p = none) : SR K Z σ Hs' H' env C' := by
  have out : ∀ {i : Nat} {c : Cont}, env[i]? = some (Slot.own c) → i ∉ vs := fun {i c} e hm => by
    have := List.all_eq_true.mp no i hm
    simp only [e] at this
    cases this
  refine ⟨r'.fit, b, r.slt.len, fun i d e => ?_, fun i c e => ?_, fun i j c c' p ne e f g => ?_⟩
  · obtain ⟨v, e1, q⟩ := r.slt.shr i d e
    exact ⟨v, e1, q.same s⟩
  · have hi := out e
    obtain ⟨p, o, e1, e2, r1, n1, n2, n3⟩ := r'.slt.own i c (by rw [wipeE_out hi]; exact e)
    rw [wipe_out hi] at e1
    exact ⟨p, o, e1, e2, r1, n1, n2, zh p n3⟩
  · exact r.slt.sep i j c c' p ne e f g
/-! ### the list that is made is nobody else's -/
def prot (Z : Z0) (D : Addr) (o : HO) : Z0 := ⟨fun a => if a = D then none else Z.Hs a, upd Z.H D o, fun a => if a = D then none else Z.C a, Z.F⟩
theorem SR.prot {σ : St} {Hs H : Hp} {env : DL.Env} {C : Cs} {D : Addr} {o : HO} (r : SR K Z σ Hs H env C) (h : H D = some o) (h1 : Hs D = none) (h2 : C D = none) (no : ∀ (i : Nat) (c : Cont), env[i]? = some (Slot.own c) → σ[i]? ≠ some (some (V.ref D))) :
    SR K (DL.prot Z D o) σ Hs H env C := by
  refine ⟨r.fit, ⟨r.bas.fl, fun a u e c => ?_, fun a u e => ?_⟩, r.slt.len, r.slt.shr, fun i c e => ?_, r.slt.sep⟩
  · have e' : upd Z.H D o a = some u := e
    by_cases ha : a = D
    · subst ha
      rw [upd_same] at e'
      cases e'
      exact ⟨h, h2, fun _ => h1⟩
    · rw [upd_ne ha] at e'
      have c' : Z.C a = none := by simpa [DL.prot, ha] using c
      obtain ⟨q1, q2, q3⟩ := r.bas.kp a u e' c'
      exact ⟨q1, q2, fun z => q3 (by simpa [DL.prot, ha] using z)⟩
  · have e' : upd Z.H D o a = some u := e
    by_cases ha : a = D
    · subst ha
      exact ⟨_, h⟩
    · rw [upd_ne ha] at e'
      exact r.bas.th a u e'
  · obtain ⟨p, u, e1, e2, r1, n1, n2, n3⟩ := r.slt.own i c e
    refine ⟨p, u, e1, e2, r1, n1, n2, ?_⟩
    have hp : p ≠ D := fun z => no i c e (by rw [← z]; exact e1)
    show upd Z.H D o p = none
    rw [upd_ne hp]
    exact n3
theorem Bas.unprot {Hs H : Hp} {C : Cs} {D : Addr} {o : HO} (z : Z.H D = none) (b : Bas (DL.prot Z D o) Hs H C) : Bas Z Hs H C := by
  refine ⟨b.fl, fun a u e c => ?_, fun a u e => ?_⟩
  · have ha : a ≠ D := ne_of_none e z
    obtain ⟨q1, q2, q3⟩ := b.kp a u (by show upd Z.H D o a = some u; rw [upd_ne ha]; exact e) (by simpa [DL.prot, ha] using c)
    exact ⟨q1, q2, fun w => q3 (by simpa [DL.prot, ha] using w)⟩
  · have ha : a ≠ D := ne_of_none e z
    exact b.th a u (by show upd Z.H D o a = some u; rw [upd_ne ha]; exact e)
theorem prot_free {D p : Addr} {o : HO} (h : (DL.prot Z D o).H p = none) : Z.H p = none ∧ p ≠ D := by
  have h' : upd Z.H D o p = none := h
  by_cases hp : p = D
  · subst hp; rw [upd_same] at h'; cases h'
  · rw [upd_ne hp] at h'; exact ⟨h', hp⟩
theorem SR.unprot {σ : St} {Hs H : Hp} {env : DL.Env} {C : Cs} {D : Addr} {o : HO} (z : Z.H D = none) (r : SR K (DL.prot Z D o) σ Hs H env C) : SR K Z σ Hs H env C :=
  ⟨r.fit, r.bas.unprot z, r.slt.len, r.slt.shr, fun i c e => by
    obtain ⟨p, u, e1, e2, r1, n1, n2, n3⟩ := r.slt.own i c e
    exact ⟨p, u, e1, e2, r1, n1, n2, (prot_free n3).1⟩, r.slt.sep⟩
/-- what is private may be written -/
theorem SR.wrP {σ : St} {Hs H : Hp} {env : DL.Env} {C : Cs} {D : Addr} {o' : HO} (r : SR K Z σ Hs H env C) (h1 : Hs D = none) (h2 : C D = none) (z : Z.H D = none) (no : ∀ (i : Nat) (c : Cont), env[i]? = some (Slot.own c) → σ[i]? ≠ some (some (V.ref D))) :
    SR K Z σ Hs (upd H D o') env C := by
  refine ⟨⟨fun b u e => ?_, fun a c e => ?_⟩, ⟨r.bas.fl, fun a u e c => ?_, th_upd r.bas.th⟩, r.slt.len, r.slt.shr, fun i c e => ?_, r.slt.sep⟩
  · rw [upd_ne (ne_of_none e h1)]; exact r.fit.sub _ _ e
  · obtain ⟨q, u, e1, r2⟩ := r.fit.cel _ _ e
    have ha : a ≠ D := fun w => by rw [w, h2] at e; cases e
    exact ⟨q, u, by rw [upd_ne ha]; exact e1, r2⟩
  · obtain ⟨q1, q2, q3⟩ := r.bas.kp a u e c
    exact ⟨by rw [upd_ne (ne_of_none e z)]; exact q1, q2, q3⟩
  · obtain ⟨p, u, e1, e2, r1, n1, n2, n3⟩ := r.slt.own i c e
    have hp : p ≠ D := fun w => no i c e (by rw [← w]; exact e1)
    exact ⟨p, u, e1, by rw [upd_ne hp]; exact e2, r1, n1, n2, n3⟩
/-! ### [elt for tg in iter if cond] -/
def E0 : EX := fun _ _ _ => False
theorem dx0 : DX X Z E0 := fun _ _ x => by
  obtain ⟨_, _, _, _, _, _, _, _, _, _, _, _, _, _, _, _, w⟩ := x
  obtain ⟨_, _, _, _, _, _, z⟩ := w
  exact z.elim
def compL (vs : List Nat) (g : GM) (mc : EM Bool) (me : EM D) (Q : Cont → Cs → Prop) : List D → List D → DL.Env → Cs → Prop
  | [], acc, _, C => Q (.lst acc) C
  | d :: ds, acc, env, C => g d (fun env1 C1 => wipeE env1 vs = env ∧ mc E0 env1 C1 fun b env2 C2 => env2 = env1 ∧
      if b = true then me E0 env1 C2 fun y env3 C3 => env3 = env1 ∧ acc.length < sizeLine ∧ compL vs g mc me Q ds (acc ++ [y]) env C3 else compL vs g mc me Q ds acc env C2) env C
def mComp (vs : List Nat) (g : GM) (mi : EM (List D)) (mc : EM Bool) (me : EM D) : EM Cont := fun E env C Q => mi E env C fun ds env1 C1 => noOwn env1 vs = true ∧ compL vs g mc me (fun c C2 => Q c env1 C2) ds [] (wipeE env1 vs) C1
/-- the block's context -/
abbrev Blk (X : Cx) (scope : Scope) (s : Shared) (H : Hp) (C : Addr) (cl : List (Str × Addr)) (fp : List Addr) : Cx := X.blk s H scope (compEnvC scope cl C X.env) fp
def DTs (X : Cx) (ifs : List Expr) (m : EM Bool) : Prop := ∀ Z E, DX X Z E → PTs X ifs (LT X.K Z (m E))
theorem dts_nil : DTs X [] (mC true) := fun Z E hE => ⟨fun pins s σ H Q I ⟨Hs, env, C, P, sr, q, k⟩ => pts_nil.run pins s σ H Q I (k _ _ _ Hs H q Tr.refl sr)⟩
/-- the tree of a comprehension, from its meaning -/
abbrev WG (K : PySem.W.Frag) (vs : List Nat) (g : GM) : TG := fun v σ H Q => ∃ Z', LGw K vs Z' g v σ H Q
abbrev WT (K : PySem.W.Frag) (mc : EM Bool) : TT := fun σ H Q => ∃ Z', LT K Z' (mc E0) σ H Q
abbrev WE1 (K : PySem.W.Frag) (me : EM D) : TE := fun σ H Q => ∃ Z', LG K RShr Z' (me E0) σ H Q
theorem comp_tree {own : List (Str × Nat)} {g : GM} {mi : EM (List D)} {mc : EM Bool} {me : EM D} {E : EX} {σ : St} {H : Hp} {Q : VK} (q0 : LG K RFr Z (mComp (own.map (·.2)) g mi mc me E) σ H Q) :
    tLc (LI K Z (mi E)) (WG K (own.map (·.2)) g) (WT K mc) (WE1 K me) (own.map (·.2)) σ H Q := by
  obtain ⟨Hs, env, C, P, sr, q, k⟩ := q0
  refine ⟨Hs, env, C, _, sr, q, fun ds env1 C1 J Hs1 H1 q1 t1 s1 wk => ?_⟩
  obtain ⟨nO, q1⟩ := q1
  intro D hD
  obtain ⟨hD1, hD2⟩ := s1.fit.nothing hD
  have hDz : Z.H D = none := s1.bas.zfree hD
  have u : Up Z { Z with F := Hs1 } := Up.raise s1
  have noD : ∀ (i : Nat) (c : Cont), env1[i]? = some (Slot.own c) → σ[i]? ≠ some (some (V.ref D)) := fun i c e z => by
    obtain ⟨p, o, e1, e2, _⟩ := s1.slt.own i c e
    rw [e1] at z
    cases z
    rw [hD] at e2
    cases e2
  -- the wiped state
  let vs := own.map (·.2)
  refine ⟨fun i m H => m = ds.length - i ∧ i ≤ ds.length ∧ ∃ Hs C acc xs, SR K { Z with F := Hs1 } (wipe σ vs) Hs H (wipeE env1 vs) C ∧ H D = some (.lst xs) ∧ RepL K Hs acc xs ∧ Hs D = none ∧ C D = none ∧
      (∀ a o, H1 a = some o → C1 a = none → H a = some o ∧ C a = none) ∧ compL vs g mc me (fun c C2 => P c env1 C2) (ds.drop i) acc (wipeE env1 vs) C, ⟨ds.length, by simp, Nat.zero_le _, Hs1, C1, [], [], ?_, upd_same, .nil, hD1, hD2, ?_, by simpa using q1⟩, ?_⟩
  · exact (s1.raise.layP hD _).wiped
  · intro a o e c
    exact ⟨by rw [upd_ne (ne_of_none e hD)]; exact e, c⟩
  rintro i m H2 ⟨rfl, hi2, Hs2, C2, acc, xs, s2, hx, rx, d1, d2, kp2, q2⟩
  have noD2 : ∀ (i : Nat) (c : Cont), (wipeE env1 vs)[i]? = some (Slot.own c) → (wipe σ vs)[i]? ≠ some (some (V.ref D)) := fun i c e z => by
    rcases wipeE_get e with ⟨h1, h2⟩ | h1
    · rw [wipe_out h1] at z
      exact noD i c h2 z
    · cases h1
  by_cases hlt : i < ds.length
  · have hd : ds[i]? = some ds[i] := by simp [hlt]
    rw [List.drop_eq_getElem_cons hlt] at q2
    refine .inr ⟨wk.go i _ Hs2 H2 C2 hd s2.bas.fl s2.fit, fun H' => ∃ Hs C acc xs, SR K { Z with F := Hs1 } (wipe σ vs) Hs H' (wipeE env1 vs) C ∧ H' D = some (.lst xs) ∧ RepL K Hs acc xs ∧ Hs D = none ∧ C D = none ∧
      (∀ a o, H1 a = some o → C1 a = none → H' a = some o ∧ C a = none) ∧ compL vs g mc me (fun c C2 => P c env1 C2) (ds.drop (i + 1)) acc (wipeE env1 vs) C, fun H' z => ⟨ds.length - (i + 1), by omega, rfl, hlt, z⟩, fun x H' y => ?_⟩
    obtain ⟨Hs3, r3, l3, f3⟩ := wk.yld i _ Hs2 H2 C2 x H' hd s2.bas.fl s2.fit y
    have sp := s2.prot hx d1 d2 noD2
    obtain ⟨s3', t3⟩ := f3 _ _ _ sp
    have s3 := s3'.raise
    have zD : ({ DL.prot { Z with F := Hs1 } D (.lst xs) with F := Hs3 } : Z0).H D = some (.lst xs) := upd_same
    have zDc : ({ DL.prot { Z with F := Hs1 } D (.lst xs) with F := Hs3 } : Z0).C D = none := by simp [DL.prot]
    have zDs : ({ DL.prot { Z with F := Hs1 } D (.lst xs) with F := Hs3 } : Z0).Hs D = none := by simp [DL.prot]
    -- what a state behind a part of the turn gives for the next turn
    have back : ∀ {σ5 : St} {Hs5 H5 : Hp} {env5 : DL.Env} {C5 : Cs}, SR K { DL.prot { Z with F := Hs1 } D (.lst xs) with F := Hs3 } σ5 Hs5 H5 env5 C5 → wipe σ5 vs = wipe σ vs → wipeE env5 vs = wipeE env1 vs → Tr Hs2 H2 C2 Hs5 H5 C5 →
        SR K { Z with F := Hs1 } (wipe σ vs) Hs5 H5 (wipeE env1 vs) C5 ∧ H5 D = some (.lst xs) ∧ RepL K Hs5 acc xs ∧ Hs5 D = none ∧ C5 D = none ∧ (∀ a o, H1 a = some o → C1 a = none → H5 a = some o ∧ C5 a = none) ∧
          ∀ (j : Nat) (c : Cont), (wipeE env1 vs)[j]? = some (Slot.own c) → (wipe σ vs)[j]? ≠ some (some (V.ref D)) := by
      intro σ5 Hs5 H5 env5 C5 s5 w5 e5 t5
      obtain ⟨b1, b2, b3⟩ := s5.bas.kp D _ zD zDc
      have s6 : SR K { Z with F := Hs1 } σ5 Hs5 H5 env5 C5 := SR.unprot hDz (SR.up (Up.raise s3') s5)
      have s7 := s6.wiped (vs := vs)
      rw [w5, e5] at s7
      refine ⟨s7, b1, rx.same (l3.trans s5.bas.fl), b3 zDs, b2, fun a o h c => ?_, noD2⟩
      obtain ⟨k1, k2⟩ := kp2 a o h c
      exact t5.kp a o k1 k2
    refine ⟨{ DL.prot { Z with F := Hs1 } D (.lst xs) with F := Hs3 }, Hs3, wipeE env1 vs, C2, _, _, s3, r3, q2, fun σ4 Hs4 H4 env4 C4 s4 t4 w4 q4 => ⟨w4.trans wipe_wipe, ?_⟩⟩
    obtain ⟨e4, q4⟩ := q4
    have w4' : wipe σ4 vs = wipe σ vs := w4.trans wipe_wipe
    refine ⟨_, Hs4, env4, C4, _, s4, q4, fun b env5 C5 Hs5 H5 q5 t5 s5 => ?_⟩
    obtain ⟨rfl, q5⟩ := q5
    cases b with
    | true =>
      rw [if_pos rfl] at q5 ⊢
      refine ⟨_, Hs5, env5, C5, _, s5, q5, fun y env6 C6 v6 Hs6 H6 q6 t6 s6 r6 => ?_⟩
      obtain ⟨rfl, l6, q6⟩ := q6
      obtain ⟨b1, b2, b3, b4, b5, b6, b7⟩ := back s6 w4' e4 (((t3.trans t4).trans t5).trans t6)
      refine ⟨xs, b2, by rw [← rx.length]; exact l6, Hs6, C6, acc ++ [y], xs ++ [v6], b1.wrP b4 b5 hDz b7, upd_same, b3.append (.cons r6 .nil), b4, b5, fun a o h c => ?_, q6⟩
      obtain ⟨k1, k2⟩ := b6 a o h c
      have ha : a ≠ D := ne_of_none h hD
      exact ⟨by rw [upd_ne ha]; exact k1, k2⟩
    | false =>
      rw [if_neg Bool.false_ne_true] at q5 ⊢
      obtain ⟨b1, b2, b3, b4, b5, b6, b7⟩ := back s5 w4' e4 ((t3.trans t4).trans t5)
      exact ⟨Hs5, C5, acc, xs, b1, b2, b3, b4, b5, b6, q5⟩
  · have e : i = ds.length := by omega
    subst e
    rw [List.drop_length] at q2
    refine .inl ⟨wk.stop Hs2 H2 C2 s2.bas.fl s2.fit, ?_⟩
    have sb : SR K Z σ Hs2 H2 env1 C2 := SR.unwipe nO s1 s2.bas.fl s2 (s2.bas.up u) fun p h => h
    exact k _ _ _ _ _ _ q2 (t1.trans ⟨s2.bas.fl, kp2⟩) sb ⟨D, _, rfl, hx, ⟨_, rfl, rx⟩, d1, d2, hDz, noD⟩
theorem d_comp {iter elt : Expr} {ifs : List Expr} {scope : Scope} {own : List (Str × Nat)} {g : GM} {mi : EM (List D)} {mc : EM Bool} {me : EM D} (hc : X.calm = true) (hN : X.N.Nodup) (hi : DI X tg iter mi) (ok : BlkOk X.N X.env.scope scope own)
    (hg : ∀ (s : Shared) (H : Hp) (C : Addr) (cl : List (Str × Addr)) (fp : List Addr), DGw (Blk X scope s H C cl fp) (own.map (·.2)) tg g) (ht : ∀ (s : Shared) (H : Hp) (C : Addr) (cl : List (Str × Addr)) (fp : List Addr), DTs (Blk X scope s H C cl fp) ifs mc)
    (he : ∀ (s : Shared) (H : Hp) (C : Addr) (cl : List (Str × Addr)) (fp : List Addr), DE (Blk X scope s H C cl fp) RShr elt me) (hs : ∀ x, foldedSetIterable iter X.env x = pure x) :
    DE X RFr (.ListComp elt [⟨tg, iter, ifs, 0⟩] scope pos) (mComp (own.map (·.2)) g mi mc me) := fun Z E hE =>
  ⟨fun pins s σ H Q I q => (pe_lc (wi := LI X.K Z (mi E)) (g := WG X.K (own.map (·.2)) g) (tt := WT X.K mc) (te := WE1 X.K me) hc hN (hi Z E hE) ok
    (fun s H C cl fp => ⟨fun pins s σ H v u Q I r ⟨Z', q⟩ => (hg _ _ _ _ _ Z').run pins s σ H v u Q I r q⟩)
    (fun s H C cl fp => ⟨fun pins s σ H Q I ⟨Z', q⟩ => (ht _ _ _ _ _ Z' E0 dx0).run pins s σ H Q I q⟩)
    (fun s H C cl fp => ⟨fun pins s σ H Q I ⟨Z', q⟩ => (he _ _ _ _ _ Z' E0 dx0).run pins s σ H Q I q⟩) hs).run pins s σ H Q I (comp_tree q)⟩
/-- name = [.. for ..] on one row: the name is stored ahead of the block's end -/
theorem ps_comp {i : Nat} {y : Str} {py spos : Pos} {iter elt : Expr} {ifs : List Expr} {scope : Scope} {own : List (Str × Nat)} {g : GM} {mi : EM (List D)} {mc : EM Bool} {me : EM D} (hc : X.calm = true) (hN : X.N.Nodup) (hy : X.N[i]? = some y) (hyl : X.env.scope.names.lookup y = some .local)
    (hsw : swapsWith (.ListComp elt [⟨tg, iter, ifs, 0⟩] scope pos) (some (.Name y py)) spos.line X.env = pure true) (hi : DI X tg iter mi) (ok : BlkOk X.N X.env.scope scope own)
    (hg : ∀ (s : Shared) (H : Hp) (C : Addr) (cl : List (Str × Addr)) (fp : List Addr), DGw (Blk X scope s H C cl fp) (own.map (·.2)) tg g) (ht : ∀ (s : Shared) (H : Hp) (C : Addr) (cl : List (Str × Addr)) (fp : List Addr), DTs (Blk X scope s H C cl fp) ifs mc)
    (he : ∀ (s : Shared) (H : Hp) (C : Addr) (cl : List (Str × Addr)) (fp : List Addr), DE (Blk X scope s H C cl fp) RShr elt me) (hs : ∀ x, foldedSetIterable iter X.env x = pure x) {E : EX} (hE : DX X Z E) :
    PS X (.Assign [.Name y py] (.ListComp elt [⟨tg, iter, ifs, 0⟩] scope pos) spos) (tAsg (LG X.K RFr Z (mComp (own.map (·.2)) g mi mc me E)) (gName i)) :=
  ⟨fun pins s σ H D I q => (ps_setLc (wi := LI X.K Z (mi E)) (g := WG X.K (own.map (·.2)) g) (tt := WT X.K mc) (te := WE1 X.K me) hc hN hy hyl hsw (hi Z E hE) ok
    (fun s H C cl fp => ⟨fun pins s σ H v u Q I r ⟨Z', q⟩ => (hg _ _ _ _ _ Z').run pins s σ H v u Q I r q⟩)
    (fun s H C cl fp => ⟨fun pins s σ H Q I ⟨Z', q⟩ => (ht _ _ _ _ _ Z' E0 dx0).run pins s σ H Q I q⟩)
    (fun s H C cl fp => ⟨fun pins s σ H Q I ⟨Z', q⟩ => (he _ _ _ _ _ Z' E0 dx0).run pins s σ H Q I q⟩) hs).run pins s σ H D I (comp_tree (Q := fun x H1 => gName i x σ H1 D.nx) q)⟩
/-- its own, or shared -/
theorem ds_compO {st : Stmt} {i : Nat} {m : EM Cont} (h : ∀ Z E, DX X Z E → PS X st (tAsg (LG X.K RFr Z (m E)) (gName i))) : DS X st (sSetO i m) := fun Z E hE => ⟨fun pins s σ H D I ⟨Hs, env, C, dE, sr, ok, q⟩ =>
  (h Z E hE).run pins s σ H D I ⟨Hs, env, C, _, sr, q, fun d env1 C1 v Hs1 H1 q1 t1 s1 r1 => ok.1 _ _ _ _ _ (s1.setO r1) q1⟩⟩
end
end L2.DL
/-! DLj: promises over trees; calls of defs. FnG is a promise where no repr is under way. -/
namespace L2.DL
open PySem PySem.Spec PyProof.Rows
/-- nothing guards itself on the stack -/
def Gd (A : Around) : Prop := A.guards = some []
structure FnG (P : Program) (w : World) (K : PySem.W.Frag) (mg : Str → Option Value) (base : Heap) (k : Nat) (f : Addr) (fd : FuncData) (ps : List Str) (sp : Sp) : Prop where
  len : ∀ vs H Q E, sp vs H Q E → vs.length = ps.length
  run : ∀ (A : Around) (fr : List PySem.Env) (s : Shared) (H : Hp) (ar : Args) (us : List Value) (vs : List V) (Q : VK) (E : XK), Gd A → Room k A → Env0 P w K mg base A fr s H → BindsTo s fd ar (ps.zip us) → Vals vs us → sp vs H Q E →
    codeAny (model P w) A (.call (.ref f) ar) (CR (L2.CX P w) fr P w H s Q E) s
/-- a def's body keeps the promise -/
theorem fnG_of {P : Program} {w : World} {K : PySem.W.Frag} {mg : Str → Option Value} {base : Heap} {xn qual : Str} {st : Stmt} {f : Addr} {fd : FuncData} {N ps : List Str} {k : Nat} {sp : Sp} (F : Fun K xn qual st f fd) (S : FnScope N ps (defScope st))
    (len : ∀ vs H Q E, sp vs H Q E → vs.length = ps.length)
    (bd : ∀ (cdv : Value) (A : Around) (fr : List PySem.Env) (s : Shared) (H : Hp) (vs : List V) (Q : VK) (E : XK), Gd A → Room k (A.deeper (envOfC qual (defScope st) s.heap.objs.size f cdv)) → sp vs H Q E →
      ∃ t, PSs (cxOf (L2.CX P w) P w K mg base N qual (defScope st) f cdv A fr s H E) (defBody st) t ∧ t { nx := fun _ H' => Q .non H', rt := Q } (start N vs) H) : FnG P w K mg base (k + 1) f fd ps sp := by
  obtain ⟨oc, od, kV, doc, pm, an, cdv, ct, osl, rfl, lk, code⟩ := F.ex
  refine ⟨len, ?_⟩
  intro A fr s H ar us vs Q E gd room st0 bnd rel want
  have lenV := len _ _ _ _ want
  have kept : ∀ b o, base.get? b = some o → s.heap.get? b = some o := fun b o q => (st0.bs b o q).1
  have kin : K.In s.heap := st0.mod.kin.keeps kept
  have noLim : s.heap.NoLimit := st0.mod.nolimit.keeps kept
  refine codeAny_call_function room.depth (kin _ _ lk) rfl S.co S.gen rfl (PySem.W.codeRec_of kin code) (bnd _ _ _ _ ?_)
  refine wpAny_newFunctionEnv_cells S.kind (fun y hy => ?_) fun env eqv s1 there => ?_
  · rcases S.par y.1 (List.of_mem_zip (a := y.1) (b := y.2) hy).1 with loc | cel
    · exact .inl loc
    · exact .inr ⟨cel, PySem.W.cellsFrom_some _ _ _ (.inl cel)⟩
  subst eqv
  refine ⟨noLim.keeps there.toInCall.keep, codeAny_func ?_⟩
  obtain ⟨t, walked, end_⟩ := bd cdv A fr s H vs Q E gd (room.deeper _) want
  have inv0 := inv_start (CX := L2.CX P w) (E := E) S room.hd st0 lenV rel there
  refine wpAny_mono (walked.run [] s1 (start N vs) H _ inv0 end_) ?_ fun _ _ z => z
  intro fl s2 res
  cases fl with
  | ret u => obtain ⟨v, _, H2, J, rv, q⟩ := res; exact ⟨v, H2, J.os, J.bare, J.base, J.hok, rv, q⟩
  | next => obtain ⟨_, H2, J, q⟩ := res; exact ⟨.non, H2, J.os, J.bare, J.base, J.hok, rfl, q⟩
  | brk => obtain ⟨_, _, _, q⟩ := res; exact q.elim
  | cont => obtain ⟨_, _, _, q⟩ := res; exact q.elim
/-- a call of it -/
theorem run_fnG {X : Cx} {k : Nat} {f : Addr} {fd : FuncData} {ps : List Str} {sp : Sp} {E : XK} {ar : Args} {us : List Value} {vs : List V} {pins : List (Addr × Obj)} {σ : St} {H : Hp} {s : Shared} {Q : VK} (F : FnG X.prog X.w X.K X.mg X.base k f fd ps sp) (gd : Gd X.A) (hr : Room k X.A)
    (hb : BindsTo s fd ar (ps.zip us)) (hx : PassesAt (L2.CX X.prog X.w) X σ E) (I : Inv X pins σ H s) (r : Vals vs us) (h : sp vs H Q E) : codeAny (model X.prog X.w) X.A (.call (.ref f) ar) (fun q s' => match q with
      | .ok (.ret v) => EP X pins σ Q v s'
      | .ok _ => False
      | .error e => X.xe e s') s := by
  refine codeAny_mono (F.run X.A X.stack s H ar us vs Q E gd hr I.env0 hb r h) fun q s' z => ?_
  cases q with
  | error e => exact hx pins H s e s' I z
  | ok fl => cases fl with
    | ret u => exact I.after z
    | next => exact z.elim
    | brk => exact z.elim
    | cont => exact z.elim
section
variable {X : Cx} {e : Expr} {es : List Expr} {pos p : Pos} {x : Str} {t : TA} {k : Nat} {f : Addr} {fd : FuncData} {ps : List Str} {sp : Sp} {E : St → XK} {dvs : List V} {dus : List Value}
theorem pe_callG (F : FnG X.prog X.w X.K X.mg X.base k f fd ps sp) (gd : Gd X.A) (hr : Room k X.A) (hg : Gl X x) (hm : X.mg x = some (.ref f)) (hk : PySem.W.keepIn X.K (.ref f) = true) (hb : Binds X.K fd ps dus) (hd : Vals dvs dus) (hx : ∀ σ, PassesAt (L2.CX X.prog X.w) X σ (E σ))
    (ha : PA X (e :: es) t) (hdb : (x == ("__debug__" : Str)) = false) (he : starEach (e :: es) X.env = (false, eval e X.env) :: starEach es X.env) (hpl : (backTo pos (starEach es X.env)).any (·.1) = false) :
    PE X (.Call (.Name x p) (e :: es) [] pos) (tCallSD sp dvs E t) := ⟨fun pins s σ H Q I h => by
  refine wpAny_Call_Name_kw (ld_glob I hg hm (PySem.W.callWith_K (h₀ := X.base) I.ok.mod.kin hk (thn (ha.run pos pins s σ H _ I h) ?_) he hpl) hdb)
  intro us s1 ⟨vs, H1, J, r, q⟩
  have r2 := r.append hd
  exact ⟨J.kIn, wpAny_call (run_fnG F gd hr (hb s1 us J.kIn (by rw [← r2.length]; exact F.len _ _ _ _ q)) (hx σ) J r2 q)⟩⟩
end
/-- a promise over trees: the arguments, the cells; what is wanted of the result, of an exception -/
abbrev DSp := List D → Cs → (Ret → Cs → Prop) → (XD → Cs → Prop) → Prop
def zOf (Hs H : Hp) (C : Cs) : Z0 := ⟨Hs, H, C, Hs⟩
def lift (K : PySem.W.Frag) (sp : DSp) : Sp := fun vs H Q E => ∃ Hs C ds P PX, Fits K Hs H C ∧ RepL K Hs ds vs ∧ sp ds C P PX ∧
  (∀ r C' v Hs' H', P r C' → Fits K Hs' H' C' → Bas (zOf Hs H C) Hs' H' C' → RRet K (zOf Hs H C) Hs' H' C' r v → Q v H') ∧
  (∀ x C' cls dx Hs' H', PX x C' → Fits K Hs' H' C' → Bas (zOf Hs H C) Hs' H' C' → RX K Hs' H' x cls dx → E cls dx H')
section
variable {X : Cx} {e : Expr} {es : List Expr} {pos : Pos} {K : PySem.W.Frag} {Z : Z0}
theorem Bas.start {Hs H : Hp} {C : Cs} : Bas (zOf Hs H C) Hs H C := ⟨Same.refl _, fun _ _ h c => ⟨h, c, fun z => z⟩, fun _ o h => ⟨o, h⟩⟩
/-- behind a call -/
theorem SR.call {σ : St} {Hs H Hs' H' : Hp} {env : DL.Env} {C C' : Cs} (r : SR K Z σ Hs H env C) (f : Fits K Hs' H' C') (b : Bas (zOf Hs H C) Hs' H' C') : SR K Z σ Hs' H' env C' ∧ Tr Hs H C Hs' H' C' := by
  have fl : Same Hs Hs' := b.fl
  refine ⟨⟨f, ⟨r.bas.fl.trans fl, fun a o e c => ?_, fun a o e => ?_⟩, r.slt.len, fun i d e => ?_, fun i c e => ?_, r.slt.sep⟩, fl, fun a o e c => ?_⟩
  · obtain ⟨q1, q2, q3⟩ := r.bas.kp a o e c
    obtain ⟨k1, k2, k3⟩ := b.kp a o q1 q2
    exact ⟨k1, k2, fun z => k3 (q3 z)⟩
  · obtain ⟨o1, e1⟩ := r.bas.th a o e
    exact b.th a o1 e1
  · obtain ⟨v, e1, q⟩ := r.slt.shr i d e
    exact ⟨v, e1, q.same fl⟩
  · obtain ⟨p, o, e1, e2, r1, n1, n2, n3⟩ := r.slt.own i c e
    obtain ⟨k1, k2, k3⟩ := b.kp p o e2 n2
    exact ⟨p, o, e1, k1, r1.same fl, k3 n1, k2, n3⟩
  · obtain ⟨k1, k2, _⟩ := b.kp a o e c
    exact ⟨k1, k2⟩
/-- the result as a tree -/
@[reducible] def Ret.tree : Ret → D
  | .shr d => d
  | .frs c => c.d
theorem ret_shr {σ : St} {Hs H Hs' H' : Hp} {env : DL.Env} {C C' : Cs} {rt : Ret} {v : V} (sr : SR K Z σ Hs H env C) (s : SR K Z σ Hs' H' env C') (t : Tr Hs H C Hs' H' C') (rr : RRet K (zOf Hs H C) Hs' H' C' rt v) :
    ∃ Hs2, SR K Z σ Hs2 H' env C' ∧ Tr Hs H C Hs2 H' C' ∧ Rep K Hs2 rt.tree v := by
  cases rt with
  | shr d => exact ⟨Hs', s, t, rr⟩
  | frs c =>
    obtain ⟨p, o, rfl, e2, r1, n1, n2, n3⟩ := rr
    have hp : H p = none := n3
    refine ⟨upd Hs' p o, s.frz e2 n1 n2 (sr.bas.zfree hp) (fun i c' e z => ?_), t.trans (Tr.frz n1), (r1.same (same_upd n1)).rep upd_same⟩
    obtain ⟨q, u, e1, e3, _⟩ := sr.slt.own i c' e
    rw [e1] at z
    cases z
    rw [hp] at e3
    cases e3
/-- a def of the text that is called -/
abbrev DFn (P : Program) (w : World) (K : PySem.W.Frag) (mg : Str → Option Value) (base : Heap) (k : Nat) (f : Addr) (fd : FuncData) (ps : List Str) (sp : DSp) : Prop := FnG P w K mg base k f fd ps (lift K sp)
def mCall (sp : DSp) (dfl : List D) (ms : EM (List D)) : EM D := fun E env C Q => ms E env C fun ds env1 C1 => sp (ds ++ dfl) C1 (fun r C2 => Q r.tree env1 C2) fun x C2 => E x env1 C2
def mCallF (sp : DSp) (dfl : List D) (ms : EM (List D)) : EM Cont := fun E env C Q => ms E env C fun ds env1 C1 => sp (ds ++ dfl) C1 (fun r C2 => match r with
  | .frs c => Q c env1 C2
  | .shr _ => False) fun x C2 => E x env1 C2
section
variable {sp : DSp} {dfl : List D} {dvs : List V} {dus : List Value} {k : Nat} {f : Addr} {fd : FuncData} {ps : List Str} {x : Str} {p : Pos} {ms : EM (List D)}
theorem lift_call {E : EX} {σ : St} {Hs H : Hp} {env : DL.Env} {C : Cs} {ds : List D} {vs : List V} {Q : VK} {P : Ret → Cs → Prop} (sr : SR K Z σ Hs H env C) (r : RepL K Hs ds vs) (q : sp ds C P fun x C2 => E x env C2)
    (kk : ∀ rt C' v Hs' H', P rt C' → SR K Z σ Hs' H' env C' → Tr Hs H C Hs' H' C' → RRet K (zOf Hs H C) Hs' H' C' rt v → Q v H') : lift K sp vs H Q (WE (DXw K Z E) σ) :=
  ⟨Hs, C, ds, P, _, sr.fit, r, q, fun rt C' v Hs' H' pr f b rr => let ⟨s, t⟩ := sr.call f b; kk rt C' v Hs' H' pr s t rr,
    fun x C' cls dx Hs' H' px f b rx => ⟨Hs', env, C', x, (sr.call f b).1, rx, px⟩⟩
theorem call_shr {E : EX} {σ : St} {H : Hp} {Q : VK} (hd' : ∀ Hs, RepL K Hs dfl dvs) (q : LG K RShr Z (mCall sp dfl ms E) σ H Q) : tCallSD (lift K sp) dvs (fun σ => WE (DXw K Z E) σ) (LA K RShr Z (ms E)) σ H Q := by
  obtain ⟨Hs, env, C, P, sr, q, kk⟩ := q
  refine ⟨Hs, env, C, _, sr, q, fun ds env1 C1 vs Hs1 H1 q1 t1 s1 r1 => ?_⟩
  refine lift_call s1 (r1.rep.append (hd' Hs1)) q1 fun rt C' v Hs' H' pr s' t' rr => ?_
  obtain ⟨Hs2, s2, t2, r2⟩ := ret_shr s1 s' t' rr
  exact kk _ _ _ _ _ _ pr (t1.trans t2) s2 r2
theorem call_frs {E : EX} {σ : St} {H : Hp} {Q : VK} (hd' : ∀ Hs, RepL K Hs dfl dvs) (q : LG K RFr Z (mCallF sp dfl ms E) σ H Q) : tCallSD (lift K sp) dvs (fun σ => WE (DXw K Z E) σ) (LA K RShr Z (ms E)) σ H Q := by
  obtain ⟨Hs, env, C, P, sr, q, kk⟩ := q
  refine ⟨Hs, env, C, _, sr, q, fun ds env1 C1 vs Hs1 H1 q1 t1 s1 r1 => ?_⟩
  refine lift_call s1 (r1.rep.append (hd' Hs1)) q1 fun rt C' v Hs' H' pr s' t' rr => ?_
  cases rt with
  | shr d => exact pr.elim
  | frs c =>
    obtain ⟨p, o, rfl, e2, r1, n1, n2, n3⟩ := rr
    have hp : H1 p = none := n3
    refine kk c _ _ _ _ _ pr (t1.trans t') s' ⟨p, o, rfl, e2, r1, n1, n2, s1.bas.zfree hp, fun i c' e z => ?_⟩
    obtain ⟨q, u, e1, e3, _⟩ := s1.slt.own i c' e
    rw [e1] at z
    cases z
    rw [hp] at e3
    cases e3
/-- what a call of a def by its name wants -/
structure Callee (X : Cx) (x : Str) (sp : DSp) (dfl : List D) : Prop where
  ex : ∃ k f fd ps dvs dus, DFn X.prog X.w X.K X.mg X.base k f fd ps sp ∧ Room k X.A ∧ X.mg x = some (.ref f) ∧ PySem.W.keepIn X.K (.ref f) = true ∧ Binds X.K fd ps dus ∧ Vals dvs dus ∧ ∀ Hs, RepL X.K Hs dfl dvs
theorem d_call (c : Callee X x sp dfl) (gd : Gd X.A) (hg : Gl X x) (ha : DA X RShr (e :: es) ms) (hdb : (x == ("__debug__" : Str)) = false) (he : starEach (e :: es) X.env = (false, eval e X.env) :: starEach es X.env) (hpl : (backTo pos (starEach es X.env)).any (·.1) = false) :
    DE X RShr (.Call (.Name x p) (e :: es) [] pos) (mCall sp dfl ms) := fun Z E hE => by
  obtain ⟨k, f, fd, ps, dvs, dus, F, hr, hm, hk, hb, hd, hd'⟩ := c.ex
  exact ⟨fun pins s σ H Q I q => (pe_callG F gd hr hg hm hk hb hd (fun σ => passAt hE σ) (ha Z E hE) hdb he hpl).run pins s σ H Q I (call_shr hd' q)⟩
theorem d_callF (c : Callee X x sp dfl) (gd : Gd X.A) (hg : Gl X x) (ha : DA X RShr (e :: es) ms) (hdb : (x == ("__debug__" : Str)) = false) (he : starEach (e :: es) X.env = (false, eval e X.env) :: starEach es X.env) (hpl : (backTo pos (starEach es X.env)).any (·.1) = false) :
    DE X RFr (.Call (.Name x p) (e :: es) [] pos) (mCallF sp dfl ms) := fun Z E hE => by
  obtain ⟨k, f, fd, ps, dvs, dus, F, hr, hm, hk, hb, hd, hd'⟩ := c.ex
  exact ⟨fun pins s σ H Q I q => (pe_callG F gd hr hg hm hk hb hd (fun σ => passAt hE σ) (ha Z E hE) hdb he hpl).run pins s σ H Q I (call_frs hd' q)⟩
end
/-! ### a def keeps its promise -/
def slots0 (N : Nat) (ds : List D) : DL.Env := ds.map Slot.shr ++ List.replicate (N - ds.length) Slot.non
theorem start_rep {N : List Str} {Hs H : Hp} {C : Cs} {ds : List D} {vs : List V} (f : Fits K Hs H C) (r : RepL K Hs ds vs) (hl : vs.length ≤ N.length) : SR K (zOf Hs H C) (start N vs) Hs H (slots0 N.length ds) C := by
  have e := r.length
  refine ⟨f, Bas.start, ?_, fun i d h => ?_, fun i c h => ?_, fun i j c c' p ne h => ?_⟩
  · simp [slots0, start, e]
  · unfold slots0 at h
    unfold start
    by_cases hi : i < ds.length
    · rw [List.getElem?_append_left (by simpa using hi)] at h
      rw [List.getElem?_append_left (by simp; omega)]
      rw [List.getElem?_map] at h
      obtain ⟨d', h1, h2⟩ := Option.map_eq_some_iff.mp h
      cases h2
      obtain ⟨v, h3, h4⟩ := r.get' h1
      exact ⟨v, by rw [List.getElem?_map, h3]; rfl, h4⟩
    · rw [List.getElem?_append_right (by simp; omega)] at h
      have := List.mem_of_getElem? h
      have := List.eq_of_mem_replicate this
      cases this
  all_goals
    exfalso
    unfold slots0 at h
    have hm := List.mem_of_getElem? h
    rcases List.mem_append.mp hm with z | z
    · obtain ⟨d, _, q⟩ := List.mem_map.mp z
      cases q
    · have := List.eq_of_mem_replicate z
      cases this
/-- the context of a def's body -/
abbrev BodyX (P : Program) (w : World) (K : PySem.W.Frag) (mg : Str → Option Value) (base : Heap) (N : List Str) (qual : Str) (st : Stmt) (f : Addr) (cdv : Value) (A : Around) (fr : List PySem.Env) (s : Shared) (H : Hp) (E : XK) : Cx :=
  cxOf (L2.CX P w) P w K mg base N qual (defScope st) f cdv A fr s H E
/-- THE RULE for a def: its body's meaning m, and the promise from it -/
theorem dfn_ok {P : Program} {w : World} {mg : Str → Option Value} {base : Heap} {xn qual : Str} {st : Stmt} {f : Addr} {fd : FuncData} {N ps : List Str} {k : Nat} {sp : DSp} {m : SM} (F : Fun K xn qual st f fd) (S : FnScope N ps (defScope st))
    (hb : ∀ (cdv : Value) (A : Around) (fr : List PySem.Env) (s : Shared) (H : Hp) (E : XK), Gd A → Room k (A.deeper (envOfC qual (defScope st) s.heap.objs.size f cdv)) → DSs (BodyX P w K mg base N qual st f cdv A fr s H E) (defBody st) m)
    (hl : ps.length ≤ N.length) (hsp : ∀ ds C PR PX, sp ds C PR PX → ds.length = ps.length ∧ m (fun x _ C => PX x C) { nx := fun _ C => PR (.shr .non) C, rt := PR } (slots0 N.length ds) C) : DFn P w K mg base (k + 1) f fd ps sp := by
  refine fnG_of F S (fun vs H Q E h => ?_) fun cdv A fr s H vs Q E gd hr h => ?_
  · obtain ⟨Hs, C, ds, PR, PX, f1, r, q, _⟩ := h
    rw [← r.length]
    exact (hsp ds C PR PX q).1
  · obtain ⟨Hs, C, ds, PR, PX, f1, r, q, k1, k2⟩ := h
    obtain ⟨l1, q1⟩ := hsp ds C PR PX q
    have hE : DX (BodyX P w K mg base N qual st f cdv A fr s H E) (zOf Hs H C) (fun x _ C => PX x C) := by
      have tk : Takes (BodyX P w K mg base N qual st f cdv A fr s H E) (fun cls d _ H => E cls d H) := takes_of rfl rfl rfl rfl
      exact Takes.imp tk fun cls dx σ H' ⟨Hs', env', C', x, sr, rx, px⟩ => k2 x C' cls dx Hs' H' px sr.fit sr.bas rx
    refine ⟨_, hb cdv A fr s H E gd hr (zOf Hs H C) _ hE, Hs, slots0 N.length ds, C, _, start_rep f1 r (by rw [← r.length, l1]; exact hl), ⟨fun σ Hs' H' env' C' sr p => ?_, fun rt v Hs' H' C' f' b' rr p => ?_, fun _ _ _ _ _ _ z => z, fun _ _ _ _ _ _ z => z⟩, q1⟩
    · exact k1 _ C' _ Hs' H' p sr.fit sr.bas Rep.non
    · exact k1 rt C' v Hs' H' p f' b' rr
end
end L2.DL
/-! DLk: built-ins over trees. -/
namespace L2.DL
open PySem PySem.Spec PyProof.Rows
/-! ### repr -/
mutual
def isR : D → Bool
  | .non => true
  | .bl _ => true
  | .int _ => true
  | .str _ => true
  | .tup xs => isRs xs
  | .lst xs => isRs xs
  | .dct kvs => isRkv kvs
  | .tupT _ => true
  | _ => false
def isRs : List D → Bool
  | [] => true
  | d :: r => isR d && isRs r
def isRkv : List (DK × D) → Bool
  | [] => true
  | (_, d) :: r => isR d && isRkv r
end
section
variable {X : Cx} {pins : List (Addr × Obj)} {σ : St} {Hs H : Hp} {s : Shared} {C : Cs}
theorem pairs_read {P : Program} {w : World} {h : Heap} : ∀ {es : List DictEntry} {kvs : List (Key × Value)} {ks : List DK}, Pairs (mixKind P w) es kvs → kvs.map (·.1) = ks.map kOf → ReadsAll h (es.map (·.key)) (ks.map keyP) []
  | _, _, [], .nil, _ => .nil
  | _, _, _ :: _, .nil, e => by cases e
  | _, _, [], .cons _ _ _, e => by cases e
  | _, _, k :: ks, .cons h1 h2 h3, e => by
    rw [List.map_cons, List.map_cons] at e
    injection e with e1 e2
    rw [e1] at h1
    have h4 := pairs_read (h := h) h3 e2
    rw [List.map_cons, List.map_cons]
    cases k with
    | inl i =>
      obtain ⟨t, q⟩ := Value.isInt_shape h1
      rw [q]
      exact ReadsAll.cons (.int i t) h4
    | inr z =>
      obtain ⟨t, q⟩ := Value.isStrOf_shape h1
      rw [q]
      exact ReadsAll.cons (.str (sV z) t) h4
theorem pairs_vals {P : Program} {w : World} : ∀ {es : List DictEntry} {kvs : List (Key × Value)}, Pairs (mixKind P w) es kvs → es.map (·.val) = kvs.map (·.2)
  | _, _, .nil => rfl
  | _, _, .cons _ h2 h3 => by rw [List.map_cons, List.map_cons, h2, pairs_vals h3]
theorem keys_rep {K : PySem.W.Frag} : ∀ {kvs : List (DK × D)} {ws : List (Key × V)}, RepKV K Hs kvs ws → ws.map (·.1) = (kvs.map (·.1)).map kOf
  | _, _, .nil => rfl
  | _, _, .cons _ r => by rw [List.map_cons, keys_rep r]; rfl
theorem toPkv_1 : ∀ kvs : List (DK × D), (toPkv kvs).map (·.1) = (kvs.map (·.1)).map keyP
  | [] => rfl
  | (k, d) :: r => by simp only [toPkv, List.map_cons, toPkv_1 r]
theorem toPkv_2 : ∀ kvs : List (DK × D), (toPkv kvs).map (·.2) = toPs (kvs.map (·.2))
  | [] => rfl
  | (k, d) :: r => by simp only [toPkv, List.map_cons, toPs, toPkv_2 r]
theorem kv_vals : ∀ {ws : List (Key × V)} {us : List (Key × Value)}, KV ws us → Vals (ws.map (·.2)) (us.map (·.2))
  | _, _, .nil => .nil
  | _, _, .cons h r => .cons h.2 (kv_vals r)
theorem reads_strs {h : Heap} : ∀ (ts : List Txt) {us : List Value}, Vals ((ts.map sV).map V.str) us → ReadsAll h us (ts.map fun t => PyData.str (sV t)) []
  | [], _, .nil => .nil
  | t :: r, _, .cons ⟨k, e⟩ q => by
    subst e
    exact ReadsAll.cons (Reads.str _ k) (reads_strs r q)
mutual
theorem Rep.reads (I : Inv X pins σ H s) (sub : Same Hs H) : ∀ {d : D} {v : V} {u : Value}, Rep X.K Hs d v → RelV v u → isR d = true → ∃ as, Reads s.heap u (toP d) as ∧ ∀ b ∈ as, H b ≠ none
  | _, _, _, .non, r, _ => by cases r; exact ⟨_, Reads.none, fun _ h => by cases h⟩
  | _, _, _, .bl b, r, _ => by cases r; exact ⟨_, Reads.bool b, fun _ h => by cases h⟩
  | _, _, _, .int i, r, _ => by obtain ⟨t, rfl⟩ := r; exact ⟨_, Reads.int i t, fun _ h => by cases h⟩
  | _, _, _, .str z, r, _ => by obtain ⟨t, rfl⟩ := r; exact ⟨_, Reads.str _ t, fun _ h => by cases h⟩
  | _, _, _, .tup (xs := xs) h q, r, p => by
    cases r
    obtain ⟨its, rv, ⟨o, ho, hc, n, hd⟩, _⟩ := I.tuple (TupA.sq sub h)
    obtain ⟨as, h1, h2⟩ := RepL.reads I sub q rv p
    exact ⟨_, Reads.tuple ho hc hd h1, h2⟩
  | _, _, _, .lst (xs := xs) (a := a) h q, r, p => by
    cases r
    obtain ⟨its, rv, ⟨o, n, ho, hc, _, hd⟩, _⟩ := I.list (SqL.of (K := X.K) (sub _ _ h))
    obtain ⟨as, h1, h2⟩ := RepL.reads I sub q rv p
    refine ⟨_, Reads.list ho hc hd h1, fun b hb => ?_⟩
    rcases List.mem_cons.mp hb with e | hb
    · rw [e, sub _ _ h]
      intro z
      cases z
    · exact h2 b hb
  | _, _, _, .dct (kvs := kvs) (a := a) h q, r, p => by
    cases r
    have h' := Same.rd sub h
    obtain ⟨_, hs, vs, kv, o, es, ep, ho, hx, hd, _, pr, _⟩ := dk_rd I.hok h'
    have k1 := pairs_read (h := s.heap) pr (ks := kvs.map (·.1)) (by rw [← kv.keys, keys_rep q])
    obtain ⟨as, h1, h2⟩ := RepKV.reads I sub q (kv_vals kv) p
    refine ⟨_, Reads.dict ho hx.1 hd (by rw [toPkv_1]; exact k1) (by rw [toPkv_2, pairs_vals pr]; exact h1), fun b hb => ?_⟩
    rcases List.mem_append.mp hb with hb | hb
    · rcases List.mem_cons.mp hb with e | hb
      · rw [e]
        rcases h' with z | ⟨_, z⟩ <;> (rw [z]; intro w; cases w)
      · cases hb
    · exact h2 b hb
  | _, _, _, .obj h q, r, p => by cases p
  | _, _, _, .cell a, r, p => by cases p
  | _, _, _, .ty n, r, p => by cases p
  | _, _, _, .scr h, r, p => by cases p
  | _, _, _, .exc h q, r, p => by cases p
  | _, _, _, .kt h, r, p => by cases p
  | _, _, _, .tupT (ts := ts) d h, r, p => by
    cases r
    obtain ⟨its, rv, ⟨o, ho, hc, n, hd⟩, _⟩ := I.tuple (TupA.sq (K := X.K) sub (.inr ⟨_, d, h⟩))
    exact ⟨_, Reads.tuple ho hc hd (reads_strs ts rv), fun _ h => by cases h⟩
theorem RepL.reads (I : Inv X pins σ H s) (sub : Same Hs H) : ∀ {d : List D} {v : List V} {u : List Value}, RepL X.K Hs d v → Vals v u → isRs d = true → ∃ as, ReadsAll s.heap u (toPs d) as ∧ ∀ b ∈ as, H b ≠ none
  | _, _, _, .nil, r, _ => by cases r; exact ⟨_, ReadsAll.nil, fun _ h => by cases h⟩
  | _, _, _, .cons h q, r, p => by
    cases r with
    | cons r1 r2 =>
      have p' := Bool.and_eq_true_iff.mp p
      obtain ⟨as, h1, h2⟩ := Rep.reads I sub h r1 p'.1
      obtain ⟨bs, h3, h4⟩ := RepL.reads I sub q r2 p'.2
      exact ⟨_, ReadsAll.cons h1 h3, fun b hb => (List.mem_append.mp hb).elim (h2 b) (h4 b)⟩
theorem RepKV.reads (I : Inv X pins σ H s) (sub : Same Hs H) : ∀ {d : List (DK × D)} {v : List (Key × V)} {u : List Value}, RepKV X.K Hs d v → Vals (v.map (·.2)) u → isRkv d = true → ∃ as, ReadsAll s.heap u (toPs (d.map (·.2))) as ∧ ∀ b ∈ as, H b ≠ none
  | _, _, _, .nil, r, _ => by cases r; exact ⟨_, ReadsAll.nil, fun _ h => by cases h⟩
  | _, _, _, .cons h q, r, p => by
    rw [List.map_cons] at r
    cases r with
    | cons r1 r2 =>
      have p' := Bool.and_eq_true_iff.mp p
      obtain ⟨as, h1, h2⟩ := Rep.reads I sub h r1 p'.1
      obtain ⟨bs, h3, h4⟩ := RepKV.reads I sub q r2 p'.2
      exact ⟨_, ReadsAll.cons h1 h3, fun b hb => (List.mem_append.mp hb).elim (h2 b) (h4 b)⟩
end
/-- may be shown -/
def shOk (d : D) : Prop := isR d = true ∧ (toP d).showable = true ∧ (toP d).depth ≤ 40 ∧ (toP d).shown.length ≤ sizeLine
@[irreducible] def shT (d : D) : Txt := (toP d).shown.cps.toList
def gRepr (ds : List D) (P : D → Prop) : Prop := match ds with
  | [d] => shOk d ∧ P (.str (shT d))
  | _ => False
/-- repr of a thing that reads as data -/
theorem repr_run {A : Around} {E Q : Value → Shared → Prop} {d : D} {u : Value} {as : List Addr} (gd : Gd A) (hu : A.units + 60 < cLine) (r : Reads s.heap u (toP d) as) (nm : sysModules ∉ as) (ok : shOk d)
    (k : ∀ h' t tk, (∀ b o, s.heap.get? b = some o → h'.get? b = some o) → Q (.str (toP d).shown t) { s with heap := h', toks := tk }) : wpAny (model X.prog X.w) A (call (.builtin "repr") [u]) Q E s := by
  obtain ⟨o1, o2, o3, o4⟩ := ok
  have kk : ∀ b o, s.heap.get? b = some o → s.heap.get? b = some o := fun _ _ e => e
  cases u with
  | ref a => exact repr_of_reads' r o2 (fun _ => nm) gd (by omega) (fun _ _ e => e) k o4
  | none =>
    generalize toP d = p at *
    cases r
    exact PySem.P.repr_of_none (k s.heap _ _ kk)
  | bool b =>
    generalize toP d = p at *
    cases r
    have e : (PyData.bool b).shown = (if b then "True" else "False" : String) := by cases b <;> rfl
    refine PySem.P.repr_of_bool ?_
    have := k s.heap s.toks (s.toks + 1) kk
    rw [e] at this
    cases b <;> exact this
  | int i t =>
    generalize toP d = p at *
    cases r
    refine PySem.P.repr_of_int (of_decide_eq_true (by simpa [PyData.showable] using o2)) (k s.heap _ _ kk)
  | str x t =>
    generalize toP d = p at *
    cases r
    exact PySem.P.repr_of_str (k s.heap _ _ kk) o4
  | _ =>
    generalize toP d = p at *
    cases r
theorem noMods (I : Inv X pins σ H s) (hb : ∃ o, X.base.get? sysModules = some o) {as : List Addr} (h : ∀ b ∈ as, H b ≠ none) : sysModules ∉ as := fun hm => by
  obtain ⟨o, e⟩ := hb
  exact h _ hm (I.bs _ o e).2
end
section
variable {X : Cx}
/-- reading of a call over one value that is known as data -/
theorem calld_repr (gd : Gd X.A) (hu : X.A.units + 60 < cLine) (hb : ∃ o, X.base.get? sysModules = some o) : CallD X (.builtin "repr") RShr gRepr := by
  refine ⟨⟨fun xs H Q => ∃ (v : V) (d : D), xs = [v] ∧ (∀ (pins : List (Addr × Obj)) (σ : St) (s : Shared) (u : Value), Inv X pins σ H s → RelV v u → ∃ as, Reads s.heap u (toP d) as ∧ ∀ b ∈ as, H b ≠ none) ∧ shOk d ∧ Q (.str (sV (shT d))) H, ?_, ?_⟩⟩
  · intro pins s σ H xs us Q I r h
    obtain ⟨v, d, rfl, rd, ok, q⟩ := h
    obtain ⟨u, rfl, ru⟩ := vals1 r
    obtain ⟨as, r1, r2⟩ := rd pins σ s u I ru
    refine repr_run (X := X) gd hu r1 (noMods I hb r2) ok fun h' t tk kk => ?_
    exact ⟨.str (sV (shT d)), H, I.kept kk, ⟨t, by unfold shT; rw [sV_of]⟩, q⟩
  · intro Z σ Hs H env C ds vs P Q sr n g k
    unfold gRepr at g
    split at g
    · rename_i d
      cases n with
      | cons n1 n2 =>
        cases n2
        refine ⟨_, d, rfl, fun pins σ' s u I ru => ?_, g.1, k _ _ Hs H g.2 Tr.refl sr (.str _)⟩
        have ok := g.1.1
        cases n1 with
        | non => exact (Rep.non : Rep X.K Hs _ _).reads I sr.fit.sub ru ok
        | bl b => exact (Rep.bl b : Rep X.K Hs _ _).reads I sr.fit.sub ru ok
        | int i => exact (Rep.int i : Rep X.K Hs _ _).reads I sr.fit.sub ru ok
        | str z => exact (Rep.str z : Rep X.K Hs _ _).reads I sr.fit.sub ru ok
        | tup h q => exact (Rep.tup h q).reads I sr.fit.sub ru ok
        | lst h q => exact (Rep.lst h (q.same sr.fit.sub)).reads I (Same.refl _) ru ok
        | dct h q => exact (Rep.dct h (q.same sr.fit.sub)).reads I (Same.refl _) ru ok
        | tupT d h => exact (Rep.tupT d h : Rep X.K Hs _ _).reads I sr.fit.sub ru ok
        | _ => cases ok
    · exact g.elim
end
end L2.DL
/-! DLl: built-ins over trees: len, isinstance, max, min, all, any, list, tuple, join, products. -/
namespace L2.DL
open PySem PySem.Spec PyProof.Rows
section
variable {X : Cx}
/-- a rule that changes nothing and gives a plain value -/
theorem calld_pure {f : Value} {r : List V → Hp → VK → Prop} {g : List D → (D → Prop) → Prop} (hr : CallR X f r)
    (h : ∀ Hs H ds vs (P : D → Prop) Q, Same Hs H → RNs X.K Hs H ds vs → g ds P → (∀ a w, P a → Rep X.K Hs a w → Q w H) → r vs H Q) : CallD X f RShr g :=
  ⟨⟨r, hr, fun Z σ Hs H env C ds vs P Q sr n gg k => h Hs H ds vs P Q sr.fit.sub n gg fun a w p ra => k a w Hs H p Tr.refl sr ra⟩⟩
def gLen (ds : List D) (P : D → Prop) : Prop := match ds with
  | [.str s] => s.length ≤ sizeLine ∧ P (.int s.length)
  | [.lst xs] => P (.int xs.length)
  | [.tup xs] => P (.int xs.length)
  | [.dct xs] => P (.int xs.length)
  | [.scr xs] => P (.int xs.length)
  | _ => False
theorem RepKV.length {K : PySem.W.Frag} {H : Hp} : ∀ {d : List (DK × D)} {v : List (Key × V)}, RepKV K H d v → d.length = v.length
  | _, _, .nil => rfl
  | _, _, .cons _ r => by simp [RepKV.length r]
theorem call_lenD : CallR X (.builtin "len") (fun xs H Q => ∃ a kvs, xs = [.ref a] ∧ Rd H a (.dK kvs) ∧ Q (.int (kvs.length : Nat)) H) := by
  intro pins s σ H xs us Q I r h
  obtain ⟨a, kvs, rfl, e, q⟩ := h
  obtain ⟨u, rfl, rx⟩ := vals1 r
  cases rx
  exact d_len I e fun t s' I' => ⟨.int (kvs.length : Nat), H, I', ⟨_, rfl⟩, q⟩
theorem calld_len : CallD X (.builtin "len") RShr gLen := by
  refine calld_pure (call_len.or call_lenD) fun Hs H ds vs P Q sub n g k => ?_
  cases n with
  | nil => exact g.elim
  | cons n n2 =>
    cases n2 with
    | cons _ _ => cases n <;> exact g.elim
    | nil =>
      cases n with
      | str s => exact .inl ⟨_, s.length, rfl, ⟨by rw [sV_len]; exact g.1, by rw [sV_len]⟩, k _ _ g.2 (.int _)⟩
      | lst e r => exact .inl ⟨_, _, rfl, .inl ⟨_, SqL.of e, rfl⟩, k _ _ g (by rw [r.length]; exact .int _)⟩
      | tup e r => exact .inl ⟨_, _, rfl, .inr ⟨_, TupA.sq sub e, rfl⟩, k _ _ g (by rw [r.length]; exact .int _)⟩
      | dct e r => exact .inr ⟨_, _, rfl, e, k _ _ g (by rw [r.length]; exact .int _)⟩
      | @scr ns a e => exact .inl ⟨_, ns.length, rfl, .inl ⟨_, e, by simp⟩, k _ _ g (.int _)⟩
      | _ => exact g.elim
/-! ### isinstance -/
def tyD : D → Option String
  | .non => some "NoneType" | .bl _ => some "bool" | .int _ => some "int" | .str _ => some "str"
  | .tup _ => some "tuple" | .lst _ => some "list" | .dct _ => some "dict" | _ => none
/-! ### max, min -/
def g2I (f : Int → Int → Int) (ds : List D) (P : D → Prop) : Prop := match ds with
  | [.int i, .int j] => P (.int (f i j))
  | _ => False
theorem rns2 {K : PySem.W.Frag} {Hs H : Hp} {i j : Int} {vs : List V} (n : RNs K Hs H [.int i, .int j] vs) : vs = [.int i, .int j] := by
  cases n with
  | cons n1 n2 => cases n2 with
    | cons n2 n3 => cases n1; cases n2; cases n3; rfl
theorem calld_max (hc : X.calm = true) : CallD X (.builtin "max") RShr (g2I fun i j => if j > i then j else i) := by
  refine calld_pure (call_max2 hc) fun Hs H ds vs P Q sub n g k => ?_
  unfold g2I at g
  split at g
  · rename_i i j
    exact ⟨i, j, rns2 n, k _ _ g (.int _)⟩
  · exact g.elim
theorem calld_min (hc : X.calm = true) : CallD X (.builtin "min") RShr (g2I fun i j => if j < i then j else i) := by
  refine calld_pure (call_min2 hc) fun Hs H ds vs P Q sub n g k => ?_
  unfold g2I at g
  split at g
  · rename_i i j
    exact ⟨i, j, rns2 n, k _ _ g (.int _)⟩
  · exact g.elim
/-! ### all, any of a list of bools -/
def blsOf : List D → Option (List Bool)
  | [] => some []
  | .bl b :: r => (blsOf r).map (b :: ·)
  | _ => none
/-! ### list(..), tuple(..) -/
def gList (ds : List D) (P : Cont → Prop) : Prop := match ds with
  | [.lst xs] => P (.lst xs)
  | [.tup xs] => P (.lst xs)
  | [.str s] => s.length ≤ sizeLine ∧ P (.lst (s.map fun c => .str [c]))
  | [.scr ns] => P (.lst (ns.map .int))
  | _ => False
def gTuple (ds : List D) (P : D → Prop) : Prop := match ds with
  | [.lst xs] => P (.tup xs)
  | [.tup xs] => P (.tup xs)
  | _ => False
/-! ### text.join(list) -/
def txtsOf : List D → Option (List Txt)
  | [] => some []
  | .str b :: r => (txtsOf r).map (b :: ·)
  | _ => none
/-- a method of a text with one argument -/
def mTx1 (g : Txt → D → (D → Prop) → Prop) (mo me : EM D) : EM D := fun E env C Q => mo E env C fun d env1 C1 => ∃ s, d = .str s ∧ me E env1 C1 fun e env2 C2 => g s (dr C2 e) fun x => Q x env2 C2
/-! ### products -/
def mulT (s : Txt) (n : Int) : Txt := (List.replicate n.toNat s).flatten
theorem repT_fold (s : Txt) : ∀ (k : Nat) (acc : Txt), List.foldl (fun x y => x ++ y) acc.toArray (List.replicate k s.toArray) = (acc ++ (List.replicate k s).flatten).toArray
  | 0, acc => by simp
  | k + 1, acc => by
    rw [List.replicate_succ, List.foldl_cons, List.append_toArray, repT_fold s k (acc ++ s), List.replicate_succ, List.flatten_cons, List.append_assoc]
theorem mulT_of (s : Txt) (n : Int) : Txt.mul (sV s) n = sV (mulT s n) := by
  unfold Txt.mul mulT
  by_cases h1 : n < 1
  · rw [if_pos h1, show n.toNat = 0 by omega]
    rfl
  · rw [if_neg h1]
    by_cases h2 : (n == 1 || (sV s).length == 0) = true
    · rw [if_pos h2]
      rcases Bool.or_eq_true_iff.mp h2 with h3 | h3
      · have : n = 1 := by simpa using h3
        subst this
        simp
      · have : s = [] := by simpa [sV_len] using h3
        subst this
        simp
    · rw [if_neg h2]
      have := repT_fold s n.toNat []
      rw [List.nil_append] at this
      show (⟨_⟩ : Str) = _
      unfold sV
      rw [this]
theorem op_mul_str : OpR X (binaryOp .Mult) (fun x y H Q => ∃ (s : Txt) (n : Int), x = .str (sV s) ∧ y = .int n ∧ -(2 ^ 63) ≤ n ∧ n < 2 ^ 63 ∧ s.length * n.toNat ≤ sizeLine ∧ Q (.str (sV (mulT s n))) H) := by
  intro pins s σ H x y v u Q I rx ry h
  obtain ⟨z, n, rfl, rfl, h1, h2, hz, q⟩ := h
  obtain ⟨t, rfl⟩ := rx
  obtain ⟨t', rfl⟩ := ry
  refine SB.mul ⟨?_, ?_, ?_⟩ fun t' k => ⟨.str (sV (mulT z n)), H, I.tok k, ⟨t', by rw [mulT_of]⟩, q⟩
  · rw [decide_eq_false (by omega), decide_eq_false (by omega)]; rfl
  · intro h3 _ h4
    rw [sV_len] at h4
    have h6 : (z.length : Int) * n ≤ 2 ^ 63 - 1 := by
      have e : (n.toNat : Int) = n := Int.toNat_of_nonneg (by omega)
      have h7 : ((z.length * n.toNat : Nat) : Int) ≤ (sizeLine : Nat) := by exact_mod_cast hz
      rw [Int.natCast_mul, e, sizeLine_eq] at h7
      omega
    have h8 : (z.length : Int) ≤ (2 ^ 63 - 1) / n := (Int.le_ediv_iff_mul_le (by omega)).mpr h6
    omega
  · intro h3 _
    rw [sV_len]
    exact decide_eq_false (Nat.not_lt.mpr hz)
def gMul (d e : D) (P : D → Prop) : Prop := match d, e with
  | .int i, .int j => MulOk i j ∧ P (.int (i * j))
  | .str s, .int n => (-(2 ^ 63) ≤ n ∧ n < 2 ^ 63 ∧ s.length * n.toNat ≤ sizeLine) ∧ P (.str (mulT s n))
  | .lst xs, .int n => (-(2 ^ 63) ≤ n ∧ n < 2 ^ 63 ∧ xs.length * n.toNat ≤ sizeLine) ∧ P (.lst (List.replicate n.toNat xs).flatten)
  | .tup xs, .int n => (xs ≠ [] ∧ 2 ≤ n ∧ n ≤ 1000 ∧ xs.length ≤ 1000) ∧ P (.tup (List.replicate n.toNat xs).flatten)
  | _, _ => False
theorem rep_flat {K : PySem.W.Frag} {Hs : Hp} {xs : List D} {vs : List V} (r : RepL K Hs xs vs) : ∀ k : Nat, RepL K Hs (List.replicate k xs).flatten (List.replicate k vs).flatten
  | 0 => .nil
  | k + 1 => by
    rw [List.replicate_succ, List.flatten_cons, List.replicate_succ, List.flatten_cons]
    exact r.append (rep_flat r k)
theorem opd_mulA : OpD X (binaryOp .Mult) RShr gMul := by
  refine ⟨_, op_mulX.or (op_mul_str.or (op_rep.or op_repT)), ?_⟩
  intro Z σ Hs H env C d e v u P Q sr n n' g k
  cases n with
  | int i => cases n' with
    | int j => exact .inl ⟨i, j, rfl, rfl, g.1, k _ _ Hs H g.2 Tr.refl sr (.int _)⟩
    | _ => exact False.elim g
  | str s => cases n' with
    | int j => exact .inr (.inl ⟨s, j, rfl, rfl, g.1.1, g.1.2.1, g.1.2.2, k _ _ Hs H g.2 Tr.refl sr (.str _)⟩)
    | _ => exact False.elim g
  | lst h r => cases n' with
    | int j => exact .inr (.inr (.inl ⟨_, j, _, rfl, rfl, h, g.1.1, g.1.2.1, by rw [← r.length]; exact g.1.2.2, fun p hp =>
        k _ _ _ _ g.2 (Tr.lay sr.fit hp _) (sr.lay hp _) (.lst upd_same ((rep_flat r _).same (same_upd (sr.fit.nothing hp).1)))⟩))
    | _ => exact False.elim g
  | tup h r => cases n' with
    | int j => exact .inr (.inr (.inr ⟨_, j, _, rfl, rfl, TupA.sq sr.fit.sub h, fun z => g.1.1 (by subst z; cases r; rfl), g.1.2.1, g.1.2.2.1, by rw [← r.length]; exact g.1.2.2.2, fun p hp =>
        k _ _ _ _ g.2 (Tr.lay sr.fit hp _) (sr.lay hp _) (.tup (.inl upd_same) ((rep_flat r _).same (same_upd (sr.fit.nothing hp).1)))⟩))
    | _ => exact False.elim g
  | _ => exact False.elim g
end
end L2.DL
/-! DLm: what is written: tables, lists, own or as cells; sources of draws. -/
namespace L2.DL
open PySem PySem.Spec PyProof.Rows
/-! ### tables -/
def putD (kvs : List (DK × D)) (k : DK) (d : D) : List (DK × D) :=
  if (kvs.any fun kv => decide (kv.1 = k)) = true then kvs.map (fun kv => if kv.1 = k then (kv.1, d) else kv) else kvs ++ [(k, d)]
def mergeD (kvs more : List (DK × D)) : List (DK × D) := more.foldl (fun acc kv => putD acc kv.1 kv.2) kvs
section
variable {K : PySem.W.Frag} {Hs H : Hp} {Z : Z0}
theorem RepKV.any {k : DK} : ∀ {kvs : List (DK × D)} {ws : List (Key × V)}, RepKV K Hs kvs ws → (ws.any fun kv => decide (kv.1 = kOf k)) = kvs.any fun kv => decide (kv.1 = k)
  | _, _, .nil => rfl
  | _, _, @RepKV.cons _ _ j d v ds vs h r => by
    rw [List.any_cons, List.any_cons, RepKV.any r]
    congr 1
    by_cases e : j = k
    · subst e; simp
    · rw [decide_eq_false e, decide_eq_false fun z => e (kOf_inj z)]
theorem RepKV.append : ∀ {ds es : List (DK × D)} {vs ws : List (Key × V)}, RepKV K H ds vs → RepKV K H es ws → RepKV K H (ds ++ es) (vs ++ ws)
  | _, _, _, _, .nil, s => s
  | _, _, _, _, .cons h r, s => .cons h (RepKV.append r s)
theorem RepKV.repl {k : DK} {d : D} {v : V} (q : Rep K Hs d v) : ∀ {kvs : List (DK × D)} {ws : List (Key × V)}, RepKV K Hs kvs ws →
    RepKV K Hs (kvs.map fun kv => if kv.1 = k then (kv.1, d) else kv) (ws.map fun kv => if kv.1 = kOf k then (kv.1, v) else kv)
  | _, _, .nil => .nil
  | _, _, @RepKV.cons _ _ j d' v' ds vs h r => by
    rw [List.map_cons, List.map_cons]
    by_cases e : j = k
    · subst e
      rw [if_pos rfl, if_pos rfl]
      exact .cons q (RepKV.repl q r)
    · rw [if_neg e, if_neg fun z => e (kOf_inj z)]
      exact .cons h (RepKV.repl q r)
theorem RepKV.put {k : DK} {d : D} {v : V} {kvs : List (DK × D)} {ws : List (Key × V)} (r : RepKV K Hs kvs ws) (q : Rep K Hs d v) : RepKV K Hs (putD kvs k d) (putK ws (kOf k) v) := by
  unfold putD putK
  rw [r.any]
  by_cases h : (kvs.any fun kv => decide (kv.1 = k)) = true
  · rw [if_pos h, if_pos h]; exact r.repl q
  · rw [if_neg h, if_neg h]; exact r.append (.cons q .nil)
theorem RepKV.merge {more : List (DK × D)} : ∀ {ws : List (Key × V)} {kvs : List (DK × D)} {us : List (Key × V)}, RepKV K Hs more ws → RepKV K Hs kvs us → RepKV K Hs (mergeD kvs more) (mergeK us ws) := by
  induction more with
  | nil => intro ws kvs us r q; cases r; exact q
  | cons p m ih => intro ws kvs us r q; cases r with
    | @cons k d v _ _ h t =>
      have := ih t (q.put (k := k) h)
      exact this
end
section
variable {X : Cx} {e o i : Expr} {es : List Expr} {pos p' : Pos} {K : PySem.W.Frag} {Z Z' : Z0}
/-! ### {k: v, ..} -/
def LPs (K : PySem.W.Frag) (Z : Z0) (m : DM (List (DK × D))) (σ : St) (H : Hp) (Q : List (V × V) → Hp → Prop) : Prop := ∃ Hs env C P, SR K Z σ Hs H env C ∧ m env C P ∧
  ∀ kvs env' C' ws Hs' H', P kvs env' C' → Tr Hs H C Hs' H' C' → SR K Z σ Hs' H' env' C' → RepKV K Hs' kvs ws → Q (ws.map fun kv => (kV kv.1, kv.2)) H'
def DPs (X : Cx) (pos : Pos) (ks : List (Option Expr)) (vs : List Expr) (m : EM (List (DK × D))) : Prop :=
  ∀ E, ∃ trs, PPs X pos ks vs trs ∧ ∀ Z, DX X Z E → ∀ σ H Q, LPs X.K Z (m E) σ H Q → tPairs trs σ H Q
theorem DE.all {α : Type} {R : RR α} {m : EM α} (h : DE X R e m) (E : EX) : PE X e (fun σ H Q => ∃ Z, DX X Z E ∧ LG X.K R Z (m E) σ H Q) :=
  ⟨fun pins s σ H Q I ⟨Z, hE, q⟩ => (h Z E hE).run pins s σ H Q I q⟩
def mPNil : EM (List (DK × D)) := fun _ env C Q => Q [] env C
def mPCons (mk mv : EM D) (ms : EM (List (DK × D))) : EM (List (DK × D)) := fun E env C Q => mk E env C fun d env1 C1 => mv E env1 C1 fun x env2 C2 => ms E env2 C2 fun r env3 C3 => ∃ k, dkOf d = some k ∧ Q ((k, x) :: r) env3 C3
theorem dps_nil : DPs X pos [] [] mPNil := fun E => ⟨[], pps_nil, fun Z hE σ H Q ⟨Hs, env, C, P, sr, q, k⟩ => k _ _ _ [] Hs H q Tr.refl sr .nil⟩
theorem dk_rep {K : PySem.W.Frag} {Hs : Hp} {d : D} {v : V} {k : DK} (n : Rep K Hs d v) (h : dkOf d = some k) : v = kV (kOf k) := by
  cases n <;> first | (simp [dkOf] at h; done) | (simp only [dkOf, Option.some.injEq] at h; subst h; rfl)
theorem dps_cons {k v : Expr} {ks : List (Option Expr)} {vs : List Expr} {mk mv : EM D} {ms : EM (List (DK × D))} (hk : DE X RShr k mk) (hv : DE X RShr v mv) (hr : DPs X pos ks vs ms) : DPs X pos (some k :: ks) (v :: vs) (mPCons mk mv ms) := fun E => by
  obtain ⟨trs, h, i⟩ := hr E
  refine ⟨_, pps_cons (hk.all E) (hv.all E) h, fun Z hE σ H Q ⟨Hs, env, C, P, sr, q, k⟩ => ?_⟩
  refine ⟨Z, hE, Hs, env, C, _, sr, q, fun d env1 C1 u Hs1 H1 q1 t1 s1 r1 => ?_⟩
  refine ⟨Z, hE, Hs1, env1, C1, _, s1, q1, fun x env2 C2 w Hs2 H2 q2 t2 s2 r2 => ?_⟩
  refine i Z hE σ H2 _ ⟨Hs2, env2, C2, _, s2, q2, fun kvs env3 C3 ws Hs3 H3 q3 t3 s3 r3 => ?_⟩
  obtain ⟨kk, e, q3⟩ := q3
  have hu := dk_rep r1 e
  subst hu
  exact k _ _ _ ((kOf kk, w) :: ws) _ _ q3 ((t1.trans t2).trans t3) s3 (.cons (r2.same t3.fr) r3)
theorem DX.prot {E : EX} {p : Addr} {o : HO} (z : Z.H p = none) (h : DX X Z E) : DX X (DL.prot Z p o) E := Takes.imp h fun _ _ _ _ ⟨Hs, env, C, x, r, q, e⟩ => ⟨Hs, env, C, x, r.unprot z, q, e⟩
def mDct (ms : EM (List (DK × D))) : EM Cont := fun E env C Q => ms E env C fun kvs env1 C1 => kvs.length ≤ 15 ∧ Q (.dct (mergeD [] kvs)) env1 C1
theorem d_dct {ks : List (Option Expr)} {vs : List Expr} {ms : EM (List (DK × D))} (h : DPs X pos ks vs ms) (hall : ks.all (·.isSome) = true) (hl : ks.length = vs.length) (h0 : ks ≠ []) (h15 : ks.length ≤ 15) : DE X RFr (.Dict ks vs pos) (mDct ms) := fun Z E hE => by
  obtain ⟨trs, hp, i⟩ := h E
  refine ⟨fun pins s σ H Q I ⟨Hs, env, C, P, sr, q, k⟩ => (pe_disp hp hall hl h0 h15).run pins s σ H Q I fun p hpn => ?_⟩
  obtain ⟨n1, n2⟩ := sr.fit.nothing hpn
  have zp : Z.H p = none := sr.bas.zfree hpn
  have no : ∀ (i : Nat) (c : Cont), env[i]? = some (Slot.own c) → σ[i]? ≠ some (some (V.ref p)) := fun i c e z => by
    obtain ⟨p', o, e1, e2, _⟩ := sr.slt.own i c e
    rw [e1] at z
    cases z
    rw [hpn] at e2
    cases e2
  refine i (DL.prot Z p (.dK [])) (hE.prot zp) σ _ _ ⟨Hs, env, C, _, (sr.layP hpn _).prot upd_same n1 n2 no, q, fun kvs env1 C1 ws Hs1 H1 q1 t1 s1 r1 => ?_⟩
  obtain ⟨b1, b2, b3⟩ := s1.bas.kp p (.dK []) upd_same (by simp [DL.prot])
  have b3 := b3 (by simp [DL.prot])
  have no1 : ∀ (i : Nat) (c : Cont), env1[i]? = some (Slot.own c) → σ[i]? ≠ some (some (V.ref p)) := fun i c e z => by
    obtain ⟨p', o, e1, e2, _, _, _, n3⟩ := s1.slt.own i c e
    rw [e1] at z
    cases z
    exact (prot_free n3).2 rfl
  have s2 := (SR.unprot zp s1).wrP (o' := .dK (mergeK [] ws)) b3 b2 zp no1
  refine ⟨b1, ws, rfl, by rw [← r1.length]; exact q1.1, ?_⟩
  refine k _ _ _ _ _ _ q1.2 ⟨t1.fr, fun a u e c => ?_⟩ s2 ⟨p, _, rfl, upd_same, ⟨_, rfl, r1.merge .nil⟩, b3, b2, zp, no1⟩
  have ha : a ≠ p := ne_of_none e hpn
  obtain ⟨k1, k2⟩ := t1.kp a u (by rw [upd_ne ha]; exact e) c
  exact ⟨by rw [upd_ne ha]; exact k1, k2⟩
/-! ### o[i] = v -/
theorem PSet.or {t t' : TSet} (h : PSet X t) (h' : PSet X t') : PSet X (fun o i v H Q => t o i v H Q ∨ t' o i v H Q) := by
  intro pins s σ H o i v ov iv u Q I ro ri rv q
  rcases q with q | q
  · exact h pins s σ H o i v ov iv u Q I ro ri rv q
  · exact h' pins s σ H o i v ov iv u Q I ro ri rv q
/-- o a cell -/
def gPutC (mo mi : EM D) : GM := fun d P env C => mo E0 env C fun o env1 C1 => mi E0 env1 C1 fun i env2 C2 => ∃ a, o = .cell a ∧ match C2 a with
  | some (.lst xs) => ∃ k j, i = .int k ∧ ixN xs.length k = some j ∧ P env2 (cput C2 a (.lst (xs.set j d)))
  | some (.dct kvs) => ∃ k, dkOf i = some k ∧ kvs.length < sizeLine ∧ P env2 (cput C2 a (.dct (putD kvs k d)))
  | _ => False
theorem dg_putC {mo mi : EM D} (hu : X.A.units + 1 < cLine) (ho : DE X RShr o mo) (hi : DE X RShr i mi)
    (ha : ∀ v, assign (.Subscript o i pos) X.env v = (do
      let ov ← holding [v] (eval o X.env)
      let iv ← holding [v, ov] (eval i X.env)
      standAt pos
      holding [v, ov, iv] (setItem ov iv v)
      release [v, ov, iv] [])) : DG X (.Subscript o i pos) (gPutC mo mi) := fun Z => by
  refine ⟨fun pins s σ H v u Q I r ⟨Hs, env, C, d, P, sr, rd, q, k⟩ => (pg_sub (ho Z E0 dx0) (hi Z E0 dx0) (PSet.or set_list (set_dict hu)) ha).run pins s σ H v u Q I r ?_⟩
  refine ⟨Hs, env, C, _, sr, q, fun d1 env1 C1 v1 Hs1 H1 q1 t1 s1 r1 => ?_⟩
  refine ⟨Hs1, env1, C1, _, s1, q1, fun d2 env2 C2 v2 Hs2 H2 q2 t2 s2 r2 => ?_⟩
  obtain ⟨a, rfl, q2⟩ := q2
  cases r1
  have rd2 := rd.same (t1.fr.trans t2.fr)
  cases hc : C2 a with
  | none => simp only [hc] at q2
  | some c =>
    simp only [hc] at q2
    obtain ⟨n, ob, hb, rc⟩ := s2.fit.cel a c hc
    cases c with
    | lst xs =>
      obtain ⟨kk, j, rfl, hj, p⟩ := q2
      obtain ⟨vs, rfl, rl⟩ := rc
      cases r2
      exact .inl ⟨_, vs, kk, j, rfl, rfl, hb, by rw [← rl.length]; exact hj, k _ _ _ _ _ (s2.wrC hc (cl' := .lst (xs.set j d)) ⟨_, rfl, rl.set j rd2⟩) p⟩
    | dct kvs =>
      obtain ⟨kk, e, hl, p⟩ := q2
      obtain ⟨ws, rfl, rl⟩ := rc
      have hv := dk_rep r2 e
      subst hv
      exact .inr ⟨_, _, rfl, DPut.k hb (by rw [← rl.length]; exact hl), k _ _ _ _ _ (s2.wrC hc (cl' := .dct (putD kvs kk d)) ⟨_, rfl, rl.put rd2⟩) p⟩
    | pur b => exact q2.elim
    | obj C fs => exact q2.elim
    | lck _ _ _ => exact q2.elim
    | ext _ => exact q2.elim
/-- o a name whose slot owns it -/
def gPutO (n : Nat) (mi : EM D) : GM := fun d P env C => (∃ c, env[n]? = some (.own c)) ∧ mi E0 env C fun i env1 C1 => match env1[n]? with
  | some (.own (.lst xs)) => ∃ k j, i = .int k ∧ ixN xs.length k = some j ∧ P (env1.set n (.own (.lst (xs.set j d)))) C1
  | some (.own (.dct kvs)) => ∃ k, dkOf i = some k ∧ kvs.length < sizeLine ∧ P (env1.set n (.own (.dct (putD kvs k d)))) C1
  | _ => False
theorem dg_putO {n : Nat} {mi : EM D} (hu : X.A.units + 1 < cLine) (ho : PE X o (tVar n)) (hi : DE X RShr i mi)
    (ha : ∀ v, assign (.Subscript o i pos) X.env v = (do
      let ov ← holding [v] (eval o X.env)
      let iv ← holding [v, ov] (eval i X.env)
      standAt pos
      holding [v, ov, iv] (setItem ov iv v)
      release [v, ov, iv] [])) : DG X (.Subscript o i pos) (gPutO n mi) := fun Z => by
  refine ⟨fun pins s σ H v u Q I r ⟨Hs, env, C, d, P, sr, rd, q, k⟩ => (pg_sub ho (hi Z E0 dx0) (PSet.or set_list (set_dict hu)) ha).run pins s σ H v u Q I r ?_⟩
  obtain ⟨⟨c0, e0⟩, q⟩ := q
  obtain ⟨p0, o0, x0, _⟩ := sr.slt.own n c0 e0
  refine ⟨_, x0, Hs, env, C, _, sr, q, fun d2 env2 C2 v2 Hs2 H2 q2 t2 s2 r2 => ?_⟩
  have rd2 := rd.same t2.fr
  split at q2
  · rename_i xs e2
    obtain ⟨kk, j, rfl, hj, p⟩ := q2
    obtain ⟨p1, o1, x1, hb, ⟨vs, rfl, rl⟩, _⟩ := s2.slt.own n _ e2
    rw [x0] at x1
    cases x1
    cases r2
    exact .inl ⟨_, vs, kk, j, rfl, rfl, hb, by rw [← rl.length]; exact hj, k _ _ _ _ _ (s2.wrO e2 x0 (c' := .lst (xs.set j d)) ⟨_, rfl, rl.set j rd2⟩) p⟩
  · rename_i kvs e2
    obtain ⟨kk, e, hl, p⟩ := q2
    obtain ⟨p1, o1, x1, hb, ⟨ws, rfl, rl⟩, _⟩ := s2.slt.own n _ e2
    rw [x0] at x1
    cases x1
    have hv := dk_rep r2 e
    subst hv
    exact .inr ⟨_, _, rfl, DPut.k hb (by rw [← rl.length]; exact hl), k _ _ _ _ _ (s2.wrO e2 x0 (c' := .dct (putD kvs kk d)) ⟨_, rfl, rl.put rd2⟩) p⟩
  · exact q2.elim
/-! ### name = a new source of draws -/
def asPur : Cont → Option Bool
  | .dct [(.inr [100, 105, 103, 105, 116, 115], .int _), (.inr [109, 105, 120, 101, 100], .int j)] => if 0 ≤ j ∧ j < 4294967296 then some true else none
  | .lst [.int _, .int j] => if 0 ≤ j ∧ j < 4294967296 then some false else none
  | _ => none
/-- a new thing becomes a cell -/
theorem SR.mkCell {σ : St} {Hs H : Hp} {env : DL.Env} {C : Cs} {p : Addr} {u : HO} {c : Cell} (r : SR K Z σ Hs H env C) (h : H p = some u) (n1 : Hs p = none) (n2 : C p = none) (z : Z.H p = none) (rc : RepC K Hs c u)
    (no : ∀ (i : Nat) (c : Cont), env[i]? = some (Slot.own c) → σ[i]? ≠ some (some (V.ref p))) : SR K Z σ Hs H env (cput C p c) := by
  refine ⟨⟨r.fit.sub, fun a c' e => ?_⟩, ⟨r.bas.fl, fun a u e c => ?_, r.bas.th⟩, r.slt.len, r.slt.shr, fun i c' e => ?_, r.slt.sep⟩
  · by_cases ha : a = p
    · subst ha
      rw [cput_same] at e
      cases e
      exact ⟨n1, u, h, rc⟩
    · rw [cput_ne ha] at e
      exact r.fit.cel a c' e
  · obtain ⟨k1, k2, k3⟩ := r.bas.kp a u e c
    exact ⟨k1, by rw [cput_ne (ne_of_none e z)]; exact k2, k3⟩
  · obtain ⟨q, o, e1, e2, r1, m1, m2, m3⟩ := r.slt.own i c' e
    have hq : q ≠ p := fun w => no i c' e (by rw [← w]; exact e1)
    exact ⟨q, o, e1, e2, r1, m1, by rw [cput_ne hq]; exact m2, m3⟩
theorem asPur_rep {Hs : Hp} {c : Cont} {u : HO} {b : Bool} (h : asPur c = some b) (r : RepO K Hs c u) : RepC K Hs (.pur b) u := by
  unfold asPur at h
  split at h
  · rename_i i j
    by_cases hj : 0 ≤ j ∧ j < 4294967296
    · rw [if_pos hj] at h
      cases h
      obtain ⟨ws, rfl, r⟩ := r
      cases r with
      | cons h1 r => cases r with
        | cons h2 r => cases r; cases h1; cases h2; exact ⟨i, j, hj.1, hj.2, rfl⟩
    · rw [if_neg hj] at h; cases h
  · rename_i i j
    by_cases hj : 0 ≤ j ∧ j < 4294967296
    · rw [if_pos hj] at h
      cases h
      obtain ⟨ws, rfl, r⟩ := r
      cases r with
      | cons h1 r => cases r with
        | cons h2 r => cases r; cases h1; cases h2; exact ⟨i, j, hj.1, hj.2, rfl⟩
    · rw [if_neg hj] at h; cases h
  · cases h
/-- a new cell at some place where there was none -/
def sSetPur (n : Nat) (m : EM Cont) : SM := fun E dE env C => m E env C fun c env1 C1 => ∃ b, asPur c = some b ∧ ∀ a, C1 a = none → dE.nx (env1.set n (.shr (.cell a))) (cput C1 a (.pur b))
theorem ds_setPur {n : Nat} {te e : Expr} {m : EM Cont} (h : DE X RFr e m) (hp : ∀ {t : TE}, PE X e t → PS X (.Assign [te] e pos) (tAsg t (gName n))) : DS X (.Assign [te] e pos) (sSetPur n m) := fun Z E hE => ⟨fun pins s σ H D I ⟨Hs, env, C, dE, sr, ok, q⟩ =>
  (hp (h Z E hE)).run pins s σ H D I ⟨Hs, env, C, _, sr, q, fun c env1 C1 v Hs1 H1 q1 t1 s1 ⟨p, u, e1, e2, r1, n1, n2, n3, no⟩ => by
    subst e1
    obtain ⟨b, hb, q1⟩ := q1
    have s2 := s1.mkCell e2 n1 n2 n3 (asPur_rep hb r1) no
    exact ok.1 _ _ _ _ _ (s2.setS (.cell p)) (q1 p n2)⟩⟩
end
end L2.DL
/-! DLn: globals, callees, sources of draws. -/
namespace L2.DL
open PySem PySem.Spec PyProof.Rows
section
variable {X : Cx} {e : Expr} {pos : Pos} {x : Str}
theorem d_strc {cs : Txt} {j pos} (h : x.cps.toList = cs) : DE X RShr (.Constant (.str x) j pos) (mC (.str cs)) := by
  subst h
  exact d_str
theorem _root_.L2.Room.u65 {k : Nat} {A : Around} (r : Room k A) : A.units + 65 < cLine := by have := r.un; omega
theorem _root_.L2.Room.u64 {k : Nat} {A : Around} (r : Room k A) : A.units + 64 < cLine := by have := r.un; omega
theorem _root_.L2.Room.u60 {k : Nat} {A : Around} (r : Room k A) : A.units + 60 < cLine := by have := r.un; omega
theorem _root_.L2.Room.u1 {k : Nat} {A : Around} (r : Room k A) : A.units + 1 < cLine := by have := r.un; omega
end
/-- a def that stands as a global, with its promise -/
structure Cle (P : Program) (w : World) (K : PySem.W.Frag) (mg : Str → Option Value) (base : Heap) (k : Nat) (x : Str) (sp : DSp) : Prop where
  ex : ∃ f fd ps, DFn P w K mg base k f fd ps sp ∧ mg x = some (.ref f) ∧ PySem.W.keepIn K (.ref f) = true ∧ Binds K fd ps []
theorem Cle.to {X : Cx} {j k : Nat} {x : Str} {sp : DSp} (c : Cle X.prog X.w X.K X.mg X.base k x sp) (hr : Room j X.A) (h : k ≤ j) : Callee X x sp [] := by
  obtain ⟨f, fd, ps, F, h1, h2, h3⟩ := c.ex
  exact ⟨k, f, fd, ps, [], [], F, hr.mono h, h1, h2, h3, .nil, fun _ => .nil⟩
/-! ### a source of draws is opened -/
def dgT : Txt := [100, 105, 103, 105, 116, 115]
def mxT : Txt := [109, 105, 120, 101, 100]
/-- what the source holds -/
def visP : Bool → Int → Int → Cell
  | true, i, j => .dct [(.inr dgT, .int i), (.inr mxT, .int j)]
  | false, i, j => .lst [.int i, .int j]
theorem cput_cput {C : Cs} {a : Addr} {x y : Cell} : cput (cput C a x) a y = cput C a y := by
  funext b
  unfold cput
  by_cases h : b = a
  · rw [if_pos h, if_pos h]
  · rw [if_neg h, if_neg h, if_neg h]
theorem cput_eta {C : Cs} {a : Addr} {x : Cell} (h : C a = some x) : cput C a x = C := by
  funext b
  unfold cput
  by_cases e : b = a
  · rw [if_pos e, e, h]
  · rw [if_neg e]
section
variable {K : PySem.W.Frag} {Z : Z0} {σ : St} {Hs H : Hp} {env : DL.Env} {C : Cs} {a : Addr} {b : Bool}
theorem purO_vis {u : HO} (h : PurO b u) : ∃ i j, 0 ≤ j ∧ j < 4294967296 ∧ RepC K Hs (visP b i j) u := by
  cases b with
  | true =>
    obtain ⟨i, j, h0, h1, rfl⟩ := h
    exact ⟨i, j, h0, h1, _, rfl, .cons (k := .inr dgT) (.int i) (.cons (k := .inr mxT) (.int j) .nil)⟩
  | false =>
    obtain ⟨i, j, h0, h1, rfl⟩ := h
    exact ⟨i, j, h0, h1, _, rfl, .cons (.int i) (.cons (.int j) .nil)⟩
theorem vis_purO {u : HO} {i j : Int} (h0 : 0 ≤ j) (h1 : j < 4294967296) (h : RepC K Hs (visP b i j) u) : PurO b u := by
  cases b with
  | true =>
    obtain ⟨ws, rfl, r⟩ := h
    cases r with
    | cons h2 r => cases r with
      | cons h3 r => cases r; cases h2; cases h3; exact ⟨i, j, h0, h1, rfl⟩
  | false =>
    obtain ⟨ws, rfl, r⟩ := h
    cases r with
    | cons h2 r => cases r with
      | cons h3 r => cases r; cases h2; cases h3; exact ⟨i, j, h0, h1, rfl⟩
/-- the same heap, another account of one cell -/
theorem Fits.acc {c : Cell} (f : Fits K Hs H C) (hc : (C a).isSome) (h : ∀ u, H a = some u → RepC K Hs c u) : Fits K Hs H (cput C a c) := by
  refine ⟨f.sub, fun x c' e => ?_⟩
  by_cases hx : x = a
  · subst hx
    rw [cput_same] at e
    cases e
    obtain ⟨c0, h0⟩ := Option.isSome_iff_exists.mp hc
    obtain ⟨n, u, hu, _⟩ := f.cel x c0 h0
    exact ⟨n, u, hu, h u hu⟩
  · rw [cput_ne hx] at e
    exact f.cel x c' e
theorem Bas.acc {c : Cell} (b : Bas Z Hs H C) (hc : (C a).isSome) : Bas Z Hs H (cput C a c) := by
  refine ⟨b.fl, fun x u e z => ?_, b.th⟩
  obtain ⟨k1, k2, k3⟩ := b.kp x u e z
  have hx : x ≠ a := fun w => by rw [← w, k2] at hc; cases hc
  exact ⟨k1, by rw [cput_ne hx]; exact k2, k3⟩
theorem SR.acc {c : Cell} (r : SR K Z σ Hs H env C) (hc : (C a).isSome) (h : ∀ u, H a = some u → RepC K Hs c u) : SR K Z σ Hs H env (cput C a c) := by
  refine ⟨r.fit.acc hc h, r.bas.acc hc, r.slt.len, r.slt.shr, fun i c' e => ?_, r.slt.sep⟩
  obtain ⟨p, o, e1, e2, r1, n1, n2, n3⟩ := r.slt.own i c' e
  have hp : p ≠ a := fun w => by rw [← w, n2] at hc; cases hc
  exact ⟨p, o, e1, e2, r1, n1, by rw [cput_ne hp]; exact n2, n3⟩
end
/-- the promise of a draw: below the size, the source stays a source -/
def spDraw (b : Bool) : DSp := fun ds C PR _ => ∃ a n, ds = [.cell a, .int n] ∧ C a = some (.pur b) ∧ 0 < n ∧ n < 2 ^ 62 ∧ ∀ k, 0 ≤ k → k < n → PR (.shr (.int k)) C
section
variable {K : PySem.W.Frag}
theorem dfn_draw {P : Program} {w : World} {mg : Str → Option Value} {base : Heap} {xn qual : Str} {st : Stmt} {f : Addr} {fd : FuncData} {N : List Str} {p1 p2 : Str} {k : Nat} {b : Bool} {m : SM} (F : Fun K xn qual st f fd) (S : FnScope N [p1, p2] (defScope st))
    (hb : ∀ (cdv : Value) (A : Around) (fr : List PySem.Env) (s : Shared) (H : Hp) (E : XK), Gd A → Room k (A.deeper (envOfC qual (defScope st) s.heap.objs.size f cdv)) → DSs (BodyX P w K mg base N qual st f cdv A fr s H E) (defBody st) m)
    (hl : 2 ≤ N.length) (hsp : ∀ (a : Addr) (n i j : Int) (C : Cs), 0 < n → n < 2 ^ 62 → 0 ≤ j → j < 4294967296 → C a = some (visP b i j) →
      m E0 { nx := fun _ _ => False, rt := fun r C' => ∃ k i' j', 0 ≤ k ∧ k < n ∧ 0 ≤ j' ∧ j' < 4294967296 ∧ r = .shr (.int k) ∧ C' = cput C a (visP b i' j') } (slots0 N.length [.cell a, .int n]) C) :
    DFn P w K mg base (k + 1) f fd [p1, p2] (spDraw b) := by
  refine fnG_of F S (fun vs H Q E h => ?_) fun cdv A fr s H vs Q E gd hr h => ?_
  · obtain ⟨Hs, C, ds, PR, PX, f1, r, ⟨a, n, rfl, _⟩, _⟩ := h
    rw [← r.length]
    rfl
  · obtain ⟨Hs, C, ds, PR, PX, f1, r, ⟨a, n, rfl, hc, n0, n1, kk⟩, k1, k2⟩ := h
    obtain ⟨n2, u, hu, rc⟩ := f1.cel a _ hc
    obtain ⟨i, j, j0, j1, rv⟩ := purO_vis (K := K) (Hs := Hs) rc
    have hs : (C a).isSome := by rw [hc]; rfl
    have sr := (start_rep f1 r (by rw [← r.length]; exact hl)).acc hs fun u' e => by rw [hu] at e; cases e; exact rv
    have hE : DX (BodyX P w K mg base N qual st f cdv A fr s H E) (zOf Hs H C) E0 := dx0
    refine ⟨_, hb cdv A fr s H E gd hr (zOf Hs H C) _ hE, Hs, slots0 N.length [.cell a, .int n], cput C a (visP b i j), _, sr, ⟨fun _ _ _ _ _ _ (z : False) => z.elim, fun rt v Hs' H' C' f' b' rr p => ?_, fun _ _ _ _ _ _ z => z, fun _ _ _ _ _ _ z => z⟩, hsp a n i j _ n0 n1 j0 j1 cput_same⟩
    obtain ⟨q, i', j', q0, q1, j0', j1', rfl, rfl⟩ := p
    rw [cput_cput] at f' b' rr
    have hs' : (cput C a (visP b i' j') a).isSome := by rw [cput_same]; rfl
    obtain ⟨n3, u3, hu3, rc3⟩ := f'.cel a _ cput_same
    have f2 := f'.acc (c := .pur b) hs' fun u' e => by rw [hu3] at e; cases e; exact vis_purO j0' j1' rc3
    have b2 := b'.acc (c := .pur b) hs'
    rw [cput_cput, cput_eta hc] at f2 b2
    exact k1 _ C v Hs' H' (kk q q0 q1) f2 b2 rr
end
end L2.DL
/-! DLp: how meanings are worked out, forward. -/
namespace L2.DL
open PySem PySem.Spec PyProof.Rows
section
variable {E : EX} {env : DL.Env} {C : Cs} {d e x : D} {c : Cont} {i j : Int} {n k : Nat} {s t : Txt} {xs ys ds : List D} {kvs : List (DK × D)} {a : Addr}
variable {Q : D → DL.Env → Cs → Prop} {QB : Bool → DL.Env → Cs → Prop} {QL : List D → DL.Env → Cs → Prop} {QC : Cont → DL.Env → Cs → Prop} {P : D → Prop} {PC : Cont → Prop} {ma mb mc : EM D} {ms : EM (List D)} {mt mt' : EM Bool}
theorem i_var (h : env[n]? = some (.shr d)) (q : Q d env C) : mVar n E env C Q := by unfold mVar; rw [h]; exact q
theorem i_varO (h : env[n]? = some (.own c)) (q : Q c.d (env.set n (.shr c.d)) C) : mVar n E env C Q := by unfold mVar; rw [h]; exact q
theorem i_peek (h : env[n]? = some (.shr d)) (q : Q d env C) : mPeek n E env C Q := by unfold mPeek; rw [h]; exact q
theorem i_peekO (h : env[n]? = some (.own c)) (q : Q c.d env C) : mPeek n E env C Q := by unfold mPeek; rw [h]; exact q
theorem i_c {α : Type} {y : α} {R : α → DL.Env → Cs → Prop} (q : R y env C) : mC y E env C R := q
theorem i_op {α : Type} {R : α → DL.Env → Cs → Prop} {g : D → D → (α → Prop) → Prop} (q : ma E env C fun d env1 C1 => mb E env1 C1 fun e env2 C2 => g (dr C2 d) (dr C2 e) fun x => R x env2 C2) : mOp g ma mb E env C R := q
theorem i_un {g : D → (D → Prop) → Prop} (q : ma E env C fun d env1 C1 => g (dr C1 d) fun x => Q x env1 C1) : mUn g ma E env C Q := q
theorem i_tst (q : ma E env C fun d env1 C1 => ∃ k, d = .bl k ∧ QB k env1 C1) : mTst ma E env C QB := q
theorem i_isb {b : Bool} {R : Bool → Prop} (q : R b) : ∃ k, D.bl b = .bl k ∧ R k := ⟨b, rfl, q⟩
theorem i_chain {g g' : D → D → (D → Prop) → Prop} (q : ma E env C fun d env1 C1 => mb E env1 C1 fun e env2 C2 => g (dr C2 d) (dr C2 e) fun x => ∃ k, x = .bl k ∧
  (if k = true then mc E env2 C2 fun f env3 C3 => g' (dr C3 e) (dr C3 f) fun y => Q y env3 C3 else Q (.bl false) env2 C2)) : mChain g g' ma mb mc E env C Q := q
theorem i_andT (q : mt E env C fun k env1 C1 => if k = true then mt' E env1 C1 QB else QB false env1 C1) : mAndT mt mt' E env C QB := q
theorem i_orT (q : mt E env C fun k env1 C1 => if k = true then QB true env1 C1 else mt' E env1 C1 QB) : mOrT mt mt' E env C QB := q
theorem i_notT (q : mt E env C fun k env1 C1 => QB (!k) env1 C1) : mNotT mt E env C QB := q
theorem i_andV (q : ma E env C fun x env1 C1 => ∃ k, x = .bl k ∧ if k = true then mb E env1 C1 Q else Q (.bl false) env1 C1) : mAndV ma mb E env C Q := q
theorem i_orV (q : ma E env C fun x env1 C1 => ∃ k, x = .bl k ∧ if k = true then Q (.bl true) env1 C1 else mb E env1 C1 Q) : mOrV ma mb E env C Q := q
theorem i_notV (q : ma E env C fun x env1 C1 => ∃ k, x = .bl k ∧ Q (.bl (!k)) env1 C1) : mNotV ma E env C Q := q
theorem i_ifE {α : Type} {R : α → DL.Env → Cs → Prop} {m m' : EM α} (q : mt E env C fun k env1 C1 => if k = true then m E env1 C1 R else m' E env1 C1 R) : mIf mt m m' E env C R := q
def Tru (d : D) (R : Bool → Prop) : Prop := match truD d with
  | some k => R k
  | none => False
theorem i_tru (q : ma E env C fun d env1 C1 => Tru (dr C1 d) fun k => QB k env1 C1) : mTru ma E env C QB := q
theorem t_bl {b : Bool} {R : Bool → Prop} (q : R b) : Tru (dr C (.bl b)) R := q
theorem t_int {R : Bool → Prop} (q : R (i != 0)) : Tru (dr C (.int i)) R := q
theorem t_lst {R : Bool → Prop} (q : R (!xs.isEmpty)) : Tru (dr C (.lst xs)) R := q
theorem t_tup {R : Bool → Prop} (q : R (!xs.isEmpty)) : Tru (dr C (.tup xs)) R := q
theorem t_non {R : Bool → Prop} (q : R false) : Tru (dr C .non) R := q
theorem i_map {α β : Type} {f : α → β} {m : EM α} {R : β → DL.Env → Cs → Prop} (q : m E env C fun y env1 C1 => R (f y) env1 C1) : mMap f m E env C R := q
theorem i_nil (q : QL [] env C) : mNil E env C QL := q
theorem i_cons (q : ma E env C fun d env1 C1 => ms E env1 C1 fun ds env2 C2 => QL (d :: ds) env2 C2) : mCons ma ms E env C QL := q
theorem i_lst (q : ms E env C fun ds env1 C1 => ds.length ≤ sizeLine ∧ QC (.lst ds) env1 C1) : mLst ms E env C QC := q
theorem i_tup (q : ms E env C fun ds env1 C1 => ds.length ≤ sizeLine ∧ Q (.tup ds) env1 C1) : mTup ms E env C Q := q
theorem i_callB {α : Type} {R : α → DL.Env → Cs → Prop} {g : List D → (α → Prop) → Prop} (q : ms E env C fun ds env1 C1 => g (ds.map (dr C1)) fun x => R x env1 C1) : mCallB g ms E env C R := q
theorem i_call {sp : DSp} {dfl : List D} (q : ms E env C fun ds env1 C1 => sp (ds ++ dfl) C1 (fun r C2 => Q r.tree env1 C2) fun x C2 => E x env1 C2) : mCall sp dfl ms E env C Q := q
theorem i_tx1 {g : Txt → D → (D → Prop) → Prop} (q : ma E env C fun d env1 C1 => ∃ s, d = .str s ∧ mb E env1 C1 fun e env2 C2 => g s (dr C2 e) fun x => Q x env2 C2) : mTx1 g ma mb E env C Q := q
theorem i_ist {R : Txt → Prop} (q : R s) : ∃ s', D.str s = .str s' ∧ R s' := ⟨s, rfl, q⟩
theorem i_ite {k : Bool} {A B : Prop} (ht : k = true → A) (hf : k = false → B) : if k = true then A else B := by
  cases k with
  | true => exact ht rfl
  | false => exact hf rfl
theorem l_size {P : Prop} (h : xs.length ≤ 16777216) (q : P) : xs.length ≤ sizeLine ∧ P := ⟨by rw [sizeLine_eq]; exact h, q⟩
theorem i_itT {A B : Prop} (q : A) : if true = true then A else B := q
theorem i_itNT {A B : Prop} (q : B) : if (!true) = true then A else B := q
theorem i_itNF {A B : Prop} (q : A) : if (!false) = true then A else B := q
theorem i_itF {A B : Prop} (q : B) : if false = true then A else B := q
/-! operators -/
theorem g_addI (q : P (.int (i + j))) : gAdd (dr C (.int i)) (dr C (.int j)) P := q
theorem g_addS (h : s.length + t.length ≤ sizeLine) (q : P (.str (s ++ t))) : gAdd (dr C (.str s)) (dr C (.str t)) P := ⟨h, q⟩
theorem g_addL (h : xs.length + ys.length ≤ sizeLine) (q : P (.lst (xs ++ ys))) : gAdd (dr C (.lst xs)) (dr C (.lst ys)) P := ⟨h, q⟩
theorem g_I {K : Int → Int → Prop} {f : Int → Int → Int} (h : K i j) (q : P (.int (f i j))) : gI K f (dr C (.int i)) (dr C (.int j)) P := ⟨h, q⟩
theorem g_I0 {f : Int → Int → Int} (q : P (.int (f i j))) : gI0 f (dr C (.int i)) (dr C (.int j)) P := q
theorem g_mulI (h : MulOk i j) (q : P (.int (i * j))) : gMul (dr C (.int i)) (dr C (.int j)) P := ⟨h, q⟩
theorem g_mulL (h : -(2 ^ 63) ≤ i ∧ i < 2 ^ 63 ∧ xs.length * i.toNat ≤ sizeLine) (q : P (.lst (List.replicate i.toNat xs).flatten)) : gMul (dr C (.lst xs)) (dr C (.int i)) P := ⟨h, q⟩
theorem g_neg (q : P (.int (-i))) : gNeg (dr C (.int i)) P := q
theorem g_ordI {fi : Int → Int → Bool} {fs : Txt → Txt → Bool} (q : P (.bl (fi i j))) : gOrd fi fs (dr C (.int i)) (dr C (.int j)) P := q
theorem g_ordS {fi : Int → Int → Bool} {fs : Txt → Txt → Bool} (q : P (.bl (fs s t))) : gOrd fi fs (dr C (.str s)) (dr C (.str t)) P := q
theorem g_eqD (h : okD d = true) (h' : okD e = true) (hd : dr C d = d) (he : dr C e = e) (q : P (.bl (eqv d e))) : gEq false (dr C d) (dr C e) P := by rw [hd, he]; exact ⟨.inr ⟨h, h'⟩, q⟩
theorem eqv_int : eqv (.int i) (.int j) = decide (i = j) := by
  unfold eqv
  simp only [toP, PyData.eqv]
  by_cases h : i = j
  · subst h; simp
  · rw [decide_eq_false h]; simpa using h
theorem eqv_str : eqv (.str s) (.str t) = decide (s = t) := by
  unfold eqv toP
  simp only [toP, PyData.eqv]
  by_cases h : s = t
  · subst h; simp
  · rw [decide_eq_false h]
    simp only [beq_eq_false_iff_ne, ne_eq]
    exact fun z => h (sV_inj z)
theorem g_eqI (q : P (.bl (decide (i = j)))) : gEq false (dr C (.int i)) (dr C (.int j)) P := ⟨.inl rfl, by rw [← eqv_int] at q; exact q⟩
theorem g_neI (q : P (.bl (!decide (i = j)))) : gEq true (dr C (.int i)) (dr C (.int j)) P := ⟨.inl rfl, by rw [← eqv_int] at q; exact q⟩
theorem g_eqS (q : P (.bl (decide (s = t)))) : gEq false (dr C (.str s)) (dr C (.str t)) P := ⟨.inl rfl, by rw [← eqv_str] at q; exact q⟩
theorem g_neS (q : P (.bl (!decide (s = t)))) : gEq true (dr C (.str s)) (dr C (.str t)) P := ⟨.inl rfl, by rw [← eqv_str] at q; exact q⟩
theorem g_inS {c : Nat} (q : P (.bl (decide (c ∈ t)))) : gIn false (dr C (.str [c])) (dr C (.str t)) P := ⟨c, rfl, q⟩
theorem g_ixL (h : atI xs i = some x) (q : P x) : gIx (dr C (.lst xs)) (dr C (.int i)) P := ⟨i, x, rfl, h, q⟩
theorem g_ixT (h : atI xs i = some x) (q : P x) : gIx (dr C (.tup xs)) (dr C (.int i)) P := ⟨i, x, rfl, h, q⟩
theorem g_ixS {c : Nat} (hl : s.length ≤ sizeLine) (h : atI s i = some c) (q : P (.str [c])) : gIx (dr C (.str s)) (dr C (.int i)) P := ⟨i, c, rfl, hl, h, q⟩
theorem g_ixR {ns : List Int} (h : atI ns i = some j) (q : P (.int j)) : gIx (dr C (.scr ns)) (dr C (.int i)) P := ⟨i, j, rfl, h, q⟩
theorem g_ixCD {k : DK} (hc : C a = some (.dct kvs)) (hk : dkOf e = some k) (he : dr C e = e) (h : look k kvs = some x) (q : P x) : gIx (dr C (.cell a)) (dr C e) P := by
  rw [he, dr_cell, hc]; exact ⟨k, x, hk, h, q⟩
theorem g_lenS (h : s.length ≤ sizeLine) (q : P (.int s.length)) : gLen ([D.str s].map (dr C)) P := ⟨h, q⟩
theorem g_lenL (q : P (.int xs.length)) : gLen ([D.lst xs].map (dr C)) P := q
theorem g_lenT (q : P (.int xs.length)) : gLen ([D.tup xs].map (dr C)) P := q
theorem g_lenR {ns : List Int} (q : P (.int ns.length)) : gLen ([D.scr ns].map (dr C)) P := q
theorem g_repr (hd : dr C d = d) (h : shOk d) (q : P (.str (shT d))) : gRepr ([d].map (dr C)) P := by
  show gRepr [dr C d] P
  rw [hd]
  exact ⟨h, q⟩
theorem g_2I {f : Int → Int → Int} (q : P (.int (f i j))) : g2I f ([D.int i, D.int j].map (dr C)) P := q
theorem g_listL (q : PC (.lst xs)) : gList ([D.lst xs].map (dr C)) PC := q
theorem g_listT (q : PC (.lst xs)) : gList ([D.tup xs].map (dr C)) PC := q
theorem g_tupL (q : P (.tup xs)) : gTuple ([D.lst xs].map (dr C)) P := q
theorem g_tupT (q : P (.tup xs)) : gTuple ([D.tup xs].map (dr C)) P := q
theorem g_cutL {lo hi : Option Int} (q : P (.lst (cutL xs lo hi))) : gCut (dr C (.lst xs)) lo hi P := q
theorem g_cutT {lo hi : Option Int} (q : P (.tup (cutL xs lo hi))) : gCut (dr C (.tup xs)) lo hi P := q
theorem i_cut {ml mh : EM (Option Int)} (q : ma E env C fun d env1 C1 => ml E env1 C1 fun lo env2 C2 => mh E env2 C2 fun hi env3 C3 => gCut (dr C3 d) lo hi fun x => Q x env3 C3) : mCut ma ml mh E env C Q := q
theorem i_part {R : Option Int → DL.Env → Cs → Prop} (q : ma E env C fun d env1 C1 => ∃ i, d = .int i ∧ R (some i) env1 C1) : mPart ma E env C R := q
theorem i_isi {R : Int → Prop} (q : R i) : ∃ i', D.int i = .int i' ∧ R i' := ⟨i, rfl, q⟩
theorem i_nop {R : Option Int → DL.Env → Cs → Prop} (q : R none env C) : mNoP E env C R := q
def Rng1 (ds : List D) (R : List D → Prop) : Prop := match ds with
  | [.int j] => (-(2 ^ 62) ≤ j ∧ j < 2 ^ 62) ∧ R (intsFrom 0 j.toNat)
  | _ => False
theorem i_rng1 (q : ms E env C fun ds env1 C1 => Rng1 ds fun l => QL l env1 C1) : mRng1 ms E env C QL := by
  unfold mRng1
  exact q
theorem r_rng1 {R : List D → Prop} (h : -(2 ^ 62) ≤ j ∧ j < 2 ^ 62) (q : R (intsFrom 0 j.toNat)) : Rng1 [.int j] R := ⟨h, q⟩
def Rng2 (ds : List D) (R : List D → Prop) : Prop := match ds with
  | [.int i, .int j] => (-(2 ^ 62) ≤ i ∧ i < 2 ^ 62 ∧ -(2 ^ 62) ≤ j ∧ j < 2 ^ 62) ∧ R (intsFrom i (j - i).toNat)
  | _ => False
theorem i_rng2 (q : ms E env C fun ds env1 C1 => Rng2 ds fun l => QL l env1 C1) : mRng2 ms E env C QL := by
  unfold mRng2
  exact q
def IterO (d : D) (R : List D → Prop) : Prop := match iterD d with
  | some ds => R ds
  | none => False
theorem i_iter (q : ma E env C fun d env1 C1 => IterO d fun ds => QL ds env1 C1) : mIter ma E env C QL := q
theorem o_lst {R : List D → Prop} (q : R xs) : IterO (.lst xs) R := q
theorem o_tup {R : List D → Prop} (q : R xs) : IterO (.tup xs) R := q
theorem o_str {R : List D → Prop} (q : R (s.map fun c => .str [c])) : IterO (.str s) R := q
theorem o_scr {ns : List Int} {R : List D → Prop} (q : R (ns.map .int)) : IterO (.scr ns) R := q
theorem i_comp {vs : List Nat} {g : GM} {mi : EM (List D)} (q : mi E env C fun ds env1 C1 => noOwn env1 vs = true ∧ compL vs g mt ma (fun c C2 => QC c env1 C2) ds [] (wipeE env1 vs) C1) : mComp vs g mi mt ma E env C QC := q
end
/-! ### statements -/
section
variable {E : EX} {env : DL.Env} {C : Cs} {d : D} {n : Nat} {m m' : SM} {ma : EM D} {mf : EM Cont} {mt : EM Bool} {nx bk ct : DL.Env → Cs → Prop} {rt : Ret → Cs → Prop}
theorem j_next (q : nx env C) : sNext E ⟨nx, rt, bk, ct⟩ env C := q
theorem j_seq (q : m E ⟨fun env1 C1 => m' E ⟨nx, rt, bk, ct⟩ env1 C1, rt, bk, ct⟩ env C) : sSeq m m' E ⟨nx, rt, bk, ct⟩ env C := q
theorem j_set (q : ma E env C fun d env1 C1 => nx (env1.set n (.shr d)) C1) : sSet n ma E ⟨nx, rt, bk, ct⟩ env C := q
theorem j_setO (q : mf E env C fun d env1 C1 => nx (env1.set n (.own d)) C1) : sSetO n mf E ⟨nx, rt, bk, ct⟩ env C := q
theorem j_ret (q : ma E env C fun d _ C1 => rt (.shr d) C1) : sRet ma E ⟨nx, rt, bk, ct⟩ env C := q
theorem j_retF (q : mf E env C fun c _ C1 => rt (.frs c) C1) : sRetF mf E ⟨nx, rt, bk, ct⟩ env C := q
theorem j_retO (h : env[n]? = some (.shr d)) (q : rt (.shr d) C) : sRetO n E ⟨nx, rt, bk, ct⟩ env C := by unfold sRetO; rw [h]; exact q
theorem j_retOO {c : Cont} (h : env[n]? = some (.own c)) (q : rt (.frs c) C) : sRetO n E ⟨nx, rt, bk, ct⟩ env C := by unfold sRetO; rw [h]; exact q
theorem j_if (q : mt E env C fun k env1 C1 => if k = true then m E ⟨nx, rt, bk, ct⟩ env1 C1 else m' E ⟨nx, rt, bk, ct⟩ env1 C1) : sIf mt m m' E ⟨nx, rt, bk, ct⟩ env C := q
theorem j_drop (q : ma E env C fun _ env1 C1 => nx env1 C1) : sDrop ma E ⟨nx, rt, bk, ct⟩ env C := q
theorem j_asg {g : GM} (q : ma E env C fun d env1 C1 => g d nx env1 C1) : sAsg g ma E ⟨nx, rt, bk, ct⟩ env C := q
def Par2 (ds : List D) (R : D → D → Prop) : Prop := match ds with
  | [d, e] => R d e
  | _ => False
theorem p_par2 {e : D} {R : D → D → Prop} (q : R d e) : Par2 [d, e] R := q
theorem j_par {i j : Nat} {ms : EM (List D)} (q : ms E env C fun ds env1 C1 => Par2 ds fun d e => nx ((env1.set i (.shr d)).set j (.shr e)) C1) : sPar i j ms E ⟨nx, rt, bk, ct⟩ env C := q
theorem j_setPur (q : mf E env C fun c env1 C1 => ∃ b, asPur c = some b ∧ ∀ a, C1 a = none → nx (env1.set n (.shr (.cell a))) (cput C1 a (.pur b))) : sSetPur n mf E ⟨nx, rt, bk, ct⟩ env C := q
theorem j_for {g : GM} {mi : EM (List D)} (q : mi E env C fun ds env1 C1 => forL g m E ⟨nx, rt, bk, ct⟩ ds env1 C1) : sFor g mi m E ⟨nx, rt, bk, ct⟩ env C := q
theorem i_callF {sp : DSp} {dfl : List D} {ms : EM (List D)} {QC : Cont → DL.Env → Cs → Prop} (q : ms E env C fun ds env1 C1 => sp (ds ++ dfl) C1 (fun r C2 => match r with
  | .frs c => QC c env1 C2
  | .shr _ => False) fun x C2 => E x env1 C2) : mCallF sp dfl ms E env C QC := q
/-- a loop by an invariant -/
theorem forL_inv {g : GM} {ds : List D} (I : Nat → DL.Env → Cs → Prop) (h0 : I 0 env C)
    (step : ∀ (k : Nat) (d : D) (env : DL.Env) (C : Cs) (nx' : DL.Env → Cs → Prop), ds[k]? = some d → I k env C → (∀ env C, I (k + 1) env C → nx' env C) → g d (fun env1 C1 => m E ⟨nx', rt, nx, nx'⟩ env1 C1) env C)
    (fin : ∀ env C, I ds.length env C → nx env C) : forL g m E ⟨nx, rt, bk, ct⟩ ds env C := by
  suffices h : ∀ (es : List D) (k : Nat) (env : DL.Env) (C : Cs), ds.drop k = es → k ≤ ds.length → I k env C → forL g m E ⟨nx, rt, bk, ct⟩ es env C from h ds 0 env C rfl (Nat.zero_le _) h0
  intro es
  induction es with
  | nil =>
    intro k env C hk hl hI
    have : k = ds.length := by
      have := congrArg List.length hk
      simp at this
      omega
    subst this
    exact fin env C hI
  | cons d es ih =>
    intro k env C hk hl hI
    have hd : ds[k]? = some d := by
      have := congrArg (fun l => l[0]?) hk
      simpa using this
    have hk' : k < ds.length := (List.getElem?_eq_some_iff.mp hd).1
    have hk2 : ds.drop (k + 1) = es := by
      have := congrArg List.tail hk
      simpa using this
    exact step k d env C (forL g m E ⟨nx, rt, bk, ct⟩ es) hd hI fun env C hI' => ih (k + 1) env C hk2 hk' hI'
end
/-- what a store into a cell wants -/
def PutC (o i d : D) (P : DL.Env → Cs → Prop) (env : DL.Env) (C : Cs) : Prop := ∃ a, o = .cell a ∧ match C a with
  | some (.lst xs) => ∃ k j, i = .int k ∧ ixN xs.length k = some j ∧ P env (cput C a (.lst (xs.set j d)))
  | some (.dct kvs) => ∃ k, dkOf i = some k ∧ kvs.length < sizeLine ∧ P env (cput C a (.dct (putD kvs k d)))
  | _ => False
section
variable {env : DL.Env} {C : Cs} {d i : D} {a : Addr} {P : DL.Env → Cs → Prop}
theorem j_gN {n : Nat} (q : P (env.set n (.shr d)) C) : gN n d P env C := q
theorem j_putC {mo mi : EM D} (q : mo E0 env C fun o env1 C1 => mi E0 env1 C1 fun i env2 C2 => PutC o i d P env2 C2) : gPutC mo mi d P env C := q
theorem g_putCD {kvs : List (DK × D)} {k : DK} (hc : C a = some (.dct kvs)) (hk : dkOf i = some k) (hl : kvs.length < sizeLine) (q : P env (cput C a (.dct (putD kvs k d)))) : PutC (.cell a) i d P env C :=
  ⟨a, rfl, by rw [hc]; exact ⟨k, hk, hl, q⟩⟩
end
/-- the item at a place -/
theorem atI_lt {α : Type} {xs : List α} {i : Nat} (h : i < xs.length) : atI xs (i : Int) = some xs[i] := by
  unfold atI
  have e : ixN xs.length (i : Int) = some i := by
    unfold ixN
    simp [h]
  rw [e]
  exact List.getElem?_eq_getElem h
theorem atI_int {α : Type} {xs : List α} {i : Int} (h0 : 0 ≤ i) (h1 : i < xs.length) : ∃ x, x ∈ xs ∧ atI xs i = some x := by
  obtain ⟨n, rfl⟩ := Int.eq_ofNat_of_zero_le h0
  have h : n < xs.length := by omega
  exact ⟨xs[n], List.getElem_mem h, atI_lt h⟩
/-! ### sizes of ints -/
theorem bits_lt {i : Int} {n : Nat} (h : i.natAbs < 2 ^ n) : Builtin.Int.intBits i ≤ n := by
  unfold Builtin.Int.intBits
  by_cases e : i = 0
  · subst e; simp
  · have : ¬ (i == 0) = true := by simpa using e
    rw [if_neg this]
    exact (Nat.log2_lt (by omega)).mpr h
theorem lt_bits {i : Int} {n : Nat} (h : Builtin.Int.intBits i ≤ n) : i.natAbs < 2 ^ n := by
  unfold Builtin.Int.intBits at h
  by_cases e : i = 0
  · subst e; exact Nat.pos_of_ne_zero (by simp)
  · have : ¬ (i == 0) = true := by simpa using e
    rw [if_neg this] at h
    exact (Nat.log2_lt (by omega)).mp (by omega)
theorem mulOk_bits {i j : Int} {n m : Nat} (h : i.natAbs < 2 ^ n) (h' : j.natAbs < 2 ^ m) (s : n + m ≤ 134217728) : MulOk i j := by
  have h1 := bits_lt h
  have h2 := bits_lt h'
  show (Builtin.Int.intBits i : Int) + (Builtin.Int.intBits j : Int) ≤ 134217728
  omega
theorem powOk_bits {i : Int} {k n : Nat} (h : i.natAbs < 2 ^ n) (s : n * k ≤ 134217728) : PowOk i (k : Nat) := by
  have h1 := bits_lt h
  refine ⟨by omega, ?_⟩
  have h2 : Builtin.Int.intBits i * k ≤ n * k := Nat.mul_le_mul_right k h1
  have h3 : ((Builtin.Int.intBits i * k : Nat) : Int) ≤ 134217728 := by omega
  rw [Int.natCast_mul] at h3
  exact h3
theorem divOk_of {i n : Int} (h : 0 < n) (h' : n < 2 ^ 62) : DivOk i n := ⟨h, by
  have : n.natAbs < 2 ^ 62 := by omega
  have := (Nat.log2_lt (n := n.natAbs) (k := 62) (by omega)).mpr this
  omega⟩
/-- ints of the machine's size -/
theorem mulOk_small {i j : Int} (h : i.natAbs < 2 ^ 64) (h' : j.natAbs < 2 ^ 64) : MulOk i j := mulOk_bits h h' (by decide)
theorem powOk_small {i : Int} {k : Nat} (h : i.natAbs < 2 ^ 64) (hk : k ≤ 1000) : PowOk i (k : Nat) := powOk_bits h (by omega)
theorem bits_sum {i j : Int} {n : Nat} (h : i.natAbs < 2 ^ n) (h' : j.natAbs < 2 ^ n) : (i + j).natAbs < 2 ^ (n + 1) := by
  have : (i + j).natAbs ≤ i.natAbs + j.natAbs := Int.natAbs_add_le i j
  rw [Nat.pow_succ]
  omega
theorem bits_prod {i j : Int} {n m : Nat} (h : i.natAbs < 2 ^ n) (h' : j.natAbs < 2 ^ m) : (i * j).natAbs < 2 ^ (n + m) := by
  rw [Int.natAbs_mul, Nat.pow_add]
  exact Nat.mul_lt_mul'' h h'
end L2.DL
/-! DLq: plain facts on trees: what may be compared, what may be shown. -/
namespace L2.DL
open PySem PySem.Spec PyProof.Rows
/-- a flat tree that may be compared as data -/
def fl0 (d : D) : Bool := flD d && PyData.canLay0 (toP d)
theorem fl0_parts {d : D} (h : fl0 d = true) : isP d = true ∧ PyData.canLay0 (toP d) = true ∧ (toP d).depth = 0 := by
  have h' := Bool.and_eq_true_iff.mp h
  cases d <;> first | (cases h'.1; done) | exact ⟨rfl, h'.2, by simp [toP, PyData.depth]⟩
theorem flat_lst : ∀ {ds : List D}, (∀ d ∈ ds, fl0 d = true) → isPs ds = true ∧ PyData.canLayAll0 (toPs ds) = true ∧ PyData.depthAll (toPs ds) = 0
  | [], _ => ⟨rfl, by simp [toPs, PyData.canLayAll0], by simp [toPs, PyData.depthAll]⟩
  | d :: ds, h => by
    obtain ⟨a1, a2, a3⟩ := fl0_parts (h d List.mem_cons_self)
    obtain ⟨b1, b2, b3⟩ := flat_lst fun x hx => h x (List.mem_cons_of_mem _ hx)
    refine ⟨Bool.and_eq_true_iff.mpr ⟨a1, b1⟩, ?_, ?_⟩
    · simp only [toPs, PyData.canLayAll0, a2, b2, Bool.and_self]
    · simp only [toPs, PyData.depthAll, a3, b3, Nat.max_self]
theorem okD_flat {ds : List D} (h : ∀ d ∈ ds, fl0 d = true) : okD (.lst ds) = true := by
  obtain ⟨a, b, c⟩ := flat_lst h
  refine Bool.and_eq_true_iff.mpr ⟨a, ?_⟩
  unfold SeqAt.shaped
  simp only [toP, PyData.canLay0, b, PyData.depth, c, Bool.true_and]
  decide
/-! ### shown -/
end L2.DL
/-! DLw: from a law's promise over trees to the linked statement. -/
namespace L2.DL
open PySem PySem.Spec PyProof.Rows
theorem callerA_gd : Gd callerA := rfl
/-- a law's promise, at the script alone -/
def LawSp (sp : DSp) (ns : List Int) : Prop := sp [.scr ns] (fun _ => none) (fun r _ => r = .shr (.bl true)) fun _ _ => False
section
variable {P : Program} {w : World} {K : PySem.W.Frag} {mg mb : Str → Option Value} {k : Nat} {fa a : Addr} {fd : FuncData} {x : Str} {sp : DSp} {t : Shared} {vs : List Value} {ns : List Int}
theorem lift_law {H : Hp} (h : LawSp sp ns) (hq : SqL K H a (ns.map V.int)) : lift K sp [.ref a] H (fun v _ => v = .bl true) fun _ _ _ => False :=
  ⟨H, fun _ => none, [.scr ns], _, _, ⟨Same.refl _, fun _ _ z => by cases z⟩, .cons (.scr hq) .nil, h, fun r C' v Hs' H' z _ _ rr => by
    subst z
    cases rr
    rfl, fun _ _ _ _ _ _ z _ _ _ => z⟩
/-- one heap that tells of nothing but the script -/
theorem run_at {H : Hp} (fz : ∀ b u, H b = some u → b = a ∧ ∃ o xs, u = .frz o (.lst xs)) (hq : SqL K H a (ns.map V.int)) (hh : HOk P w H t.heap) (out : H a ≠ none → K.lookup a = none)
    (kx : K.In t.heap) (gl : t.heap.Ns mainGlobals mg) (bn : t.heap.Ns builtinsNs mb) (bt : ∀ y : Str, y ≠ "__name__" → mb y = bootBuiltins y) (nl : t.heap.NoLimit) (gs : t.gens = #[]) (sm : ∃ m, t.heap.Ns sysModules m)
    (ob : t.heap.get? a = some { cls := .type "list", data := .seq vs.toArray }) (rm : Room k callerA)
    (pr : ∀ base : Heap, K.In base → base.Ns mainGlobals mg → (∃ o, base.get? sysModules = some o) → DFn P w K mg base k fa fd [x] sp) (bd : ∀ (s : Shared) (u : Value), BindsTo s fd ⟨[u], []⟩ [(x, u)]) (me : LawSp sp ns) :
    codeAny (model P w) callerA (.call (.ref fa) ⟨[.ref a], []⟩) (fun r t' => r = .ok (.ret (.bool true)) ∧ OldK t.heap t'.heap ∧ t'.os = t.os ∧ AllBare t'.gens) t := by
  -- what is not the script stays to be seen
  have seen : ∀ {b : Addr} {o : Obj}, t.heap.get? b = some o → b ≠ a → (hidT t.heap H).get? b = some o := fun {b o} e n => hidT_get e (by
    cases z : H b with
    | none => rfl
    | some u => exact absurd (fz b u z).1 n)
  have tab : ∀ {b : Addr} {m : Str → Option Value}, t.heap.Ns b m → (hidT t.heap H).Ns b m := fun {b m} ⟨o, es, ep, e, d, r⟩ => ⟨o, es, ep, seen e (fun z => by
    subst z
    have e2 := e.symm.trans ob
    cases e2
    cases d), d, r⟩
  have kin : K.In (hidT t.heap H) := fun b o e => by
    cases z : H b with
    | none => exact hidT_get (kx b o e) z
    | some u =>
      obtain ⟨rfl, _⟩ := fz b u z
      have := out (by rw [z]; intro y; cases y)
      rw [e] at this
      cases this
  have md : Mod K mg (hidT t.heap H) := ⟨kin, tab gl, ⟨mb, tab bn, bt⟩, nl.elim fun mc h => ⟨mc, tab h.1, h.2⟩⟩
  have ev : Env0 P w K mg (hidT t.heap H) callerA [] t H := ⟨rfl, md, fun b o e => of_hidT e, Nat.le_of_eq (hidT_size _ _), trivial, fun b hb => (List.not_mem_nil hb).elim, hh, .of_eq gs⟩
  have ms : ∃ o, (hidT t.heap H).get? sysModules = some o := by
    obtain ⟨m, h⟩ := sm
    obtain ⟨o, es, ep, e, _⟩ := tab h
    exact ⟨o, e⟩
  have go := (pr _ kin (tab gl) ms).run callerA [] t H ⟨[.ref a], []⟩ [.ref a] [.ref a] (fun v _ => v = .bl true) (fun _ _ _ => False) callerA_gd rm ev (bd t (.ref a)) (.cons rfl .nil) (lift_law me hq)
  refine codeAny_mono go fun r t' h => ?_
  rcases r with e | fl
  · obtain ⟨_, _, _, _, _, _, _, _, _, _, _, _, z⟩ := h
    exact z.elim
  · rcases fl with _ | _ | _ | u
    · cases h
    · cases h
    · cases h
    · obtain ⟨v, H', o1, o2, un, ok2, rv, hv⟩ := h
      have hv' : v = .bl true := hv
      subst hv'
      have hu : u = Value.bool true := rv
      subst hu
      refine ⟨rfl, OldK.of_keep fun b o e => ?_, o1, o2⟩
      cases z : H b with
      | none => exact un.keep b o e z (fun y => (List.not_mem_nil y).elim) (by simp)
      | some u =>
        obtain ⟨_, ob', xs, rfl⟩ := fz b u z
        have i1 := (hh b _ z).1
        have i2 := (ok2 b _ (un.frzs b ob' _ z)).1
        exact i2.trans (i1.symm.trans e)
theorem law_runG (kx : K.In t.heap) (gl : t.heap.Ns mainGlobals mg) (bn : t.heap.Ns builtinsNs mb) (bt : ∀ y : Str, y ≠ "__name__" → mb y = bootBuiltins y) (nl : t.heap.NoLimit) (gs : t.gens = #[]) (sm : ∃ m, t.heap.Ns sysModules m)
    (ob : t.heap.get? a = some { cls := .type "list", data := .seq vs.toArray }) (ii : IntsAre vs ns) (ln : ns.length ≤ sizeLine) (rm : Room k callerA)
    (pr : ∀ base : Heap, K.In base → base.Ns mainGlobals mg → (∃ o, base.get? sysModules = some o) → DFn P w K mg base k fa fd [x] sp) (bd : ∀ (s : Shared) (u : Value), BindsTo s fd ⟨[u], []⟩ [(x, u)]) (me : LawSp sp ns) :
    codeAny (model P w) callerA (.call (.ref fa) ⟨[.ref a], []⟩) (fun r t' => r = .ok (.ret (.bool true)) ∧ OldK t.heap t'.heap ∧ t'.os = t.os ∧ AllBare t'.gens) t := by
  have rv : Vals (ns.map V.int) vs := vals_ints ii
  cases hk : K.lookup a with
  | some o =>
    have e : some o = _ := (kx a o hk).symm.trans ob
    cases e
    refine run_at (H := fun _ => none) (fun b u z => by cases z) (.inr ⟨_, vs.toArray, _, hk, rfl, rfl, rfl, ?_, by simpa using rv⟩) (fun b u z => by cases z) (fun z => absurd rfl z) kx gl bn bt nl gs sm ob rm pr bd me
    rw [List.size_toArray, ii.length]
    exact ln
  | none =>
    have at_a : ∀ {b : Addr} {u : HO}, (if b = a then some (HO.frz { cls := .type "list", data := .seq vs.toArray } (.lst (ns.map V.int))) else none) = some u → b = a ∧ u = .frz { cls := .type "list", data := .seq vs.toArray } (.lst (ns.map V.int)) := fun {b u} z => by
      by_cases hb : b = a
      · rw [if_pos hb] at z; exact ⟨hb, (Option.some.inj z).symm⟩
      · rw [if_neg hb] at z; cases z
    refine run_at (H := fun b => if b = a then some (.frz { cls := .type "list", data := .seq vs.toArray } (.lst (ns.map V.int))) else none) (fun b u z => ⟨(at_a z).1, _, _, (at_a z).2⟩) (.inl (.inr ⟨_, if_pos rfl⟩)) (fun b u z => ?_) (fun _ => hk) kx gl bn bt nl gs sm ob rm pr bd me
    obtain ⟨rfl, rfl⟩ := at_a z
    exact ⟨ob, by rw [List.length_map]; exact ln, vs, _, rv, ob⟩
end
/-- the goal that the head leaves -/
theorem walkG {l : PySem.W.OpenLaw} {k : Nat} {q : Program} {loose : List Str} {XP : (Str → Option Value) → Heap → Prop} {YP : World → Heap → Prop} {d : DefRec} {K : Params → PySem.W.Frag} {sp : DSp} {x : Str}
    (hn : l.most = some 63) (hdf : d.params.defaults = []) (rm : Room k callerA) (imp : importsNone q = true) (hY : ∀ (w : World) (h : Heap), YP w h → (K w.params).In h)
    (F : ∀ (w : World) (mg : Str → Option Value) (fa : Addr) (h : Heap), (K w.params).In h → h.Ns mainGlobals mg → mg d.name = some (.ref fa) →
      ∃ fd : FuncData, (∀ (s : Shared) (u : Value), BindsTo s fd ⟨[u], []⟩ [(x, u)]) ∧
        ∀ base : Heap, (K w.params).In base → base.Ns mainGlobals mg → (∃ o, base.get? sysModules = some o) → DFn l.prog w (K w.params) mg base k fa fd [x] sp)
    (me : ∀ ns : List Int, ns.length ≤ 63 → (∀ z ∈ ns, Builtin.Int.intBits z ≤ 1048576) → LawSp sp ns) : PySem.W.WalkO q loose XP YP l.row.toRowW d [] (fun f vs => PySem.call f vs) :=
  Att.attach_callB hn hdf fun w s0 s1 mg mb fa o pm cd doc a vs ns G Y ho hd hcd hmg hobj hints hlen hbits hg => by
    have kx := hY w _ Y
    obtain ⟨fd, bd, pr⟩ := F w mg fa _ kx G.T.g hmg
    obtain ⟨mm, hm, _⟩ := (G.T.seer imp).mods
    exact law_runG kx G.T.g G.T.b G.T.builtins G.T.nolimit hg ⟨mm, hm⟩ hobj hints (Nat.le_trans hlen (by rw [sizeLine_eq]; decide)) rm pr bd (me ns hlen hbits)
end L2.DL
/-! DLr: what the laws' helpers are promised, plain facts for them. -/
namespace L2.DL
open PySem PySem.Spec PyProof.Rows
def okIn (d : D) : Prop := (∃ t, tyD d = some t) ∧ (∀ s, d = .str s → s.length ≤ 1000) ∧ ∀ s, d = .str s → ∀ c ∈ s, c < 128
def spPurse (b : Bool) : DSp := fun ds C PR _ => ∃ (ns : List Int) (i : Nat), ds = [.scr ns, .int i] ∧ ns.length ≤ 63 ∧ i ≤ 64 ∧ (∀ n ∈ ns, Builtin.Int.intBits n ≤ 1048576) ∧ ∀ x y, 0 ≤ y → y < 4294967296 → PR (.frs (match visP b x y with | .dct kvs => .dct kvs | .lst xs => .lst xs | _ => .lst [])) C
def spChoose (b : Bool) : DSp := fun ds C PR _ => ∃ a x xs, ds = [.cell a, x] ∧ C a = some (.pur b) ∧ (x = .lst xs ∨ x = .tup xs ∨ ∃ s : Txt, x = .str s ∧ xs = s.map fun c => .str [c]) ∧ xs ≠ [] ∧ xs.length ≤ 16777216 ∧ ∀ d ∈ xs, PR (.shr d) C
/-! ### words -/
/-! ### the law's words -/
/-! ### the law's look at a thing -/
theorem range_get {n k : Nat} {d : D} (h : (intsFrom 0 n)[k]? = some d) : d = .int (k : Nat) ∧ k < n := by
  rw [intsFrom_get] at h
  by_cases e : k < n
  · rw [if_pos e] at h
    cases h
    exact ⟨by rw [Int.zero_add], e⟩
  · rw [if_neg e] at h; cases h
theorem asPur_vis {x y : Int} (h0 : 0 ≤ y) (h1 : y < 4294967296) : asPur (.dct [(.inr dgT, .int x), (.inr mxT, .int y)]) = some true := by
  show (if 0 ≤ y ∧ y < 4294967296 then some true else none) = _
  rw [if_pos ⟨h0, h1⟩]
end L2.DL
/-! DLs: append, is None, name += e, methods of texts, calls whose result may be new. -/
namespace L2.DL
open PySem PySem.Spec PyProof.Rows
section
variable {X : Cx} {o e : Expr} {es : List Expr} {apos cpos pos : Pos} {st : Stmt} {K : PySem.W.Frag} {Z : Z0}
/-! ### xs.append(e) -/
def sApp (n : Nat) (me : EM D) : SM := fun E dE env C => (∃ xs, env[n]? = some (.own (.lst xs))) ∧ me E env C fun d env1 C1 => match env1[n]? with
  | some (.own (.lst xs)) => xs.length < sizeLine ∧ dE.nx (env1.set n (.own (.lst (xs ++ [d])))) C1
  | _ => False
/-- of a cell -/
def sAppC (mo me : EM D) : SM := fun E dE env C => mo E env C fun d0 env0 C0 => ∃ a xs0, d0 = .cell a ∧ C0 a = some (.lst xs0) ∧ me E env0 C0 fun d env1 C1 => ∃ xs, C1 a = some (.lst xs) ∧ xs.length < sizeLine ∧ dE.nx env1 (cput C1 a (.lst (xs ++ [d])))
theorem ds_appC {mo me : EM D} (ho : DE X RShr o mo) (he : DE X RShr e me) (hs : swapsWith (.Call (.Attribute o "append" apos) [e] [] cpos) none pos.line X.env = pure false) (hb : attributeBase o "append" X.env (eval o X.env) = eval o X.env)
    (hst : starEach [e] X.env = (false, eval e X.env) :: starEach [] X.env)
    (hf : ((backTo cpos (starEach [e] X.env)).all (fun x => !x.1) && (backToKw cpos (keywordEach [] X.env)).all (fun x => x.1.isSome) && decide (([e] : List Expr).length + ([] : List Keyword).length + (if ([] : List Keyword).isEmpty then 0 else 1) < 30)) = true) (hline : (apos.endLine == cpos.line) = true) :
    DS X (.Expr (.Call (.Attribute o "append" apos) [e] [] cpos) pos) (sAppC mo me) := fun Z E hE => ⟨fun pins s σ H D I ⟨Hs, env, C, dE, sr, ok, q⟩ => by
  refine (ps_expr (pe_bm PySem.F.plainAttrs_list PySem.F.slot_list_append PySem.F.type_list_append mt_append (ho Z E hE) (pa_cons (he Z E hE) pa_nil hst) hb hf hline hst rfl) hs).run pins s σ H D I ?_
  refine ⟨Hs, env, C, _, sr, q, fun d0 env0 C0 v0 Hs0 H0 q0 t0 s0 r0 => ?_⟩
  obtain ⟨a, xs0, rfl, hc, q0⟩ := q0
  cases r0
  obtain ⟨n0, u0, hu0, vs0, rfl, rl0⟩ := s0.fit.cel a _ hc
  refine ⟨.inl ⟨rfl, _, SqL.of hu0⟩, Hs0, env0, C0, _, s0, q0, fun d env1 C1 v Hs1 H1 q1 t1 s1 r1 => ?_⟩
  obtain ⟨xs, hc1, hl, q1⟩ := q1
  obtain ⟨n1, u1, hu1, vs1, rfl, rl1⟩ := s1.fit.cel a _ hc1
  exact ⟨_, _, _, rfl, rfl, hu1, by rw [← rl1.length]; exact hl, ok.1 _ _ _ _ _ (s1.wrC hc1 (cl' := .lst (xs ++ [d])) ⟨_, rfl, rl1.append (.cons r1 .nil)⟩) q1⟩⟩
/-! ### is None -/
/-! ### name += e, ints -/
def sAug (f : Int → Int → Int) (n : Nat) (me : EM D) : SM := fun E dE env C => ∃ i, env[n]? = some (.shr (.int i)) ∧ me E env C fun d env1 C1 => ∃ j, dr C1 d = .int j ∧ dE.nx (env1.set n (.shr (.int (f i j)))) C1
/-! ### methods of texts -/
def mTxN (g : Txt → List D → (D → Prop) → Prop) (mo : EM D) (ms : EM (List D)) : EM D := fun E env C Q => mo E env C fun d env1 C1 => ∃ s, d = .str s ∧ ms E env1 C1 fun ds env2 C2 => g s (ds.map (dr C2)) fun x => Q x env2 C2
/-- the first place of t in s from i on, or -1 -/
def findT (s t : Txt) (i : Int) : Int := Txt.find3 (sV s) (sV t) i
def gFind3 (s : Txt) (ds : List D) (P : D → Prop) : Prop := match ds with
  | [.str t, .int i] => P (.int (findT s t i))
  | _ => False
/-! ### name = f(..), the result new or not -/
@[reducible] def slotR : Ret → Slot
  | .shr d => .shr d
  | .frs c => .own c
def sCallR (n : Nat) (sp : DSp) (dfl : List D) (ms : EM (List D)) : SM := fun E dE env C => ms E env C fun ds env1 C1 => sp (ds ++ dfl) C1 (fun r C2 => dE.nx (env1.set n (slotR r)) C2) fun x C2 => E x env1 C2
end
end L2.DL
/-! DLt: texts turned round. -/
namespace L2.DL
open PySem PySem.Spec PyProof.Rows
end L2.DL
/-! DLu: the first place of a sign in a text. -/
namespace L2.DL
open PySem PySem.Spec PyProof.Rows PySem.StrLaws PySem.Builtin.Str
end L2.DL
/-! DLv: forward steps of the later rules. -/
namespace L2.DL
open PySem PySem.Spec PyProof.Rows
section
variable {E : EX} {env : DL.Env} {C : Cs} {d : D} {n : Nat} {xs : List D} {i j : Int} {s t : Txt} {me mo : EM D} {ms : EM (List D)} {nx bk ct : DL.Env → Cs → Prop} {rt : Ret → Cs → Prop} {P : D → Prop} {Q : D → DL.Env → Cs → Prop}
def AppO (n : Nat) (d : D) (P : DL.Env → Cs → Prop) (env : DL.Env) (C : Cs) : Prop := match env[n]? with
  | some (.own (.lst xs)) => xs.length < sizeLine ∧ P (env.set n (.own (.lst (xs ++ [d])))) C
  | _ => False
theorem j_app (h : env[n]? = some (.own (.lst xs))) (q : me E env C fun d env1 C1 => AppO n d nx env1 C1) : sApp n me E ⟨nx, rt, bk, ct⟩ env C := ⟨⟨xs, h⟩, q⟩
theorem j_aug {f : Int → Int → Int} (h : env[n]? = some (.shr (.int i))) (q : me E env C fun d env1 C1 => ∃ j, dr C1 d = .int j ∧ nx (env1.set n (.shr (.int (f i j)))) C1) : sAug f n me E ⟨nx, rt, bk, ct⟩ env C := ⟨i, h, q⟩
theorem i_dri {R : Int → Prop} (q : R j) : ∃ k, dr C (.int j) = .int k ∧ R k := ⟨j, rfl, q⟩
theorem i_txN {g : Txt → List D → (D → Prop) → Prop} (q : mo E env C fun d env1 C1 => ∃ s, d = .str s ∧ ms E env1 C1 fun ds env2 C2 => g s (ds.map (dr C2)) fun x => Q x env2 C2) : mTxN g mo ms E env C Q := q
theorem g_find3 (q : P (.int (findT s t i))) : gFind3 s ([D.str t, D.int i].map (dr C)) P := q
theorem j_callR {sp : DSp} {dfl : List D} (q : ms E env C fun ds env1 C1 => sp (ds ++ dfl) C1 (fun r C2 => nx (env1.set n (slotR r)) C2) fun x C2 => E x env1 C2) : sCallR n sp dfl ms E ⟨nx, rt, bk, ct⟩ env C := q
end
end L2.DL
/-! DLx: rows of places (the laws' own way through all spellings). -/
namespace L2.DL
open PySem PySem.Spec PyProof.Rows
theorem inD_str (c : Txt) : ∀ acc : List Txt, inD (.str c) (acc.map D.str) = decide (c ∈ acc)
  | [] => rfl
  | a :: r => by
    have ih := inD_str c r
    unfold inD at ih ⊢
    rw [List.map_cons, List.any_cons, ih, eqv_str, ← Bool.decide_or]
    apply decide_eq_decide.mpr
    simp [eq_comm]
end L2.DL
/-! DLy: the leftmost row is the first one that has the signs. -/
namespace L2.DL
open PySem PySem.Spec PyProof.Rows
/-! ### further steps -/
end L2.DL
namespace L2.DL
open PySem PySem.Spec PyProof.Rows
end L2.DL
/-! EA: things that may be called: defs, classes; their arguments. -/
namespace L2.DL
open PySem PySem.Spec PyProof.Rows
/-! ### a cell is let go -/
/-! ### what is called: with values by place, values by keyword -/
abbrev DSpV := List D → List D → Cs → (Ret → Cs → Prop) → (XD → Cs → Prop) → Prop
def liftV (K : PySem.W.Frag) (spv : DSpV) : List V → List V → Hp → VK → XK → Prop := fun vs zs H Q E => ∃ Hs C ds es P PX, Fits K Hs H C ∧ RepL K Hs ds vs ∧ RepL K Hs es zs ∧ spv ds es C P PX ∧
  (∀ r C' v Hs' H', P r C' → Fits K Hs' H' C' → Bas (zOf Hs H C) Hs' H' C' → RRet K (zOf Hs H C) Hs' H' C' r v → Q v H') ∧
  (∀ x C' cls dx Hs' H', PX x C' → Fits K Hs' H' C' → Bas (zOf Hs H C) Hs' H' C' → RX K Hs' H' x cls dx → E cls dx H')
structure DCal (P : Program) (w : World) (K : PySem.W.Frag) (mg : Str → Option Value) (base : Heap) (k : Nat) (f : Value) (ks : List Str) (spv : DSpV) : Prop where
  run : ∀ (A : Around) (fr : List PySem.Env) (s : Shared) (H : Hp) (us ws : List Value) (vs zs : List V) (Q : VK) (E : XK), Gd A → Room k A → Env0 P w K mg base A fr s H → Vals vs us → Vals zs ws → liftV K spv vs zs H Q E →
    codeAny (model P w) A (.call f ⟨us, ks.zip ws⟩) (CR (L2.CX P w) fr P w H s Q E) s
theorem Gd.make {A : Around} (g : Gd A) (C : Addr) (us : List Value) (kw : List (Str × Value)) : Gd (A.under (.builtin "type.__call__" ⟨.ref C :: us, kw⟩)) := by
  have e : (Code.builtin "type.__call__" ⟨.ref C :: us, kw⟩).guards = [] := by
    unfold Code.guards
    rw [if_neg (by simp only [Code.isGuard]; decide +kernel)]
  unfold Gd Around.under
  simp only [e]
  exact g
/-! ### how the values come to the parameters -/
def pick {α : Type} (perm : List Nat) (l : List α) : List α := perm.filterMap fun j => l[j]?
/-- n values by place, the keywords ks, the defaults dus: the parameters take them by perm -/
def KB (K : PySem.W.Frag) (fd : FuncData) (ps ks : List Str) (n : Nat) (perm : List Nat) (dus : List Value) : Prop :=
  ∀ (s : Shared) (us ws : List Value), K.In s.heap → us.length = n → ws.length = ks.length → BindsTo s fd ⟨us, ks.zip ws⟩ (ps.zip (pick perm (us ++ ws ++ dus)))
section
variable {P : Program} {w : World} {K : PySem.W.Frag} {mg : Str → Option Value} {base : Heap} {k n : Nat} {f C : Addr} {fd : FuncData} {ps ks : List Str} {sp : DSp} {perm : List Nat} {dus : List Value} {dvs : List V} {dfl : List D}
theorem DCal.mono {j : Nat} {v : Value} {spv : DSpV} (c : DCal P w K mg base j v ks spv) (h : j ≤ k) : DCal P w K mg base k v ks spv :=
  ⟨fun A fr s H us ws vs zs Q E gd room => c.run A fr s H us ws vs zs Q E gd (room.mono h)⟩
/-! ### C(..): a new instance -/
end
end L2.DL
/-! EB: argument lists of every shape; calls by a global name; methods. -/
namespace L2.DL
open PySem PySem.Spec PyProof.Rows
/-! ### arguments -/
abbrev TA2 := St → Hp → (List V → List V → Hp → Prop) → Prop
/-- what is kept while f is called -/
def KeepOk (X : Cx) (pins : List (Addr × Obj)) (σ : St) (f : Value) : Prop := ∀ s H, Inv X pins σ H s → ∃ k, (k = Keeper.frame ∨ k = Keeper.machine ∨ k = Keeper.boundFrame) ∧ PySem.W.Looks (model X.prog X.w) s.heap (keeperOf f) k
theorem keepOk_of {X : Cx} {pins : List (Addr × Obj)} {σ : St} {f : Value} (h : PySem.W.keepIn X.K f = true) : KeepOk X pins σ f := fun s H I => PySem.W.keeps_K h _ I.kIn
structure AJ (X : Cx) (es : List Expr) (kws : List Keyword) (ks : List Str) (t : TA2) : Prop where
  run : ∀ (pos : Pos) (pins : List (Addr × Obj)) (s : Shared) (σ : St) (H : Hp) (f : Value) (first : List Value) (Q : Value → Shared → Prop) (R : List V → List V → Hp → Prop), KeepOk X pins σ f → Inv X pins σ H s → t σ H R →
    (∀ us ws s' vs zs H', Inv X pins σ H' s' → Vals vs us → Vals zs ws → R vs zs H' → wpAny (model X.prog X.w) X.A (call f (first ++ us) (ks.zip ws)) Q X.xe s') →
    wpAny (model X.prog X.w) X.A (callWith pos f first (backTo pos (starEach es X.env)) (backToKw pos (keywordEach kws X.env))) Q X.xe s
section
variable {X : Cx} {e : Expr} {es : List Expr} {kws : List Keyword} {ks : List Str} {t tk : TA} {te : TE} {p : Pos}
/-- the heaps of states as told -/
def HpOf (X : Cx) (pins : List (Addr × Obj)) (σ : St) (h : Heap) : Prop := ∃ s H, Inv X pins σ H s ∧ s.heap = h
theorem hp_keep {pins : List (Addr × Obj)} {σ : St} {f : Value} (hk : KeepOk X pins σ f) : ∀ h, HpOf X pins σ h → ∃ k, (k = Keeper.frame ∨ k = Keeper.machine ∨ k = Keeper.boundFrame) ∧ PySem.W.Looks (model X.prog X.w) h (keeperOf f) k := fun h ⟨s, H, I, e⟩ => by
  subst e
  exact hk s H I
theorem aj_pos (ha : PA X (e :: es) t) (he : starEach (e :: es) X.env = (false, eval e X.env) :: starEach es X.env) (hpl : ∀ pos, (backTo pos (starEach es X.env)).any (·.1) = false) : AJ X (e :: es) [] [] (fun σ H R => t σ H fun vs H1 => R vs [] H1) := by
  refine ⟨fun pos pins s σ H f first Q R hk I h go => ?_⟩
  have run := ha.run pos pins s σ H _ I h
  rw [he] at run ⊢
  refine PySem.W.callWith_of (P := HpOf X pins σ) ?_ (hp_keep hk) (PySem.Calls.evalArgs_plain (thn run fun us s1 ⟨vs, H1, I1, r, q⟩ => ⟨⟨s1, H1, I1, rfl⟩, go us [] s1 vs [] H1 I1 r .nil q⟩))
  show ((false || (backTo pos (starEach es X.env)).any (·.1)) || false) = false
  rw [hpl pos]
  rfl
theorem aj_kw0 (hkw : PK X kws tk) (hall : ∀ pos, (backToKw pos (keywordEach kws X.env)).all (·.1.isSome) = true) (hks : ∀ pos, (backToKw pos (keywordEach kws X.env)).filterMap (·.1) = ks)
    (hpl : ∀ pos, ((backTo pos (starEach [] X.env)).any (·.1) || (backToKw pos (keywordEach kws X.env)).any (·.1.isNone)) = false) : AJ X [] kws ks (fun σ H R => tk σ H fun zs H2 => R [] zs H2) :=
  ⟨fun pos pins s σ H f first Q R hk I h go => PySem.W.callWith_of (P := HpOf X pins σ) (hpl pos) (hp_keep hk) (evalArgs_kw2_nil (hall pos) (thn (hkw.run pos pins s σ H _ I h) fun ws s2 ⟨zs, H2, I2, rz, q2⟩ => ⟨⟨s2, H2, I2, rfl⟩, by rw [hks pos]; exact go [] ws s2 [] zs H2 I2 .nil rz q2⟩))⟩
end
/-! ### over trees -/
def LA2 (K : PySem.W.Frag) (Z : Z0) (m : DM (List D × List D)) : TA2 := fun σ H Q => ∃ Hs env C P, SR K Z σ Hs H env C ∧ m env C P ∧
  ∀ ds es env' C' vs zs Hs' H', P (ds, es) env' C' → Tr Hs H C Hs' H' C' → SR K Z σ Hs' H' env' C' → RepL K Hs' ds vs → RepL K Hs' es zs → Q vs zs H'
def DAJ (X : Cx) (es : List Expr) (kws : List Keyword) (ks : List Str) (m : EM (List D × List D)) : Prop := ∀ Z E, DX X Z E → ∃ t, AJ X es kws ks t ∧ ∀ σ H R, LA2 X.K Z (m E) σ H R → t σ H R
def mPos (ms : EM (List D)) : EM (List D × List D) := fun E env C Q => ms E env C fun ds env1 C1 => Q (ds, []) env1 C1
def mPosK (ms mk : EM (List D)) : EM (List D × List D) := fun E env C Q => ms E env C fun ds env1 C1 => mk E env1 C1 fun es env2 C2 => Q (ds, es) env2 C2
/-- the items of a list or a tuple, as it is now -/
def seqD : D → Option (List D)
  | .tup xs => some xs
  | .lst xs => some xs
  | .tupT ts => some (ts.map .str)
  | _ => none
def mStar (m : EM D) (ms : EM (List D)) : EM (List D) := fun E env C Q => m E env C fun d env1 C1 => match seqD d with
  | some xs => ms E env1 C1 fun ys env2 C2 => Q (xs ++ ys) env2 C2
  | none => False
section
variable {X : Cx} {e : Expr} {es : List Expr} {kws : List Keyword} {ks : List Str} {p : Pos} {m : EM D} {ms mk : EM (List D)}
theorem daj_pos (h : DA X RShr (e :: es) ms) (he : starEach (e :: es) X.env = (false, eval e X.env) :: starEach es X.env) (hpl : ∀ pos, (backTo pos (starEach es X.env)).any (·.1) = false) : DAJ X (e :: es) [] [] (mPos ms) := fun Z E hE =>
  ⟨_, aj_pos (h Z E hE) he hpl, fun σ H R ⟨Hs, env, C, P, sr, q, k⟩ => ⟨Hs, env, C, _, sr, q, fun ds env1 C1 vs Hs1 H1 q1 t1 s1 r1 => k _ _ _ _ _ _ _ _ q1 t1 s1 r1.rep .nil⟩⟩
/-- the values of keywords -/
def DK' (X : Cx) (kws : List Keyword) (m : EM (List D)) : Prop := ∀ Z E, DX X Z E → PK X kws (LA X.K RShr Z (m E))
theorem dk_nil : DK' X [] mNil := fun Z E hE => ⟨fun pos pins s σ H Q I ⟨Hs, env, C, P, sr, q, k⟩ => pk_nil.run pos pins s σ H Q I (k _ _ _ _ _ _ q Tr.refl sr .nil)⟩
theorem dk_cons {nm : Option Str} {kpos : Pos} (h : DE X RShr e m) (hs : DK' X kws ms) : DK' X (⟨nm, e, kpos⟩ :: kws) (mCons m ms) := fun Z E hE => by
  refine ⟨fun pos pins s σ H Q I ⟨Hs, env, C, P, sr, q, k⟩ => (pk_cons (h Z E hE) (hs Z E hE)).run pos pins s σ H Q I ?_⟩
  refine ⟨Hs, env, C, _, sr, q, fun d env1 C1 v Hs1 H1 q1 t1 s1 r1 => ?_⟩
  refine ⟨Hs1, env1, C1, _, s1, q1, fun ds env2 C2 vs Hs2 H2 q2 t2 s2 r2 => ?_⟩
  exact k _ _ _ _ Hs2 H2 q2 (t1.trans t2) s2 (.cons (r1.same t2.fr) r2)
theorem daj_kw0 (hk : DK' X kws mk) (hall : ∀ pos, (backToKw pos (keywordEach kws X.env)).all (·.1.isSome) = true) (hks : ∀ pos, (backToKw pos (keywordEach kws X.env)).filterMap (·.1) = ks)
    (hpl : ∀ pos, ((backTo pos (starEach [] X.env)).any (·.1) || (backToKw pos (keywordEach kws X.env)).any (·.1.isNone)) = false) : DAJ X [] kws ks (mPosK mNil mk) := fun Z E hE =>
  ⟨_, aj_kw0 (hk Z E hE) hall hks hpl, fun σ H R ⟨Hs, env, C, P, sr, q, k⟩ => ⟨Hs, env, C, _, sr, q, fun es env2 C2 zs Hs2 H2 q2 t2 s2 r2 => k _ _ _ _ _ _ _ _ q2 t2 s2 .nil r2.rep⟩⟩
end
/-! ### the call -/
section
variable {X : Cx} {k : Nat} {f : Value} {ks : List Str} {spv : DSpV} {K : PySem.W.Frag} {Z : Z0} {σ : St} {Hs H : Hp} {env : DL.Env} {C : Cs}
theorem cal_run {pins : List (Addr × Obj)} {s : Shared} {Q : VK} {E : XK} {us ws : List Value} {vs zs : List V} (c : DCal X.prog X.w X.K X.mg X.base k f ks spv) (gd : Gd X.A) (hr : Room k X.A) (hx : PassesAt (L2.CX X.prog X.w) X σ E)
    (I : Inv X pins σ H s) (r : Vals vs us) (rz : Vals zs ws) (h : liftV X.K spv vs zs H Q E) : wpAny (model X.prog X.w) X.A (call f us (ks.zip ws)) (EP X pins σ Q) X.xe s := by
  refine wpAny_call (codeAny_mono (c.run X.A X.stack s H us ws vs zs Q E gd hr I.env0 r rz h) fun q s' z => ?_)
  cases q with
  | error e => exact hx pins H s e s' I z
  | ok fl => cases fl with
    | ret u => exact I.after z
    | next => exact z.elim
    | brk => exact z.elim
    | cont => exact z.elim
theorem liftV_call {E : EX} {ds es : List D} {vs zs : List V} {Q : VK} {P : Ret → Cs → Prop} (sr : SR K Z σ Hs H env C) (r : RepL K Hs ds vs) (rz : RepL K Hs es zs) (q : spv ds es C P fun x C2 => E x env C2)
    (kk : ∀ rt C' v Hs' H', P rt C' → SR K Z σ Hs' H' env C' → Tr Hs H C Hs' H' C' → RRet K (zOf Hs H C) Hs' H' C' rt v → Q v H') : liftV K spv vs zs H Q (WE (DXw K Z E) σ) :=
  ⟨Hs, C, ds, es, P, _, sr.fit, r, rz, q, fun rt C' v Hs' H' pr f b rr => let ⟨s, t⟩ := sr.call f b; kk rt C' v Hs' H' pr s t rr,
    fun x C' cls dx Hs' H' px f b rx => ⟨Hs', env, C', x, (sr.call f b).1, rx, px⟩⟩
end
/-- what stands under a global name and may be called so -/
structure NmV (X : Cx) (x : Str) (ks : List Str) (spv : DSpV) : Prop where
  ex : ∃ k f, DCal X.prog X.w X.K X.mg X.base k f ks spv ∧ Room k X.A ∧ X.mg x = some f ∧ PySem.W.keepIn X.K f = true
def mCallV (spv : DSpV) (ma : EM (List D × List D)) : EM D := fun E env C Q => ma E env C fun p env1 C1 => spv p.1 p.2 C1 (fun r C2 => Q r.tree env1 C2) fun x C2 => E x env1 C2
def mCallVF (spv : DSpV) (ma : EM (List D × List D)) : EM Cont := fun E env C Q => ma E env C fun p env1 C1 => spv p.1 p.2 C1 (fun r C2 => match r with
  | .frs c => Q c env1 C2
  | .shr _ => False) fun x C2 => E x env1 C2
section
variable {X : Cx} {x : Str} {ks : List Str} {spv : DSpV} {es : List Expr} {kws : List Keyword} {p pos : Pos} {ma : EM (List D × List D)}
theorem d_callV (c : NmV X x ks spv) (gd : Gd X.A) (hg : Gl X x) (ha : DAJ X es kws ks ma) (hdb : (x == ("__debug__" : Str)) = false) : DE X RShr (.Call (.Name x p) es kws pos) (mCallV spv ma) := fun Z E hE => by
  obtain ⟨k, f, F, hr, hm, hk⟩ := c.ex
  obtain ⟨t, aj, ht⟩ := ha Z E hE
  refine ⟨fun pins s σ H Q I ⟨Hs, env, C, P, sr, q, kk⟩ => wpAny_Call_Name_kw (ld_glob I hg hm ?_ hdb)⟩
  refine aj.run pos pins s σ H f [] _ (fun vs zs H1 => liftV X.K spv vs zs H1 Q (WE (DXw X.K Z E) σ)) (keepOk_of hk) I (ht σ H _ ⟨Hs, env, C, _, sr, q, fun ds es env1 C1 vs zs Hs1 H1 q1 t1 s1 r1 r2 => ?_⟩) fun us ws s' vs zs H' I' r rz h => ?_
  · refine liftV_call s1 r1 r2 q1 fun rt C' v Hs' H' pr s' t' rr => ?_
    obtain ⟨Hs2, s2, t2, r2⟩ := ret_shr s1 s' t' rr
    exact kk _ _ _ _ _ _ pr (t1.trans t2) s2 r2
  · exact cal_run F gd hr (passAt hE σ) I' r rz h
end
end L2.DL
/-! EC: instances: attributes, methods, properties. -/
namespace L2.DL
open PySem PySem.Spec PyProof.Rows
/-! ### attributes as trees -/
def putFD (f : Str) (v : D) : List (Str × D) → List (Str × D)
  | [] => [(f, v)]
  | (g, x) :: r => if g = f then (g, v) :: r else (g, x) :: putFD f v r
section
variable {K : PySem.W.Frag} {Hs H : Hp}
theorem RepF.look {f : Str} : ∀ {fs : List (Str × D)} {ws : List (Str × V)}, RepF K Hs fs ws → (∀ d, fs.lookup f = some d → ∃ v, ws.lookup f = some v ∧ Rep K Hs d v) ∧ (fs.lookup f = none → ws.lookup f = none)
  | _, _, .nil => ⟨fun d h => (nomatch h), fun _ => rfl⟩
  | _, _, @RepF.cons _ _ k d v ds vs h r => by
    obtain ⟨i1, i2⟩ := RepF.look (f := f) r
    cases hb : f == k with
    | true =>
      refine ⟨fun d' h' => ?_, fun h' => ?_⟩
      · simp only [List.lookup, hb] at h' ⊢
        cases h'
        exact ⟨v, rfl, h⟩
      · simp only [List.lookup, hb] at h'
        cases h'
    | false =>
      refine ⟨fun d' h' => ?_, fun h' => ?_⟩
      · simp only [List.lookup, hb] at h' ⊢
        exact i1 d' h'
      · simp only [List.lookup, hb] at h' ⊢
        exact i2 h'
theorem RepF.put {f : Str} {d : D} {v : V} (q : Rep K Hs d v) : ∀ {fs : List (Str × D)} {ws : List (Str × V)}, RepF K Hs fs ws → RepF K Hs (putFD f d fs) (putF f v ws)
  | _, _, .nil => .cons q .nil
  | _, _, @RepF.cons _ _ k d' v' ds vs h r => by
    unfold putFD putF
    by_cases e : k = f
    · rw [if_pos e, if_pos e]; exact .cons q r
    · rw [if_neg e, if_neg e]; exact .cons h (RepF.put q r)
theorem RepF.length : ∀ {fs : List (Str × D)} {ws : List (Str × V)}, RepF K Hs fs ws → fs.length = ws.length
  | _, _, .nil => rfl
  | _, _, .cons _ r => by simp [RepF.length r]
end
/-! ### o.f -/
def gFld (C : Addr) (f : Str) (d : D) (P : D → Prop) : Prop := match d with
  | .obj C' fs => C' = C ∧ ∃ x, fs.lookup f = some x ∧ P x
  | _ => False
section
variable {X : Cx} {o e : Expr} {es : List Expr} {kws : List Keyword} {ks fl : List Str} {f m : Str} {pos apos pos' : Pos} {C : Addr} {k : Nat} {spv : DSpV} {mo mv : EM D}
/-! ### o.f = e: a shared thing; a new thing that may be written later -/
def StF (C : Addr) (f : Str) (o d : D) (P : DL.Env → Cs → Prop) (env : DL.Env) (C2 : Cs) : Prop := ∃ a fs, o = .cell a ∧ C2 a = some (.obj C fs) ∧ fs.length < 1000 ∧ P env (cput C2 a (.obj C (putFD f d fs)))
def sFldS (C : Addr) (f : Str) (mo mv : EM D) : SM := fun E dE env C0 => mv E env C0 fun d env1 C1 => mo E env1 C1 fun o env2 C2 => StF C f o d dE.nx env2 C2
def cellOf : Cont → Cell
  | .lst xs => .lst xs
  | .dct kvs => .dct kvs
  | .obj C fs => .obj C fs
theorem cellOf_rep {K : PySem.W.Frag} {Hs : Hp} {c : Cont} {u : HO} (r : RepO K Hs c u) : RepC K Hs (cellOf c) u := by cases c <;> exact r
def sFldC (C : Addr) (f : Str) (mo : EM D) (mv : EM Cont) : SM := fun E dE env C0 => mv E env C0 fun c env1 C1 => ∀ b, C1 b = none → mo E env1 (cput C1 b (cellOf c)) fun o env2 C2 => StF C f o (.cell b) dE.nx env2 C2
/-! ### name = a new thing that may be shared and written: a cell -/
def sSetC (n : Nat) (m : EM Cont) : SM := fun E dE env C => m E env C fun c env1 C1 => ∀ a, C1 a = none → dE.nx (env1.set n (.shr (.cell a))) (cput C1 a (cellOf c))
/-! ### o.m(..) -/
def IsO (C : Addr) (m : Str) (d : D) : Prop := ∃ fs, d = .obj C fs ∧ fs.lookup m = none
def mMeth (C : Addr) (m : Str) (spv : DSpV) (mo : EM D) (ma : EM (List D × List D)) : EM D := fun E env C0 Q => mo E env C0 fun d env1 C1 => IsO C m (dr C1 d) ∧ ma E env1 C1 fun p env2 C2 => spv (d :: p.1) p.2 C2 (fun r C3 => Q r.tree env2 C3) fun x C3 => E x env2 C3
def mMethF (C : Addr) (m : Str) (spv : DSpV) (mo : EM D) (ma : EM (List D × List D)) : EM Cont := fun E env C0 Q => mo E env C0 fun d env1 C1 => IsO C m (dr C1 d) ∧ ma E env1 C1 fun p env2 C2 => spv (d :: p.1) p.2 C2 (fun r C3 => match r with
  | .frs c => Q c env2 C3
  | .shr _ => False) fun x C3 => E x env2 C3
/-- a method with its promise -/
structure MeV (X : Cx) (C : Addr) (m : Str) (ks : List Str) (spv : DSpV) : Prop where
  ex : ∃ k g, DCal X.prog X.w X.K X.mg X.base k (.ref g) ks spv ∧ Room k X.A ∧ Cls X.K C ∧ Meth X.K C m g
/-! ### a property -/
structure PrV (X : Cx) (C : Addr) (f : Str) (spv : DSpV) : Prop where
  ex : ∃ k p g, DCal X.prog X.w X.K X.mg X.base k (.ref g) [] spv ∧ Room (k + 1) X.A ∧ Cls X.K C ∧ PropOf X.K C f p g
def mProp (C : Addr) (spv : DSpV) (mo : EM D) : EM D := fun E env C0 Q => mo E env C0 fun d env1 C1 => (∃ fs, dr C1 d = .obj C fs) ∧ spv [d] [] C1 (fun r C2 => Q r.tree env1 C2) fun _ _ => False
end
end L2.DL
/-! ED: defs with a star parameter; operators of own classes; classmethods. -/
namespace L2.DL
open PySem PySem.Spec PyProof.Rows
/-! ### def f(a, .., *v) -/
/-! ### operators with a promise that may raise -/
def mOpE (g : EX → D → D → DL.Env → Cs → (D → DL.Env → Cs → Prop) → Prop) (ma mb : EM D) : EM D := fun E env C Q => ma E env C fun d env1 C1 => mb E env1 C1 fun e env2 C2 => g E d e env2 C2 Q
/-! ### a special method of an own class -/
structure OwnM (K : PySem.W.Frag) (C : Addr) (nm : Str) (g : Addr) : Prop where
  at_ : PySem.W.findIn K (.ref C) nm = some (some (.ref g))
  fn : PySem.W.isFn K (.ref g) = true
/-- its promise, at hand -/
structure OwV (X : Cx) (C : Addr) (nm : Str) (spv : DSpV) : Prop where
  ex : ∃ k g, DCal X.prog X.w X.K X.mg X.base k (.ref g) [] spv ∧ Room (k + 1) X.A ∧ OwnM X.K C nm g
def isOb (C : Addr) (d : D) : Prop := ∃ fs, d = .obj C fs
section
variable {X : Cx} {C : Addr} {spv : DSpV} {k : Nat} {f : Value}
/-! - x -/
def mNegO (C : Addr) (spv : DSpV) (ma : EM D) : EM D := fun E env C0 Q => ma E env C0 fun d env1 C1 => isOb C (dr C1 d) ∧ spv [d] [] C1 (fun r C2 => Q r.tree env1 C2) fun x C2 => E x env1 C2
end
end L2.DL
/-! EE: len, truth, isinstance of own instances; classmethods. -/
namespace L2.DL
open PySem PySem.Spec PyProof.Rows
section
variable {X : Cx} {C : Addr} {spv : DSpV}
/-! ### a special method that raises nothing, by values -/
/-! ### len(o) -/
def mLenO (C : Addr) (spv : DSpV) (m : EM (List D)) : EM D := fun E env C0 Q => m E env C0 fun ds env1 C1 => ∃ d, ds = [d] ∧ isOb C (dr C1 d) ∧ spv [d] [] C1 (fun r C2 => ∃ n : Nat, n ≤ sizeLine ∧ r = .shr (.int n) ∧ Q (.int n) env1 C2) fun _ _ => False
/-! ### the truth of o -/
def mTruO (C : Addr) (spv : DSpV) (m : EM D) : EM Bool := fun E env C0 Q => m E env C0 fun d env1 C1 => isOb C (dr C1 d) ∧ spv [d] [] C1 (fun r C2 => ∃ b, r = .shr (.bl b) ∧ Q b env1 C2) fun _ _ => False
end
/-! ### isinstance(x, C) -/
structure IsT (K : PySem.W.Frag) (C : Addr) : Prop where
  ic : PySem.W.isClsIn K C = true
  ty : PySem.W.typeIn K (.ref C) = some (.type "type")
  no : PySem.W.subIn K (.type "NoneType") (.ref C) = some false ∧ PySem.W.subIn K (.type "bool") (.ref C) = some false ∧ PySem.W.subIn K (.type "int") (.ref C) = some false ∧ PySem.W.subIn K (.type "str") (.ref C) = some false ∧
    PySem.W.subIn K (.type "tuple") (.ref C) = some false ∧ PySem.W.subIn K (.type "list") (.ref C) = some false ∧ PySem.W.subIn K (.type "dict") (.ref C) = some false
theorem IsT.one {K : PySem.W.Frag} {C : Addr} (c : IsT K C) {t : Value} {b : Bool} (h : PySem.W.subIn K t (.ref C) = some b) (ne : (t == Value.ref C) = false) : PySem.W.kitOne K t (.ref C) = some b := by
  unfold PySem.W.kitOne PySem.W.kitCls
  rw [ne, if_neg Bool.false_ne_true]
  have e : ((PySem.W.clsIn K C).isSome && PySem.W.typeIn K (.ref C) == some (.type "type")) = true := by
    rw [c.ty, show (PySem.W.clsIn K C).isSome = true from c.ic]
    rfl
  show (if ((PySem.W.clsIn K C).isSome && PySem.W.typeIn K (.ref C) == some (.type "type")) = true then PySem.W.subIn K t (.ref C) else none) = some b
  rw [if_pos e]
  exact h
end L2.DL
/-! EEb: bool(o) of an own instance. -/
namespace L2.DL
open PySem PySem.Spec PyProof.Rows
section
variable {X : Cx} {C : Addr} {spv : DSpV}
def mBoolO (C : Addr) (spv : DSpV) (m : EM (List D)) : EM D := fun E env C0 Q => m E env C0 fun ds env1 C1 => ∃ d, ds = [d] ∧ isOb C (dr C1 d) ∧ spv [d] [] C1 (fun r C2 => ∃ b, r = .shr (.bl b) ∧ Q (.bl b) env1 C2) fun _ _ => False
end
end L2.DL
/-! EF: own exceptions: made, raised, caught, their fields read. -/
namespace L2.DL
open PySem PySem.Spec PyProof.Rows
section
variable {X : Cx} {e : Expr} {es : List Expr} {pos p p1 p2 : Pos} {x : Str} {ta : TA}
/-- B.__init__(self, ..), B an own class over ValueError that has none of its own -/
structure BaseT (K : PySem.W.Frag) (B : Addr) (mc : Value) : Prop where
  rd : PySem.W.readsIn K B mc = true
  ga : PySem.W.specialIn K (.ref B) "__getattribute__" = some (some (.builtin "type.__getattribute__"))
  at_ : PySem.W.findCls K (.ref B) mc "__init__" = some (.val (.builtin "ValueError.__init__"))
theorem pe_ceinit {B : Addr} {mc : Value} {pl : Sem Bool} (hg : Gl X x) (hm : X.mg x = some (.ref B)) (hd : (x == ("__debug__" : Str)) = false) (bt : BaseT X.K B mc) (ha : PA X (e :: es) ta)
    (hc : eval (.Call (.Attribute (.Name x p1) "__init__" p2) (e :: es) [] pos) X.env = (do
      let ov ← eval (.Name x p1) X.env
      standAt p2.atName
      let (f, first) ← holding [ov] (getMethod ov "__init__" pl)
      callWith pos f first (backTo pos (starEach (e :: es) X.env)) (backToKw pos (keywordEach [] X.env))))
    (he : starEach (e :: es) X.env = (false, eval e X.env) :: starEach es X.env) (hpl : (backTo pos (starEach es X.env)).any (·.1) = false) :
    PE X (.Call (.Attribute (.Name x p1) "__init__" p2) (e :: es) [] pos) (tVeI X.K ta) := by
  refine ⟨fun pins s σ H Q I h => PySem.W.methodCall_KW (ld_glob I hg hm ?_ hd) hc⟩
  refine PySem.W.method_cls I.kIn bt.ga (PySem.W.cls_value I.kIn bt.rd bt.at_ (by decide +kernel) ?_)
  show wpAny _ _ (callWith pos (Value.builtin "ValueError.__init__") [] (backTo pos (starEach (e :: es) X.env)) (backToKw pos (keywordEach [] X.env))) _ _ _
  refine PyProof.Rows.callWith_method1 (thn (ha.run pos pins _ σ H _ (I.tok _) h) fun us s1 hh => ?_) he hpl
  obtain ⟨vs, H1, I1, r1, a, C, ws, ev, hl, T, ea, q⟩ := hh
  subst ev
  cases r1 with
  | @cons _ u0 _ ur ra rw' =>
    obtain rfl : u0 = Value.ref a := ra
    have hlen : ur.length ≤ sizeLine := by have := rw'.length; rw [sizeLine_eq]; omega
    exact oinit_ok T I1 ea hlen fun s' J => ⟨.non, H1, J, rfl, q⟩
end
/-! ### an own exception class: its attribute f -/
structure XcT (K : PySem.W.Frag) (C fI : Addr) (f : Str) : Prop where
  oex : OexC K C
  xf : XfC K C
  no : PySem.W.findIn K (.ref C) f = some none
  ini : PySem.W.findIn K (.ref C) "__init__" = some (some (.ref fI))
  tI : PySem.W.typeIn K (.ref fI) = some (.type "function")
def spXc (C : Addr) (f : Str) : Sp := fun vs H Q _ => ∃ a v, vs = [.ref a, v] ∧ H a = some (exo a C none) ∧ ∀ dx, H dx = none → dx ≠ a → Q .non (upd (upd H dx (exd dx [(f, v)])) a (exo a C (some dx)))
/-- what raise C(e) wants -/
structure RaV (X : Cx) (x : Str) (C : Addr) (f : Str) : Prop where
  ex : ∃ k fI fd ps, XcT X.K C fI f ∧ FnOk X.prog X.w X.K X.mg X.base CX0 k fI fd ps (spXc C f) ∧ Room (k + 1) X.A ∧ Binds X.K fd ps [] ∧ X.mg x = some (.ref C)
def sRaise (C : Addr) (f : Str) (m : EM (List D)) : SM := fun E dE env C0 => m E env C0 fun ds env1 C1 => ∃ d, ds = [d] ∧ E (.own C [(f, d)]) env1 C1
section
variable {X : Cx} {e : Expr} {pos p pos' : Pos} {x f : Str} {C : Addr}
/-! ### try: .. except x as n: .. -/
/-- the ends of a suite whose name i goes -/
@[reducible] def DEnds.gone (dE : DEnds) (i : Nat) : DEnds := { nx := fun env C => dE.nx (env.set i .non) C, rt := dE.rt, bk := fun env C => dE.bk (env.set i .non) C, ct := fun env C => dE.ct (env.set i .non) C }
def CatchX (yes no : List Addr) (i : Nat) (ms : Addr → Value → Option Addr → SM) (E : EX) (dE : DEnds) (x : XD) (env : DL.Env) (C : Cs) : Prop := match x with
  | .own B fs => (B ∈ yes ∧ ∀ a dd, C a = none → ms a (.ref B) (some dd) E0 (dE.gone i) (env.set i (.shr (.exc a B dd fs))) C) ∨ (B ∈ no ∧ E (.own B fs) env C)
  | .blt _ => False
def sTryAs (yes no : List Addr) (i : Nat) (mb : SM) (ms : Addr → Value → Option Addr → SM) : SM := fun E dE env C => mb (CatchX yes no i ms E dE) dE env C
def CatchO (yes no : List Addr) (ms : SM) (E : EX) (dE : DEnds) (x : XD) (env : DL.Env) (C : Cs) : Prop := match x with
  | .own B fs => (B ∈ yes ∧ ms E0 dE env C) ∨ (B ∈ no ∧ E (.own B fs) env C)
  | .blt _ => False
def sTryO (yes no : List Addr) (mb : SM) (ms : SM) : SM := fun E dE env C => mb (CatchO yes no ms E dE) dE env C
/-! ### n.f in the suite -/
end
end L2.DL
/-! EG: classmethods of a class named by the text; calls of a local that holds a class; instances called. -/
namespace L2.DL
open PySem PySem.Spec PyProof.Rows
structure CmV (X : Cx) (C : Addr) (m : Str) (ks : List Str) (spv : DSpV) : Prop where
  ex : ∃ k g p mc, DCal X.prog X.w X.K X.mg X.base k (.ref g) ks spv ∧ Room k X.A ∧ ClX.CRead X.K C mc ∧ ClX.CMet X.K C mc m p g
def mCm (C : Addr) (spv : DSpV) (ma : EM (List D × List D)) : EM D := fun E env C0 Q => ma E env C0 fun p env1 C1 => spv (.cell C :: p.1) p.2 C1 (fun r C2 => Q r.tree env1 C2) fun x C2 => E x env1 C2
section
variable {X : Cx} {C : Addr} {m x : Str} {ks : List Str} {spv : DSpV} {es : List Expr} {kws : List Keyword} {p p1 pos apos : Pos} {ma : EM (List D × List D)}
/-! ### name(..), a local that holds the class at C -/
structure ClV (X : Cx) (C : Addr) (ks : List Str) (spv : DSpV) : Prop where
  ex : ∃ k, DCal X.prog X.w X.K X.mg X.base k (.ref C) ks spv ∧ Room k X.A ∧ PySem.W.keepIn X.K (.ref C) = true
def mCallL (i : Nat) (C : Addr) (spv : DSpV) (ma : EM (List D × List D)) : EM D := fun E env C0 Q => env[i]? = some (.shr (.cell C)) ∧ ma E env C0 fun p env1 C1 => spv p.1 p.2 C1 (fun r C2 => Q r.tree env1 C2) fun x C2 => E x env1 C2
def mCallLF (i : Nat) (C : Addr) (spv : DSpV) (ma : EM (List D × List D)) : EM Cont := fun E env C0 Q => env[i]? = some (.shr (.cell C)) ∧ ma E env C0 fun p env1 C1 => spv p.1 p.2 C1 (fun r C2 => match r with
  | .frs c => Q c env1 C2
  | .shr _ => False) fun x C2 => E x env1 C2
/-! ### o(..), o an own instance in a local -/
structure CoV (X : Cx) (C : Addr) (spv : DSpV) : Prop where
  ex : ∃ k g, DCal X.prog X.w X.K X.mg X.base k (.ref g) [] spv ∧ Room k X.A ∧ StX.CallO X.K C g
end
end L2.DL
/-! EH: what is at hand in a body; empty sequences compared; tuple * 1; an exception's __init__. -/
namespace L2.DL
open PySem PySem.Spec PyProof.Rows
/-! ### xs == (), xs == [] -/
def gEqN (neg : Bool) (d e : D) (P : D → Prop) : Prop := match d, e with
  | .tup xs, .tup [] => P (.bl (if neg then !xs.isEmpty else xs.isEmpty))
  | .lst xs, .lst [] => P (.bl (if neg then !xs.isEmpty else xs.isEmpty))
  | _, _ => False
/-! ### tuple * n -/
/-! ### promises by values, made weaker -/
/-! ### at hand in a body -/
section
variable (P : Program) (w : World) (K : PySem.W.Frag) (mg : Str → Option Value) (base : Heap) (k : Nat)
structure QMe (C : Addr) (m : Str) (ks : List Str) (spv : DSpV) : Prop where
  ex : ∃ g, DCal P w K mg base k (.ref g) ks spv ∧ Cls K C ∧ Meth K C m g
structure QPr (C : Addr) (f : Str) (spv : DSpV) : Prop where
  ex : ∃ p g, DCal P w K mg base k (.ref g) [] spv ∧ Cls K C ∧ PropOf K C f p g
structure QOw (C : Addr) (nm : Str) (spv : DSpV) : Prop where
  ex : ∃ g, DCal P w K mg base k (.ref g) [] spv ∧ OwnM K C nm g
structure QNm (x : Str) (ks : List Str) (spv : DSpV) : Prop where
  ex : ∃ f, DCal P w K mg base k f ks spv ∧ mg x = some f ∧ PySem.W.keepIn K f = true
structure QRa (x : Str) (C : Addr) (f : Str) : Prop where
  ex : ∃ fI fd ps, XcT K C fI f ∧ FnOk P w K mg base CX0 k fI fd ps (spXc C f) ∧ Binds K fd ps [] ∧ mg x = some (.ref C)
structure QCm (C : Addr) (m : Str) (ks : List Str) (spv : DSpV) : Prop where
  ex : ∃ g p mc, DCal P w K mg base k (.ref g) ks spv ∧ ClX.CRead K C mc ∧ ClX.CMet K C mc m p g
structure QCl (C : Addr) (ks : List Str) (spv : DSpV) : Prop where
  ex : DCal P w K mg base k (.ref C) ks spv ∧ PySem.W.keepIn K (.ref C) = true
structure QCo (C : Addr) (spv : DSpV) : Prop where
  ex : ∃ g, DCal P w K mg base k (.ref g) [] spv ∧ StX.CallO K C g
end
section
variable {X : Cx} {j k : Nat} {C : Addr} {m x f : Str} {ks : List Str} {spv : DSpV}
theorem QMe.to (c : QMe X.prog X.w X.K X.mg X.base k C m ks spv) (hr : Room j X.A) (h : k ≤ j) : MeV X C m ks spv := let ⟨g, d, a, b⟩ := c.ex; ⟨k, g, d, hr.mono h, a, b⟩
theorem QPr.to (c : QPr X.prog X.w X.K X.mg X.base k C f spv) (hr : Room j X.A) (h : k + 1 ≤ j) : PrV X C f spv := let ⟨p, g, d, a, b⟩ := c.ex; ⟨k, p, g, d, hr.mono h, a, b⟩
theorem QOw.to (c : QOw X.prog X.w X.K X.mg X.base k C m spv) (hr : Room j X.A) (h : k + 1 ≤ j) : OwV X C m spv := let ⟨g, d, a⟩ := c.ex; ⟨k, g, d, hr.mono h, a⟩
theorem QNm.to (c : QNm X.prog X.w X.K X.mg X.base k x ks spv) (hr : Room j X.A) (h : k ≤ j) : NmV X x ks spv := let ⟨g, d, a, b⟩ := c.ex; ⟨k, g, d, hr.mono h, a, b⟩
theorem QRa.to (c : QRa X.prog X.w X.K X.mg X.base k x C f) (hr : Room j X.A) (h : k + 1 ≤ j) : RaV X x C f := let ⟨fI, fd, ps, a, b, d, e⟩ := c.ex; ⟨k, fI, fd, ps, a, b, hr.mono h, d, e⟩
theorem QCm.to (c : QCm X.prog X.w X.K X.mg X.base k C m ks spv) (hr : Room j X.A) (h : k ≤ j) : CmV X C m ks spv := let ⟨g, p, mc, d, a, b⟩ := c.ex; ⟨k, g, p, mc, d, hr.mono h, a, b⟩
theorem QCl.to (c : QCl X.prog X.w X.K X.mg X.base k C ks spv) (hr : Room j X.A) (h : k ≤ j) : ClV X C ks spv := ⟨k, c.ex.1, hr.mono h, c.ex.2⟩
theorem QCo.to (c : QCo X.prog X.w X.K X.mg X.base k C spv) (hr : Room j X.A) (h : k ≤ j) : CoV X C spv := let ⟨g, d, a⟩ := c.ex; ⟨k, g, d, hr.mono h, a⟩
end
/-! ### an exception's own __init__: B.__init__(self, text); self.f = value -/
section
variable {P : Program} {w : World} {K : PySem.W.Frag} {mg : Str → Option Value} {base : Heap}
def tXcBody (K : PySem.W.Frag) (f : Str) (u : V) : TS := tSeq (tDrop (tVeI K (tCons (tVar 0) (tCons (tC u) tNil)))) (tOst K f (tVar 0) (tVar 1))
theorem xc_ok {qual x f : Str} {st : Stmt} {C fI : Addr} {fd : FuncData} {u : V} (F : Fun K "__init__" qual st fI fd) (S : FnScope ["self", x] ["self", x] (defScope st)) (xt : XcT K C fI f)
    (hb : ∀ (cdv : Value) (A : Around) (outer : List PySem.Env) (s : Shared) (H : Hp) (E : XK), PSs (cxOf CX0 P w K mg base ["self", x] qual (defScope st) fI cdv A outer s H E).nox (defBody st) (tXcBody K f u)) : FnOk P w K mg base CX0 1 fI fd ["self", x] (spXc C f) := by
  refine F.ok S (fun vs H Q E h => ?_) fun cdv A outer s H vs Q E hr h => ⟨_, hb cdv A outer s H E, ?_⟩
  · obtain ⟨a, v, rfl, _⟩ := h
    rfl
  · obtain ⟨a, v, rfl, ea, q⟩ := h
    refine ⟨_, rfl, a, C, [u], rfl, by simp, xt.oex, ea, ?_⟩
    exact ⟨v, rfl, _, rfl, a, C, rfl, xt.oex, xt.no, .inl ⟨ea, fun dx hd hne => q dx hd hne⟩⟩
end
/-! ### isinstance(e, C) -/
def isiB (cs : List (Addr × Bool)) (d : D) : Option Bool := match d with
  | .obj B _ => cs.lookup B
  | d => if (tyD d).isSome then some false else none
def mIsiO (cs : List (Addr × Bool)) (m : EM D) : EM D := fun E env C0 Q => m E env C0 fun d env1 C1 => ∃ b, isiB cs (dr C1 d) = some b ∧ Q (.bl b) env1 C1
theorem isi_self {K : PySem.W.Frag} {C : Addr} : PySem.W.kitOne K (.ref C) (.ref C) = some true := by unfold PySem.W.kitOne; rw [if_pos (by simp)]
theorem isi_sub {K : PySem.W.Frag} {B C : Addr} {b : Bool} (c : IsT K C) (h : PySem.W.subIn K (.ref B) (.ref C) = some b) (ne : (Value.ref B == Value.ref C) = false) : PySem.W.kitOne K (.ref B) (.ref C) = some b := c.one h ne
/-! ### worked out -/
section
variable {E : EX} {env : DL.Env} {C : Cs} {d e x : D} {a Cl : Addr} {f m : Str} {spv : DSpV} {fs : List (Str × D)} {i : Nat}
variable {Q : D → DL.Env → Cs → Prop} {QB : Bool → DL.Env → Cs → Prop} {QL : List D → DL.Env → Cs → Prop} {QC : Cont → DL.Env → Cs → Prop} {Q2 : List D × List D → DL.Env → Cs → Prop} {R : D → Prop} {ma mb : EM D} {ms mk : EM (List D)} {m2 : EM (List D × List D)}
theorem g_fld (h : fs.lookup f = some x) (q : R x) : gFld Cl f (dr C (.obj Cl fs)) R := ⟨rfl, x, h, q⟩
theorem g_fldC (hc : C a = some (.obj Cl fs)) (h : fs.lookup f = some x) (q : R x) : gFld Cl f (dr C (.cell a)) R := by rw [dr_cell, hc]; exact ⟨rfl, x, h, q⟩
theorem i_pos (q : ms E env C fun ds env1 C1 => Q2 (ds, []) env1 C1) : mPos ms E env C Q2 := q
theorem i_posK (q : ms E env C fun ds env1 C1 => mk E env1 C1 fun es env2 C2 => Q2 (ds, es) env2 C2) : mPosK ms mk E env C Q2 := q
def SeqO (d : D) (R : List D → Prop) : Prop := match seqD d with
  | some xs => R xs
  | none => False
theorem i_star (q : ma E env C fun d env1 C1 => SeqO d fun xs => ms E env1 C1 fun ys env2 C2 => QL (xs ++ ys) env2 C2) : mStar ma ms E env C QL := q
theorem q_tup {xs : List D} {R : List D → Prop} (q : R xs) : SeqO (.tup xs) R := q
theorem q_lst {xs : List D} {R : List D → Prop} (q : R xs) : SeqO (.lst xs) R := q
theorem i_callV (q : m2 E env C fun p env1 C1 => spv p.1 p.2 C1 (fun r C2 => Q r.tree env1 C2) fun x C2 => E x env1 C2) : mCallV spv m2 E env C Q := q
def FrsK (QC : Cont → DL.Env → Cs → Prop) (env1 : DL.Env) : Ret → Cs → Prop := fun r C2 => match r with
  | .frs c => QC c env1 C2
  | .shr _ => False
theorem i_callVF (q : m2 E env C fun p env1 C1 => spv p.1 p.2 C1 (FrsK QC env1) fun x C2 => E x env1 C2) : mCallVF spv m2 E env C QC := q
theorem i_meth (q : ma E env C fun d env1 C1 => IsO Cl m (dr C1 d) ∧ m2 E env1 C1 fun p env2 C2 => spv (d :: p.1) p.2 C2 (fun r C3 => Q r.tree env2 C3) fun x C3 => E x env2 C3) : mMeth Cl m spv ma m2 E env C Q := q
theorem i_methF (q : ma E env C fun d env1 C1 => IsO Cl m (dr C1 d) ∧ m2 E env1 C1 fun p env2 C2 => spv (d :: p.1) p.2 C2 (FrsK QC env2) fun x C3 => E x env2 C3) : mMethF Cl m spv ma m2 E env C QC := q
theorem i_prop (q : ma E env C fun d env1 C1 => isOb Cl (dr C1 d) ∧ spv [d] [] C1 (fun r C2 => Q r.tree env1 C2) fun _ _ => False) : mProp Cl spv ma E env C Q := q
theorem i_opE {g : EX → D → D → DL.Env → Cs → (D → DL.Env → Cs → Prop) → Prop} (q : ma E env C fun d env1 C1 => mb E env1 C1 fun e env2 C2 => g E d e env2 C2 Q) : mOpE g ma mb E env C Q := q
theorem i_negO (q : ma E env C fun d env1 C1 => isOb Cl (dr C1 d) ∧ spv [d] [] C1 (fun r C2 => Q r.tree env1 C2) fun x C2 => E x env1 C2) : mNegO Cl spv ma E env C Q := q
theorem i_lenO (q : ms E env C fun ds env1 C1 => ∃ d, ds = [d] ∧ isOb Cl (dr C1 d) ∧ spv [d] [] C1 (fun r C2 => ∃ n : Nat, n ≤ sizeLine ∧ r = .shr (.int n) ∧ Q (.int n) env1 C2) fun _ _ => False) : mLenO Cl spv ms E env C Q := q
theorem i_boolO (q : ms E env C fun ds env1 C1 => ∃ d, ds = [d] ∧ isOb Cl (dr C1 d) ∧ spv [d] [] C1 (fun r C2 => ∃ b, r = .shr (.bl b) ∧ Q (.bl b) env1 C2) fun _ _ => False) : mBoolO Cl spv ms E env C Q := q
theorem i_isiO {cs : List (Addr × Bool)} (q : ma E env C fun d env1 C1 => ∃ b, isiB cs (dr C1 d) = some b ∧ Q (.bl b) env1 C1) : mIsiO cs ma E env C Q := q
end
section
variable {E : EX} {env : DL.Env} {C : Cs} {dE : DEnds} {ms : EM (List D)} {mb : SM} {msx : Addr → Value → Option Addr → SM} {C0 : Addr} {f : Str} {yes no : List Addr} {i : Nat}
theorem j_raise (q : ms E env C fun ds env1 C1 => ∃ d, ds = [d] ∧ E (.own C0 [(f, d)]) env1 C1) : sRaise C0 f ms E dE env C := q
theorem j_tryAs (q : mb (CatchX yes no i msx E dE) dE env C) : sTryAs yes no i mb msx E dE env C := q
end
/-! ### lists of facts -/
theorem xf_nil {K : PySem.W.Frag} {f : Str} : ∀ B ∈ ([] : List Addr), XfC K B ∧ PySem.W.findIn K (.ref B) f = some none := fun _ h => by cases h
theorem xf_cons {K : PySem.W.Frag} {f : Str} {B : Addr} {l : List Addr} (h : XfC K B ∧ PySem.W.findIn K (.ref B) f = some none) (hl : ∀ B ∈ l, XfC K B ∧ PySem.W.findIn K (.ref B) f = some none) : ∀ A ∈ B :: l, XfC K A ∧ PySem.W.findIn K (.ref A) f = some none := fun A hA => by
  rcases List.mem_cons.mp hA with rfl | hA
  · exact h
  · exact hl A hA
/-- what a def's promise owes -/
def PU (m : SM) (N n : Nat) (sp : DSp) : Prop := ∀ ds C PR PX, sp ds C PR PX → ds.length = n ∧ m (fun x _ C => PX x C) { nx := fun _ C => PR (.shr .non) C, rt := PR } (slots0 N ds) C
end L2.DL
/-! EI: zip of two sequences; stores into instances worked out; comprehensions over pairs; rows of numbers shown. -/
namespace L2.DL
open PySem PySem.Spec PyProof.Rows
open RZ (ItzT pi_zipA)
def ZipO (ds : List D) (R : List D → Prop) : Prop := match ds with
  | [.lst xs, .lst ys] => R (zipD xs ys)
  | [.tup xs, .tup ys] => R (zipD xs ys)
  | _ => False
def mZipA (ms : EM (List D)) : EM (List D) := fun E env C Q => ms E env C fun ds env1 C1 => ZipO ds fun l => Q l env1 C1
/-! ### worked out -/
section
variable {E : EX} {env : DL.Env} {C : Cs} {d e x : D} {a Cl : Addr} {f m : Str} {fs : List (Str × D)} {i j : Nat} {c : Cont} {xs ys : List D}
variable {QL : List D → DL.Env → Cs → Prop} {R : D → Prop} {RL : List D → Prop} {ma mb : EM D} {mf : EM Cont} {ms : EM (List D)} {nx bk ct : DL.Env → Cs → Prop} {rt : Ret → Cs → Prop} {P : DL.Env → Cs → Prop}
theorem i_zipA (q : ms E env C fun ds env1 C1 => ZipO ds fun l => QL l env1 C1) : mZipA ms E env C QL := q
theorem z_lst (q : RL (zipD xs ys)) : ZipO [.lst xs, .lst ys] RL := q
theorem z_tup (q : RL (zipD xs ys)) : ZipO [.tup xs, .tup ys] RL := q
theorem g_eqNT {ng : Bool} (q : R (.bl (if ng then !xs.isEmpty else xs.isEmpty))) : gEqN ng (dr C (.tup xs)) (dr C (.tup [])) R := q
theorem g_eqNL {ng : Bool} (q : R (.bl (if ng then !xs.isEmpty else xs.isEmpty))) : gEqN ng (dr C (.lst xs)) (dr C (.lst [])) R := q
theorem j_fldS (q : mb E env C fun d env1 C1 => ma E env1 C1 fun o env2 C2 => StF Cl f o d nx env2 C2) : sFldS Cl f ma mb E ⟨nx, rt, bk, ct⟩ env C := q
theorem j_fldC (q : mf E env C fun c env1 C1 => ∀ b, C1 b = none → ma E env1 (cput C1 b (cellOf c)) fun o env2 C2 => StF Cl f o (.cell b) nx env2 C2) : sFldC Cl f ma mf E ⟨nx, rt, bk, ct⟩ env C := q
theorem j_setC (q : mf E env C fun c env1 C1 => ∀ a, C1 a = none → nx (env1.set i (.shr (.cell a))) (cput C1 a (cellOf c))) : sSetC i mf E ⟨nx, rt, bk, ct⟩ env C := q
end
/-! ### rows of numbers -/
abbrev intsD (ns : List Int) : List D := ns.map .int
def smallI (n : Int) : Prop := n.natAbs < 2 ^ 300
/-- what may be shown, part by part: B the longest leaf, w the weight -/
structure Shw (k w : Nat) (d : D) : Prop where
  r : isR d = true
  s : (toP d).showable = true
  l : (toP d).leavesShort 103 = true
  dp : (toP d).depth ≤ k
  wt : (toP d).weight ≤ w
theorem Shw.ok {k w : Nat} {d : D} (h : Shw k w d) (hk : k ≤ 40) (hw : w ≤ 100000) : shOk d := by
  refine ⟨h.r, h.s, Nat.le_trans h.dp hk, ?_⟩
  have h2 := PyData.shown_le 103 (by decide) _ h.l
  have h3 := h.wt
  have h4 : (103 + 2) * (toP d).weight ≤ 105 * w := Nat.mul_le_mul_left 105 h3
  have := sizeLine_eq
  omega
theorem Shw.mono {k w k' w' : Nat} {d : D} (h : Shw k w d) (hk : k ≤ k') (hw : w ≤ w') : Shw k' w' d := ⟨h.r, h.s, h.l, Nat.le_trans h.dp hk, Nat.le_trans h.wt hw⟩
structure Shws (k w : Nat) (ds : List D) : Prop where
  r : isRs ds = true
  s : PyData.showableAll (toPs ds) = true
  l : PyData.leavesShortAll 103 (toPs ds) = true
  dp : PyData.depthAll (toPs ds) ≤ k
  wt : PyData.weightAll (toPs ds) ≤ w
theorem Shws.nil {k w : Nat} : Shws k w [] := ⟨rfl, by simp [toPs, PyData.showableAll], by simp [toPs, PyData.leavesShortAll], by simp [toPs, PyData.depthAll], by simp [toPs, PyData.weightAll]⟩
theorem Shws.cons {k w v : Nat} {d : D} {ds : List D} (h : Shw k v d) (hs : Shws k w ds) : Shws k (v + w + 2) (d :: ds) := by
  refine ⟨Bool.and_eq_true_iff.mpr ⟨h.r, hs.r⟩, ?_, ?_, ?_, ?_⟩
  · simp only [toPs, PyData.showableAll, h.s, hs.s, Bool.and_self]
  · simp only [toPs, PyData.leavesShortAll, h.l, hs.l, Bool.and_self]
  · simp only [toPs, PyData.depthAll]
    have := h.dp
    have := hs.dp
    omega
  · have := h.wt
    have := hs.wt
    simp only [toPs, PyData.weightAll]
    omega
theorem Shws.all {k w : Nat} : ∀ {ds : List D}, (∀ d ∈ ds, Shw k w d) → Shws k ((w + 2) * ds.length) ds
  | [], _ => Shws.nil
  | d :: ds, h => by
    have a := Shws.all (k := k) (w := w) fun x hx => h x (List.mem_cons_of_mem d hx)
    have c := Shws.cons (h d List.mem_cons_self) a
    have e : w + (w + 2) * ds.length + 2 = (w + 2) * (d :: ds).length := by rw [List.length_cons, Nat.mul_succ]; omega
    rw [e] at c
    exact c
theorem Shws.tup {k w : Nat} {ds : List D} (h : Shws k w ds) : Shw (k + 1) (w + 2) (.tup ds) := by
  refine ⟨h.r, ?_, ?_, ?_, ?_⟩
  · simp only [toP, PyData.showable, h.s]
  · simp only [toP, PyData.leavesShort, h.l]
  · simp only [toP, PyData.depth]
    have := h.dp
    omega
  · have := h.wt
    simp only [toP, PyData.weight]
    omega
theorem Shws.lst {k w : Nat} {ds : List D} (h : Shws k w ds) : Shw (k + 1) (w + 2) (.lst ds) := by
  refine ⟨h.r, ?_, ?_, ?_, ?_⟩
  · simp only [toP, PyData.showable, h.s]
  · simp only [toP, PyData.leavesShort, h.l]
  · simp only [toP, PyData.depth]
    have := h.dp
    omega
  · have := h.wt
    simp only [toP, PyData.weight]
    omega
set_option exponentiation.threshold 400 in
theorem shw_int {k : Nat} {n : Int} (h : smallI n) : Shw k 301 (.int n) := by
  have l1 : n.natAbs.log2 < 300 ∨ n.natAbs = 0 := by
    rcases Nat.eq_zero_or_pos n.natAbs with z | z
    · exact .inr z
    · exact .inl ((Nat.log2_lt (by omega)).mpr h)
  refine ⟨rfl, ?_, ?_, by simp [toP, PyData.depth], ?_⟩
  · have : n.natAbs.log2 < 1920 := by
      rcases l1 with l1 | l1
      · omega
      · rw [l1]; decide
    simpa [toP, PyData.showable] using this
  · simp only [toP, PyData.leavesShort, decide_eq_true_eq]
    have h2 := int_text_length_le10 (a := n) (k := 91) (by decide) (Nat.lt_trans h (by decide))
    show (Str.ofString (toString n)).length ≤ 103
    rw [PySem.ofString_length]
    omega
  · simp only [toP, PyData.weight]
    rcases l1 with l1 | l1
    · split <;> omega
    · have : n = 0 := by omega
      subst this
      simp
def shwB (k w : Nat) (d : D) : Bool := isR d && ((toP d).showable && ((toP d).leavesShort 103 && (decide ((toP d).depth ≤ k) && decide ((toP d).weight ≤ w))))
theorem Shw.of {k w : Nat} {d : D} (h : shwB k w d = true) : Shw k w d := by
  unfold shwB at h
  simp only [Bool.and_eq_true, decide_eq_true_eq] at h
  exact ⟨h.1, h.2.1, h.2.2.1, h.2.2.2.1, h.2.2.2.2⟩
end L2.DL
set_option exponentiation.threshold 400
/-! EJ: costs: rows of whole numbers in an instance. -/
namespace L2.DL
open PySem PySem.Spec PyProof.Rows
abbrev rowO (c : Addr) (xs : List D) : D := .obj c [("row", .tup xs)]
abbrev costI (c : Addr) (ns : List Int) : D := rowO c (intsD ns)
theorem sub_self : ∀ xs : List Int, List.zipWith (fun i j => i - j) xs xs = List.replicate xs.length 0
  | [] => rfl
  | x :: r => by
    rw [List.zipWith_cons_cons, sub_self r, Int.sub_self, List.length_cons, List.replicate_succ]
end L2.DL
/-! EK: == and != by an own __eq__, any other value beside; int(..), sum(..), list.count; a list unpacked; keywords of defs. -/
namespace PySem.W
open PySem PySem.Spec PyProof.Rows PySem.SeqAt
end PySem.W
namespace L2.DL
open PySem PySem.Spec PyProof.Rows
/-! ### int(x), sum(xs) -/
def gInt (ds : List D) (P : D → Prop) : Prop := match ds with
  | [.int i] => P (.int i)
  | [.bl k] => P (.int (if k then 1 else 0))
  | _ => False
section
variable {X : Cx}
/-! ### bs.count(b) of truth values -/
def mCntB (mo : EM D) (ms : EM (List D)) : EM D := fun E env C Q => mo E env C fun d env1 C1 => ∃ xs, d = .lst xs ∧ ms E env1 C1 fun ds env2 C2 => ∃ bs k, blsOf xs = some bs ∧ ds = [.bl k] ∧ Q (.int (bs.count k : Nat)) env2 C2
/-! ### a, b, .. = a list -/
end
/-! ### worked out -/
section
variable {E : EX} {env : DL.Env} {C : Cs} {xs : List D} {i : Nat} {R : D → Prop} {Cl : Addr} {spv : DSpV} {ma : EM D} {ms : EM (List D)} {m2 : EM (List D × List D)} {Q : D → DL.Env → Cs → Prop} {QC : Cont → DL.Env → Cs → Prop} {P : DL.Env → Cs → Prop}
theorem g_intI {j : Int} (q : R (.int j)) : gInt ([D.int j].map (dr C)) R := q
theorem g_intB {b : Bool} (q : R (.int (if b then 1 else 0))) : gInt ([D.bl b].map (dr C)) R := q
theorem i_cntB (q : ma E env C fun d env1 C1 => ∃ xs, d = .lst xs ∧ ms E env1 C1 fun ds env2 C2 => ∃ bs k, blsOf xs = some bs ∧ ds = [.bl k] ∧ Q (.int (bs.count k : Nat)) env2 C2) : mCntB ma ms E env C Q := q
theorem i_cm (q : m2 E env C fun p env1 C1 => spv (.cell Cl :: p.1) p.2 C1 (fun r C2 => Q r.tree env1 C2) fun x C2 => E x env1 C2) : mCm Cl spv m2 E env C Q := q
theorem i_callLF (h : env[i]? = some (.shr (.cell Cl))) (q : m2 E env C fun p env1 C1 => spv p.1 p.2 C1 (FrsK QC env1) fun x C2 => E x env1 C2) : mCallLF i Cl spv m2 E env C QC := ⟨h, q⟩
end
/-- a source of draws: what the body owes, its content told -/
def PUd (m : SM) (N : Nat) (b : Bool) : Prop := ∀ (a : Addr) (n i j : Int) (C : Cs), 0 < n → n < 2 ^ 62 → 0 ≤ j → j < 4294967296 → C a = some (visP b i j) →
  m E0 { nx := fun _ _ => False, rt := fun r C' => ∃ k i' j', 0 ≤ k ∧ k < n ∧ 0 ≤ j' ∧ j' < 4294967296 ∧ r = .shr (.int k) ∧ C' = cput C a (visP b i' j') } (slots0 N [.cell a, .int n]) C
end L2.DL
set_option exponentiation.threshold 400
/-! EL: rows of rows of numbers: compared, shown, added up. -/
namespace L2.DL
open PySem PySem.Spec PyProof.Rows
theorem eqv_self {d : D} (h : okD d = true) : eqv d d = true := SeqAt.eqv_refl _ (SeqAt.canLay_of_shaped (Bool.and_eq_true_iff.mp h).2)
/-- parts of what may be compared -/
structure Lay (k : Nat) (d : D) : Prop where
  p : isP d = true
  c : PyData.canLay0 (toP d) = true
  dp : (toP d).depth ≤ k
theorem Lay.ok {k : Nat} {d : D} (h : Lay k d) (hk : k ≤ 64) : okD d = true := by
  refine Bool.and_eq_true_iff.mpr ⟨h.p, ?_⟩
  unfold SeqAt.shaped
  rw [h.c, Bool.true_and]
  exact decide_eq_true (Nat.le_trans h.dp hk)
theorem lays {k : Nat} : ∀ {ds : List D}, (∀ d ∈ ds, Lay k d) → isPs ds = true ∧ PyData.canLayAll0 (toPs ds) = true ∧ PyData.depthAll (toPs ds) ≤ k
  | [], _ => ⟨rfl, by simp [toPs, PyData.canLayAll0], by simp [toPs, PyData.depthAll]⟩
  | d :: r, h => by
    obtain ⟨a1, a2, a3⟩ := lays fun x hx => h x (List.mem_cons_of_mem d hx)
    have b := h d List.mem_cons_self
    have b3 := b.dp
    refine ⟨Bool.and_eq_true_iff.mpr ⟨b.p, a1⟩, ?_, ?_⟩
    · simp only [toPs, PyData.canLayAll0, b.c, a2, Bool.and_self]
    · simp only [toPs, PyData.depthAll]
      omega
theorem Lay.lst {k : Nat} {ds : List D} (h : ∀ d ∈ ds, Lay k d) : Lay (k + 1) (.lst ds) := by
  obtain ⟨a1, a2, a3⟩ := lays h
  refine ⟨a1, by simp only [toP, PyData.canLay0, a2], ?_⟩
  simp only [toP, PyData.depth]
  omega
theorem Lay.tup {k : Nat} {ds : List D} (h : ∀ d ∈ ds, Lay k d) : Lay (k + 1) (.tup ds) := by
  obtain ⟨a1, a2, a3⟩ := lays h
  refine ⟨a1, by simp only [toP, PyData.canLay0, a2], ?_⟩
  simp only [toP, PyData.depth]
  omega
theorem Lay.int {k : Nat} (n : Int) : Lay k (.int n) := ⟨rfl, by simp [toP, PyData.canLay0], by simp [toP, PyData.depth]⟩
theorem Lay.bl {k : Nat} (b : Bool) : Lay k (.bl b) := ⟨rfl, by simp [toP, PyData.canLay0], by simp [toP, PyData.depth]⟩
end L2.DL
/-! EM: order of tuples of ints; a value that is never given. -/
namespace L2.DL
open PySem PySem.Spec PyProof.Rows
/-! ### the order of rows -/
/-- -1, 0, 1: as the first pair that differs, the shorter one first -/
def sgn : List Int → List Int → Int
  | [], [] => 0
  | [], _ :: _ => -1
  | _ :: _, [] => 1
  | x :: xs, y :: ys => if x = y then sgn xs ys else if x < y then -1 else 1
theorem sgn_zero : ∀ {xs ys : List Int}, sgn xs ys = 0 ↔ xs = ys
  | [], [] => by simp [sgn]
  | [], _ :: _ => by simp [sgn]
  | _ :: _, [] => by simp [sgn]
  | x :: xs, y :: ys => by
    simp only [sgn, List.cons.injEq]
    by_cases h : x = y
    · rw [if_pos h, sgn_zero]; simp [h]
    · rw [if_neg h]
      constructor
      · intro z; split at z <;> simp at z
      · intro z; exact absurd z.1 h
theorem sgn_add : ∀ {xs ys zs : List Int}, xs.length = zs.length → ys.length = zs.length → sgn (List.zipWith (fun i j => i + j) xs zs) (List.zipWith (fun i j => i + j) ys zs) = sgn xs ys
  | [], [], [], _, _ => rfl
  | [], [], _ :: _, h, _ => by simp at h
  | [], _ :: _, [], _, h => by simp at h
  | [], _ :: _, _ :: _, h, _ => by simp at h
  | _ :: _, [], [], h, _ => by simp at h
  | _ :: _, [], _ :: _, _, h => by simp at h
  | _ :: _, _ :: _, [], h, _ => by simp at h
  | x :: xs, y :: ys, z :: zs, h1, h2 => by
    have ih := sgn_add (xs := xs) (ys := ys) (zs := zs) (by simpa using h1) (by simpa using h2)
    simp only [List.zipWith_cons_cons, sgn, ih]
    by_cases h : x = y
    · simp [h]
    · have : ¬ x + z = y + z := by omega
      rw [if_neg h, if_neg this]
      by_cases hl : x < y
      · rw [if_pos hl, if_pos (by omega)]
      · rw [if_neg hl, if_neg (by omega)]
theorem sgn_trans : ∀ {xs ys zs : List Int}, sgn xs ys < 0 → sgn ys zs < 0 → sgn xs zs < 0
  | [], [], _, h, _ => by simp [sgn] at h
  | [], _ :: _, [], _, h => by simp [sgn] at h
  | [], _ :: _, _ :: _, _, _ => by simp [sgn]
  | _ :: _, [], _, h, _ => by simp [sgn] at h
  | _ :: _, _ :: _, [], _, h => by simp [sgn] at h
  | x :: xs, y :: ys, z :: zs, h1, h2 => by
    have ih := sgn_trans (xs := xs) (ys := ys) (zs := zs)
    simp only [sgn] at h1 h2 ⊢
    by_cases a : x = y
    · subst a
      rw [if_pos rfl] at h1
      by_cases b : x = z
      · subst b
        rw [if_pos rfl] at h2 ⊢
        exact ih h1 h2
      · rw [if_neg b] at h2 ⊢
        exact h2
    · rw [if_neg a] at h1
      have hxy : x < y := by
        by_cases q : x < y
        · exact q
        · rw [if_neg q] at h1; simp at h1
      by_cases b : y = z
      · subst b
        rw [if_neg a, if_pos hxy]
        decide
      · rw [if_neg b] at h2
        have hyz : y < z := by
          by_cases q : y < z
          · exact q
          · rw [if_neg q] at h2; simp at h2
        rw [if_neg (by omega), if_pos (by omega)]
        decide
end L2.DL
/-! EN: stores of new lists side by side; list.insert; append of what another list gives up. -/
namespace L2.DL
open PySem PySem.Spec PyProof.Rows
section
variable {X : Cx} {e e1 e2 : Expr} {st : Stmt} {i j n m : Nat} {p2 apos cpos apos2 cpos2 pos : Pos}
/-! ### a, b = (new, []) and a, b = ([], k) -/
def sParOO (i j : Nat) (m : EM Cont) : SM := fun E dE env C => m E env C fun c env1 C1 => dE.nx ((env1.set i (.own c)).set j (.own (.lst []))) C1
def sParOS (i j : Nat) (d : D) : SM := fun E dE env C => dE.nx ((env.set i (.own (.lst []))).set j (.shr d)) C
/-! ### xs.append(ys.pop(e)) -/
def sAppPop (n m : Nat) (mi : EM D) : SM := fun E dE env C => (∃ xs, env[n]? = some (.own (.lst xs))) ∧ (∃ ys, env[m]? = some (.own (.lst ys))) ∧ mi E env C fun d env1 C1 =>
  ∃ xs ys i j y, env1[n]? = some (.own (.lst xs)) ∧ env1[m]? = some (.own (.lst ys)) ∧ d = .int i ∧ -(2 ^ 63) ≤ i ∧ i < 2 ^ 63 ∧ seqIndex? i ys.length = some j ∧ ys[j]? = some y ∧ xs.length < sizeLine ∧ dE.nx ((env1.set m (.own (.lst (ys.eraseIdx j)))).set n (.own (.lst (xs ++ [y])))) C1
/-! ### xs.insert(i, e) -/
def sIns (n : Nat) (ms : EM (List D)) : SM := fun E dE env C => (∃ xs, env[n]? = some (.own (.lst xs))) ∧ ms E env C fun ds env1 C1 =>
  ∃ xs i y, env1[n]? = some (.own (.lst xs)) ∧ ds = [.int i, y] ∧ 0 ≤ i ∧ i < 2 ^ 63 ∧ xs.length < sizeLine ∧ dE.nx (env1.set n (.own (.lst (xs.take i.toNat ++ [y] ++ xs.drop i.toNat)))) C1
end
/-! ### worked out -/
section
variable {E : EX} {env : DL.Env} {C : Cs} {n m i j : Nat} {mf : EM Cont} {mi : EM D} {ms : EM (List D)} {d : D} {xs ys : List D} {nx bk ct : DL.Env → Cs → Prop} {rt : Ret → Cs → Prop}
theorem j_parOO (q : mf E env C fun c env1 C1 => nx ((env1.set i (.own c)).set j (.own (.lst []))) C1) : sParOO i j mf E ⟨nx, rt, bk, ct⟩ env C := q
theorem j_parOS (q : nx ((env.set i (.own (.lst []))).set j (.shr d)) C) : sParOS i j d E ⟨nx, rt, bk, ct⟩ env C := q
def AppPop (n m : Nat) (nx : DL.Env → Cs → Prop) (d : D) (env1 : DL.Env) (C1 : Cs) : Prop := ∃ xs ys i j y, env1[n]? = some (.own (.lst xs)) ∧ env1[m]? = some (.own (.lst ys)) ∧ d = .int i ∧ -(2 ^ 63) ≤ i ∧ i < 2 ^ 63 ∧ seqIndex? i ys.length = some j ∧ ys[j]? = some y ∧ xs.length < sizeLine ∧ nx ((env1.set m (.own (.lst (ys.eraseIdx j)))).set n (.own (.lst (xs ++ [y])))) C1
theorem j_appPop (h1 : env[n]? = some (.own (.lst xs))) (h2 : env[m]? = some (.own (.lst ys))) (q : mi E env C fun d env1 C1 => AppPop n m nx d env1 C1) : sAppPop n m mi E ⟨nx, rt, bk, ct⟩ env C := ⟨⟨xs, h1⟩, ⟨ys, h2⟩, q⟩
def Ins (n : Nat) (nx : DL.Env → Cs → Prop) (ds : List D) (env1 : DL.Env) (C1 : Cs) : Prop := ∃ xs i y, env1[n]? = some (.own (.lst xs)) ∧ ds = [.int i, y] ∧ 0 ≤ i ∧ i < 2 ^ 63 ∧ xs.length < sizeLine ∧ nx (env1.set n (.own (.lst (xs.take i.toNat ++ [y] ++ xs.drop i.toNat)))) C1
theorem j_ins (h1 : env[n]? = some (.own (.lst xs))) (q : ms E env C fun ds env1 C1 => Ins n nx ds env1 C1) : sIns n ms E ⟨nx, rt, bk, ct⟩ env C := ⟨⟨xs, h1⟩, q⟩
end
end L2.DL
/-! EO: names, codes and situations as the laws draw them. -/
namespace L2.DL
open PySem PySem.Spec PyProof.Rows
/-- a code over the first k letters -/
def codeOk (k : Nat) (c : Txt) : Prop := 1 ≤ c.length ∧ c.length ≤ 3 ∧ ∀ x ∈ c, 97 ≤ x ∧ x < 97 + k
def nameOk (c : Txt) : Prop := 1 ≤ c.length ∧ c.length ≤ 12 ∧ ∀ x ∈ c, 97 ≤ x ∧ x ≤ 122
abbrev txs (ts : List Txt) : List D := ts.map .str
theorem nodup_snoc {α : Type} {l : List α} {x : α} (h : l.Nodup) (hx : x ∉ l) : (l ++ [x]).Nodup := by
  rw [List.nodup_append]
  exact ⟨h, by simp, fun a ha b hb => by rw [List.mem_singleton.mp hb]; exact fun e => hx (e ▸ ha)⟩
/-! ### situations -/
structure Cl where
  nm : Txt
  held : List Txt
  opts : List Txt
abbrev clD (c : Cl) : D := .tup [.str c.nm, .tupT c.held, .tupT c.opts]
abbrev sitD (S : List Cl) : D := .lst (S.map clD)
structure ClOk (m k : Nat) (c : Cl) : Prop where
  n : nameOk c.nm
  hl : c.held.length ≤ 2
  hd : c.held.Nodup
  hk : ∀ x ∈ c.held, codeOk k x
  ol : c.opts.length ≤ m + 2
  od : c.opts.Nodup
  ok : ∀ x ∈ c.opts, codeOk k x
end L2.DL
/-! EP: stores of flat values into several places; x.index(..) of texts. -/
namespace L2.DL
open PySem PySem.Spec PyProof.Rows
section
variable {X : Cx} {e t1 t2 : Expr} {es : List Expr} {pos apos cpos : Pos}
/-! ### a[i], b[j] = flat values -/
def gsConsF (m : GM) (ms : GMs) : GMs := fun ds P env C => match ds with
  | d :: r => r.all flD = true ∧ m d (fun env1 C1 => ms r P env1 C1) env C
  | [] => False
/-! ### a = b = a flat value -/
def sAsg2 (g1 g2 : GM) (m : EM D) : SM := fun E dE env C => m E env C fun d env1 C1 => flD d = true ∧ g1 d (fun env2 C2 => g2 d dE.nx env2 C2) env1 C1
end
/-! ### x.index(t) -/
def fstIx (s : Txt) : List Txt → Option Nat
  | [] => none
  | t :: r => if t = s then some 0 else (fstIx s r).map (· + 1)
theorem fstIx_get {s : Txt} : ∀ {ts : List Txt} {j : Nat}, fstIx s ts = some j → ts[j]? = some s ∧ ∀ m, m < j → ts[m]? ≠ some s
  | [], _, h => by cases h
  | t :: r, j, h => by
    unfold fstIx at h
    by_cases e : t = s
    · rw [if_pos e] at h
      cases h
      exact ⟨by simp [e], fun m hm => by omega⟩
    · rw [if_neg e] at h
      obtain ⟨i, hi, rfl⟩ := Option.map_eq_some_iff.mp h
      obtain ⟨a, b⟩ := fstIx_get hi
      refine ⟨by simpa using a, fun m hm => ?_⟩
      cases m with
      | zero => simpa using e
      | succ m => simpa using b m (by omega)
theorem fstIx_mem {s : Txt} : ∀ {ts : List Txt}, s ∈ ts → ∃ j, fstIx s ts = some j ∧ j < ts.length
  | [], h => by cases h
  | t :: r, h => by
    unfold fstIx
    by_cases e : t = s
    · exact ⟨0, by rw [if_pos e], by simp⟩
    · rcases List.mem_cons.mp h with h | h
      · exact absurd h.symm e
      · obtain ⟨j, hj, hl⟩ := fstIx_mem h
        exact ⟨j + 1, by rw [if_neg e, hj]; rfl, by simp; omega⟩
/-- g: what the texts are (of a list; of a tuple that tells its object) -/
def mIdx (g : D → Option (List Txt)) (mo : EM D) (ms : EM (List D)) : EM D := fun E env C Q => mo E env C fun d env1 C1 => ∃ ts, g d = some ts ∧ ms E env1 C1 fun ds env2 C2 => ∃ s j, ds = [.str s] ∧ fstIx s ts = some j ∧ Q (.int (j : Nat)) env2 C2
section
variable {E : EX} {env : DL.Env} {C : Cs} {d : D} {xs : List D} {ts : List Txt} {mo m : EM D} {ms : EM (List D)} {Q : D → DL.Env → Cs → Prop} {g1 g2 : GM} {nx bk ct : DL.Env → Cs → Prop} {rt : Ret → Cs → Prop}
theorem i_idx {g : D → Option (List Txt)} (q : mo E env C fun d env1 C1 => ∃ ts, g d = some ts ∧ ms E env1 C1 fun ds env2 C2 => ∃ s j, ds = [.str s] ∧ fstIx s ts = some j ∧ Q (.int (j : Nat)) env2 C2) : mIdx g mo ms E env C Q := q
theorem txtsOf_txs : ∀ ts : List Txt, txtsOf (txs ts) = some ts
  | [] => rfl
  | t :: r => by
    have := txtsOf_txs r
    simp only [txs] at this ⊢
    simp [txtsOf, this]
theorem j_asg2 (q : m E env C fun d env1 C1 => flD d = true ∧ g1 d (fun env2 C2 => g2 d nx env2 C2) env1 C1) : sAsg2 g1 g2 m E ⟨nx, rt, bk, ct⟩ env C := q
end
/-! ### tuple(xs): a tuple of texts tells its object -/
section
variable {X : Cx}
def gTupleX (ds : List D) (P : D → Prop) : Prop := match ds with
  | [.lst xs] => match txtsOf xs with
    | some ts => P (.tupT ts)
    | none => P (.tup xs)
  | [.tup xs] => P (.tup xs)
  | _ => False
theorem g_tupX {C : Cs} {ts : List Txt} {P : D → Prop} (q : P (.tupT ts)) : gTupleX ([D.lst (txs ts)].map (dr C)) P := by
  show (match txtsOf (txs ts) with
    | some ts => P (.tupT ts)
    | none => P (.tup (txs ts)))
  rw [txtsOf_txs]
  exact q
end
/-! ### a tuple of texts, read -/
section
variable {C : Cs} {ts : List Txt} {t : Txt} {i : Int} {R : D → Prop}
theorem g_eqNX {ng : Bool} (q : R (.bl (if ng then !ts.isEmpty else ts.isEmpty))) : gEqN ng (dr C (.tupT ts)) (dr C (.tup [])) R := by
  show R (.bl (if ng then !(ts.map D.str).isEmpty else (ts.map D.str).isEmpty))
  rw [List.isEmpty_map]
  exact q
theorem g_inX (q : R (.bl (decide (t ∈ ts)))) : gIn false (dr C (.str t)) (dr C (.tupT ts)) R := by
  refine ⟨⟨rfl, ?_⟩, ?_⟩
  · rw [List.all_map]
    exact List.all_eq_true.mpr fun _ _ => rfl
  · rw [dr_str, inD_str]
    exact q
theorem g_ninX (q : R (.bl (!decide (t ∈ ts)))) : gIn true (dr C (.str t)) (dr C (.tupT ts)) R := by
  refine ⟨⟨rfl, ?_⟩, ?_⟩
  · rw [List.all_map]
    exact List.all_eq_true.mpr fun _ _ => rfl
  · rw [dr_str, inD_str]
    exact q
theorem g_lenX (q : R (.int ts.length)) : gLen ([D.tupT ts].map (dr C)) R := by
  show R (.int ((ts.map D.str).length : Nat))
  rw [List.length_map]
  exact q
theorem o_tupX {R : List D → Prop} (q : R (txs ts)) : IterO (.tupT ts) R := q
end
/-! ### [..] * n, a list of one's own -/
end L2.DL
/-! EQ: plain facts: numbers of options, rows of costs. -/
namespace L2.DL
open PySem PySem.Spec PyProof.Rows
/-- the number of a code among a claim's codes -/
def numCl (c : Cl) (t : Txt) : Option Nat := if t ∈ c.held then fstIx t c.held else (fstIx t c.opts).map (2 + ·)
/-- 1 if the code changes the claim's name -/
def chg (c : Cl) (t : Txt) : Bool := !c.held.isEmpty && !decide (t ∈ c.held)
def chgI (c : Cl) (t : Txt) : Int := if chg c t = true then 1 else 0
/-- the numbers of the cost of giving t to the claim at the place p of n -/
def costRow (n p : Nat) (c : Cl) (t : Txt) (j : Nat) : List Int := (((List.replicate (2 * n + 1) (0 : Int)).set 0 (chgI c t)).set (p + 1) (chgI c t)).set (n + p + 1) (j : Int)
theorem costRow_len (n p : Nat) (c : Cl) (t : Txt) (j : Nat) : (costRow n p c t j).length = 2 * n + 1 := by simp [costRow]
theorem atI_nat {α : Type} {xs : List α} {k : Nat} {x : α} (h : xs[k]? = some x) : atI xs (k : Int) = some x := by
  obtain ⟨h1, h2⟩ := List.getElem?_eq_some_iff.mp h
  rw [atI_lt h1, h2]
theorem numCl_some {c : Cl} {t : Txt} (h : t ∈ c.opts) : ∃ j, numCl c t = some j := by
  unfold numCl
  by_cases hm : t ∈ c.held
  · rw [if_pos hm]; obtain ⟨j, hj, _⟩ := fstIx_mem hm; exact ⟨j, hj⟩
  · rw [if_neg hm]; obtain ⟨j, hj, _⟩ := fstIx_mem h; exact ⟨2 + j, by rw [hj]; rfl⟩
/-! ### ways that meet again -/
/-! ### stores into a container of a slot -/
def PutO (n : Nat) (i d : D) (P : DL.Env → Cs → Prop) (env : DL.Env) (C : Cs) : Prop := match env[n]? with
  | some (.own (.lst xs)) => ∃ k j, i = .int k ∧ ixN xs.length k = some j ∧ P (env.set n (.own (.lst (xs.set j d)))) C
  | some (.own (.dct kvs)) => ∃ k, dkOf i = some k ∧ kvs.length < sizeLine ∧ P (env.set n (.own (.dct (putD kvs k d)))) C
  | _ => False
section
variable {env : DL.Env} {C : Cs} {d i : D} {n : Nat} {c : Cont} {P : DL.Env → Cs → Prop} {mi : EM D} {xs : List D} {kvs : List (DK × D)}
theorem j_putO (h : env[n]? = some (.own c)) (q : mi E0 env C fun i env1 C1 => PutO n i d P env1 C1) : gPutO n mi d P env C := ⟨⟨c, h⟩, q⟩
end
/-! ### targets -/
section
variable {env : DL.Env} {C : Cs} {d : D} {r : List D} {n i : Nat} {P : DL.Env → Cs → Prop} {g : GM} {ms : GMs}
theorem j_tupD (h : r.length = n) (q : ms r P env C) : gTupD n ms (.tup r) P env C := ⟨h, q⟩
theorem j_gsF (h : r.all flD = true) (q : g d (fun env1 C1 => ms r P env1 C1) env C) : gsConsF g ms (d :: r) P env C := ⟨h, q⟩
theorem j_gsC (q : ms r P (env.set i (.shr d)) C) : gsCons (gN i) ms (d :: r) P env C := q
theorem j_gsNil (q : P env C) : gsNil [] P env C := ⟨rfl, q⟩
end
/-! ### isinstance -/
theorem i_isHd {C : Cs} {c : Addr} {b : Bool} {r : List (Addr × Bool)} {fs : List (Str × D)} {R : Bool → Prop} (q : R b) : ∃ b', isiB ((c, b) :: r) (dr C (.obj c fs)) = some b' ∧ R b' := ⟨b, by simp [isiB, List.lookup], q⟩
end L2.DL
/-! ER: situations may be shown, may be compared. -/
namespace L2.DL
open PySem PySem.Spec PyProof.Rows
theorem shw_str {k w : Nat} {t : Txt} (h : t.length ≤ w) (hc : ∀ c ∈ t, c < 128) : Shw k w (.str t) := by
  refine ⟨rfl, by simp [toP, PyData.showable], ?_, by simp [toP, PyData.depth], ?_⟩
  · simp only [toP, PyData.leavesShort, sV_cps, List.all_eq_true, decide_eq_true_eq]
    intro c hc'
    have := hc c hc'
    omega
  · have h3 : (toP (.str t)).weight = t.length := by simp [toP, PyData.weight, sV]
    omega
theorem shw_non {k : Nat} : Shw k 4 .non := ⟨rfl, by simp [toP, PyData.showable], by simp [toP, PyData.leavesShort], by simp [toP, PyData.depth], by simp [toP, PyData.weight]⟩
theorem shw_bl {k : Nat} (b : Bool) : Shw k 5 (.bl b) := ⟨rfl, by simp [toP, PyData.showable], by simp [toP, PyData.leavesShort], by simp [toP, PyData.depth], by simp [toP, PyData.weight]⟩
theorem toPs_txs : ∀ ts : List Txt, toPs (txs ts) = ts.map fun t => PyData.str (sV t)
  | [] => rfl
  | t :: r => by
    show toP (.str t) :: toPs (txs r) = _
    rw [toPs_txs r]
    rfl
theorem toP_tupT (ts : List Txt) : toP (.tupT ts) = toP (.tup (txs ts)) := by
  show PyData.tuple _ = PyData.tuple _
  rw [toPs_txs]
theorem Shw.tupT {k w : Nat} {ts : List Txt} (h : Shw k w (.tup (txs ts))) : Shw k w (.tupT ts) :=
  ⟨rfl, by rw [toP_tupT]; exact h.s, by rw [toP_tupT]; exact h.l, by rw [toP_tupT]; exact h.dp, by rw [toP_tupT]; exact h.wt⟩
theorem shws_txs {k m w : Nat} {ts : List Txt} (h : ∀ t ∈ ts, t.length ≤ w ∧ ∀ c ∈ t, c < 128) (hl : ts.length ≤ m) : Shws k ((w + 2) * m) (txs ts) := by
  have a := Shws.all (k := k) (w := w) (ds := txs ts) fun d hd => by
    obtain ⟨t, ht, rfl⟩ := List.mem_map.mp hd
    exact shw_str (h t ht).1 (h t ht).2
  rw [List.length_map] at a
  exact ⟨a.r, a.s, a.l, a.dp, Nat.le_trans a.wt (Nat.mul_le_mul_left _ hl)⟩
theorem code_asc {k : Nat} (hk : k ≤ 26) {t : Txt} (h : codeOk k t) : t.length ≤ 3 ∧ ∀ c ∈ t, c < 128 := ⟨h.2.1, fun c hc => by have := h.2.2 c hc; omega⟩
theorem name_asc {t : Txt} (h : nameOk t) : t.length ≤ 12 ∧ ∀ c ∈ t, c < 128 := ⟨h.2.1, fun c hc => by have := h.2.2 c hc; omega⟩
def asc (t : Txt) : Prop := ∀ c ∈ t, c < 128
theorem Lay.str {k : Nat} {t : Txt} (h : asc t) : Lay k (.str t) := ⟨rfl, by
  simp only [toP, PyData.canLay0, PyData.strOk, sV]
  rw [Array.all_eq_true']
  intro c hc
  have := h c (by simpa using hc)
  simp
  omega, by simp [toP, PyData.depth]⟩
theorem Lay.non {k : Nat} : Lay k .non := ⟨rfl, by simp [toP, PyData.canLay0], by simp [toP, PyData.depth]⟩
theorem Lay.txs {k : Nat} {ts : List Txt} (h : ∀ t ∈ ts, asc t) : ∀ d ∈ DL.txs ts, Lay k d := fun d hd => by
  obtain ⟨t, ht, rfl⟩ := List.mem_map.mp hd
  exact Lay.str (h t ht)
theorem Lay.tupT {k : Nat} {ts : List Txt} (h : ∀ t ∈ ts, asc t) : Lay (k + 1) (.tupT ts) := by
  have h : Lay (k + 1) (.tup (DL.txs ts)) := Lay.tup (Lay.txs h)
  exact ⟨rfl, by rw [toP_tupT]; exact h.c, by rw [toP_tupT]; exact h.dp⟩
theorem Lay.cl {k m n : Nat} (hn : n ≤ 26) {c : Cl} (h : ClOk m n c) : Lay (k + 2) (clD c) := Lay.tup fun d hd => by
  simp only [List.mem_cons, List.not_mem_nil, or_false] at hd
  rcases hd with rfl | rfl | rfl
  · exact .str (name_asc h.n).2
  · exact .tupT fun t ht => (code_asc hn (h.hk t ht)).2
  · exact .tupT fun t ht => (code_asc hn (h.ok t ht)).2
theorem fstIx_lt {t : Txt} {ts : List Txt} {j : Nat} (h : fstIx t ts = some j) : j < ts.length := (List.getElem?_eq_some_iff.mp (fstIx_get h).1).1
end L2.DL
/-! FA: tables that are walked: locked meanwhile. -/
namespace L2.DL
open PySem PySem.Spec PyProof.Rows
/-! ### at the level of readings -/
/-! ### what a lock does to the account of a state -/
theorem RepO.le {K : PySem.W.Frag} {H H' : Hp} {c : Cont} {o : HO} (l : Le K H H') (r : RepO K H c o) : RepO K H' c o := by
  cases c with
  | lst xs => obtain ⟨vs, e, r⟩ := r; exact ⟨vs, e, r.le l⟩
  | dct kvs => obtain ⟨vs, e, r⟩ := r; exact ⟨vs, e, r.le l⟩
  | obj C fs => obtain ⟨dx, vs, e, r⟩ := r; exact ⟨dx, vs, e, r.le l⟩
theorem RepC.le {K : PySem.W.Frag} {H H' : Hp} {c : Cell} {o : HO} (l : Le K H H') (r : RepC K H c o) : RepC K H' c o := by
  cases c with
  | pur b => exact r
  | lst xs => obtain ⟨vs, e, r⟩ := r; exact ⟨vs, e, r.le l⟩
  | dct kvs => obtain ⟨vs, e, r⟩ := r; exact ⟨vs, e, r.le l⟩
  | obj C fs => obtain ⟨dx, vs, e, r⟩ := r; exact ⟨dx, vs, e, r.le l⟩
  | lck od ws kvs => exact ⟨r.1, r.2.le l⟩
  | ext φ => obtain ⟨Hs0, s0, r⟩ := r; exact ⟨Hs0, s0.trans l, r⟩
/-- one table's lock changes what is read in nothing -/
theorem Le.lock {K : PySem.W.Frag} {H : Hp} {a : Addr} {o : Obj} {ws : List (Key × V)} (h : H a = some (.dK ws)) : Le K H (upd H a (.frz o (.dK ws))) := by
  have ne : ∀ {b : Addr} {x : HO}, H b = some x → x ≠ .dK ws → b ≠ a := fun e n z => by rw [z, h] at e; cases e; exact n rfl
  refine ⟨fun b vs q => ?_, fun b vs q => ?_, fun b us q => ?_, fun b C dx us q => ?_, fun b vs q => ?_, fun b us q => ?_, fun b o' vs q => ?_⟩
  · rcases q with q | ⟨o', d, q⟩
    · exact .inl (by rw [upd_ne (ne q (by intro z; cases z))]; exact q)
    · exact .inr ⟨o', d, by rw [upd_ne (ne q (by intro z; cases z))]; exact q⟩
  · rw [upd_ne (ne q (by intro z; cases z))]; exact q
  · by_cases hb : b = a
    · subst hb
      rcases q with q | ⟨o', q⟩
      · rw [h] at q; cases q; exact .inr ⟨o, upd_same⟩
      · rw [h] at q; cases q
    · rcases q with q | ⟨o', q⟩
      · exact .inl (by rw [upd_ne hb]; exact q)
      · exact .inr ⟨o', by rw [upd_ne hb]; exact q⟩
  · rw [upd_ne (ne q (by intro z; cases z))]; exact q
  · rcases q with (q | ⟨o', q⟩) | q
    · exact .inl (.inl (by rw [upd_ne (ne q (by intro z; cases z))]; exact q))
    · exact .inl (.inr ⟨o', by rw [upd_ne (ne q (by intro z; cases z))]; exact q⟩)
    · exact .inr q
  · rw [upd_ne (ne q (by intro z; cases z))]; exact q
  · rw [upd_ne (ne q (by intro z; cases z))]; exact q
theorem Le.unlock {K : PySem.W.Frag} {H : Hp} {a : Addr} {o : Obj} {ws : List (Key × V)} (h : H a = some (.frz o (.dK ws))) : Le K H (upd H a (.dK ws)) := by
  have ne : ∀ {b : Addr} {x : HO}, H b = some x → x ≠ .frz o (.dK ws) → b ≠ a := fun e n z => by rw [z, h] at e; cases e; exact n rfl
  refine ⟨fun b vs q => ?_, fun b vs q => ?_, fun b us q => ?_, fun b C dx us q => ?_, fun b vs q => ?_, fun b us q => ?_, fun b o' vs q => ?_⟩
  · rcases q with q | ⟨o', d, q⟩
    · exact .inl (by rw [upd_ne (ne q (by intro z; cases z))]; exact q)
    · exact .inr ⟨o', d, by rw [upd_ne (ne q (by intro z; cases z))]; exact q⟩
  · rw [upd_ne (ne q (by intro z; cases z))]; exact q
  · by_cases hb : b = a
    · subst hb
      rcases q with q | ⟨o', q⟩
      · rw [h] at q; cases q
      · rw [h] at q; cases q; exact .inl upd_same
    · rcases q with q | ⟨o', q⟩
      · exact .inl (by rw [upd_ne hb]; exact q)
      · exact .inr ⟨o', by rw [upd_ne hb]; exact q⟩
  · rw [upd_ne (ne q (by intro z; cases z))]; exact q
  · rcases q with (q | ⟨o', q⟩) | q
    · exact .inl (.inl (by rw [upd_ne (ne q (by intro z; cases z))]; exact q))
    · exact .inl (.inr ⟨o', by rw [upd_ne (ne q (by intro z; cases z))]; exact q⟩)
    · exact .inr q
  · rw [upd_ne (ne q (by intro z; cases z))]; exact q
  · rw [upd_ne (ne q (by intro z; cases z))]; exact q
/-- a lock: Z', Hs', H', C' the account while it holds; G what holds of the cells meanwhile; uHs, uH, uC the way back -/
structure Lkd (K : PySem.W.Frag) (Z Z' : Z0) (Hs H Hs' H' : Hp) (C C' : Cs) (G : Cs → Prop) (uC : Cs → Cs) (uHs uH : Hp → Hp) : Prop where
  inn : ∀ σ env, SR K Z σ Hs H env C → SR K Z' σ Hs' H' env C'
  fl : Z'.F = Hs'
  g0 : G C'
  fit : ∀ Hs2 H2 C2, Fits K Hs2 H2 C2 → Bas Z' Hs2 H2 C2 → G C2 → Fits K (uHs Hs2) (uH H2) (uC C2) ∧ Bas Z (uHs Hs2) (uH H2) (uC C2)
  zH : ∀ p, Z'.H p = none → Z.H p = none
  le : ∀ Hs2, Same Hs' Hs2 → Le K Hs2 (uHs Hs2)
  off : ∀ Hs2 H2 C2 p x, Fits K Hs2 H2 C2 → Same Hs' Hs2 → G C2 → Hs2 p = none → C2 p = none → H2 p = some x → uHs Hs2 p = none ∧ uC C2 p = none ∧ uH H2 p = some x
  same : ∀ Hs2, Same Hs' Hs2 → Same Hs (uHs Hs2)
  kp : ∀ Hs2 H2 C2 b x, Fits K Hs2 H2 C2 → Same Hs' Hs2 → G C2 → H b = some x → C b = none → (H' b = some x → C' b = none → H2 b = some x ∧ C2 b = none) → uH H2 b = some x ∧ uC C2 b = none
section
variable {K : PySem.W.Frag} {Z Z' : Z0} {Hs H Hs' H' : Hp} {C C' : Cs} {G : Cs → Prop} {uC : Cs → Cs} {uHs uH : Hp → Hp} {σ : St} {env : DL.Env}
theorem Lkd.tr (L : Lkd K Z Z' Hs H Hs' H' C C' G uC uHs uH) {Hs2 H2 : Hp} {C2 : Cs} (f : Fits K Hs2 H2 C2) (g : G C2) (t : Tr Hs' H' C' Hs2 H2 C2) : Tr Hs H C (uHs Hs2) (uH H2) (uC C2) :=
  ⟨L.same _ t.fr, fun b x e c => L.kp _ _ _ b x f t.fr g e c fun e1 c1 => t.kp b x e1 c1⟩
theorem Lkd.out (L : Lkd K Z Z' Hs H Hs' H' C C' G uC uHs uH) {Hs2 H2 : Hp} {C2 : Cs} (r : SR K Z' σ Hs2 H2 env C2) (g : G C2) : SR K Z σ (uHs Hs2) (uH H2) env (uC C2) := by
  obtain ⟨f, b⟩ := L.fit _ _ _ r.fit r.bas g
  have fr : Same Hs' Hs2 := by have := r.bas.fl; rw [L.fl] at this; exact this
  refine ⟨f, b, r.slt.len, fun i d e => ?_, fun i c e => ?_, r.slt.sep⟩
  · obtain ⟨v, e1, q⟩ := r.slt.shr i d e
    exact ⟨v, e1, q.le (L.le _ fr)⟩
  · obtain ⟨p, o, e1, e2, q, n1, n2, n3⟩ := r.slt.own i c e
    obtain ⟨m1, m2, m3⟩ := L.off _ _ _ p o r.fit fr g n1 n2 e2
    exact ⟨p, o, e1, m3, q.le (L.le _ fr), m1, m2, L.zH p n3⟩
theorem Lkd.ret (L : Lkd K Z Z' Hs H Hs' H' C C' G uC uHs uH) {Hs2 H2 : Hp} {C2 : Cs} {r : Ret} {v : V} (f : Fits K Hs2 H2 C2) (fr : Same Hs' Hs2) (g : G C2) (q : RRet K Z' Hs2 H2 C2 r v) : RRet K Z (uHs Hs2) (uH H2) (uC C2) r v := by
  cases r with
  | shr d => exact Rep.le (L.le _ fr) q
  | frs c =>
    obtain ⟨p, o, e, e2, r1, n1, n2, n3⟩ := q
    obtain ⟨m1, m2, m3⟩ := L.off _ _ _ p o f fr g n1 n2 e2
    exact ⟨p, o, e, m3, r1.le (L.le _ fr), m1, m2, L.zH p n3⟩
/-- nothing is locked -/
theorem Lkd.no (b0 : Bas Z Hs H C) : Lkd K Z { Z with F := Hs } Hs H Hs H C C (fun _ => True) id id id where
  inn := fun σ env r => r.raise
  fl := rfl
  g0 := trivial
  fit := fun Hs2 H2 C2 f b _ => ⟨f, ⟨fun x y e => b.fl x y (b0.fl x y e), b.kp, b.th⟩⟩
  zH := fun p h => h
  le := fun Hs2 _ => Le.of fun _ _ e => e
  off := fun Hs2 H2 C2 p x _ _ _ h1 h2 h3 => ⟨h1, h2, h3⟩
  same := fun Hs2 s => s
  kp := fun Hs2 H2 C2 b x _ _ _ e c k => k e c
/-- the heap with the lock, where the thing was there -/
def lkH (a : Addr) (F : HO) (H : Hp) : Hp := fun b => if b = a then (match H a with
  | .none => Option.none
  | some _ => some F) else H b
theorem lkH_ne {a b : Addr} {F : HO} {H : Hp} (h : b ≠ a) : lkH a F H b = H b := by unfold lkH; rw [if_neg h]
theorem lkH_at {a : Addr} {F y : HO} {H : Hp} (h : H a = some y) : lkH a F H a = some F := by unfold lkH; rw [if_pos rfl, h]
theorem lkH_no {a : Addr} {F : HO} {H : Hp} (h : H a = none) : lkH a F H a = none := by unfold lkH; rw [if_pos rfl, h]
theorem cel_not {Hs2 H2 : Hp} {C2 : Cs} {a : Addr} {x : HO} (f : Fits K Hs2 H2 C2) (h : Hs2 a = some x) : C2 a = none := by
  cases e : C2 a with
  | none => rfl
  | some c => have := (f.cel a c e).1; rw [h] at this; cases this
/-- a table that stays -/
theorem Lkd.shr {a : Addr} {ws : List (Key × V)} (f0 : Fits K Hs H C) (b0 : Bas Z Hs H C) (h : Hs a = some (.dK ws)) (o : Obj) :
    Lkd K Z ⟨Z.Hs, lkH a (.frz o (.dK ws)) Z.H, Z.C, upd Hs a (.frz o (.dK ws))⟩ Hs H (upd Hs a (.frz o (.dK ws))) (upd H a (.frz o (.dK ws))) C C (fun _ => True) id (fun Hs2 => upd Hs2 a (.dK ws)) (fun H2 => upd H2 a (.dK ws)) := by
  have ha : H a = some (.dK ws) := f0.sub _ _ h
  have ca : ∀ {Hs2 H2 C2}, Fits K Hs2 H2 C2 → Same (upd Hs a (.frz o (.dK ws))) Hs2 → Hs2 a = some (.frz o (.dK ws)) ∧ H2 a = some (.frz o (.dK ws)) ∧ C2 a = none := fun f s => ⟨s _ _ upd_same, f.sub _ _ (s _ _ upd_same), cel_not f (s _ _ upd_same)⟩
  refine ⟨fun σ env r => ⟨⟨fun b x e => ?_, fun b c e => ?_⟩, ⟨fun b x e => e, fun b x e c => ?_, fun b x e => ?_⟩, ⟨r.slt.len, fun i d e => ?_, fun i c e => ?_, r.slt.sep⟩⟩, rfl, trivial, fun Hs2 H2 C2 f b _ => ?_, fun p e => ?_, fun Hs2 s => Le.unlock (s _ _ upd_same), fun Hs2 H2 C2 p x f s _ h1 h2 h3 => ?_, fun Hs2 s b x e => ?_, fun Hs2 H2 C2 b x f s _ e c k => ?_⟩
  · by_cases hb : b = a
    · subst hb; rw [upd_same] at e ⊢; exact e
    · rw [upd_ne hb] at e ⊢; exact r.fit.sub b x e
  · obtain ⟨n, x, e1, q⟩ := r.fit.cel b c e
    have hb : b ≠ a := fun z => by rw [z, h] at n; cases n
    exact ⟨by rw [upd_ne hb]; exact n, x, by rw [upd_ne hb]; exact e1, q.le (Le.lock h)⟩
  · dsimp only at e c ⊢
    by_cases hb : b = a
    · subst hb
      cases hz : Z.H b with
      | none => rw [lkH_no hz] at e; cases e
      | some y =>
        rw [lkH_at hz] at e
        obtain ⟨k1, k2, k3⟩ := r.bas.kp b y hz c
        exact ⟨by rw [upd_same]; exact e, k2, fun z => by have := k3 z; rw [h] at this; cases this⟩
    · rw [lkH_ne hb] at e
      obtain ⟨k1, k2, k3⟩ := r.bas.kp b x e c
      exact ⟨by rw [upd_ne hb]; exact k1, k2, fun z => by rw [upd_ne hb]; exact k3 z⟩
  · dsimp only at e ⊢
    by_cases hb : b = a
    · subst hb; exact ⟨_, upd_same⟩
    · rw [lkH_ne hb] at e
      obtain ⟨o', e'⟩ := r.bas.th b x e
      exact ⟨o', by rw [upd_ne hb]; exact e'⟩
  · obtain ⟨v, e1, q⟩ := r.slt.shr i d e
    exact ⟨v, e1, q.le (Le.lock h)⟩
  · obtain ⟨p, x, e1, e2, q, n1, n2, n3⟩ := r.slt.own i c e
    have hp : p ≠ a := fun z => by rw [z, h] at n1; cases n1
    exact ⟨p, x, e1, by rw [upd_ne hp]; exact e2, q.le (Le.lock h), by rw [upd_ne hp]; exact n1, n2, (lkH_ne hp).trans n3⟩
  · obtain ⟨s1, h1, c1⟩ := ca f b.fl
    refine ⟨⟨fun x y e => ?_, fun x c e => ?_⟩, ⟨fun x y e => ?_, fun x y e c => ?_, fun x y e => ?_⟩⟩
    · by_cases hx : x = a
      · subst hx; rw [upd_same] at e ⊢; exact e
      · rw [upd_ne hx] at e ⊢; exact f.sub x y e
    · obtain ⟨n, y, e1, q⟩ := f.cel x c e
      have hx : x ≠ a := fun z => by rw [z, s1] at n; cases n
      exact ⟨by rw [upd_ne hx]; exact n, y, by rw [upd_ne hx]; exact e1, q.le (Le.unlock s1)⟩
    · have e0 := b0.fl x y e
      by_cases hx : x = a
      · subst hx; rw [h] at e0; rw [upd_same]; exact e0
      · rw [upd_ne hx]; exact b.fl x y (by dsimp only; rw [upd_ne hx]; exact e0)
    · by_cases hx : x = a
      · subst hx
        obtain ⟨k1, k2, k3⟩ := b0.kp x y e c
        rw [ha] at k1
        exact ⟨by rw [upd_same]; exact k1, c1, fun z => by have := k3 z; rw [h] at this; cases this⟩
      · obtain ⟨k1, k2, k3⟩ := b.kp x y ((lkH_ne hx).trans e) c
        exact ⟨by rw [upd_ne hx]; exact k1, k2, fun z => by rw [upd_ne hx]; exact k3 z⟩
    · by_cases hx : x = a
      · subst hx; exact ⟨_, upd_same⟩
      · obtain ⟨o', e'⟩ := b.th x y ((lkH_ne hx).trans e)
        exact ⟨o', by rw [upd_ne hx]; exact e'⟩
  · by_cases hp : p = a
    · subst hp
      cases hz : Z.H p with
      | none => rfl
      | some y => have e' : lkH p _ Z.H p = _ := e; rw [lkH_at hz] at e'; cases e'
    · exact (lkH_ne hp).symm.trans e
  · have hp : p ≠ a := fun z => by rw [z, (ca f s).1] at h1; cases h1
    exact ⟨by rw [upd_ne hp]; exact h1, h2, by rw [upd_ne hp]; exact h3⟩
  · by_cases hb : b = a
    · subst hb; rw [h] at e; rw [upd_same]; exact e
    · rw [upd_ne hb]; exact s b x (by rw [upd_ne hb]; exact e)
  · by_cases hb : b = a
    · subst hb; rw [ha] at e; exact ⟨by rw [upd_same]; exact e, (ca f s).2.2⟩
    · obtain ⟨k1, k2⟩ := k (by rw [upd_ne hb]; exact e) c
      exact ⟨by rw [upd_ne hb]; exact k1, k2⟩
/-- a table that is a cell -/
theorem Lkd.cel {a : Addr} {ws : List (Key × V)} {kvs : List (DK × D)} (f0 : Fits K Hs H C) (b0 : Bas Z Hs H C) (hc : C a = some (.dct kvs)) (ha : H a = some (.dK ws)) (o : Obj) :
    Lkd K Z { Z with F := Hs } Hs H Hs (upd H a (.frz o (.dK ws))) C (cput C a (.lck o ws kvs)) (fun C2 => C2 a = some (.lck o ws kvs)) (fun C2 => cput C2 a (.dct kvs)) id (fun H2 => upd H2 a (.dK ws)) := by
  have at0 : ∀ {Hs2 H2 C2}, Fits K Hs2 H2 C2 → C2 a = some (.lck o ws kvs) → Hs2 a = none ∧ H2 a = some (.frz o (.dK ws)) ∧ RepKV K Hs2 kvs ws := fun f g => by
    obtain ⟨n, x, e1, e2, q⟩ := f.cel a _ g
    exact ⟨n, by rw [e1, e2], q⟩
  have hn : Hs a = none := (f0.cel a _ hc).1
  refine ⟨fun σ env r => ⟨⟨fun b x e => ?_, fun b c e => ?_⟩, ⟨fun b x e => e, fun b x e c => ?_, fun b x e => ?_⟩, ⟨r.slt.len, r.slt.shr, fun i c e => ?_, r.slt.sep⟩⟩, rfl, cput_same, fun Hs2 H2 C2 f b g => ?_, fun p e => e, fun Hs2 s => Le.of fun _ _ e => e, fun Hs2 H2 C2 p x f s g h1 h2 h3 => ?_, fun Hs2 s => s, fun Hs2 H2 C2 b x f s g e c k => ?_⟩
  · have hb : b ≠ a := fun z => by rw [z, hn] at e; cases e
    rw [upd_ne hb]; exact r.fit.sub b x e
  · by_cases hb : b = a
    · subst hb
      rw [cput_same] at e
      cases e
      obtain ⟨n, x, e1, us, e2, q⟩ := r.fit.cel b _ hc
      rw [e1] at ha
      cases ha
      cases e2
      exact ⟨n, _, upd_same, rfl, q⟩
    · rw [cput_ne hb] at e
      obtain ⟨n, x, e1, q⟩ := r.fit.cel b c e
      exact ⟨n, x, by rw [upd_ne hb]; exact e1, q⟩
  · obtain ⟨k1, k2, k3⟩ := r.bas.kp b x e c
    have hb : b ≠ a := fun z => by rw [z, hc] at k2; cases k2
    exact ⟨by rw [upd_ne hb]; exact k1, by rw [cput_ne hb]; exact k2, k3⟩
  · by_cases hb : b = a
    · subst hb; exact ⟨_, upd_same⟩
    · obtain ⟨o', e'⟩ := r.bas.th b x e
      exact ⟨o', by rw [upd_ne hb]; exact e'⟩
  · obtain ⟨p, x, e1, e2, q, n1, n2, n3⟩ := r.slt.own i c e
    have hp : p ≠ a := fun z => by rw [z, hc] at n2; cases n2
    exact ⟨p, x, e1, by rw [upd_ne hp]; exact e2, q, n1, by rw [cput_ne hp]; exact n2, n3⟩
  · obtain ⟨s1, h1, q1⟩ := at0 f g
    refine ⟨⟨fun x y e => ?_, fun x c e => ?_⟩, ⟨fun x y e => b.fl x y (b0.fl x y e), fun x y e c => ?_, fun x y e => ?_⟩⟩
    · have hx : x ≠ a := fun z => by rw [z] at e; exact absurd (e.symm.trans s1) (by intro z; cases z)
      rw [upd_ne hx]; exact f.sub x y e
    · by_cases hx : x = a
      · subst hx
        rw [cput_same] at e
        cases e
        exact ⟨s1, _, upd_same, ws, rfl, q1⟩
      · rw [cput_ne hx] at e
        obtain ⟨n, y, e1, q⟩ := f.cel x c e
        exact ⟨n, y, by rw [upd_ne hx]; exact e1, q⟩
    · obtain ⟨k1, k2, k3⟩ := b.kp x y e c
      have hx : x ≠ a := fun z => by rw [z, g] at k2; cases k2
      exact ⟨by rw [upd_ne hx]; exact k1, by rw [cput_ne hx]; exact k2, k3⟩
    · by_cases hx : x = a
      · subst hx; exact ⟨_, upd_same⟩
      · obtain ⟨o', e'⟩ := b.th x y e
        exact ⟨o', by rw [upd_ne hx]; exact e'⟩
  · have hp : p ≠ a := fun z => by rw [z, g] at h2; cases h2
    exact ⟨h1, by rw [cput_ne hp]; exact h2, by rw [upd_ne hp]; exact h3⟩
  · have hb : b ≠ a := fun z => by rw [z, hc] at c; cases c
    obtain ⟨k1, k2⟩ := k (by rw [upd_ne hb]; exact e) (by rw [cput_ne hb]; exact c)
    exact ⟨by rw [upd_ne hb]; exact k1, by rw [cput_ne hb]; exact k2⟩
end
end L2.DL
/-! FB: walks over tables: for, list and table comprehensions. -/
namespace L2.DL
open PySem PySem.Spec PyProof.Rows
def keyD : DK → D
  | .inl i => .int i
  | .inr s => .str s
inductive WK where
  | keys | vals | items
@[reducible] def oneW : WK → DK → D → D
  | .keys, k, _ => keyD k
  | .vals, _, d => d
  | .items, k, d => .tup [keyD k, d]
def walkD (w : WK) (kvs : List (DK × D)) : List D := kvs.map fun kv => oneW w kv.1 kv.2
/-- what an iterator gives, while G holds of the cells -/
structure WalksX (K : PySem.W.Frag) (J : It) (ds : List D) (F : Hp) (G : Cs → Prop) : Prop where
  go : ∀ (i : Nat) (d : D) Hs H C, ds[i]? = some d → Same F Hs → Fits K Hs H C → G C → J.go i H
  yld : ∀ (i : Nat) (d : D) Hs H C x H', ds[i]? = some d → Same F Hs → Fits K Hs H C → G C → J.yld i H x H' → ∃ Hs', Rep K Hs' d x ∧ Same Hs Hs' ∧ ∀ Z σ env, SR K Z σ Hs H env C → SR K Z σ Hs' H' env C ∧ Tr Hs H C Hs' H' C
  stop : ∀ Hs H C, Same F Hs → Fits K Hs H C → G C → J.stop ds.length H
theorem WalksX.of {K : PySem.W.Frag} {J : It} {ds : List D} {F : Hp} (w : Walks K J ds F) : WalksX K J ds F (fun _ => True) :=
  ⟨fun i d Hs H C e s f _ => w.go i d Hs H C e s f, fun i d Hs H C x H' e s f _ y => w.yld i d Hs H C x H' e s f y, fun Hs H C s f _ => w.stop Hs H C s f⟩
/-! ### what is walked, with what holds meanwhile -/
abbrev WM := EX → DL.Env → Cs → (List D → (Cs → Prop) → (Cs → Cs) → DL.Env → Cs → Prop) → Prop
def mLift (mi : EM (List D)) : WM := fun E env C Q => mi E env C fun ds env1 C1 => Q ds (fun _ => True) id env1 C1
def mDw (w : WK) (mo : EM D) : WM := fun E env C Q => mo E env C fun d env1 C1 => match d with
  | .dct kvs => Q (walkD w kvs) (fun _ => True) id env1 C1
  | .cell a => match C1 a with
    | some (.dct kvs) => ∀ o ws, Q (walkD w kvs) (fun C2 => C2 a = some (.lck o ws kvs)) (fun C2 => cput C2 a (.dct kvs)) env1 (cput C1 a (.lck o ws kvs))
    | _ => False
  | _ => False
/-! ### for -/
def forG (G : Cs → Prop) (uC : Cs → Cs) (g : GM) (mb : SM) (dE : DEnds) : List D → DL.Env → Cs → Prop
  | [], env, C => G C ∧ dE.nx env (uC C)
  | d :: ds, env, C => G C ∧ g d (fun env1 C1 => mb E0 ⟨forG G uC g mb dE ds, fun r C2 => G C2 ∧ dE.rt r (uC C2), fun env2 C2 => G C2 ∧ dE.nx env2 (uC C2), forG G uC g mb dE ds⟩ env1 C1) env C
def sForX (g : GM) (mi : WM) (mb : SM) : SM := fun E dE env C => mi E env C fun ds G uC env1 C1 => forG G uC g mb dE ds env1 C1
end L2.DL
/-! FC: list and table comprehensions over whatever is walked. -/
namespace L2.DL
open PySem PySem.Spec PyProof.Rows
/-- the loop of a comprehension: acc what is made so far, put how an item joins it -/
def compX {β : Type} (G : Cs → Prop) (uC : Cs → Cs) (vs : List Nat) (g : GM) (mc : EM Bool) (me : EM β) (put : List γ → β → (List γ → Prop) → Prop) (Q : List γ → Cs → Prop) : List D → List γ → DL.Env → Cs → Prop
  | [], acc, _, C => G C ∧ Q acc (uC C)
  | d :: ds, acc, env, C => G C ∧ g d (fun env1 C1 => wipeE env1 vs = env ∧ mc E0 env1 C1 fun b env2 C2 => env2 = env1 ∧
      if b = true then me E0 env1 C2 fun y env3 C3 => env3 = env1 ∧ acc.length < sizeLine ∧ put acc y fun acc' => compX G uC vs g mc me put Q ds acc' env C3 else compX G uC vs g mc me put Q ds acc env C2) env C
def putL (acc : List D) (y : D) (P : List D → Prop) : Prop := P (acc ++ [y])
def putKV (acc : List (DK × D)) (y : D × D) (P : List (DK × D) → Prop) : Prop := ∃ k, dkOf y.1 = some k ∧ P (putD acc k y.2)
def mCompX (vs : List Nat) (g : GM) (mi : WM) (mc : EM Bool) (me : EM D) : EM Cont := fun E env C Q => mi E env C fun ds G uC env1 C1 => noOwn env1 vs = true ∧ compX G uC vs g mc me putL (fun acc C2 => Q (.lst acc) env1 C2) ds [] (wipeE env1 vs) C1
/-- key, value -/
def mKV (mk mv : EM D) : EM (D × D) := fun E env C Q => mk E env C fun k env1 C1 => env1 = env ∧ mv E env1 C1 fun v env2 C2 => Q (k, v) env2 C2
def mCompD (vs : List Nat) (g : GM) (mi : WM) (mc : EM Bool) (mk mv : EM D) : EM Cont := fun E env C Q => mi E env C fun ds G uC env1 C1 => noOwn env1 vs = true ∧ compX G uC vs g mc (mKV mk mv) putKV (fun acc C2 => Q (.dct acc) env1 C2) ds [] (wipeE env1 vs) C1
section
variable {X : Cx} {Z : Z0}
/-- the account of the state within the comprehension; o what the new thing holds -/
structure InC (K : PySem.W.Frag) (Z' : Z0) (σ : St) (vs : List Nat) (env1 : DL.Env) (D : Addr) (H' : Hp) (C' : Cs) (o : HO) (Hs H : Hp) (C : Cs) : Prop where
  sr : SR K Z' (wipe σ vs) Hs H (wipeE env1 vs) C
  at0 : H D = some o
  hs : Hs D = none
  c : C D = none
  kp : ∀ a x, H' a = some x → C' a = none → H a = some x ∧ C a = none
theorem nod_wiped {σ : St} {vs : List Nat} {env1 : DL.Env} {D : Addr} (noD : ∀ (i : Nat) (c : Cont), env1[i]? = some (Slot.own c) → σ[i]? ≠ some (some (V.ref D))) : ∀ (i : Nat) (c : Cont), (wipeE env1 vs)[i]? = some (Slot.own c) → (wipe σ vs)[i]? ≠ some (some (V.ref D)) := fun i c e z => by
  rcases wipeE_get e with ⟨h1, h2⟩ | h1
  · rw [wipe_out h1] at z
    exact noD i c h2 z
  · cases h1
/-- the new thing is written -/
theorem InC.put {K : PySem.W.Frag} {Z' : Z0} {σ : St} {vs : List Nat} {env1 : DL.Env} {D : Addr} {H' : Hp} {C' : Cs} {o o' : HO} {Hs2 H2 : Hp} {C2 : Cs} (h : InC K Z' σ vs env1 D H' C' o Hs2 H2 C2)
    (noD : ∀ (i : Nat) (c : Cont), env1[i]? = some (Slot.own c) → σ[i]? ≠ some (some (V.ref D))) (zD : Z'.H D = none) (hD : H' D = none) : InC K Z' σ vs env1 D H' C' o' Hs2 (upd H2 D o') C2 :=
  ⟨h.sr.wrP h.hs h.c zD (nod_wiped noD), upd_same, h.hs, h.c, fun a x e c => by
    obtain ⟨k1, k2⟩ := h.kp a x e c
    have ha : a ≠ D := ne_of_none e hD
    exact ⟨by rw [upd_ne ha]; exact k1, k2⟩⟩
/-- the end -/
theorem InC.fin {K : PySem.W.Frag} {Z Z' : Z0} {σ : St} {vs : List Nat} {env1 : DL.Env} {D : Addr} {Hs1 H1 Hs' H' : Hp} {C1 C' : Cs} {G : Cs → Prop} {uC : Cs → Cs} {uHs uH : Hp → Hp} {o : HO} {Hs2 H2 : Hp} {C2 : Cs} {c : Cont} (L : Lkd K Z Z' Hs1 H1 Hs' H' C1 C' G uC uHs uH) (s1 : SR K Z σ Hs1 H1 env1 C1)
    (h : InC K Z' σ vs env1 D H' C' o Hs2 H2 C2) (noD : ∀ (i : Nat) (c : Cont), env1[i]? = some (Slot.own c) → σ[i]? ≠ some (some (V.ref D))) (zD : Z'.H D = none) (nO : noOwn env1 vs = true) (g : G C2) (ro : RepO K Hs2 c o) :
    SR K Z σ (uHs Hs2) (uH H2) env1 (uC C2) ∧ Tr Hs1 H1 C1 (uHs Hs2) (uH H2) (uC C2) ∧ RFr K Z σ (uHs Hs2) (uH H2) env1 (uC C2) c (.ref D) := by
  have fr : Same Hs' Hs2 := by have := h.sr.bas.fl; rw [L.fl] at this; exact this
  have s2 := L.out h.sr g
  obtain ⟨m1, m2, m3⟩ := L.off _ _ _ D o h.sr.fit fr g h.hs h.c h.at0
  exact ⟨SR.unwipe nO s1 (L.same _ fr) s2 s2.bas fun p e => e, L.tr h.sr.fit g ⟨fr, h.kp⟩, D, o, rfl, m3, ro.le (L.le _ fr), m1, m2, L.zH D zD, noD⟩
end
end L2.DL
/-! FD: table comprehensions of two clauses. -/
namespace L2.DL
open PySem PySem.Spec PyProof.Rows
end L2.DL
/-! FE: table comprehensions of two clauses, over trees. -/
namespace L2.DL
open PySem PySem.Spec PyProof.Rows
/-- the loops of two clauses -/
def compY {β γ : Type} (vs vb : List Nat) (ga : GM) (ma : EM Bool) (mj : EM (List D)) (gb : GM) (mb : EM Bool) (me : EM β) (put : List γ → β → (List γ → Prop) → Prop) (Q : List γ → Cs → Prop) : List D → List γ → DL.Env → Cs → Prop
  | [], acc, _, C => Q acc C
  | d :: ds, acc, env, C => ga d (fun env1 C1 => wipeE env1 vs = env ∧ ma E0 env1 C1 fun b env2 C2 => env2 = env1 ∧
      if b = true then mj E0 env1 C2 fun es env3 C3 => env3 = env1 ∧ compX (fun _ => True) id vb gb mb me put (fun acc' C4 => compY vs vb ga ma mj gb mb me put Q ds acc' env C4) es acc (wipeE env1 vb) C3
      else compY vs vb ga ma mj gb mb me put Q ds acc env C2) env C
def mCompD2 (vs vb : List Nat) (ga : GM) (mi : EM (List D)) (ma : EM Bool) (mj : EM (List D)) (gb : GM) (mb : EM Bool) (mk mv : EM D) : EM Cont := fun E env C Q => mi E env C fun ds env1 C1 => noOwn env1 vs = true ∧ compY vs vb ga ma mj gb mb (mKV mk mv) putKV (fun acc C2 => Q (.dct acc) env1 C2) ds [] (wipeE env1 vs) C1
end L2.DL
/-! FF: o[i] op= e of own operators; tables' get and pop; lists that are cells, walked; targets in targets. -/
namespace PySem.W
open PySem PySem.Spec PyProof.Rows
end PySem.W
namespace L2.DL
open PySem PySem.Spec PyProof.Rows
/-! ### o[i] op= e, o a cell, the operator an own one -/
def GetC (o i : D) (C : Cs) (R : D → Prop) : Prop := ∃ a, o = .cell a ∧ match C a with
  | some (.lst xs) => ∃ k x, i = .int k ∧ atI xs k = some x ∧ R x
  | some (.dct kvs) => ∃ k x, dkOf i = some k ∧ look k kvs = some x ∧ R x
  | _ => False
def sAugS (Cl : Addr) (spv : DSpV) (mo mi me : EM D) : SM := fun E dE env C => mo E env C fun o env1 C1 => mi E env1 C1 fun i env2 C2 => GetC o i C2 fun x => me E env2 C2 fun y env3 C3 =>
  isOb Cl (dr C3 x) ∧ isOb Cl (dr C3 y) ∧ spv [x, y] [] C3 (fun r C4 => PutC o i r.tree dE.nx env3 C4) fun xx C4 => E xx env3 C4
end L2.DL
/-! FG: tables' get, pop, ==; lists that are cells, walked; targets in targets. -/
namespace L2.DL
open PySem PySem.Spec PyProof.Rows
/-! ### d.get(k), d.pop(k) -/
def mDGet2 (mo me mx : EM D) : EM D := fun E env C Q => mo E env C fun d env1 C1 => (∃ kvs0, dr C1 d = .dct kvs0) ∧ me E env1 C1 fun k env2 C2 => mx E env2 C2 fun x env3 C3 => ∃ kvs key, dr C3 d = .dct kvs ∧ dkOf k = some key ∧ Q ((look key kvs).getD x) env3 C3
def dropD (kvs : List (DK × D)) (k : DK) : List (DK × D) := kvs.filter fun kv => decide (kv.1 ≠ k)
def mDPop (mo me : EM D) : EM D := fun E env C Q => mo E env C fun d env1 C1 => ∃ a, d = .cell a ∧ (∃ kvs0, C1 a = some (.dct kvs0)) ∧ me E env1 C1 fun k env2 C2 => ∃ kvs key x, C2 a = some (.dct kvs) ∧ dkOf k = some key ∧ look key kvs = some x ∧ Q x env2 (cput C2 a (.dct (dropD kvs key)))
theorem RepKV.drop {K : PySem.W.Frag} {Hs : Hp} {k : DK} : ∀ {kvs : List (DK × D)} {ws : List (Key × V)}, RepKV K Hs kvs ws → RepKV K Hs (dropD kvs k) (dropK ws (kOf k))
  | _, _, .nil => .nil
  | _, _, @RepKV.cons _ _ j d v ds vs h r => by
    unfold dropD dropK
    rw [List.filter_cons, List.filter_cons]
    by_cases e : j = k
    · subst e
      simp only [ne_eq, not_true_eq_false, decide_false, Bool.false_eq_true, if_false]
      exact RepKV.drop r
    · have e' : kOf j ≠ kOf k := fun z => e (kOf_inj z)
      simp only [ne_eq, e, e', not_false_eq_true, decide_true, if_true]
      exact .cons h (RepKV.drop r)
/-! ### lists that are cells, walked -/
def mDl (mo : EM D) : WM := fun E env C Q => mo E env C fun d env1 C1 => match d with
  | .cell a => match C1 a with
    | some (.lst xs) => Q xs (fun C2 => C2 a = some (.lst xs)) id env1 C1
    | _ => False
  | d => match iterD d with
    | some ds => Q ds (fun _ => True) id env1 C1
    | none => False
/-! ### targets in targets -/
/-! ### == of tables -/
end L2.DL
/-! FH: list(d.values()), list(d.items()), dict(d), list(d), dict(pairs). -/
namespace L2.DL
open PySem PySem.Spec PyProof.Rows
/-- the table that a tree is now -/
def mTab {α : Type} (mo : EM D) (g : List (DK × D) → (α → Prop) → Prop) : EM α := fun E env C Q => mo E env C fun d env1 C1 => ∃ kvs, dr C1 d = .dct kvs ∧ g kvs fun x => Q x env1 C1
section
variable {X : Cx}
/-- dict(d): a copy; list(d): the keys -/
def gDictD (ds : List D) (P : Cont → Prop) : Prop := match ds with
  | [.dct kvs] => P (.dct kvs)
  | _ => False
end
section
variable {K : PySem.W.Frag} {Z : Z0} {σ : St} {Hs H Hs' H' : Hp} {env : DL.Env} {C : Cs}
/-- new things are laid, some of them stay -/
theorem SR.grow (r : SR K Z σ Hs H env C) (sH : Same H H') (sHs : Same Hs Hs') (new : ∀ b, Hs' b ≠ Hs b → H b = none ∧ Hs' b = H' b) : SR K Z σ Hs' H' env C ∧ Tr Hs H C Hs' H' C := by
  have old : ∀ {b : Addr} {x : HO}, H b = some x → Hs b = none → Hs' b = none := fun {b x} h n => by
    by_cases e : Hs' b = Hs b
    · rw [e]; exact n
    · rw [(new b e).1] at h; cases h
  refine ⟨⟨⟨fun b x e => ?_, fun a c e => ?_⟩, ⟨fun b x e => sHs b x (r.bas.fl b x e), fun b x e c => ?_, fun b x e => ?_⟩, ⟨r.slt.len, fun i d e => ?_, fun i c e => ?_, r.slt.sep⟩⟩, sHs, fun b x e c => ⟨sH b x e, c⟩⟩
  · by_cases q : Hs' b = Hs b
    · rw [q] at e; exact sH b x (r.fit.sub b x e)
    · rw [← (new b q).2]; exact e
  · obtain ⟨n, x, e1, q⟩ := r.fit.cel a c e
    exact ⟨old e1 n, x, sH a x e1, q.same sHs⟩
  · obtain ⟨k1, k2, k3⟩ := r.bas.kp b x e c
    exact ⟨sH b x k1, k2, fun z => old k1 (k3 z)⟩
  · obtain ⟨o', e'⟩ := r.bas.th b x e
    exact ⟨o', sH b o' e'⟩
  · obtain ⟨v, e1, q⟩ := r.slt.shr i d e
    exact ⟨v, e1, q.same sHs⟩
  · obtain ⟨p, x, e1, e2, q, n1, n2, n3⟩ := r.slt.own i c e
    exact ⟨p, x, e1, sH p x e2, q.same sHs, old e2 n1, n2, n3⟩
end
end L2.DL
/-! FI: name = a comprehension of any kind, on one row. -/
namespace L2.DL
open PySem PySem.Spec PyProof.Rows
end L2.DL
/-! FJ: d.clear() of an own table. -/
namespace L2.DL
open PySem PySem.Spec PyProof.Rows
def sClrO (n : Nat) : SM := fun _ dE env C => ∃ kvs, env[n]? = some (.own (.dct kvs)) ∧ dE.nx (env.set n (.own (.dct []))) C
end L2.DL
/-! FK: d.get(k) where k may be None; what is no more wanted is let go at a def's end. -/
namespace L2.DL
open PySem PySem.Spec PyProof.Rows
def GetR (kvs : List (DK × D)) (k : D) (R : D → Prop) : Prop := match k with
  | .non => R .non
  | k => ∃ key, dkOf k = some key ∧ R ((look key kvs).getD .non)
def mDGet (mo me : EM D) : EM D := fun E env C Q => mo E env C fun d env1 C1 => (∃ kvs0, dr C1 d = .dct kvs0) ∧ me E env1 C1 fun k env2 C2 => ∃ kvs, dr C2 d = .dct kvs ∧ GetR kvs k fun x => Q x env2 C2
end L2.DL
/-! MA: rows of a size as an ordered group. -/
namespace L2.DL
def Vc (N : Nat) := {l : List Int // l.length = N}
namespace Vc
variable {N : Nat}
theorem ext' : ∀ {a b : Vc N}, a.1 = b.1 → a = b
  | ⟨_, _⟩, ⟨_, _⟩, rfl => rfl
instance : DecidableEq (Vc N) := fun a b => decidable_of_iff (a.1 = b.1) ⟨ext', fun h => h ▸ rfl⟩
instance : Zero (Vc N) := ⟨⟨List.replicate N 0, List.length_replicate⟩⟩
instance : Add (Vc N) := ⟨fun a b => ⟨List.zipWith (fun i j => i + j) a.1 b.1, by simp [a.2, b.2]⟩⟩
instance : Sub (Vc N) := ⟨fun a b => ⟨List.zipWith (fun i j => i - j) a.1 b.1, by simp [a.2, b.2]⟩⟩
instance : Neg (Vc N) := ⟨fun a => ⟨a.1.map fun n => -n, by simp [a.2]⟩⟩
instance : SMul Nat (Vc N) := ⟨fun k a => ⟨a.1.map fun n => (k : Int) * n, by simp [a.2]⟩⟩
instance : SMul Int (Vc N) := ⟨fun k a => ⟨a.1.map fun n => k * n, by simp [a.2]⟩⟩
instance : HSMul Nat (Vc N) (Vc N) := ⟨fun k a => k • a⟩
instance : HSMul Int (Vc N) (Vc N) := ⟨fun k a => k • a⟩
theorem add_val (a b : Vc N) : (a + b).1 = List.zipWith (fun i j => i + j) a.1 b.1 := rfl
def at' (a : Vc N) (i : Nat) (h : i < N) : Int := a.1[i]'(by rw [a.2]; exact h)
theorem ext_at {a b : Vc N} (h : ∀ i hi, a.at' i hi = b.at' i hi) : a = b := ext' (List.ext_getElem (by rw [a.2, b.2]) fun i h1 h2 => h i (by rw [← a.2]; exact h1))
theorem add_at (a b : Vc N) (i) (h) : (a + b).at' i h = a.at' i h + b.at' i h := List.getElem_zipWith ..
theorem sub_at (a b : Vc N) (i) (h) : (a - b).at' i h = a.at' i h - b.at' i h := List.getElem_zipWith ..
theorem neg_at (a : Vc N) (i) (h) : (-a).at' i h = - a.at' i h := List.getElem_map ..
theorem zero_at (i) (h) : (0 : Vc N).at' i h = 0 := List.getElem_replicate ..
theorem nsm_at (k : Nat) (a : Vc N) (i) (h) : (k • a).at' i h = k * a.at' i h := List.getElem_map ..
theorem zsm_at (k : Int) (a : Vc N) (i) (h) : (k • a).at' i h = k * a.at' i h := List.getElem_map ..
instance : Lean.Grind.IntModule (Vc N) where
  add_zero a := ext_at fun i h => by rw [add_at, zero_at]; omega
  add_comm a b := ext_at fun i h => by rw [add_at, add_at]; omega
  add_assoc a b c := ext_at fun i h => by simp only [add_at]; omega
  neg_add_cancel a := ext_at fun i h => by simp only [add_at, neg_at, zero_at]; omega
  sub_eq_add_neg a b := ext_at fun i h => by simp only [add_at, neg_at, sub_at]; omega
  zero_zsmul a := ext_at fun i h => by rw [zsm_at, zero_at]; omega
  one_zsmul a := ext_at fun i h => by rw [zsm_at]; omega
  add_zsmul n m a := ext_at fun i h => by simp only [zsm_at, add_at]; rw [Int.add_mul]
  zsmul_natCast_eq_nsmul n a := ext_at fun i h => by rw [zsm_at, nsm_at]
instance : _root_.LE (Vc N) := ⟨fun a b => sgn a.1 b.1 ≤ 0⟩
instance : _root_.LT (Vc N) := ⟨fun a b => sgn a.1 b.1 < 0⟩
theorem le_def (a b : Vc N) : a ≤ b ↔ sgn a.1 b.1 ≤ 0 := .rfl
theorem lt_def (a b : Vc N) : a < b ↔ sgn a.1 b.1 < 0 := .rfl
instance : DecidableLT (Vc N) := fun a b => inferInstanceAs (Decidable (sgn a.1 b.1 < 0))
instance : DecidableLE (Vc N) := fun a b => inferInstanceAs (Decidable (sgn a.1 b.1 ≤ 0))
theorem anti : ∀ xs ys : List Int, sgn ys xs = - sgn xs ys
  | [], [] => rfl
  | [], _ :: _ => rfl
  | _ :: _, [] => rfl
  | x :: xs, y :: ys => by
    have ih := anti xs ys
    simp only [sgn]
    by_cases h : x = y
    · subst h; simp [ih]
    · rw [if_neg h, if_neg (fun e => h e.symm)]
      by_cases h2 : x < y
      · rw [if_pos h2, if_neg (by omega)]; rfl
      · rw [if_neg h2, if_pos (by omega)]
instance : Std.IsLinearOrder (Vc N) where
  le_refl a := by rw [le_def, sgn_zero.mpr rfl]; exact Int.le_refl 0
  le_trans a b c h1 h2 := by
    rw [le_def] at h1 h2 ⊢
    by_cases e1 : sgn a.1 b.1 = 0
    · rw [sgn_zero.mp e1]; exact h2
    · by_cases e2 : sgn b.1 c.1 = 0
      · rw [← sgn_zero.mp e2]; exact h1
      · have := sgn_trans (xs := a.1) (ys := b.1) (zs := c.1) (by omega) (by omega)
        omega
  le_antisymm a b h1 h2 := by
    rw [le_def] at h1 h2
    rw [anti] at h2
    exact ext' (sgn_zero.mp (by omega))
  le_total a b := by rw [le_def, le_def, anti a.1 b.1]; omega
instance : Std.LawfulOrderLT (Vc N) where
  lt_iff a b := by rw [lt_def, le_def, le_def, anti a.1 b.1]; omega
instance : Lean.Grind.OrderedAdd (Vc N) where
  add_le_left_iff {a b} c := by
    rw [le_def, le_def, add_val, add_val, sgn_add (by rw [a.2, c.2]) (by rw [b.2, c.2])]
end Vc
end L2.DL
/-! MB: tables as lists of pairs. -/
namespace L2.AS
variable {κ α : Type} [DecidableEq κ]
abbrev Tb (κ α : Type) := List (κ × α)
def lk (c : κ) : Tb κ α → Option α
  | [] => none
  | (d, x) :: r => if d = c then some x else lk c r
def pt (l : Tb κ α) (c : κ) (x : α) : Tb κ α := if (l.any fun e => decide (e.1 = c)) = true then l.map (fun e => if e.1 = c then (e.1, x) else e) else l ++ [(c, x)]
def dp (l : Tb κ α) (c : κ) : Tb κ α := l.filter fun e => decide (e.1 ≠ c)
def ks (l : Tb κ α) : List κ := l.map (·.1)
theorem lk_none {c : κ} : ∀ {l : Tb κ α}, lk c l = none ↔ c ∉ ks l
  | [] => by simp [lk, ks]
  | (d, x) :: r => by
    have ih := lk_none (c := c) (l := r)
    simp only [lk, ks, List.map_cons, List.mem_cons, not_or] at ih ⊢
    split
    · rename_i h; simp [h]
    · rename_i h; rw [ih]; exact ⟨fun q => ⟨fun e => h e.symm, q⟩, fun q => q.2⟩
theorem lk_mem {c : κ} {x : α} : ∀ {l : Tb κ α}, lk c l = some x → (c, x) ∈ l
  | (d, y) :: r, h => by
    simp only [lk] at h
    split at h
    · rename_i e; cases h; subst e; exact .head _
    · exact .tail _ (lk_mem h)
theorem mem_ks {c : κ} {x : α} {l : Tb κ α} (h : (c, x) ∈ l) : c ∈ ks l := List.mem_map.mpr ⟨_, h, rfl⟩
theorem lk_of {c : κ} {x : α} : ∀ {l : Tb κ α}, (ks l).Nodup → (c, x) ∈ l → lk c l = some x
  | (d, y) :: r, n, h => by
    simp only [ks, List.map_cons, List.nodup_cons] at n
    simp only [lk]
    rcases List.mem_cons.mp h with e | e
    · cases e; rw [if_pos rfl]
    · rw [if_neg (fun z => n.1 (by rw [z]; exact mem_ks e))]; exact lk_of n.2 e
theorem lk_app {c : κ} {r : Tb κ α} : ∀ {l : Tb κ α}, lk c (l ++ r) = (lk c l).or (lk c r)
  | [] => rfl
  | (d, x) :: l => by
    simp only [List.cons_append, lk]
    split
    · rfl
    · exact lk_app
theorem lk_repl {c d : κ} {x : α} : ∀ {l : Tb κ α}, lk d (l.map fun e => if e.1 = c then (e.1, x) else e) = if d = c then (lk c l).map fun _ => x else lk d l
  | [] => by simp [lk]
  | (a, y) :: l => by
    have ih := lk_repl (c := c) (d := d) (x := x) (l := l)
    simp only [List.map_cons, lk] at ih ⊢
    by_cases h : a = c
    · subst h
      rw [if_pos rfl, if_pos rfl]
      simp only [lk]
      by_cases h2 : a = d
      · subst h2; simp
      · have h3 : ¬ d = a := fun e => h2 e.symm
        rw [if_neg h2, ih, if_neg h3, if_neg h3, if_neg h2]
    · rw [if_neg h, if_neg h]
      simp only [lk]
      by_cases h2 : a = d
      · subst h2; simp [h]
      · rw [if_neg h2, if_neg h2, ih]
theorem lk_some {c : κ} {l : Tb κ α} (h : c ∈ ks l) : ∃ x, lk c l = some x := by
  cases e : lk c l with
  | none => exact absurd h (lk_none.mp e)
  | some x => exact ⟨x, rfl⟩
theorem lk_pt {l : Tb κ α} {c d : κ} {x : α} : lk d (pt l c x) = if d = c then some x else lk d l := by
  unfold pt
  have hk : (l.any fun e => decide (e.1 = c)) = true ↔ c ∈ ks l := by simp [ks, List.any_eq_true]
  by_cases h : c ∈ ks l
  · obtain ⟨y, hy⟩ := lk_some h
    rw [if_pos (hk.mpr h), lk_repl, hy]
    rfl
  · rw [if_neg (fun z => h (hk.mp z)), lk_app]
    by_cases h2 : d = c
    · subst h2; rw [if_pos rfl, lk_none.mpr h]; simp [lk]
    · have h3 : ¬ c = d := fun e => h2 e.symm
      rw [if_neg h2]; simp [lk, h3]
theorem ks_repl {c : κ} {x : α} {l : Tb κ α} : ks (l.map fun e => if e.1 = c then (e.1, x) else e) = ks l := by
  simp only [ks, List.map_map]
  refine List.map_congr_left fun e _ => ?_
  simp only [Function.comp]
  split <;> rfl
theorem pt_nd {l : Tb κ α} {c : κ} {x : α} (n : (ks l).Nodup) : (ks (pt l c x)).Nodup := by
  unfold pt
  have hk : (l.any fun e => decide (e.1 = c)) = true ↔ c ∈ ks l := by simp [ks, List.any_eq_true]
  by_cases h : c ∈ ks l
  · rw [if_pos (hk.mpr h), ks_repl]; exact n
  · rw [if_neg (fun z => h (hk.mp z))]
    simp only [ks, List.map_append, List.map_cons, List.map_nil]
    exact List.nodup_append.mpr ⟨n, by simp, by simp; exact fun a b h1 e => h (mem_ks (by rw [← e]; exact h1))⟩
end L2.AS
/-! MC: codes given at least cost; what holds within. -/
namespace L2.AS
open _root_.Lean.Grind
variable {κ : Type} [DecidableEq κ] {V : Type} [IntModule V] [_root_.LE V] [_root_.LT V] [Std.IsLinearOrder V] [Std.LawfulOrderLT V] [OrderedAdd V] [DecidableLT V] [DecidableEq V]
structure Prb (κ V : Type) where
  n : Nat
  opt : Nat → List κ
  k : Nat → κ → V
structure AInv (P : Prb κ V) (m : Nat) (U : Nat → V) (W : κ → V) (ow : Tb κ Nat) : Prop where
  feas : ∀ p c, p < P.n → c ∈ P.opt p → U p + W c ≤ P.k p c
  neg : ∀ c, W c ≤ 0
  zero : ∀ c, lk c ow = none → W c = 0
  own : ∀ c p, lk c ow = some p → p < m ∧ c ∈ P.opt p ∧ U p + W c = P.k p c
  inj : ∀ c d p, lk c ow = some p → lk d ow = some p → c = d
  sur : ∀ p, p < m → ∃ c, lk c ow = some p
  nd : (ks ow).Nodup
  le : m ≤ P.n
def sl (P : Prb κ V) (U : Nat → V) (W : κ → V) (p : Nat) (c : κ) : V := P.k p c - U p - W c
structure LInv (R : Nat → κ → Prop) (lb : Tb κ Nat) (sl : Nat → κ → V) (ls : Tb κ (V × Nat)) : Prop where
  key : ∀ c q, lk c lb = none → R q c → lk c ls ≠ none
  val : ∀ c s q, lk c ls = some (s, q) → lk c lb = none ∧ R q c ∧ s = sl q c ∧ ∀ q', R q' c → s ≤ sl q' c
  nd : (ks ls).Nodup
def lookStep (s : κ → V) (lb : Tb κ Nat) (p : Nat) (ls : Tb κ (V × Nat)) (c : κ) : Tb κ (V × Nat) := if (lk c lb).isSome then ls else match lk c ls with
  | none => pt ls c (s c, p)
  | some (s0, _) => if s c < s0 then pt ls c (s c, p) else ls
def lookF (s : κ → V) (lb : Tb κ Nat) (p : Nat) (os : List κ) (ls : Tb κ (V × Nat)) : Tb κ (V × Nat) := os.foldl (lookStep s lb p) ls
theorem LInv.mono {R R' : Nat → κ → Prop} {lb : Tb κ Nat} {sl : Nat → κ → V} {ls : Tb κ (V × Nat)} (h : LInv R lb sl ls) (e : ∀ q c, R q c ↔ R' q c) : LInv R' lb sl ls :=
  ⟨fun c q a b => h.key c q a ((e q c).mpr b), fun c s q a => by obtain ⟨h1, h2, h3, h4⟩ := h.val c s q a; exact ⟨h1, (e q c).mp h2, h3, fun q' b => h4 q' ((e q' c).mpr b)⟩, h.nd⟩
theorem LInv.step {R : Nat → κ → Prop} {lb : Tb κ Nat} {sl : Nat → κ → V} {ls : Tb κ (V × Nat)} (h : LInv R lb sl ls) (p : Nat) (c : κ) : LInv (fun q d => R q d ∨ q = p ∧ d = c) lb sl (lookStep (sl p) lb p ls c) := by
  unfold lookStep
  cases hl : lk c lb with
  | some x =>
    simp only [Option.isSome_some, if_true]
    refine ⟨fun d q a b => ?_, fun d s q a => ?_, h.nd⟩
    · rcases b with b | ⟨_, rfl⟩
      · exact h.key d q a b
      · rw [hl] at a; cases a
    · obtain ⟨h1, h2, h3, h4⟩ := h.val d s q a
      refine ⟨h1, .inl h2, h3, fun q' b => ?_⟩
      rcases b with b | ⟨_, rfl⟩
      · exact h4 q' b
      · rw [hl] at h1; cases h1
  | none =>
    have put : (∀ s q, lk c ls = some (s, q) → sl p c ≤ s) → LInv (fun q d => R q d ∨ q = p ∧ d = c) lb sl (pt ls c (sl p c, p)) := fun hs => by
      refine ⟨fun d q a b => ?_, fun d s q a => ?_, pt_nd h.nd⟩
      · rw [lk_pt]
        by_cases e : d = c
        · rw [if_pos e]; simp
        · rw [if_neg e]
          rcases b with b | ⟨_, rfl⟩
          · exact h.key d q a b
          · exact absurd rfl e
      · rw [lk_pt] at a
        by_cases e : d = c
        · subst e
          rw [if_pos rfl] at a
          cases a
          refine ⟨hl, .inr ⟨rfl, rfl⟩, rfl, fun q' b => ?_⟩
          rcases b with b | ⟨rfl, _⟩
          · cases hd : lk d ls with
            | none => exact absurd hd (h.key d q' hl b)
            | some x =>
              obtain ⟨s, q⟩ := x
              have h1 := hs s q hd
              have h2 := (h.val d s q hd).2.2.2 q' b
              grind
          · grind
        · rw [if_neg e] at a
          obtain ⟨h1, h2, h3, h4⟩ := h.val d s q a
          refine ⟨h1, .inl h2, h3, fun q' b => ?_⟩
          rcases b with b | ⟨_, rfl⟩
          · exact h4 q' b
          · exact absurd rfl e
    simp only [Option.isSome_none]
    rw [if_neg (by simp)]
    split
    · rename_i e0
      exact put fun s q e => by rw [e0] at e; cases e
    · rename_i s0 q0 e0
      split
      · rename_i hlt
        exact put fun s q e => by rw [e0] at e; cases e; grind
      · rename_i hlt
        refine ⟨fun d q a b => ?_, fun d s q a => ?_, h.nd⟩
        · rcases b with b | ⟨_, rfl⟩
          · exact h.key d q a b
          · rw [e0]; simp
        · obtain ⟨h1, h2, h3, h4⟩ := h.val d s q a
          refine ⟨h1, .inl h2, h3, fun q' b => ?_⟩
          rcases b with b | ⟨rfl, rfl⟩
          · exact h4 q' b
          · rw [e0] at a; cases a; grind
theorem LInv.look {lb : Tb κ Nat} {sl : Nat → κ → V} (p : Nat) : ∀ (os : List κ) {R : Nat → κ → Prop} {ls : Tb κ (V × Nat)}, LInv R lb sl ls → LInv (fun q d => R q d ∨ q = p ∧ d ∈ os) lb sl (lookF (sl p) lb p os ls)
  | [], R, ls, h => h.mono fun q d => by simp
  | c :: os, R, ls, h => (LInv.look p os (h.step p c)).mono fun q d => by simp only [List.mem_cons]; constructor <;> rintro (h | h) <;> grind
structure SInv (P : Prb κ V) (m : Nat) (U : Nat → V) (W : κ → V) (ow : Tb κ Nat) (pl : List Nat) (lb : Tb κ Nat) : Prop where
  lt : m < P.n
  len : pl.length = lb.length + 1
  hd : pl[0]? = some m
  nd : pl.Nodup
  lbO : ∀ i c q, lb[i]? = some (c, q) → ∃ p, pl[i + 1]? = some p ∧ lk c ow = some p ∧ (∃ j, j ≤ i ∧ pl[j]? = some q) ∧ c ∈ P.opt q ∧ U q + W c = P.k q c
variable {P : Prb κ V} {m : Nat} {U : Nat → V} {W : κ → V} {ow : Tb κ Nat} {pl : List Nat} {lb : Tb κ Nat} {ls : Tb κ (V × Nat)}
theorem lk_get {c : κ} {q : Nat} {l : Tb κ Nat} (h : lk c l = some q) : ∃ i : Nat, l[i]? = some (c, q) := List.mem_iff_getElem?.mp (lk_mem h)
theorem SInv.lbN (S : SInv P m U W ow pl lb) {i j : Nat} {c : κ} {q r : Nat} (h : lb[i]? = some (c, q)) (h' : lb[j]? = some (c, r)) : i = j := by
  obtain ⟨p, e1, e2, _⟩ := S.lbO i c q h
  obtain ⟨p', e1', e2', _⟩ := S.lbO j c r h'
  rw [e2] at e2'; cases e2'
  have h1 := (List.getElem?_eq_some_iff.mp e1).1
  have h2 := (List.getElem?_eq_some_iff.mp e1').1
  have := (List.getElem?_inj h1 S.nd).mp (e1.trans e1'.symm)
  omega
end L2.AS
/-! MD: one more code given; crowds; what is best. -/
namespace L2.AS
open _root_.Lean.Grind
variable {κ : Type} [DecidableEq κ] {V : Type} [IntModule V] [_root_.LE V] [_root_.LT V] [Std.IsLinearOrder V] [Std.LawfulOrderLT V] [OrderedAdd V] [DecidableLT V] [DecidableEq V]
variable {P : Prb κ V} {m : Nat} {U : Nat → V} {W : κ → V} {ow : Tb κ Nat} {pl : List Nat} {lb : Tb κ Nat} {ls : Tb κ (V × Nat)}
/-! ### the change -/
structure CInv (P : Prb κ V) (m : Nat) (U : Nat → V) (W : κ → V) (Q : Nat → Prop) (pl : List Nat) (lb : Tb κ Nat) (i : Nat) (c : κ) (ow : Tb κ Nat) : Prop where
  at0 : ∃ p, pl[i]? = some p ∧ c ∈ P.opt p ∧ U p + W c = P.k p c
  nd : (ks ow).Nodup
  ent : ∀ d p, lk d ow = some p → d ≠ c → p < m ∧ d ∈ P.opt p ∧ U p + W d = P.k p d
  inj : ∀ d e p, lk d ow = some p → lk e ow = some p → d ≠ c → e ≠ c → d = e
  sur : ∀ p, p < m → Q p → ∃ d, d ≠ c ∧ lk d ow = some p
  lbs : ∀ j d q, j < i → lb[j]? = some (d, q) → lk d ow = pl[j + 1]? ∧ d ≠ c
  own : ∀ p, lk c ow = some p → ∀ j, j ≤ i → pl[j]? ≠ some p
theorem SInv.lk_lb (S : SInv P m U W ow pl lb) {i : Nat} {c : κ} {q : Nat} (h : lb[i]? = some (c, q)) : lk c lb = some q := by
  cases e : lk c lb with
  | none => exact absurd (mem_ks (List.mem_of_getElem? h)) (lk_none.mp e)
  | some r =>
    obtain ⟨j, hj⟩ := lk_get e
    have := S.lbN h hj
    subst this
    rw [h] at hj
    cases hj
    rfl
def codeOf (p : Nat) (ow : Tb κ Nat) : Option κ := (ow.find? fun e => decide (e.2 = p)).map (·.1)
theorem codeOf_some {p : Nat} {ow : Tb κ Nat} {c : κ} (n : (ks ow).Nodup) (h : codeOf p ow = some c) : lk c ow = some p := by
  unfold codeOf at h
  obtain ⟨⟨d, r⟩, e, rfl⟩ := Option.map_eq_some_iff.mp h
  have h1 := List.find?_some e
  have h2 := List.mem_of_find?_eq_some e
  simp at h1
  subst h1
  exact lk_of n h2
theorem codeOf_none {p : Nat} {ow : Tb κ Nat} {c : κ} (h : codeOf p ow = none) : lk c ow ≠ some p := fun e => by
  unfold codeOf at h
  rw [Option.map_eq_none_iff, List.find?_eq_none] at h
  have := h _ (lk_mem e)
  simp at this
variable {U0 : Nat → V} {W0 : κ → V} {ow0 : Tb κ Nat} {Q : Nat → Prop} {i : Nat} {c : κ}
/-- the last turn -/
theorem CInv.last (S : SInv P m U0 W0 ow0 pl lb) (I : CInv P m U W Q pl lb 0 c ow) : codeOf m ow = none := by
  cases e : codeOf m ow with
  | none => rfl
  | some d =>
    have h := codeOf_some I.nd e
    by_cases hd : d = c
    · subst hd; exact absurd S.hd (I.own m h 0 (Nat.le_refl _))
    · have := (I.ent d m h hd).1; omega
/-- one turn more -/
theorem CInv.turn (S : SInv P m U0 W0 ow0 pl lb) (hT : ∀ (i : Nat) (c : κ) (q : Nat), lb[i]? = some (c, q) → c ∈ P.opt q ∧ U q + W c = P.k q c) {p : Nat} (hp : pl[i + 1]? = some p) (I : CInv P m U W Q pl lb (i + 1) c ow) :
    ∃ d q j, lb[i]? = some (d, q) ∧ codeOf p ow = some d ∧ lk d lb = some q ∧ j ≤ i ∧ pl[j]? = some q ∧ CInv P m U W Q pl lb j d (pt ow c p) := by
  have hi := (List.getElem?_eq_some_iff.mp hp).1
  have hl := S.len
  obtain ⟨⟨d, q⟩, hb⟩ : ∃ x, lb[i]? = some x := ⟨lb[i], List.getElem?_eq_getElem (by omega)⟩
  obtain ⟨p', e1, _, ⟨j, e3, e4⟩, _⟩ := S.lbO i d q hb
  obtain ⟨o1, o2⟩ := I.lbs i d q (Nat.lt_succ_self _) hb
  rw [hp] at o1
  obtain ⟨p2, a1, a2, a3⟩ := I.at0
  rw [hp] at a1; cases a1
  have only : ∀ e, lk e ow = some p → e = d := fun e h => by
    by_cases he : e = c
    · subst he; exact absurd hp (I.own p h (i + 1) (Nat.le_refl _))
    · exact I.inj e d p h o1 he o2
  have hc : codeOf p ow = some d := by
    cases e : codeOf p ow with
    | none => exact absurd o1 (codeOf_none e)
    | some e' => rw [only e' (codeOf_some I.nd e)]
  have pne : ∀ (a b : Nat), pl[a]? = pl[b]? → a < pl.length → a = b := fun a b e h => (List.getElem?_inj h S.nd).mp e
  obtain ⟨t1, t2⟩ := hT i d q hb
  refine ⟨d, q, j, hb, hc, S.lk_lb hb, e3, e4, ⟨q, e4, t1, t2⟩, pt_nd I.nd, fun e p' h hd => ?_, fun e f p' h h' he hf => ?_, fun p' hp' hq => ?_, fun j' e r hj h => ?_, fun p' h j' hj' => ?_⟩
  · rw [lk_pt] at h
    by_cases he : e = c
    · subst he; rw [if_pos rfl] at h; cases h
      have : p < m := (I.ent d p o1 o2).1
      exact ⟨this, a2, a3⟩
    · rw [if_neg he] at h; exact I.ent e p' h he
  · rw [lk_pt] at h h'
    by_cases h1 : e = c
    · by_cases h2 : f = c
      · rw [h1, h2]
      · rw [if_pos h1] at h; rw [if_neg h2] at h'; cases h
        exact absurd (only f h') hf
    · by_cases h2 : f = c
      · rw [if_neg h1] at h; rw [if_pos h2] at h'; cases h'
        exact absurd (only e h) he
      · rw [if_neg h1] at h; rw [if_neg h2] at h'; exact I.inj e f p' h h' h1 h2
  · obtain ⟨e, he, h⟩ := I.sur p' hp' hq
    by_cases h1 : e = d
    · subst h1
      rw [o1] at h; cases h
      exact ⟨c, fun z => o2 z.symm, by rw [lk_pt, if_pos rfl]⟩
    · exact ⟨e, h1, by rw [lk_pt, if_neg he]; exact h⟩
  · obtain ⟨g1, g2⟩ := I.lbs j' e r (by omega) h
    refine ⟨by rw [lk_pt, if_neg g2]; exact g1, fun z => ?_⟩
    subst z
    have := S.lbN h hb
    omega
  · rw [lk_pt, if_neg o2, o1] at h
    cases h
    intro z
    have := pne j' (i + 1) (z.trans hp.symm) ((List.getElem?_eq_some_iff.mp z).1)
    omega
/-- all places up to m -/
structure Owns (P : Prb κ V) (m : Nat) (U : Nat → V) (W : κ → V) (Q : Nat → Prop) (ow : Tb κ Nat) : Prop where
  nd : (ks ow).Nodup
  own : ∀ d p, lk d ow = some p → p ≤ m ∧ d ∈ P.opt p ∧ U p + W d = P.k p d
  inj : ∀ d e p, lk d ow = some p → lk e ow = some p → d = e
  sur : ∀ p, p < m → Q p → ∃ d, lk d ow = some p
  surm : ∃ d, lk d ow = some m
theorem CInv.fin (S : SInv P m U0 W0 ow0 pl lb) (I : CInv P m U W Q pl lb 0 c ow) : Owns P m U W Q (pt ow c m) := by
  obtain ⟨p2, a1, a2, a3⟩ := I.at0
  rw [S.hd] at a1; cases a1
  have only : ∀ e, lk e ow = some m → e = c := fun e h => by
    by_cases hd : e = c
    · exact hd
    · have := (I.ent e m h hd).1; omega
  refine ⟨pt_nd I.nd, fun d p h => ?_, fun d e p h h' => ?_, fun p hp hq => ?_, c, by rw [lk_pt, if_pos rfl]⟩
  · rw [lk_pt] at h
    by_cases he : d = c
    · subst he; rw [if_pos rfl] at h; cases h; exact ⟨Nat.le_refl _, a2, a3⟩
    · rw [if_neg he] at h
      obtain ⟨g1, g2⟩ := I.ent d p h he
      exact ⟨by omega, g2⟩
  · rw [lk_pt] at h h'
    by_cases h1 : d = c
    · by_cases h2 : e = c
      · rw [h1, h2]
      · rw [if_pos h1] at h; rw [if_neg h2] at h'; cases h
        exact absurd (only e h') h2
    · by_cases h2 : e = c
      · rw [if_neg h1] at h; rw [if_pos h2] at h'; cases h'
        exact absurd (only d h) h1
      · rw [if_neg h1] at h; rw [if_neg h2] at h'; exact I.inj d e p h h' h1 h2
  · obtain ⟨d, h1, h2⟩ := I.sur p hp hq
    exact ⟨d, by rw [lk_pt, if_neg h1]; exact h2⟩
/-- the change goes through -/
theorem CInv.go (S : SInv P m U0 W0 ow0 pl lb) (hT : ∀ (i : Nat) (c : κ) (q : Nat), lb[i]? = some (c, q) → c ∈ P.opt q ∧ U q + W c = P.k q c) : ∀ (i : Nat) {c : κ} {ow : Tb κ Nat}, CInv P m U W Q pl lb i c ow → ∃ ow', Owns P m U W Q ow' := fun i => by
  induction i using Nat.strongRecOn with
  | ind i ih =>
    intro c ow I
    cases i with
    | zero => exact ⟨_, I.fin S⟩
    | succ i =>
      obtain ⟨p, hp, _⟩ := I.at0
      obtain ⟨d, q, j, _, _, _, hj, _, I'⟩ := CInv.turn S hT hp I
      exact ih j (by omega) I'
/-! ### crowds -/
structure Cd (P : Prb κ V) (Q : Nat → Prop) (M : Nat → κ) : Prop where
  opt : ∀ p, Q p → M p ∈ P.opt p
  inj : ∀ p q, Q p → Q q → M p = M q → p = q
theorem cd_of {ow : Tb κ Nat} {Q : Nat → Prop} (M0 : κ) (own : ∀ p d, Q p → lk d ow = some p → d ∈ P.opt p) (sur : ∀ p, Q p → ∃ d, lk d ow = some p) : ∃ M, Cd P Q M ∧ ∀ p, Q p → lk (M p) ow = some p := by
  classical
  refine ⟨fun p => if h : ∃ d, lk d ow = some p then Classical.choose h else M0, ⟨fun p hp => ?_, fun p q hp hq e => ?_⟩, fun p hp => ?_⟩
  · have h := sur p hp
    simp only [dif_pos h]
    exact own p _ hp (Classical.choose_spec h)
  · have h := sur p hp
    have h' := sur q hq
    simp only [dif_pos h, dif_pos h'] at e
    have s1 := Classical.choose_spec h
    have s2 := Classical.choose_spec h'
    rw [e, s2] at s1
    cases s1; rfl
  · have h := sur p hp
    simp only [dif_pos h]
    exact Classical.choose_spec h
theorem nd_le {α : Type} [DecidableEq α] : ∀ {l r : List α}, l.Nodup → (∀ x ∈ l, x ∈ r) → l.length ≤ r.length
  | [], r, _, _ => Nat.zero_le _
  | a :: l, r, n, h => by
    rw [List.nodup_cons] at n
    have ha := h a (.head _)
    have := nd_le (l := l) (r := r.erase a) n.2 fun x hx => (List.mem_erase_of_ne (fun e : x = a => n.1 (e ▸ hx))).mpr (h x (.tail _ hx))
    rw [List.length_erase_of_mem ha] at this
    have h0 : 0 < r.length := List.length_pos_of_mem ha
    simp only [List.length_cons]
    omega
theorem nd_map {α β : Type} {f : α → β} : ∀ {l : List α}, l.Nodup → (∀ a b, a ∈ l → b ∈ l → f a = f b → a = b) → (l.map f).Nodup
  | [], _, _ => by simp
  | a :: l, n, h => by
    rw [List.nodup_cons] at n
    rw [List.map_cons, List.nodup_cons]
    refine ⟨fun z => ?_, nd_map n.2 fun x y hx hy => h x y (.tail _ hx) (.tail _ hy)⟩
    obtain ⟨b, hb, e⟩ := List.mem_map.mp z
    exact n.1 (h a b (.head _) (.tail _ hb) e.symm ▸ hb)
structure Crowd (P : Prb κ V) (m : Nat) (pl : List Nat) : Prop where
  lt : m < P.n
  hd : m ∈ pl
  le : ∀ p ∈ pl, p ≤ m
  pre : ∃ M, Cd P (fun p => p < m) M
  no : ∀ Q : Nat → Prop, (∀ p ∈ pl, Q p) → ∀ M, ¬ Cd P Q M
  one : ∀ q ∈ pl, ∃ M, Cd P (fun p => p ≤ m ∧ p ≠ q) M
/-! ### what is best -/
def sm (f : Nat → V) : Nat → V
  | 0 => 0
  | n + 1 => sm f n + f n
theorem sm_le {f g : Nat → V} : ∀ {n : Nat}, (∀ p, p < n → f p ≤ g p) → sm f n ≤ sm g n
  | 0, _ => by unfold sm; grind
  | n + 1, h => by
    have h1 := sm_le (n := n) fun p hp => h p (by omega)
    have h2 := h n (by omega)
    unfold sm; grind
theorem sm_eq {f g : Nat → V} : ∀ {n : Nat}, (∀ p, p < n → f p = g p) → sm f n = sm g n
  | 0, _ => rfl
  | n + 1, h => by unfold sm; rw [sm_eq (n := n) fun p hp => h p (by omega), h n (by omega)]
end L2.AS
/-! FL: what is no more wanted is let go at a def's end; walks and tables worked out. -/
namespace L2.DL
open PySem PySem.Spec PyProof.Rows
/-! ### less cells -/
def Sub (C0 C : Cs) : Prop := ∀ b c, C0 b = some c → C b = some c
theorem Sub.refl (C : Cs) : Sub C C := fun _ _ h => h
theorem Sub.none {C0 C : Cs} (h : Sub C0 C) {b : Addr} (e : C b = none) : C0 b = none := by
  cases q : C0 b with
  | none => rfl
  | some c => rw [h b c q] at e; cases e
/-! ### worked out -/
section
variable {E : EX} {env : DL.Env} {C : Cs} {d e x : D} {a Cl : Addr} {f m : Str} {fs : List (Str × D)} {i j : Nat} {c : Cont} {xs ys : List D} {kvs : List (DK × D)} {k : DK}
variable {Q : D → DL.Env → Cs → Prop} {QL : List D → DL.Env → Cs → Prop} {QB : Bool → DL.Env → Cs → Prop} {QC : Cont → DL.Env → Cs → Prop} {R : D → Prop} {RL : List D → Prop} {mo mi me mx : EM D} {mf : EM Cont} {ms : EM (List D)} {nx bk ct : DL.Env → Cs → Prop} {rt : Ret → Cs → Prop} {P : DL.Env → Cs → Prop} {g : GM} {mb : SM} {wm : WM} {spv : DSpV}
/-- what is walked -/
def Dw (w : WK) (Q : List D → (Cs → Prop) → (Cs → Cs) → DL.Env → Cs → Prop) (env : DL.Env) (C : Cs) (d : D) : Prop := match d with
  | .dct kvs => Q (walkD w kvs) (fun _ => True) id env C
  | .cell a => match C a with
    | some (.dct kvs) => ∀ o ws, Q (walkD w kvs) (fun C2 => C2 a = some (.lck o ws kvs)) (fun C2 => cput C2 a (.dct kvs)) env (cput C a (.lck o ws kvs))
    | _ => False
  | _ => False
variable {QW : List D → (Cs → Prop) → (Cs → Cs) → DL.Env → Cs → Prop}
theorem i_dw {w : WK} (q : mo E env C fun d env1 C1 => Dw w QW env1 C1 d) : mDw w mo E env C QW := q
theorem w_dct {w : WK} (q : QW (walkD w kvs) (fun _ => True) id env C) : Dw w QW env C (.dct kvs) := q
theorem i_lift {mi : EM (List D)} (q : mi E env C fun ds env1 C1 => QW ds (fun _ => True) id env1 C1) : mLift mi E env C QW := q
def Dl (Q : List D → (Cs → Prop) → (Cs → Cs) → DL.Env → Cs → Prop) (env : DL.Env) (C : Cs) (d : D) : Prop := match d with
  | .cell a => match C a with
    | some (.lst xs) => Q xs (fun C2 => C2 a = some (.lst xs)) id env C
    | _ => False
  | d => match iterD d with
    | some ds => Q ds (fun _ => True) id env C
    | none => False
theorem i_dl (q : mo E env C fun d env1 C1 => Dl QW env1 C1 d) : mDl mo E env C QW := q
theorem l_lst (q : QW xs (fun _ => True) id env C) : Dl QW env C (.lst xs) := q
theorem l_tup (q : QW xs (fun _ => True) id env C) : Dl QW env C (.tup xs) := q
theorem j_forX (q : wm E env C fun ds G uC env1 C1 => forG G uC g mb ⟨nx, rt, bk, ct⟩ ds env1 C1) : sForX g wm mb E ⟨nx, rt, bk, ct⟩ env C := q
theorem i_compX {vs : List Nat} {mc : EM Bool} (q : wm E env C fun ds G uC env1 C1 => noOwn env1 vs = true ∧ compX G uC vs g mc me putL (fun acc C2 => QC (.lst acc) env1 C2) ds [] (wipeE env1 vs) C1) : mCompX vs g wm mc me E env C QC := q
theorem i_compD {vs : List Nat} {mc : EM Bool} {mk mv : EM D} (q : wm E env C fun ds G uC env1 C1 => noOwn env1 vs = true ∧ compX G uC vs g mc (mKV mk mv) putKV (fun acc C2 => QC (.dct acc) env1 C2) ds [] (wipeE env1 vs) C1) : mCompD vs g wm mc mk mv E env C QC := q
theorem i_kv {QK : D × D → DL.Env → Cs → Prop} {mk mv : EM D} (q : mk E env C fun k env1 C1 => env1 = env ∧ mv E env1 C1 fun v env2 C2 => QK (k, v) env2 C2) : mKV mk mv E env C QK := q
theorem p_l {acc : List D} {PP : List D → Prop} (q : PP (acc ++ [d])) : putL acc d PP := q
theorem i_dget (q : mo E env C fun d env1 C1 => (∃ kvs0, dr C1 d = .dct kvs0) ∧ me E env1 C1 fun k env2 C2 => ∃ kvs, dr C2 d = .dct kvs ∧ GetR kvs k fun x => Q x env2 C2) : mDGet mo me E env C Q := q
theorem r_none (q : R .non) : GetR kvs .non R := q
theorem r_str {t : Txt} (q : R ((look (.inr t) kvs).getD .non)) : GetR kvs (.str t) R := ⟨_, rfl, q⟩
theorem i_dpop (q : mo E env C fun d env1 C1 => ∃ a, d = .cell a ∧ (∃ kvs0, C1 a = some (.dct kvs0)) ∧ me E env1 C1 fun k env2 C2 => ∃ kvs key x, C2 a = some (.dct kvs) ∧ dkOf k = some key ∧ look key kvs = some x ∧ Q x env2 (cput C2 a (.dct (dropD kvs key)))) : mDPop mo me E env C Q := q
theorem i_tab {α : Type} {gg : List (DK × D) → (α → Prop) → Prop} {QA : α → DL.Env → Cs → Prop} (q : mo E env C fun d env1 C1 => ∃ kvs, dr C1 d = .dct kvs ∧ gg kvs fun x => QA x env1 C1) : mTab mo gg E env C QA := q
theorem j_augS (q : mo E env C fun o env1 C1 => mi E env1 C1 fun i env2 C2 => GetC o i C2 fun x => me E env2 C2 fun y env3 C3 => isOb Cl (dr C3 x) ∧ isOb Cl (dr C3 y) ∧ spv [x, y] [] C3 (fun r C4 => PutC o i r.tree nx env3 C4) fun xx C4 => E xx env3 C4) : sAugS Cl spv mo mi me E ⟨nx, rt, bk, ct⟩ env C := q
theorem j_appC (q : mo E env C fun d0 env0 C0 => ∃ a xs0, d0 = .cell a ∧ C0 a = some (.lst xs0) ∧ me E env0 C0 fun d env1 C1 => ∃ xs, C1 a = some (.lst xs) ∧ xs.length < sizeLine ∧ nx env1 (cput C1 a (.lst (xs ++ [d])))) : sAppC mo me E ⟨nx, rt, bk, ct⟩ env C := q
theorem i_truO (q : mo E env C fun d env1 C1 => isOb Cl (dr C1 d) ∧ spv [d] [] C1 (fun r C2 => ∃ b, r = .shr (.bl b) ∧ QB b env1 C2) fun _ _ => False) : mTruO Cl spv mo E env C QB := q
theorem j_clrO (h : env[i]? = some (.own (.dct kvs))) (q : nx (env.set i (.own (.dct []))) C) : sClrO i E ⟨nx, rt, bk, ct⟩ env C := ⟨kvs, h, q⟩
end
section
variable {env : DL.Env} {C : Cs} {d : D} {r : List D} {P : DL.Env → Cs → Prop} {g : GM} {ms : GMs}
theorem j_gsG (q : g d (fun env1 C1 => ms r P env1 C1) env C) : gsCons g ms (d :: r) P env C := q
end
theorem i_compD2 {vs vb : List Nat} {ga gb : GM} {mi : EM (List D)} {ma mb : EM Bool} {mj : EM (List D)} {mk mv : EM D} {E : EX} {env : DL.Env} {C : Cs} {QC : Cont → DL.Env → Cs → Prop} (q : mi E env C fun ds env1 C1 => noOwn env1 vs = true ∧ compY vs vb ga ma mj gb mb (mKV mk mv) putKV (fun acc C2 => QC (.dct acc) env1 C2) ds [] (wipeE env1 vs) C1) : mCompD2 vs vb ga mi ma mj gb mb mk mv E env C QC := q
/-! ### tables by texts -/
open L2.AS
def tD {α : Type} (f : α → D) (l : Tb Txt α) : List (DK × D) := l.map fun e => (.inr e.1, f e.2)
end L2.DL
/-! ME: the assigner's and the search's cells. -/
namespace L2.DL
open PySem PySem.Spec PyProof.Rows L2.AS
/-! ### cells that are written, others stay -/
def Fx (L : List Addr) (C C' : Cs) : Prop := ∀ b c, b ∉ L → C b = some c → C' b = some c
theorem Fx.refl {L : List Addr} {C : Cs} : Fx L C C := fun _ _ _ h => h
theorem Fx.trans {L : List Addr} {C C1 C2 : Cs} (h : Fx L C C1) (h' : Fx L C1 C2) : Fx L C C2 := fun b c hb e => h' b c hb (h b c hb e)
theorem Fx.mono {L L' : List Addr} {C C' : Cs} (h : Fx L C C') (s : ∀ a ∈ L, a ∈ L') : Fx L' C C' := fun b c hb e => h b c (fun z => hb (s b z)) e
theorem Fx.put {L : List Addr} {C C' : Cs} {a : Addr} {x : Cell} (h : Fx L C C') (ha : a ∈ L) : Fx L C (cput C' a x) := fun b c hb e => by
  rw [cput_ne (fun z : b = a => hb (by rw [z]; exact ha))]; exact h b c hb e
theorem Fx.sub {C C' : Cs} (h : Fx [] C C') : Sub C C' := fun b c e => h b c (by simp) e
/-! ### the problem of a situation -/
abbrev VS (S : List Cl) := Vc (2 * S.length + 1)
def kst (S : List Cl) (p : Nat) (t : Txt) : VS S := match S[p]? with
  | some c => (match numCl c t with
    | some j => ⟨costRow S.length p c t j, costRow_len _ _ _ _ _⟩
    | none => 0)
  | none => 0
def opS (S : List Cl) (p : Nat) : List Txt := match S[p]? with
  | some c => c.opts
  | none => []
abbrev prb (S : List Cl) : Prb Txt (VS S) := ⟨S.length, opS S, kst S⟩
theorem kst_val {S : List Cl} {p : Nat} {t : Txt} {c : Cl} {j : Nat} (h : S[p]? = some c) (h' : numCl c t = some j) : (kst S p t).1 = costRow S.length p c t j := by
  unfold kst; rw [h]; dsimp only; rw [h']
theorem opS_some {S : List Cl} {p : Nat} {c : Cl} (h : S[p]? = some c) : opS S p = c.opts := by unfold opS; rw [h]
abbrev cV (cC : Addr) {N : Nat} (x : Vc N) : D := costI cC x.1
abbrev natD (p : Nat) : D := .int p
def allC (S : List Cl) : List Txt := S.flatMap (·.opts)
/-! ### the cells -/
structure Adr where
  (a o nc cc s pc bc lc : Addr)
structure ASt (cA cC : Addr) (S : List Cl) (A : Adr) (u : List (VS S)) (v : Tb Txt (VS S)) (ow : Tb Txt Nat) (C : Cs) : Prop where
  ob : C A.a = some (.obj cA [("rows", sitD S), ("size", .int ((2 * S.length + 1 : Nat))), ("owners", .cell A.o), ("name_costs", .cell A.nc), ("code_costs", .cell A.cc)])
  ow : C A.o = some (.dct (tD natD ow))
  nc : C A.nc = some (.lst (u.map (cV cC)))
  cc : C A.cc = some (.dct (tD (cV cC) v))
  nd : [A.a, A.o, A.nc, A.cc].Nodup
  ul : u.length = S.length
  vk : ∀ c ∈ allC S, ∃ y, lk c v = some y
  vn : (ks v).Nodup
  va : ∀ c, lk c v ≠ none → c ∈ allC S
/-! ### the options looked at -/
/-! ### the first option that costs nothing more, the code of a place -/
def optD : Option Txt → D
  | none => .non
  | some t => .str t
def rch {N : Nat} (ls : Tb Txt (Vc N × Nat)) : Option Txt := (ls.find? fun e => decide (e.2.1 = 0)).map (·.1)
/-! ### a crowd's names -/
def crowdT : Nat → List Cl → List Nat → List Txt
  | _, [], _ => []
  | i, c :: r, pl => if i ∈ pl then c.nm :: crowdT (i + 1) r pl else crowdT (i + 1) r pl
/-! ### all that holds within a search -/
structure AEq (A A' : Adr) : Prop where
  a : A'.a = A.a
  o : A'.o = A.o
  nc : A'.nc = A.nc
  cc : A'.cc = A.cc
theorem AEq.symm {A A' : Adr} (e : AEq A A') : AEq A' A := ⟨e.a.symm, e.o.symm, e.nc.symm, e.cc.symm⟩
theorem AEq.trans {A A' A'' : Adr} (e : AEq A A') (e' : AEq A' A'') : AEq A A'' := ⟨e'.a.trans e.a, e'.o.trans e.o, e'.nc.trans e.nc, e'.cc.trans e.cc⟩
theorem ASt.no {cA cC : Addr} {S : List Cl} {A : Adr} {u : List (VS S)} {v : Tb Txt (VS S)} {ow : Tb Txt Nat} {C : Cs} (h : ASt cA cC S A u v ow C) {b : Addr} (hb : C b = none) : b ∉ [A.a, A.o, A.nc, A.cc] := fun z => by
  simp only [List.mem_cons, List.not_mem_nil, or_false] at z
  rcases z with rfl | rfl | rfl | rfl
  · rw [h.ob] at hb; cases hb
  · rw [h.ow] at hb; cases hb
  · rw [h.nc] at hb; cases hb
  · rw [h.cc] at hb; cases hb
theorem Fx.none {L : List Addr} {C C' : Cs} (f : Fx L C C') {b : Addr} (hL : b ∉ L) (h : C' b = none) : C b = none := by
  cases e : C b with
  | none => rfl
  | some c => rw [f b c hL e] at h; cases h
instance : Inhabited Txt := ⟨[]⟩
theorem sgn_nonneg : ∀ {xs : List Int}, (∀ x ∈ xs, 0 ≤ x) → sgn (List.replicate xs.length 0) xs ≤ 0
  | [], _ => by simp [sgn]
  | x :: xs, h => by
    have h1 := h x (.head _)
    have ih := sgn_nonneg (xs := xs) fun y hy => h y (.tail _ hy)
    rw [List.length_cons, List.replicate_succ]
    unfold sgn
    split
    · exact ih
    · rw [if_pos (by omega)]; omega
theorem costRow_nonneg {n p : Nat} {c : Cl} {t : Txt} {j : Nat} : ∀ x ∈ costRow n p c t j, 0 ≤ x := fun x hx => by
  unfold costRow at hx
  have hc : 0 ≤ chgI c t := by unfold chgI; split <;> omega
  rcases List.mem_or_eq_of_mem_set hx with hx | rfl
  · rcases List.mem_or_eq_of_mem_set hx with hx | rfl
    · rcases List.mem_or_eq_of_mem_set hx with hx | rfl
      · have := List.eq_of_mem_replicate hx; omega
      · exact hc
    · exact hc
  · omega
theorem kst_nonneg (S : List Cl) (p : Nat) (t : Txt) : 0 ≤ kst S p t := by
  unfold kst
  split
  · split
    · rename_i c _ _ j _
      show sgn (List.replicate (2 * S.length + 1) 0) (costRow S.length p c t j) ≤ 0
      have := sgn_nonneg (costRow_nonneg (n := S.length) (p := p) (c := c) (t := t) (j := j))
      rwa [costRow_len] at this
    · exact Std.le_refl _
  · exact Std.le_refl _
/-! ### the coding -/
/-- a coding of a situation: the codes in order -/
structure Cod (S : List Cl) (M : List Txt) : Prop where
  len : M.length = S.length
  opt : ∀ p c, M[p]? = some c → c ∈ opS S p
  nd : M.Nodup
def rowSum (S : List Cl) (M : List Txt) : VS S := sm (fun p => kst S p (M.getD p [])) S.length
structure Best (S : List Cl) (M : List Txt) : Prop where
  cod : Cod S M
  best : ∀ M', Cod S M' → rowSum S M ≤ rowSum S M'
theorem Cod.cd {S : List Cl} {M : List Txt} (h : Cod S M) : Cd (prb S) (fun p => p < S.length) (fun p => M.getD p []) where
  opt := fun p hp => by
    have hp' : p < M.length := by rw [h.len]; exact hp
    rw [List.getD_eq_getElem?_getD, List.getElem?_eq_getElem hp']
    exact h.opt p _ (List.getElem?_eq_getElem hp')
  inj := fun p q hp hq e => by
    have hp' : p < M.length := by rw [h.len]; exact hp
    have hq' : q < M.length := by rw [h.len]; exact hq
    rw [List.getD_eq_getElem?_getD, List.getD_eq_getElem?_getD, List.getElem?_eq_getElem hp', List.getElem?_eq_getElem hq'] at e
    exact (List.getElem?_inj hp' h.nd).mp (by rw [List.getElem?_eq_getElem hp', List.getElem?_eq_getElem hq']; exact congrArg some e)
theorem Cd.cod {S : List Cl} {M : Nat → Txt} (h : Cd (prb S) (fun p => p < S.length) M) : Cod S ((List.range S.length).map M) where
  len := by simp
  opt := fun p c e => by
    rw [List.getElem?_map] at e
    obtain ⟨q, e1, rfl⟩ := Option.map_eq_some_iff.mp e
    have hp : p < S.length := by have := (List.getElem?_eq_some_iff.mp e1).1; simpa using this
    rw [List.getElem?_range hp] at e1
    cases e1
    exact h.opt p hp
  nd := nd_map List.nodup_range fun a b ha hb e => h.inj a b (by simpa using ha) (by simpa using hb) e
end L2.DL
/-! MF: the row of a coding, the only best one, all codings. -/
namespace L2.DL
open PySem PySem.Spec PyProof.Rows L2.AS
/-! ### sums of numbers -/
def isum (g : Nat → Int) : Nat → Int
  | 0 => 0
  | n + 1 => isum g n + g n
theorem isum_eq {f g : Nat → Int} : ∀ {n : Nat}, (∀ p, p < n → f p = g p) → isum f n = isum g n
  | 0, _ => rfl
  | n + 1, h => by unfold isum; rw [isum_eq (n := n) fun p hp => h p (by omega), h n (by omega)]
theorem isum_cons {g : Nat → Int} : ∀ {n : Nat}, isum g (n + 1) = g 0 + isum (fun p => g (p + 1)) n
  | 0 => by simp [isum]
  | n + 1 => by
    have := isum_cons (g := g) (n := n)
    unfold isum at this ⊢
    unfold isum
    omega
theorem isum_one {x : Nat → Int} {q : Nat} : ∀ {n : Nat}, isum (fun p => if p = q then x p else 0) n = if q < n then x q else 0
  | 0 => by simp [isum]
  | n + 1 => by
    unfold isum
    rw [isum_one (n := n)]
    by_cases h : n = q
    · subst h; simp
    · rw [if_neg h]
      by_cases h2 : q < n
      · rw [if_pos h2, if_pos (by omega)]; omega
      · rw [if_neg h2, if_neg (by omega)]; omega
theorem sum_isum : ∀ l : List Int, l.sum = isum (fun p => l.getD p 0) l.length
  | [] => rfl
  | x :: l => by
    rw [List.sum_cons, List.length_cons, isum_cons, sum_isum l]
    simp
theorem sm_at {N : Nat} {f : Nat → Vc N} {i : Nat} {h : i < N} : ∀ {n : Nat}, (sm f n).at' i h = isum (fun p => (f p).at' i h) n
  | 0 => Vc.zero_at i h
  | n + 1 => by
    show (sm f n + f n).at' i h = _
    rw [Vc.add_at, sm_at]; rfl
/-! ### the row -/
def chs (S : List Cl) (M : List Txt) : List Int := List.zipWith chgI S M
def nmb (c : Cl) (t : Txt) : Int := (((numCl c t).getD 0 : Nat) : Int)
def nms (S : List Cl) (M : List Txt) : List Int := List.zipWith nmb S M
def rowL (S : List Cl) (M : List Txt) : List Int := (chs S M).sum :: (chs S M ++ nms S M)
theorem costRow_at {n p : Nat} {c : Cl} {t : Txt} {j i : Nat} (h : i < (costRow n p c t j).length) : (costRow n p c t j)[i] = if i = n + p + 1 then (j : Int) else if i = p + 1 then chgI c t else if i = 0 then chgI c t else 0 := by
  simp only [costRow, List.getElem_set, List.getElem_replicate]
  by_cases h1 : n + p + 1 = i
  · rw [if_pos h1, if_pos h1.symm]
  · rw [if_neg h1, if_neg (fun e : i = n + p + 1 => h1 e.symm)]
    by_cases h2 : p + 1 = i
    · rw [if_pos h2, if_pos h2.symm]
    · rw [if_neg h2, if_neg (fun e : i = p + 1 => h2 e.symm)]
      by_cases h3 : 0 = i
      · rw [if_pos h3, if_pos h3.symm]
      · rw [if_neg h3, if_neg (fun e : i = 0 => h3 e.symm)]
theorem kst_at {S : List Cl} {p : Nat} {t : Txt} {c : Cl} (hc : S[p]? = some c) (ht : t ∈ c.opts) {i : Nat} (h : i < 2 * S.length + 1) : (kst S p t).at' i h = if i = S.length + p + 1 then nmb c t else if i = p + 1 then chgI c t else if i = 0 then chgI c t else 0 := by
  obtain ⟨j, hj⟩ := numCl_some ht
  have e := kst_val hc hj
  unfold Vc.at'
  have : ∀ (l : List Int) (hl : i < l.length), l = costRow S.length p c t j → l[i] = if i = S.length + p + 1 then nmb c t else if i = p + 1 then chgI c t else if i = 0 then chgI c t else 0 := fun l hl e => by
    subst e
    rw [costRow_at hl]
    unfold nmb
    rw [hj]; rfl
  exact this _ _ e
theorem rowSum_val {S : List Cl} {M : List Txt} (h : Cod S M) : (rowSum S M).1 = rowL S M := by
  have hl := h.len
  have l1 : (chs S M).length = S.length := by unfold chs; rw [List.length_zipWith]; omega
  have l2 : (nms S M).length = S.length := by unfold nms; rw [List.length_zipWith]; omega
  refine List.ext_getElem (by rw [(rowSum S M).2]; unfold rowL; rw [List.length_cons, List.length_append]; omega) fun i h1 h2 => ?_
  have hi : i < 2 * S.length + 1 := by rw [(rowSum S M).2] at h1; exact h1
  show (rowSum S M).at' i hi = _
  unfold rowSum
  rw [sm_at]
  have gm : ∀ p, p < S.length → ∃ c t, S[p]? = some c ∧ M[p]? = some t ∧ M.getD p [] = t ∧ t ∈ c.opts := fun p hp => by
    have hp' : p < M.length := by omega
    refine ⟨S[p], M[p], List.getElem?_eq_getElem hp, List.getElem?_eq_getElem hp', by simp [List.getD_eq_getElem?_getD, hp'], ?_⟩
    have := h.opt p _ (List.getElem?_eq_getElem hp')
    rwa [opS_some (List.getElem?_eq_getElem hp)] at this
  have gc : ∀ p, p < S.length → ∀ c t, S[p]? = some c → M[p]? = some t → (chs S M).getD p 0 = chgI c t ∧ (nms S M).getD p 0 = nmb c t := fun p hp c t e1 e2 => by
    unfold chs nms
    simp [List.getD_eq_getElem?_getD, List.getElem?_zipWith, e1, e2]
  have main : ∀ p, p < S.length → (kst S p (M.getD p [])).at' i hi = if i = S.length + p + 1 then (nms S M).getD p 0 else if i = p + 1 then (chs S M).getD p 0 else if i = 0 then (chs S M).getD p 0 else 0 := fun p hp => by
    obtain ⟨c, t, e1, e2, e3, e4⟩ := gm p hp
    obtain ⟨g1, g2⟩ := gc p hp c t e1 e2
    rw [e3, kst_at e1 e4, g1, g2]
  rw [isum_eq main]
  suffices key : ∀ (l : List Int) (hl : i < l.length), l = (chs S M).sum :: (chs S M ++ nms S M) → isum (fun p => if i = S.length + p + 1 then (nms S M).getD p 0 else if i = p + 1 then (chs S M).getD p 0 else if i = 0 then (chs S M).getD p 0 else 0) S.length = l[i] from key _ h2 rfl
  clear h1 h2 main
  rintro l hl' rfl
  cases i with
  | zero =>
    rw [List.getElem_cons_zero, sum_isum, l1]
    refine isum_eq fun p hp => ?_
    rw [if_neg (by omega), if_neg (by omega), if_pos rfl]
  | succ i =>
    rw [List.getElem_cons_succ]
    by_cases hi2 : i < S.length
    · rw [List.getElem_append_left (by omega)]
      have e : isum (fun p => if i + 1 = S.length + p + 1 then (nms S M).getD p 0 else if i + 1 = p + 1 then (chs S M).getD p 0 else if i + 1 = 0 then (chs S M).getD p 0 else 0) S.length = isum (fun p => if p = i then (chs S M).getD p 0 else 0) S.length := isum_eq fun p hp => by
        rw [if_neg (by omega)]
        by_cases e : p = i
        · rw [if_pos (by omega), if_pos e]
        · rw [if_neg (by omega), if_neg (by omega), if_neg e]
      rw [e, isum_one, if_pos hi2]
      simp [List.getD_eq_getElem?_getD, l1, hi2]
    · rw [List.getElem_append_right (by omega)]
      have e : isum (fun p => if i + 1 = S.length + p + 1 then (nms S M).getD p 0 else if i + 1 = p + 1 then (chs S M).getD p 0 else if i + 1 = 0 then (chs S M).getD p 0 else 0) S.length = isum (fun p => if p = i - S.length then (nms S M).getD p 0 else 0) S.length := isum_eq fun p hp => by
        by_cases e : p = i - S.length
        · rw [if_pos (by omega), if_pos e]
        · rw [if_neg (by omega), if_neg (by omega), if_neg (by omega), if_neg e]
      rw [e, isum_one, if_pos (by omega)]
      have hq : i - S.length < (nms S M).length := by omega
      simp [List.getD_eq_getElem?_getD, l1, hq]
/-! ### the only best one -/
theorem numCl_inj {c : Cl} (h2 : c.held.length ≤ 2) {t t' : Txt} {j : Nat} (h : numCl c t = some j) (h' : numCl c t' = some j) : t = t' := by
  unfold numCl at h h'
  by_cases e : t ∈ c.held
  · rw [if_pos e] at h
    by_cases e' : t' ∈ c.held
    · rw [if_pos e'] at h'
      have a := (fstIx_get h).1
      have b := (fstIx_get h').1
      rw [a] at b; exact Option.some.inj b
    · rw [if_neg e'] at h'
      obtain ⟨i, _, rfl⟩ := Option.map_eq_some_iff.mp h'
      have := fstIx_lt h
      omega
  · rw [if_neg e] at h
    obtain ⟨i, hi, rfl⟩ := Option.map_eq_some_iff.mp h
    by_cases e' : t' ∈ c.held
    · rw [if_pos e'] at h'
      have := fstIx_lt h'
      omega
    · rw [if_neg e'] at h'
      obtain ⟨k, hk, e2⟩ := Option.map_eq_some_iff.mp h'
      have : k = i := by omega
      subst this
      have a := (fstIx_get hi).1
      have b := (fstIx_get hk).1
      rw [a] at b; exact Option.some.inj b
theorem Best.only {S : List Cl} (hh : ∀ c ∈ S, c.held.length ≤ 2) {M M' : List Txt} (h : Best S M) (h' : Best S M') : M = M' := by
  have e : rowSum S M = rowSum S M' := by
    have a := h.best M' h'.cod
    have b := h'.best M h.cod
    grind
  have e2 : rowL S M = rowL S M' := by rw [← rowSum_val h.cod, ← rowSum_val h'.cod, e]
  unfold rowL at e2
  have l1 : (chs S M).length = S.length := by unfold chs; rw [List.length_zipWith, h.cod.len]; omega
  have l1' : (chs S M').length = S.length := by unfold chs; rw [List.length_zipWith, h'.cod.len]; omega
  have e3 : nms S M = nms S M' := (List.append_inj (List.cons.inj e2).2 (by rw [l1, l1'])).2
  refine List.ext_getElem (by rw [h.cod.len, h'.cod.len]) fun p h1 h2 => ?_
  have hp : p < S.length := by rw [h.cod.len] at h1; exact h1
  have o1 := h.cod.opt p _ (List.getElem?_eq_getElem h1)
  have o2 := h'.cod.opt p _ (List.getElem?_eq_getElem h2)
  rw [opS_some (List.getElem?_eq_getElem hp)] at o1 o2
  obtain ⟨j, hj⟩ := numCl_some o1
  obtain ⟨k, hk⟩ := numCl_some o2
  have e4 : (nms S M)[p]? = (nms S M')[p]? := by rw [e3]
  unfold nms at e4
  rw [List.getElem?_zipWith, List.getElem?_zipWith, List.getElem?_eq_getElem hp, List.getElem?_eq_getElem h1, List.getElem?_eq_getElem h2] at e4
  have e5 : nmb S[p] M[p] = nmb S[p] M'[p] := Option.some.inj e4
  unfold nmb at e5
  rw [hj, hk] at e5
  have e6 : j = k := by simp at e5; omega
  subst e6
  exact numCl_inj (hh _ (List.getElem_mem hp)) hj hk
/-! ### all codings -/
/-! ### tables of texts -/
theorem j_tryO {yes no : List Addr} {mb ms : SM} {E : EX} {dE : DEnds} {env : DL.Env} {C : Cs} (q : mb (CatchO yes no ms E dE) dE env C) : sTryO yes no mb ms E dE env C := q
end L2.DL
/-! FM: a written tuple of texts tells its object. -/
namespace L2.DL
open PySem PySem.Spec PyProof.Rows
section
variable {X : Cx} {es : List Expr} {pos : Pos}
def TupX (ds : List D) (R : D → Prop) : Prop := match txtsOf ds with
  | some ts => R (.tupT ts)
  | none => R (.tup ds)
def mTupX (ms : EM (List D)) : EM D := fun E env C Q => ms E env C fun ds env1 C1 => ds.length ≤ sizeLine ∧ TupX ds fun x => Q x env1 C1
end
section
variable {E : EX} {env : DL.Env} {C : Cs} {Q : D → DL.Env → Cs → Prop} {ms : EM (List D)} {R : D → Prop}
theorem i_tupX (q : ms E env C fun ds env1 C1 => ds.length ≤ sizeLine ∧ TupX ds fun x => Q x env1 C1) : mTupX ms E env C Q := q
theorem x_txs {ts : List Txt} (q : R (.tupT ts)) : TupX (txs ts) R := by unfold TupX; rw [txtsOf_txs]; exact q
theorem x_nil (q : R (.tupT [])) : TupX [] R := q
theorem x_one {t : Txt} (q : R (.tupT [t])) : TupX [.str t] R := q
end
end L2.DL
namespace L2.DL
open PySem PySem.Spec PyProof.Rows L2.AS
/-- a list comprehension by an invariant -/
theorem compL_inv {vs : List Nat} {g : GM} {mc : EM Bool} {me : EM D} {QQ : Cont → Cs → Prop} {ds : List D} {env : DL.Env} {C : Cs} (I : Nat → List D → Cs → Prop) {acc : List D} (h0 : I 0 acc C)
    (step : ∀ (k : Nat) (d : D) (acc : List D) (C : Cs) (nxt : List D → Cs → Prop), ds[k]? = some d → I k acc C → (∀ acc' C', I (k + 1) acc' C' → nxt acc' C') →
      g d (fun env1 C1 => wipeE env1 vs = env ∧ mc E0 env1 C1 fun b env2 C2 => env2 = env1 ∧ if b = true then me E0 env1 C2 fun y env3 C3 => env3 = env1 ∧ acc.length < sizeLine ∧ nxt (acc ++ [y]) C3 else nxt acc C2) env C)
    (fin : ∀ acc C, I ds.length acc C → QQ (.lst acc) C) : compL vs g mc me QQ ds acc env C := by
  suffices h : ∀ (es : List D) (k : Nat) (acc : List D) (C : Cs), ds.drop k = es → k ≤ ds.length → I k acc C → compL vs g mc me QQ es acc env C from h ds 0 acc C rfl (Nat.zero_le _) h0
  intro es
  induction es with
  | nil =>
    intro k acc C hk hl hI
    have e : k = ds.length := by
      have := congrArg List.length hk
      simp at this
      omega
    subst e
    exact fin acc C hI
  | cons d es ih =>
    intro k acc C hk hl hI
    have hd : ds[k]? = some d := by
      have := congrArg (fun l => l[0]?) hk
      simpa using this
    have hk' : k < ds.length := (List.getElem?_eq_some_iff.mp hd).1
    have hk2 : ds.drop (k + 1) = es := by
      have := congrArg List.tail hk
      simpa using this
    exact step k d acc C (fun acc' C' => compL vs g mc me QQ es acc' env C') hd hI fun acc' C' hI' => ih (k + 1) acc' C' hk2 hk' hI'
/-! ### sums of rows -/
/-! ### all hold their codes -/
structure Own1 (S : List Cl) (M : List Txt) : Prop where
  h : ∀ (p : Nat) (c : Cl) (t : Txt), S[p]? = some c → M[p]? = some t → c.held = [t]
theorem costRow_zero {n p : Nat} {c : Cl} {t : Txt} (h : c.held = [t]) : costRow n p c t 0 = List.replicate (2 * n + 1) 0 := by
  have hc : chgI c t = 0 := by unfold chgI chg; rw [h]; simp
  refine List.ext_getElem (by rw [costRow_len, List.length_replicate]) fun i h1 h2 => ?_
  rw [costRow_at h1, List.getElem_replicate, hc]
  split
  · rfl
  · split
    · rfl
    · split <;> rfl
theorem kst_zero {S : List Cl} {p : Nat} {c : Cl} {t : Txt} (hc : S[p]? = some c) (h : c.held = [t]) : kst S p t = 0 := by
  refine Vc.ext' ?_
  rw [kst_val (j := 0) hc (by unfold numCl; rw [h]; simp [fstIx]), costRow_zero h]
  rfl
theorem sm_zero {N : Nat} {f : Nat → Vc N} : ∀ {n : Nat}, (∀ p, p < n → f p = 0) → sm f n = 0
  | 0, _ => rfl
  | n + 1, h => by
    have h1 := sm_zero (n := n) fun p hp => h p (by omega)
    have h2 := h n (by omega)
    unfold sm
    rw [h1, h2]
    grind
theorem Own1.sum {S : List Cl} {M : List Txt} (c : Cod S M) (o : Own1 S M) : rowSum S M = 0 := sm_zero fun p hp => by
  have hM : p < M.length := by rw [c.len]; exact hp
  rw [show M.getD p [] = M[p] by simp [List.getD_eq_getElem?_getD, hM]]
  exact kst_zero (List.getElem?_eq_getElem hp) (o.h p _ _ (List.getElem?_eq_getElem hp) (List.getElem?_eq_getElem hM))
theorem Own1.best {S : List Cl} {M : List Txt} (c : Cod S M) (o : Own1 S M) : Best S M := ⟨c, fun M' _ => by
  rw [o.sum c]
  have h := sm_le (f := fun _ => (0 : VS S)) (g := fun p => kst S p (M'.getD p [])) (n := S.length) fun p _ => kst_nonneg S p _
  rw [sm_zero (f := fun _ => (0 : VS S)) fun _ _ => rfl] at h
  exact h⟩
end L2.DL
namespace L2.DL
open PySem PySem.Spec PyProof.Rows L2.AS
/-! ### claims beside their codes -/
end L2.DL
namespace L2.DL
open PySem PySem.Spec PyProof.Rows
end L2.DL
/-! FN: dict(zip(a, b)). -/
namespace L2.DL
open PySem PySem.Spec PyProof.Rows
end L2.DL
/-! FO: a, b = new, constant by ordinary stores. -/
namespace L2.DL
open PySem PySem.Spec PyProof.Rows
section
variable {X : Cx} {st : Stmt} {e1 e2 : Expr}
def sParF (i j : Nat) (mf : EM Cont) (d : D) : SM := fun E dE env C => mf E env C fun c env1 C1 => dE.nx ((env1.set i (.own c)).set j (.shr d)) C1
theorem j_parF {i j : Nat} {mf : EM Cont} {d : D} {E : EX} {nx bk ct : DL.Env → Cs → Prop} {rt : Ret → Cs → Prop} {env : DL.Env} {C : Cs} (q : mf E env C fun c env1 C1 => nx ((env1.set i (.own c)).set j (.shr d)) C1) : sParF i j mf d E ⟨nx, rt, bk, ct⟩ env C := q
end
end L2.DL
/-! MG: crowds found from any coding of the names ahead; there is one first crowd. -/
namespace L2.AS
open _root_.Lean.Grind
section
variable {κ : Type} [DecidableEq κ] {V : Type} [IntModule V] [_root_.LE V] [_root_.LT V] [Std.IsLinearOrder V] [Std.LawfulOrderLT V] [OrderedAdd V] [DecidableLT V] [DecidableEq V]
variable {P : Prb κ V} {m : Nat} {U : Nat → V} {W : κ → V} {ow : Tb κ Nat} {pl : List Nat} {lb : Tb κ Nat}
theorem SInv.push (A : AInv P m U W ow) (S : SInv P m U W ow pl lb) {c : κ} {q p : Nat} (ho : lk c ow = some p) (hp : p ∉ pl) (hq : q ∈ pl) (hc : c ∈ P.opt q) (ht : U q + W c = P.k q c) : SInv P m U W ow (pl ++ [p]) (lb ++ [(c, q)]) := by
  refine ⟨S.lt, by rw [List.length_append, List.length_append, S.len]; rfl, ?_, ?_, ?_⟩
  · have := S.len
    rw [List.getElem?_append_left (by omega)]; exact S.hd
  · exact List.nodup_append.mpr ⟨S.nd, by simp, by simp; exact fun a ha e => hp (e ▸ ha)⟩
  · intro i d r e
    by_cases hi : i < lb.length
    · rw [List.getElem?_append_left hi] at e
      obtain ⟨p', e1, e2, ⟨j, e3, e4⟩, e5⟩ := S.lbO i d r e
      have hl := S.len
      exact ⟨p', by rw [List.getElem?_append_left (by omega)]; exact e1, e2, ⟨j, e3, by rw [List.getElem?_append_left (by have := (List.getElem?_eq_some_iff.mp e4).1; omega)]; exact e4⟩, e5⟩
    · have hi2 : i = lb.length := by
        have := (List.getElem?_eq_some_iff.mp e).1
        simp at this; omega
      subst hi2
      rw [List.getElem?_append_right (Nat.le_refl _)] at e
      simp at e
      obtain ⟨rfl, rfl⟩ := e
      have hl := S.len
      obtain ⟨j, hj, ej⟩ := List.getElem_of_mem hq
      exact ⟨p, by rw [← hl, List.getElem?_append_right (Nat.le_refl _)]; simp, ho, ⟨j, by omega, by rw [List.getElem?_append_left hj, List.getElem?_eq_getElem hj, ej]⟩, hc, ht⟩
theorem Crowd.only {pl' : List Nat} {m' : Nat} (h : Crowd P m pl) (h' : Crowd P m' pl') : m = m' ∧ ∀ q, q ∈ pl ↔ q ∈ pl' := by
  have le : ∀ {a b : Nat} {l l' : List Nat}, Crowd P a l → Crowd P b l' → a ≤ b := fun {a b l l'} h h' => Nat.le_of_not_lt fun z => by
    obtain ⟨M, hM⟩ := h.pre
    exact h'.no (fun p => p < a) (fun p hp => by have := h'.le p hp; omega) M hM
  have e : m = m' := Nat.le_antisymm (le h h') (le h' h)
  subst e
  have sub : ∀ {l l' : List Nat}, Crowd P m l → Crowd P m l' → ∀ q, q ∈ l → q ∈ l' := fun {l l'} h h' q hq => Classical.byContradiction fun z => by
    obtain ⟨M, hM⟩ := h.one q hq
    exact h'.no (fun p => p ≤ m ∧ p ≠ q) (fun p hp => ⟨h'.le p hp, fun e => z (e ▸ hp)⟩) M hM
  exact ⟨rfl, fun q => ⟨sub h h' q, sub h' h q⟩⟩
end
end L2.AS
namespace L2.DL
open PySem PySem.Spec PyProof.Rows L2.AS
end L2.DL
/-! GA: sets of texts of any number, and their sorting. -/
namespace L2.DL
open PySem PySem.Spec PyProof.Rows
/-- the text of an entry -/
def entT (e : Int × Value) : Str := match e.2 with
  | .str x _ => x
  | _ => Str.empty
def EntOk (w : World) (e : Int × Value) : Prop := ∃ (x : Str) (tk : Tok), e.2 = Value.str x tk ∧ e.1 = hashStr w x
/-- what stands in the table of a set of texts -/
structure TsE (w : World) (L : List Str) (es : Array (Int × Value)) (t : SetTable) : Prop where
  good : ∀ e ∈ es.toList, EntOk w e
  perm : (es.toList.map entT).Perm L
  few : es.size < scanBound
  fits : t.fits es.size = true
  ris : Ris t.place.toList
  led : w.params.followText "set-order" = true ∨ t.led = true
/-- at a stands a set of the texts L -/
def TSet (w : World) (h : Heap) (a : Addr) (L : List Str) : Prop :=
  ∃ (o : Obj) (es : Array (Int × Value)) (ep : Nat) (t : SetTable), h.get? a = some o ∧ o.ExactSet ∧ o.data = .set es ep t ∧ TsE w L es t
section
variable {P : Program} {w : World} {h h' : Heap} {a : Addr} {L : List Str}
theorem TSet.keep (R : TSet w h a L) (k : ∀ o, h.get? a = some o → h'.get? a = some o) : TSet w h' a L := by
  obtain ⟨o, es, ep, t, q0, q⟩ := R
  exact ⟨o, es, ep, t, k o q0, q⟩
theorem TSet.perm {L' : List Str} (R : TSet w h a L) (p : L.Perm L') : TSet w h a L' := by
  obtain ⟨o, es, ep, t, q0, q1, q2, q⟩ := R
  exact ⟨o, es, ep, t, q0, q1, q2, { q with perm := q.perm.trans p }⟩
theorem entOk_is {e : Int × Value} (g : EntOk w e) (x : Str) : (strKind P w).is x e.2 = true ↔ entT e = x := by
  obtain ⟨y, tk, e1, _⟩ := g
  unfold entT
  rw [e1]
  constructor
  · intro z
    exact Value.isStrOf_inj (.str y tk) y x (strKind_is P w y tk) z
  · rintro rfl
    exact strKind_is P w _ tk
theorem TsE.mem {es : Array (Int × Value)} {t : SetTable} (q : TsE w L es t) (x : Str) : x ∈ L ↔ ∃ e ∈ es.toList, (strKind P w).is x e.2 = true := by
  rw [← q.perm.mem_iff, List.mem_map]
  constructor
  · rintro ⟨e, me, z⟩
    exact ⟨e, me, (entOk_is (q.good e me) x).mpr z⟩
  · rintro ⟨e, me, z⟩
    exact ⟨e, me, (entOk_is (q.good e me) x).mp z⟩
end
/-! ### len(set(..)), sorted(set(..)) -/
end L2.DL
/-! GB: sorted texts, sets of texts, over trees. -/
namespace L2.DL
open PySem PySem.Spec PyProof.Rows
/-! ### sorting of texts -/
def leT (a b : Txt) : Prop := ¬ b < a
instance (a b : Txt) : Decidable (leT a b) := inferInstanceAs (Decidable (¬ b < a))
theorem leT_anti {a b : Txt} (h : leT a b) (h' : leT b a) : a = b := List.le_antisymm (List.not_lt.mp h) (List.not_lt.mp h')
theorem leT_total (a b : Txt) : leT a b ∨ leT b a := by
  rcases List.le_total a b with h | h
  · exact .inl (List.not_lt.mpr h)
  · exact .inr (List.not_lt.mpr h)
theorem leT_trans {a b c : Txt} (h : leT a b) (h' : leT b c) : leT a c := List.not_lt.mpr (List.le_trans (List.not_lt.mp h) (List.not_lt.mp h'))
def insT (x : Txt) : List Txt → List Txt
  | [] => [x]
  | y :: r => if leT x y then x :: y :: r else y :: insT x r
def sortT : List Txt → List Txt
  | [] => []
  | x :: r => insT x (sortT r)
theorem insT_perm (x : Txt) : ∀ l : List Txt, (insT x l).Perm (x :: l)
  | [] => List.Perm.refl _
  | y :: r => by
    unfold insT
    split
    · exact List.Perm.refl _
    · exact ((insT_perm x r).cons y).trans (List.Perm.swap _ _ _)
theorem sortT_perm : ∀ l : List Txt, (sortT l).Perm l
  | [] => List.Perm.refl _
  | x :: r => (insT_perm x _).trans ((sortT_perm r).cons x)
theorem insT_pw (x : Txt) : ∀ {l : List Txt}, l.Pairwise leT → (insT x l).Pairwise leT
  | [], _ => List.pairwise_singleton _ _
  | y :: r, h => by
    unfold insT
    rw [List.pairwise_cons] at h
    split
    · rename_i e
      rw [List.pairwise_cons, List.pairwise_cons]
      refine ⟨fun z hz => ?_, h⟩
      rcases List.mem_cons.mp hz with rfl | hz
      · exact e
      · exact leT_trans e (h.1 z hz)
    · rename_i e
      rw [List.pairwise_cons]
      refine ⟨fun z hz => ?_, insT_pw x h.2⟩
      rcases List.mem_cons.mp ((insT_perm x r).mem_iff.mp hz) with rfl | hz
      · exact (leT_total z y).resolve_left e
      · exact h.1 z hz
theorem sortT_pw : ∀ l : List Txt, (sortT l).Pairwise leT
  | [] => List.Pairwise.nil
  | x :: r => insT_pw x (sortT_pw r)
theorem sortT_only {l r : List Txt} (p : r.Perm l) (h : r.Pairwise leT) : r = sortT l :=
  List.Perm.eq_of_pairwise (fun _ _ _ _ a b => leT_anti a b) h (sortT_pw l) (p.trans (sortT_perm l).symm)
theorem sortT_id {l : List Txt} (h : l.Pairwise leT) : sortT l = l := (sortT_only (List.Perm.refl l) h).symm
theorem mem_sortT {l : List Txt} {t : Txt} : t ∈ sortT l ↔ t ∈ l := (sortT_perm l).mem_iff
theorem sortT_len (l : List Txt) : (sortT l).length = l.length := (sortT_perm l).length_eq
/-! ### each once -/
def oneT (L : List Txt) (x : Txt) : List Txt := if x ∈ L then L else L ++ [x]
def uniT (xs : List Txt) : List Txt := xs.foldl oneT []
theorem oneT_nd {L : List Txt} {x : Txt} (h : L.Nodup) : (oneT L x).Nodup := by
  unfold oneT
  split
  · exact h
  · rename_i e
    rw [List.nodup_append]
    refine ⟨h, List.pairwise_singleton _ _, fun a ha b hb => ?_⟩
    rw [List.mem_singleton.mp hb]
    intro z; exact e (z ▸ ha)
theorem mem_oneT {L : List Txt} {x t : Txt} : t ∈ oneT L x ↔ t ∈ L ∨ t = x := by
  unfold oneT
  split
  · rename_i e
    exact ⟨.inl, fun h => h.elim id fun z => z ▸ e⟩
  · simp
theorem fold_oneT_nd : ∀ (xs L : List Txt), L.Nodup → (xs.foldl oneT L).Nodup
  | [], L, h => h
  | x :: xs, L, h => fold_oneT_nd xs _ (oneT_nd h)
theorem mem_fold_oneT {t : Txt} : ∀ (xs L : List Txt), t ∈ xs.foldl oneT L ↔ t ∈ L ∨ t ∈ xs
  | [], L => by simp
  | x :: xs, L => by
    rw [List.foldl_cons, mem_fold_oneT xs, mem_oneT, List.mem_cons, or_assoc]
theorem uniT_nd (xs : List Txt) : (uniT xs).Nodup := fold_oneT_nd xs [] List.nodup_nil
theorem mem_uniT {xs : List Txt} {t : Txt} : t ∈ uniT xs ↔ t ∈ xs := by
  unfold uniT; rw [mem_fold_oneT]; simp
theorem uniT_len (xs : List Txt) : (uniT xs).length ≤ xs.length := L2.AS.nd_le (uniT_nd xs) fun t h => mem_uniT.mp h
/-! ### over trees -/
def sqD : D → Option (List D)
  | .lst xs => some xs
  | .tup xs => some xs
  | .kt => some []
  | _ => none
def gSetSort (d : D) (P : Cont → Prop) : Prop := ∃ xs ts, sqD d = some xs ∧ txtsOf xs = some ts ∧ ts.length < 4000 ∧ P (.lst ((sortT (uniT ts)).map D.str))
def mUnF (g : D → (Cont → Prop) → Prop) (ma : EM D) : EM Cont := fun E env C Q => ma E env C fun d env1 C1 => g (dr C1 d) fun x => Q x env1 C1
section
variable {X : Cx} {a : Expr} {p p2 q pos : Pos} {ma : EM D}
/-! ### sorted(list of texts) -/
def gSorted (ds : List D) (P : Cont → Prop) : Prop := match ds with
  | [.lst xs] => ∃ ts, txtsOf xs = some ts ∧ P (.lst ((sortT ts).map D.str))
  | _ => False
end
section
variable {E : EX} {env : DL.Env} {C : Cs} {ts : List Txt} {P : D → Prop} {PC : Cont → Prop}
theorem i_unF {g : D → (Cont → Prop) → Prop} {ma : EM D} {R : Cont → DL.Env → Cs → Prop} (q : ma E env C fun d env1 C1 => g (dr C1 d) fun x => R x env1 C1) : mUnF g ma E env C R := q
theorem g_setSortK (q : PC (.lst [])) : gSetSort (dr C .kt) PC := ⟨_, [], rfl, rfl, by decide, q⟩
theorem g_sortedL (q : PC (.lst (txs (sortT ts)))) : gSorted ([D.lst (txs ts)].map (dr C)) PC := ⟨ts, txtsOf_txs ts, q⟩
end
end L2.DL
/-! GC: results of either kind; a, b = e1, e2 of any kinds; xs.extend(e); o.f += e; str(text). -/
namespace L2.DL
open PySem PySem.Spec PyProof.Rows
section
variable {X : Cx} {e e1 e2 : Expr} {es : List Expr} {st : Stmt} {pos : Pos} {K : PySem.W.Frag} {Z : Z0}
def mCallR (sp : DSp) (dfl : List D) (ms : EM (List D)) : EM Ret := fun E env C Q => ms E env C fun ds env1 C1 => sp (ds ++ dfl) C1 (fun r C2 => Q r env1 C2) fun x C2 => E x env1 C2
/-! ### two results one after the other -/
theorem RFr.setS {σ : St} {Hs H : Hp} {env : DL.Env} {C : Cs} {c : Cont} {v w : V} {i : Nat} {d : D} (h : RFr K Z σ Hs H env C c v) : RFr K Z (σ.set i (some w)) Hs H (env.set i (.shr d)) C c v := by
  obtain ⟨p, o, rfl, a1, a2, a3, a4, a5, no⟩ := h
  refine ⟨p, o, rfl, a1, a2, a3, a4, a5, fun k c' y z => ?_⟩
  by_cases q : k = i
  · subst q
    rw [List.getElem?_set] at y
    split at y
    · split at y
      · cases y
      · cases y
    · rename_i n; exact n rfl
  · rw [List.getElem?_set_ne (Ne.symm q)] at y z
    exact no k c' y z
/-- a, b = e1, e2 by the stores swapped -/
def sPar2 (i j : Nat) (m1 m2 : EM Ret) : SM := fun E dE env C => m1 E env C fun r1 env1 C1 => m2 E env1 C1 fun r2 env2 C2 => dE.nx ((env2.set i (slotR r1)).set j (slotR r2)) C2
theorem j_par2 {i j : Nat} {m1 m2 : EM Ret} {E : EX} {nx bk ct : DL.Env → Cs → Prop} {rt : Ret → Cs → Prop} {env : DL.Env} {C : Cs} (q : m1 E env C fun r1 env1 C1 => m2 E env1 C1 fun r2 env2 C2 => nx ((env2.set i (slotR r1)).set j (slotR r2)) C2) : sPar2 i j m1 m2 E ⟨nx, rt, bk, ct⟩ env C := q
theorem i_callR {E : EX} {env : DL.Env} {C : Cs} {Q : Ret → DL.Env → Cs → Prop} {sp : DSp} {dfl : List D} {ms : EM (List D)} (q : ms E env C fun ds env1 C1 => sp (ds ++ dfl) C1 (fun r C2 => Q r env1 C2) fun x C2 => E x env1 C2) : mCallR sp dfl ms E env C Q := q
/-! ### xs.extend(e) -/
def sExt (n : Nat) (me : EM D) : SM := fun E dE env C => (∃ xs, env[n]? = some (.own (.lst xs))) ∧ me E env C fun d env1 C1 => ∃ xs ys, env1[n]? = some (.own (.lst xs)) ∧ dr C1 d = .lst ys ∧ xs.length + ys.length ≤ sizeLine ∧ dE.nx (env1.set n (.own (.lst (xs ++ ys)))) C1
def Ext (n : Nat) (nx : DL.Env → Cs → Prop) (d : D) (env1 : DL.Env) (C1 : Cs) : Prop := ∃ xs ys, env1[n]? = some (.own (.lst xs)) ∧ dr C1 d = .lst ys ∧ xs.length + ys.length ≤ sizeLine ∧ nx (env1.set n (.own (.lst (xs ++ ys)))) C1
theorem j_ext {n : Nat} {xs : List D} {me : EM D} {E : EX} {nx bk ct : DL.Env → Cs → Prop} {rt : Ret → Cs → Prop} {env : DL.Env} {C : Cs} (h : env[n]? = some (.own (.lst xs))) (q : me E env C fun d env1 C1 => Ext n nx d env1 C1) : sExt n me E ⟨nx, rt, bk, ct⟩ env C := ⟨⟨xs, h⟩, q⟩
/-! ### o.f += e -/
def sAugF (C : Addr) (f : Str) (g : Int → Int → Int) (mo me : EM D) : SM := fun E dE env C0 => mo E env C0 fun o env1 C1 => ∃ a fs i, o = .cell a ∧ C1 a = some (.obj C fs) ∧ fs.lookup f = some (.int i) ∧ me E env1 C1 fun d env2 C2 => ∃ j, dr C2 d = .int j ∧ StF C f (.cell a) (.int (g i j)) dE.nx env2 C2
theorem j_augF {C : Addr} {f : Str} {g : Int → Int → Int} {mo me : EM D} {E : EX} {nx bk ct : DL.Env → Cs → Prop} {rt : Ret → Cs → Prop} {env : DL.Env} {C0 : Cs} (q : mo E env C0 fun o env1 C1 => ∃ a fs i, o = .cell a ∧ C1 a = some (.obj C fs) ∧ fs.lookup f = some (.int i) ∧ me E env1 C1 fun d env2 C2 => ∃ j, dr C2 d = .int j ∧ StF C f (.cell a) (.int (g i j)) nx env2 C2) : sAugF C f g mo me E ⟨nx, rt, bk, ct⟩ env C0 := q
/-! ### str(text) -/
def gStr (ds : List D) (P : D → Prop) : Prop := match ds with
  | [.str s] => P (.str s)
  | _ => False
theorem g_str {C : Cs} {s : Txt} {P : D → Prop} (q : P (.str s)) : gStr ([D.str s].map (dr C)) P := q
end
end L2.DL
/-! SC: x in d.values(), as a test. -/
namespace L2.DL
open PySem PySem.Spec PyProof.Rows
end L2.DL
/-! SA: generators with a loop and tests in their body. -/
namespace L2.DL
open PySem PySem.Spec PyProof.Rows GenW L2
end L2.DL
/-! SB: generators over trees; list(g(..)). -/
namespace L2.DL
open PySem PySem.Spec PyProof.Rows GenW L2
/-- what is wanted behind a statement of a generator; the list: the trees handed out so far -/
structure GDE where
  nx : List D → DL.Env → Cs → Prop
  bk : List D → DL.Env → Cs → Prop := fun _ _ _ => False
  ct : List D → DL.Env → Cs → Prop := fun _ _ _ => False
def GEndsOk (K : PySem.W.Frag) (Z : Z0) (dE : GDE) (D : GEnds) : Prop :=
  (∀ ds ys σ Hs H env C, SR K Z σ Hs H env C → RepL K Hs ds ys → dE.nx ds env C → D.nx ys σ H) ∧
  (∀ ds ys σ Hs H env C, SR K Z σ Hs H env C → RepL K Hs ds ys → dE.bk ds env C → D.bk ys σ H) ∧
  (∀ ds ys σ Hs H env C, SR K Z σ Hs H env C → RepL K Hs ds ys → dE.ct ds env C → D.ct ys σ H)
theorem GEndsOk.up {K : PySem.W.Frag} {Z Z' : Z0} {dE : GDE} {D : GEnds} (u : Up Z Z') (h : GEndsOk K Z dE D) : GEndsOk K Z' dE D :=
  ⟨fun ds ys σ Hs H env C r => h.1 ds ys σ Hs H env C (r.up u), fun ds ys σ Hs H env C r => h.2.1 ds ys σ Hs H env C (r.up u), fun ds ys σ Hs H env C r => h.2.2 ds ys σ Hs H env C (r.up u)⟩
/-! ### the promise of a generator def -/
/-! ### list(g(..)) -/
end L2.DL
/-! SD: sorted(d) of keys that are texts or ints; min(list of ints). -/
namespace L2.DL
open PySem PySem.Spec PyProof.Rows
end L2.DL
/-! SE: a generator's meaning by steps. -/
namespace L2.DL
open PySem PySem.Spec PyProof.Rows
end L2.DL
/-! GD: a def that calls itself. -/
namespace L2.DL
open PySem PySem.Spec PyProof.Rows
/-! ### list(x) of a list or a tuple, within an except suite too -/
def gListN (ds : List D) (P : Cont → Prop) : Prop := match ds with
  | [.lst xs] => P (.lst xs)
  | [.tup xs] => P (.lst xs)
  | _ => False
section
variable {X : Cx}
theorem g_listNL {C : Cs} {xs : List D} {P : Cont → Prop} (q : P (.lst xs)) : gListN ([D.lst xs].map (dr C)) P := q
theorem g_listNT {C : Cs} {xs : List D} {P : Cont → Prop} (q : P (.lst xs)) : gListN ([D.tup xs].map (dr C)) P := q
/-! ### o.m(*e) -/
structure MeSV (X : Cx) (C : Addr) (m : Str) (spv : DSpV) : Prop where
  ex : ∃ k g, DCal X.prog X.w X.K X.mg X.base k (.ref g) [] spv ∧ Room k X.A ∧ Cls X.K C ∧ BMeth X.K C m g
end
section
variable (P : Program) (w : World) (K : PySem.W.Frag) (mg : Str → Option Value) (base : Heap) (k : Nat)
structure QMs (C : Addr) (m : Str) (spv : DSpV) : Prop where
  ex : ∃ g, DCal P w K mg base k (.ref g) [] spv ∧ Cls K C ∧ BMeth K C m g
end
theorem QMs.to {X : Cx} {j k : Nat} {C : Addr} {m : Str} {spv : DSpV} (c : QMs X.prog X.w X.K X.mg X.base k C m spv) (hr : Room j X.A) (h : k ≤ j) : MeSV X C m spv := let ⟨g, d, a, b⟩ := c.ex; ⟨k, g, d, hr.mono h, a, b⟩
/-! ### a, b, c = e1, e2, e3 by the stores swapped -/
def sPar3 (i j l : Nat) (ms : EM (List D)) : SM := fun E dE env C => ms E env C fun ds env1 C1 => match ds with
  | [d, e, f] => dE.nx (((env1.set i (.shr d)).set j (.shr e)).set l (.shr f)) C1
  | _ => False
theorem ds_par3 {X : Cx} {es : List Expr} {st : Stmt} {i j l : Nat} {ms : EM (List D)} (h : DA X RShr es ms) (hp : ∀ {t : TA}, PA X es t → PS X st (tPar3 i j l t)) : DS X st (sPar3 i j l ms) := fun Z E hE => ⟨fun pins s σ H D I ⟨Hs, env, C, dE, sr, ok, q⟩ => by
  refine (hp (h Z E hE)).run pins s σ H D I ⟨Hs, env, C, _, sr, q, fun ds env1 C1 vs Hs1 H1 q1 t1 s1 r1 => ?_⟩
  have r2 := r1.rep
  match ds, vs, r2, q1 with
  | [d, e, f], _, .cons a (.cons b (.cons c .nil)), q1 => exact ⟨_, _, _, rfl, ok.1 _ _ _ _ _ (((s1.setS a).setS b).setS c) q1⟩⟩
def Par3 (ds : List D) (R : D → D → D → Prop) : Prop := match ds with
  | [d, e, f] => R d e f
  | _ => False
theorem p_par3 {d e f : D} {R : D → D → D → Prop} (q : R d e f) : Par3 [d, e, f] R := q
theorem j_par3 {i j l : Nat} {ms : EM (List D)} {E : EX} {nx bk ct : DL.Env → Cs → Prop} {rt : Ret → Cs → Prop} {env : DL.Env} {C : Cs} (q : ms E env C fun ds env1 C1 => Par3 ds fun d e f => nx (((env1.set i (.shr d)).set j (.shr e)).set l (.shr f)) C1) : sPar3 i j l ms E ⟨nx, rt, bk, ct⟩ env C := q
end L2.DL
/-! MH: which of two lists of ints comes first. -/
namespace L2.DL
open PySem PySem.Spec PyProof.Rows
end L2.DL
/-! MI: rows of codings put in order, names that keep their codes. -/
namespace L2.DL
open PySem PySem.Spec PyProof.Rows L2.AS
theorem chs_len {S : List Cl} {M : List Txt} (h : M.length = S.length) : (chs S M).length = S.length := by unfold chs; rw [List.length_zipWith, h]; omega
theorem row_inj {S : List Cl} (hh : ∀ c ∈ S, c.held.length ≤ 2) {M M' : List Txt} (h : Cod S M) (h' : Cod S M') (e2 : rowL S M = rowL S M') : M = M' := by
  unfold rowL at e2
  have e3 : nms S M = nms S M' := (List.append_inj (List.cons.inj e2).2 (by rw [chs_len h.len, chs_len h'.len])).2
  refine List.ext_getElem (by rw [h.len, h'.len]) fun p h1 h2 => ?_
  have hp : p < S.length := by rw [h.len] at h1; exact h1
  have o1 := h.opt p _ (List.getElem?_eq_getElem h1)
  have o2 := h'.opt p _ (List.getElem?_eq_getElem h2)
  rw [opS_some (List.getElem?_eq_getElem hp)] at o1 o2
  obtain ⟨j, hj⟩ := numCl_some o1
  obtain ⟨k, hk⟩ := numCl_some o2
  have e4 : (nms S M)[p]? = (nms S M')[p]? := by rw [e3]
  unfold nms at e4
  rw [List.getElem?_zipWith, List.getElem?_zipWith, List.getElem?_eq_getElem hp, List.getElem?_eq_getElem h1, List.getElem?_eq_getElem h2] at e4
  have e5 : nmb S[p] M[p] = nmb S[p] M'[p] := Option.some.inj e4
  unfold nmb at e5
  rw [hj, hk] at e5
  have e6 : j = k := by simp at e5; omega
  subst e6
  exact numCl_inj (hh _ (List.getElem_mem hp)) hj hk
/-! ### names that keep their codes -/
def keptT (S : List Cl) (M : List Txt) : List Txt := ((S.zip M).filter fun x => decide (x.2 ∈ x.1.held)).map (·.1.nm)
theorem kept_len : ∀ (S : List Cl) (M : List Txt), M.length = S.length → (((keptT S M).length : Nat) : Int) + (chs S M).sum = ((S.filter fun c => !c.held.isEmpty).length : Nat)
  | [], [], _ => rfl
  | [], _ :: _, h => by simp at h
  | _ :: _, [], h => by simp at h
  | c :: S, t :: M, h => by
    have ih := kept_len S M (by simpa using h)
    have e1 : keptT (c :: S) (t :: M) = if t ∈ c.held then c.nm :: keptT S M else keptT S M := by
      unfold keptT
      rw [List.zip_cons_cons, List.filter_cons]
      by_cases e : t ∈ c.held <;> simp [e]
    have e2 : (chs (c :: S) (t :: M)).sum = chgI c t + (chs S M).sum := by unfold chs; rw [List.zipWith_cons_cons, List.sum_cons]
    rw [e1, e2, List.filter_cons]
    unfold chgI chg
    by_cases e : t ∈ c.held
    · have hne : c.held.isEmpty = false := by cases hh : c.held with
        | nil => rw [hh] at e; cases e
        | cons _ _ => rfl
      simp only [e, hne, if_pos]
      simp
      omega
    · cases hh : c.held.isEmpty
      · simp [e]
        omega
      · simp [e]
        omega
/-! ### two codings told apart -/
/-! ### comprehensions over a list -/
end L2.DL
/-! MJ: two tuples of texts joined, the new one's object told. -/
namespace L2.DL
open PySem PySem.Spec PyProof.Rows
end L2.DL
/-! MK: a best coding where options are fewer, or more. -/
namespace L2.DL
open PySem PySem.Spec PyProof.Rows L2.AS
theorem ix_app {t : Txt} : ∀ {l : List Txt} (x : List Txt), t ∈ l → fstIx t (l ++ x) = fstIx t l
  | [], _, h => by cases h
  | a :: l, x, h => by
    show (if a = t then some 0 else (fstIx t (l ++ x)).map (· + 1)) = (if a = t then some 0 else (fstIx t l).map (· + 1))
    by_cases e : a = t
    · rw [if_pos e, if_pos e]
    · rw [if_neg e, if_neg e, ix_app x (by rcases List.mem_cons.mp h with h | h; exact absurd h.symm e; exact h)]
theorem num_mo {c m : Cl} {x : List Txt} (hh : m.held = c.held) (ho : m.opts = c.opts ++ x) {t : Txt} (ht : t ∈ c.opts) : nmb m t = nmb c t := by
  unfold nmb numCl
  rw [hh, ho, ix_app x ht]
theorem chs_eq : ∀ (S F : List Cl) (M : List Txt), F.map (·.held) = S.map (·.held) → chs F M = chs S M
  | [], [], _, _ => rfl
  | [], _ :: _, _, h => by simp at h
  | _ :: _, [], _, h => by simp at h
  | _ :: _, _ :: _, [], _ => rfl
  | c :: S, f :: F, t :: M, h => by
    obtain ⟨h1, h2⟩ := List.cons.inj h
    show chgI f t :: chs F M = chgI c t :: chs S M
    have e : f.held = c.held := h1
    rw [chs_eq S F M h2]
    unfold chgI chg
    rw [e]
theorem nms_eq : ∀ (S F : List Cl) (M : List Txt), F.length = S.length → (∀ (p : Nat) (c f : Cl) (t : Txt), S[p]? = some c → F[p]? = some f → M[p]? = some t → nmb f t = nmb c t) → nms F M = nms S M
  | [], [], _, _, _ => rfl
  | [], _ :: _, _, h, _ => by simp at h
  | _ :: _, [], _, h, _ => by simp at h
  | _ :: _, _ :: _, [], _, _ => rfl
  | c :: S, f :: F, t :: M, h, hn => by
    show nmb f t :: nms F M = nmb c t :: nms S M
    rw [nms_eq S F M (by simpa using h) fun p c' f' t' a b d => hn (p + 1) c' f' t' a b d, hn 0 c f t rfl rfl rfl]
/-- more options, behind the others -/
structure MoS (S G : List Cl) : Prop where
  len : G.length = S.length
  nm : G.map (·.nm) = S.map (·.nm)
  held : G.map (·.held) = S.map (·.held)
  at_ : ∀ (p : Nat) (c g : Cl), S[p]? = some c → G[p]? = some g → ∃ x, g.opts = c.opts ++ x
theorem held_at {S F : List Cl} (h : F.map (·.held) = S.map (·.held)) {p : Nat} {c f : Cl} (hc : S[p]? = some c) (hf : F[p]? = some f) : f.held = c.held := by
  have := congrArg (fun l => l[p]?) h
  simp only [List.getElem?_map, hc, hf, Option.map_some] at this
  exact Option.some.inj this
theorem get_of_len {α β : Type} {a : List α} {b : List β} (h : a.length = b.length) {p : Nat} {y : β} (hy : b[p]? = some y) : ∃ x, a[p]? = some x := ⟨_, List.getElem?_eq_getElem (by rw [h]; exact (List.getElem?_eq_some_iff.mp hy).1)⟩
theorem MoS.cod {S G : List Cl} {M : List Txt} (mo : MoS S G) (h : Cod S M) : Cod G M := ⟨by rw [h.len, mo.len], fun p t ht => by
    have h1 := h.opt p t ht
    obtain ⟨c, hc⟩ := get_of_len h.len.symm ht
    obtain ⟨g, hg⟩ := get_of_len mo.len hc
    obtain ⟨x, hx⟩ := mo.at_ p c g hc hg
    rw [opS_some hc] at h1
    rw [opS_some hg, hx]
    exact List.mem_append.mpr (.inl h1), h.nd⟩
theorem MoS.row {S G : List Cl} {M : List Txt} (mo : MoS S G) (h : Cod S M) : rowL G M = rowL S M := by
  unfold rowL
  rw [chs_eq S G M mo.held, nms_eq S G M mo.len fun p c g t hc hg ht => ?_]
  obtain ⟨x, hx⟩ := mo.at_ p c g hc hg
  have h1 := h.opt p t ht
  rw [opS_some hc] at h1
  exact num_mo (held_at mo.held hc hg) hx h1
/-- and where it serves without them, it is the one -/
theorem Best.same {S G : List Cl} {M N : List Txt} (hl : ∀ c ∈ S, c.held.length ≤ 2) (h : Best S M) (mo : MoS S G) (h' : Best G N) (hN : Cod S N) : N = M := by
  have b := h'.best M (mo.cod h.cod)
  rw [Vc.le_def, rowSum_val h'.cod, rowSum_val (mo.cod h.cod), mo.row h.cod, mo.row hN] at b
  have a := h.best N hN
  rw [Vc.le_def, rowSum_val h.cod, rowSum_val hN] at a
  have e := Vc.anti (rowL S M) (rowL S N)
  exact row_inj hl hN h.cod (sgn_zero.mp (by omega))
end L2.DL
/-! NA: spellings; what a register holds; its changes. -/
namespace L2.DL
open PySem PySem.Spec PyProof.Rows L2.AS
/-! ### lists of places, spellings -/
def frst (ps : List Nat) : Nat := match ps.getLast? with
  | some l => l + 1
  | none => 0
def plsF (size : Nat) (ps : List Nat) : List (List Nat) := (List.range' (frst ps) (size - frst ps)).map fun p => ps ++ [p]
def pls (size : Nat) : Nat → List (List Nat)
  | 0 => [[]]
  | n + 1 => (pls size n).flatMap (plsF size)
theorem pls_mem {size : Nat} : ∀ {n : Nat} {ps : List Nat}, ps ∈ pls size n → ps.length = n ∧ ∀ p ∈ ps, p < size
  | 0, ps, h => by
    unfold pls at h
    rw [List.mem_singleton] at h
    subst h
    exact ⟨rfl, fun p hp => by cases hp⟩
  | n + 1, ps, h => by
    unfold pls at h
    obtain ⟨qs, hq, h⟩ := List.mem_flatMap.mp h
    obtain ⟨p, hp, rfl⟩ := List.mem_map.mp h
    obtain ⟨i1, i2⟩ := pls_mem hq
    refine ⟨by simp [i1], fun x hx => ?_⟩
    rcases List.mem_append.mp hx with hx | hx
    · exact i2 x hx
    · rw [List.mem_singleton.mp hx]
      have := (List.mem_range'_1.mp hp)
      omega
def cdAt (name : Txt) (ps : List Nat) : Txt := ps.map fun p => name.getD p 0
def spellS (name : Txt) (n : Nat) : List Txt := uniT ((pls name.length n).map (cdAt name))
theorem spellS_mem {name t : Txt} {n : Nat} (h : t ∈ spellS name n) : t.length = n ∧ ∀ c ∈ t, c ∈ name := by
  obtain ⟨ps, hp, rfl⟩ := List.mem_map.mp (mem_uniT.mp h)
  obtain ⟨h1, h2⟩ := pls_mem hp
  refine ⟨by simp [cdAt, h1], fun c hc => ?_⟩
  obtain ⟨p, hp, rfl⟩ := List.mem_map.mp hc
  have := h2 p hp
  simp [List.getD_eq_getElem?_getD, this]
/-! ### rows, states, registers -/
structure Row where
  b : Nat
  nm : Txt
  cd : Option Txt
structure RSt where
  tk : Nat
  nx : Nat
  bar : List Txt
  rows : List Row
  slp : Tb Txt (Txt × Nat)
structure Reg where
  span : Nat
  pause : Nat
  sts : List RSt
  spot : Nat
abbrev rowD (r : Row) : D := .tup [.int r.b, .str r.nm, optD r.cd]
abbrev slD (x : Txt × Nat) : D := .tup [.str x.1, .int x.2]
abbrev stD (cS : Addr) (s : RSt) : D := .obj cS [("ticks", .int s.tk), ("following", .int s.nx), ("barred", .lst (txs s.bar)), ("rows", .lst (s.rows.map rowD)), ("asleep", .dct (tD slD s.slp))]
abbrev regC (cR cS : Addr) (r : Reg) : Cell := .obj cR [("span", .int r.span), ("pause", .int r.pause), ("states", .lst (r.sts.map (stD cS))), ("spot", .int r.spot)]
def slpOk (slp : Tb Txt (Txt × Nat)) (nm o : Txt) : Bool := match lk o slp with
  | some x => decide (x.1 = nm)
  | none => true
def optsR (span : Nat) (bar : List Txt) (slp : Tb Txt (Txt × Nat)) (nm : Txt) : List Txt := (spellS nm span).filter fun o => !decide (o ∈ bar) && slpOk slp nm o
def claimR (span : Nat) (bar : List Txt) (slp : Tb Txt (Txt × Nat)) (r : Row) : Cl := ⟨r.nm, r.cd.toList, optsR span bar slp r.nm⟩
abbrev sitR (span : Nat) (bar : List Txt) (slp : Tb Txt (Txt × Nat)) (rows : List Row) : List Cl := rows.map (claimR span bar slp)
/-- a code of a length -/
def cdOk (n : Nat) (c : Txt) : Prop := c.length = n ∧ ∀ x ∈ c, 97 ≤ x ∧ x ≤ 122
/-! ### what holds of rows and states -/
structure RwOk (nx : Nat) (rows : List Row) : Prop where
  len : rows.length ≤ 44
  nd : (rows.map (·.nm)).Nodup
  bn : (rows.map (·.b)).Nodup
  lt : ∀ r ∈ rows, r.b < nx
  nm : ∀ r ∈ rows, nameOk r.nm
structure StOk (n span : Nat) (s : RSt) : Prop where
  rws : RwOk s.nx s.rows
  cd : ∀ r ∈ s.rows, ∃ c, r.cd = some c ∧ cdOk span c
  bar : ∀ c ∈ s.bar, cdOk span c
  barL : s.bar.length ≤ 8 * n + 8
  slpN : (ks s.slp).Nodup
  slpK : ∀ e ∈ s.slp, cdOk span e.1 ∧ nameOk e.2.1
  slpL : s.slp.length ≤ 44 * n + 44
structure ROk (n : Nat) (r : Reg) : Prop where
  n1 : n ≤ 100
  s1 : 1 ≤ r.span
  s3 : r.span ≤ 3
  p : r.pause ≤ 20
  spot : r.spot < r.sts.length
  len : r.sts.length ≤ n + 1
  st : ∀ s ∈ r.sts, StOk n r.span s
theorem StOk.mono {n m span : Nat} {s : RSt} (h : StOk n span s) (l : n ≤ m) : StOk m span s := ⟨h.rws, h.cd, h.bar, Nat.le_trans h.barL (by omega), h.slpN, h.slpK, Nat.le_trans h.slpL (by omega)⟩
theorem held_sitR {span : Nat} {bar : List Txt} {slp : Tb Txt (Txt × Nat)} {rows : List Row} : ∀ c ∈ sitR span bar slp rows, c.held.length ≤ 2 := fun c hc => by
  obtain ⟨r, hr, rfl⟩ := List.mem_map.mp hc
  show r.cd.toList.length ≤ 2
  cases r.cd <;> simp
/-! ### a change -/
def setCd (rows : List Row) (M : List Txt) : List Row := List.zipWith (fun r t => { r with cd := some t }) rows M
def restF (pause t1 : Nat) (M : List Txt) (slp : Tb Txt (Txt × Nat)) (r : Row) : Tb Txt (Txt × Nat) := match r.cd with
  | some c => if c ∉ M ∧ 0 < pause then pt slp c (r.nm, t1 + pause) else slp
  | none => slp
def restIn (pause t1 : Nat) (M : List Txt) (slp : Tb Txt (Txt × Nat)) (rows : List Row) : Tb Txt (Txt × Nat) := rows.foldl (restF pause t1 M) slp
def slpCut (t1 : Nat) (M : List Txt) (slp : Tb Txt (Txt × Nat)) : Tb Txt (Txt × Nat) := slp.filter fun e => decide (t1 < e.2.2) && !decide (e.1 ∈ M)
def chgR (pause : Nat) (s : RSt) (nx : Nat) (bar : List Txt) (rows : List Row) (M : List Txt) : RSt := ⟨s.tk + 1, nx, bar, setCd rows M, restIn pause (s.tk + 1) M (slpCut (s.tk + 1) M s.slp) s.rows⟩
def Reg.push (r : Reg) (s : RSt) : Reg := { r with sts := r.sts.take (r.spot + 1) ++ [s], spot := r.spot + 1 }
def oldOf (rows : List Row) (b : Nat) : Option Txt := (rows.find? fun r => decide (r.b = b)).bind (·.cd)
def toldR (o n : List Row) : List Row := n.filter fun r => !decide (oldOf o r.b = r.cd)
abbrev tolD (o : List Row) (r : Row) : D := .tup [.str r.nm, optD (oldOf o r.b), optD r.cd]
abbrev toldD (o n : List Row) : D := .lst ((toldR o n).map (tolD o))
abbrev toldC (o n : List Row) : Cont := .lst ((toldR o n).map (tolD o))
/-- handed over as a new list -/
def frsD (x : D) (PR : Ret → Cs → Prop) (C : Cs) : Prop := ∀ xs, x = .lst xs → PR (.frs (.lst xs)) C
theorem setCd_mem {rows : List Row} {M : List Txt} {x : Row} (h : x ∈ setCd rows M) : ∃ (i : Nat) (r : Row) (t : Txt), rows[i]? = some r ∧ M[i]? = some t ∧ x = { r with cd := some t } := by
  obtain ⟨i, hi⟩ := List.mem_iff_getElem?.mp h
  unfold setCd at hi
  rw [List.getElem?_zipWith] at hi
  cases h1 : rows[i]? with
  | none => rw [h1] at hi; cases hi
  | some r =>
    cases h2 : M[i]? with
    | none => rw [h1, h2] at hi; cases hi
    | some t => rw [h1, h2] at hi; exact ⟨i, r, t, h1, h2, (Option.some.inj hi).symm⟩
theorem setCd_len {rows : List Row} {M : List Txt} (h : M.length = rows.length) : (setCd rows M).length = rows.length := by
  unfold setCd; rw [List.length_zipWith, h]; simp
theorem pt_mem {κ α : Type} [DecidableEq κ] {l : Tb κ α} {c : κ} {x : α} {e : κ × α} (h : e ∈ pt l c x) : e ∈ l ∨ e = (c, x) := by
  unfold pt at h
  split at h
  · obtain ⟨y, hy, rfl⟩ := List.mem_map.mp h
    split
    · rename_i q; right; rw [q]
    · exact .inl hy
  · rcases List.mem_append.mp h with h | h
    · exact .inl h
    · exact .inr (List.mem_singleton.mp h)
theorem restF_mem {pause t1 : Nat} {M : List Txt} {slp : Tb Txt (Txt × Nat)} {r : Row} {e : Txt × (Txt × Nat)} (h : e ∈ restF pause t1 M slp r) : e ∈ slp ∨ ∃ c, r.cd = some c ∧ e = (c, (r.nm, t1 + pause)) := by
  unfold restF at h
  split at h
  · rename_i c hc
    split at h
    · rcases pt_mem h with h | h
      · exact .inl h
      · exact .inr ⟨c, hc, h⟩
    · exact .inl h
  · exact .inl h
theorem ROk.push {n : Nat} {r : Reg} {s : RSt} (h : ROk n r) (hn : n + 1 ≤ 100) (hs : StOk (n + 1) r.span s) : ROk (n + 1) (r.push s) where
  n1 := hn
  s1 := h.s1
  s3 := h.s3
  p := h.p
  spot := by have := h.spot; show r.spot + 1 < (r.sts.take (r.spot + 1) ++ [s]).length; rw [List.length_append, List.length_take]; simp; omega
  len := by have := h.len; have := h.spot; show (r.sts.take (r.spot + 1) ++ [s]).length ≤ _; rw [List.length_append, List.length_take]; simp; omega
  st := fun x hx => by
    rcases List.mem_append.mp hx with hx | hx
    · exact (h.st x (List.mem_of_mem_take hx)).mono (by omega)
    · rw [List.mem_singleton.mp hx]; exact hs
theorem ROk.mono {n m : Nat} {r : Reg} (h : ROk n r) (l : n ≤ m) (hm : m ≤ 100) : ROk m r := { h with n1 := hm, len := Nat.le_trans h.len (by omega), st := fun s hs => (h.st s hs).mono l }
/-- another of its states -/
theorem ROk.go {n k : Nat} {r : Reg} (h : ROk n r) (hk : k < r.sts.length) : ROk n { r with spot := k } := { h with spot := hk }
/-! ### pure comprehensions -/
theorem compL_of {α : Type} {vs : List Nat} {g : GM} {mc : EM Bool} {me : EM D} {QQ : Cont → Cs → Prop} {env : DL.Env} {C : Cs} (l : List α) (enc : α → D) (f : α → Option D) (hl : l.length ≤ sizeLine)
    (step : ∀ a ∈ l, ∀ (acc : List D) (nxt : List D → Cs → Prop), acc.length < sizeLine → nxt (acc ++ (f a).toList) C → g (enc a) (fun env1 C1 => wipeE env1 vs = env ∧ mc E0 env1 C1 fun b env2 C2 => env2 = env1 ∧ if b = true then me E0 env1 C2 fun y env3 C3 => env3 = env1 ∧ acc.length < sizeLine ∧ nxt (acc ++ [y]) C3 else nxt acc C2) env C)
    (fin : QQ (.lst (l.filterMap f)) C) : compL vs g mc me QQ (l.map enc) [] env C := by
  refine compL_inv (fun k acc C' => C' = C ∧ acc = (l.take k).filterMap f) ⟨rfl, by simp⟩ ?_ ?_
  · rintro k d acc C' nxt hd ⟨rfl, rfl⟩ hx
    rw [List.getElem?_map] at hd
    obtain ⟨a, ha, rfl⟩ := Option.map_eq_some_iff.mp hd
    have hk := (List.getElem?_eq_some_iff.mp ha).1
    have hlen : ((l.take k).filterMap f).length < sizeLine := by
      have := List.length_filterMap_le f (l.take k)
      rw [List.length_take] at this; omega
    refine step a (List.mem_of_getElem? ha) _ nxt hlen (hx _ _ ⟨rfl, ?_⟩)
    rw [List.take_add_one, ha, List.filterMap_append]
    simp only [Option.toList_some, List.filterMap_cons, List.filterMap_nil]
    cases f a <;> rfl
  · rintro acc C' ⟨rfl, rfl⟩
    rw [List.length_map, List.take_length]
    exact fin
/-- the same, all kept -/
theorem compL_map {α : Type} {vs : List Nat} {g : GM} {mc : EM Bool} {me : EM D} {QQ : Cont → Cs → Prop} {env : DL.Env} {C : Cs} (l : List α) (enc : α → D) (f : α → D) (hl : l.length ≤ sizeLine)
    (step : ∀ a ∈ l, ∀ (acc : List D) (nxt : List D → Cs → Prop), acc.length < sizeLine → nxt (acc ++ [f a]) C → g (enc a) (fun env1 C1 => wipeE env1 vs = env ∧ mc E0 env1 C1 fun b env2 C2 => env2 = env1 ∧ if b = true then me E0 env1 C2 fun y env3 C3 => env3 = env1 ∧ acc.length < sizeLine ∧ nxt (acc ++ [y]) C3 else nxt acc C2) env C)
    (fin : QQ (.lst (l.map f)) C) : compL vs g mc me QQ (l.map enc) [] env C :=
  compL_of l enc (fun a => some (f a)) hl (fun a ha acc nxt h1 h2 => step a ha acc nxt h1 h2) (by rw [show (fun a => some (f a)) = some ∘ f from rfl, List.filterMap_eq_map]; exact fin)
end L2.DL
/-! NB: pure comprehensions of tables; words at hand for registers. -/
namespace L2.DL
open PySem PySem.Spec PyProof.Rows L2.AS
/-! ### tables of rows -/
abbrev nmKV (rows : List Row) : List (DK × D) := rows.map fun r => (.inr r.nm, optD r.cd)
abbrev bKV (rows : List Row) : List (DK × D) := rows.map fun r => (.inl (r.b : Int), optD r.cd)
theorem look_nm_some {t : Txt} {r : Row} : ∀ {rows : List Row}, (rows.map (·.nm)).Nodup → r ∈ rows → look (.inr r.nm) (nmKV rows) = some (optD r.cd)
  | x :: rows, n, h => by
    rw [List.map_cons, List.nodup_cons] at n
    show (if (Sum.inr x.nm : DK) = Sum.inr r.nm then _ else _) = _
    rcases List.mem_cons.mp h with rfl | h
    · rw [if_pos rfl]
    · rw [if_neg (fun z => n.1 (by injection z with z; rw [z]; exact List.mem_map_of_mem h))]
      exact look_nm_some (t := t) n.2 h
/-! ### lists of places -/
theorem i_dget2 {mo me mx : EM D} {E : EX} {env : DL.Env} {C : Cs} {Q : D → DL.Env → Cs → Prop} (q : mo E env C fun d env1 C1 => (∃ kvs0, dr C1 d = .dct kvs0) ∧ me E env1 C1 fun k env2 C2 => mx E env2 C2 fun x env3 C3 => ∃ kvs key, dr C3 d = .dct kvs ∧ dkOf k = some key ∧ Q ((look key kvs).getD x) env3 C3) : mDGet2 mo me mx E env C Q := q
end L2.DL
/-! NC: what each change makes of the rows and the banned codes. -/
namespace L2.DL
open PySem PySem.Spec PyProof.Rows L2.AS
/-- a register at hand -/
structure RAt (cR cS a : Addr) (r : Reg) (n : Nat) (s : RSt) (C : Cs) : Prop where
  c : C a = some (regC cR cS r)
  ok : ROk n r
  n1 : n + 1 ≤ 100
  s : r.sts[r.spot]? = some s
theorem RAt.st {cR cS a : Addr} {r : Reg} {n : Nat} {s : RSt} {C : Cs} (h : RAt cR cS a r n s C) : StOk n r.span s := h.ok.st s (List.mem_of_getElem? h.s)
def newR : Nat → List Txt → List Row
  | _, [] => []
  | b, t :: r => ⟨b, t, none⟩ :: newR (b + 1) r
abbrev dropR (rows : List Row) (ts : List Txt) : List Row := rows.filter fun r => !decide (r.nm ∈ ts)
def renR (old new : Txt) (r : Row) : Row := if r.nm = old then { r with nm := new } else r
abbrev banL (bar ts : List Txt) : List Txt := sortT (uniT (bar ++ ts))
theorem ban_mem {bar ts : List Txt} {t : Txt} : t ∈ banL bar ts ↔ t ∈ bar ∨ t ∈ ts := by rw [mem_sortT, mem_uniT, List.mem_append]
theorem ban_len {bar ts : List Txt} : (banL bar ts).length ≤ bar.length + ts.length := by
  rw [sortT_len]; refine Nat.le_trans (uniT_len _) ?_; rw [List.length_append]; exact Nat.le_refl _
abbrev alwL (bar ts : List Txt) : List Txt := bar.filter fun t => !decide (t ∈ ts)
end L2.DL
/-! GE: enumerate of a tuple. -/
namespace L2.DL
open PySem PySem.Spec PyProof.Rows
open AutoSeq1 (wpAny_loadPart')
def mEnumT (ms : EM (List D)) : EM (List D) := fun E env C Q => ms E env C fun ds env1 C1 => match ds with
  | [.lst xs] => Q (enumD 0 xs) env1 C1
  | [.tup xs] => Q (enumD 0 xs) env1 C1
  | _ => False
def EnumO (ds : List D) (R : List D → Prop) : Prop := match ds with
  | [.lst xs] => R (enumD 0 xs)
  | [.tup xs] => R (enumD 0 xs)
  | _ => False
theorem i_enumT {ms : EM (List D)} {E : EX} {env : DL.Env} {C : Cs} {Q : List D → DL.Env → Cs → Prop} (q : ms E env C fun ds env1 C1 => EnumO ds fun l => Q l env1 C1) : mEnumT ms E env C Q := q
theorem e_lst {xs : List D} {R : List D → Prop} (q : R (enumD 0 xs)) : EnumO [.lst xs] R := q
theorem e_tup {xs : List D} {R : List D → Prop} (q : R (enumD 0 xs)) : EnumO [.tup xs] R := q
end L2.DL
/-! ND: deeds done with a register and with the law's own account of it. -/
namespace L2.DL
open PySem PySem.Spec PyProof.Rows L2.AS
inductive Deed where
  | add (ts : List Txt) | drop (ts : List Txt) | ren (o n : Txt) | ban (ts : List Txt) | alw (ts : List Txt) | undo | redo
def wAdd : Txt := [97, 100, 100]
def wDrop : Txt := [100, 114, 111, 112]
def wRen : Txt := [114, 101, 110, 97, 109, 101]
def wBan : Txt := [98, 97, 110]
def wAlw : Txt := [97, 108, 108, 111, 119]
def wUndo : Txt := [117, 110, 100, 111]
def wRedo : Txt := [114, 101, 100, 111]
def Deed.w : Deed → Txt
  | .add _ => wAdd | .drop _ => wDrop | .ren _ _ => wRen | .ban _ => wBan | .alw _ => wAlw | .undo => wUndo | .redo => wRedo
def Deed.vals : Deed → List Txt
  | .add ts => ts | .drop ts => ts | .ren o n => [o, n] | .ban ts => ts | .alw ts => ts | .undo => [] | .redo => []
def DeedOk (r : Reg) (s : RSt) : Deed → Prop
  | .add ts => (∀ t ∈ ts, nameOk t) ∧ (s.rows.map (·.nm) ++ ts).Nodup ∧ s.rows.length + ts.length ≤ 44 ∧ ts.length ≤ 2
  | .drop ts => (∀ t ∈ ts, t ∈ s.rows.map (·.nm)) ∧ ts.Nodup ∧ ts.length ≤ 2
  | .ren o n => o ∈ s.rows.map (·.nm) ∧ nameOk n ∧ n ∉ s.rows.map (·.nm)
  | .ban ts => (∀ t ∈ ts, cdOk r.span t) ∧ 0 ≤ ts.length ∧ ts.length ≤ 2
  | .alw ts => (∀ t ∈ ts, cdOk r.span t) ∧ 0 ≤ ts.length ∧ ts.length ≤ 2
  | .undo => 0 < r.spot
  | .redo => r.spot + 1 < r.sts.length
/-- next birth number, banned codes and rows behind a change -/
def Deed.nx (s : RSt) : Deed → Nat
  | .add ts => s.nx + ts.length
  | _ => s.nx
def Deed.bar (s : RSt) : Deed → List Txt
  | .ban ts => banL s.bar ts
  | .alw ts => alwL s.bar ts
  | _ => s.bar
def Deed.rows (s : RSt) : Deed → List Row
  | .add ts => s.rows ++ newR s.nx ts
  | .drop ts => dropR s.rows ts
  | .ren o n => s.rows.map (renR o n)
  | _ => s.rows
/-- how a deed ends: no coding, or another register and what is told -/
def DeedOut (r : Reg) (n : Nat) (s : RSt) (d : Deed) (no : List Txt → Prop) (go : Reg → D → Prop) : Prop := match d with
  | .undo => ∀ sn, r.sts[r.spot - 1]? = some sn → go { r with spot := r.spot - 1 } (toldD s.rows sn.rows)
  | .redo => ∀ sn, r.sts[r.spot + 1]? = some sn → go { r with spot := r.spot + 1 } (toldD s.rows sn.rows)
  | d => (∀ (m : Nat) (pl : List Nat), L2.AS.Crowd (prb (sitR r.span (d.bar s) s.slp (d.rows s))) m pl → no (crowdT 0 (sitR r.span (d.bar s) s.slp (d.rows s)) pl)) ∧
    (∀ (M : List Txt), Best (sitR r.span (d.bar s) s.slp (d.rows s)) M → ROk (n + 1) (r.push (chgR r.pause s (d.nx s) (d.bar s) (d.rows s) M)) → go (r.push (chgR r.pause s (d.nx s) (d.bar s) (d.rows s) M)) (toldD s.rows (setCd (d.rows s) M)))
theorem DeedOut.imp {r : Reg} {n : Nat} {s : RSt} {d : Deed} {no no' : List Txt → Prop} {go go' : Reg → D → Prop} (h : DeedOut r n s d no go) (h1 : ∀ l, no l → no' l) (h2 : ∀ r' x, go r' x → go' r' x) : DeedOut r n s d no' go' := by
  cases d <;> first | exact fun sn e => h2 _ _ (h sn e) | exact ⟨fun m pl c => h1 _ (h.1 m pl c), fun M b o => h2 _ _ (h.2 M b o)⟩
theorem DeedOk.bar {r : Reg} {n : Nat} {s : RSt} {d : Deed} (h : DeedOk r s d) (so : StOk n r.span s) : (∀ c ∈ d.bar s, cdOk r.span c) ∧ (d.bar s).length ≤ 8 * n + 16 := by
  have hb := so.barL
  cases d with
  | ban ts => exact ⟨fun c hc => (ban_mem.mp hc).elim (so.bar c) (h.1 c), by have := ban_len (bar := s.bar) (ts := ts); have := h.2.2; show (banL s.bar ts).length ≤ _; omega⟩
  | alw ts => exact ⟨fun c hc => so.bar c (List.mem_filter.mp hc).1, by have := List.length_filter_le (fun t => !decide (t ∈ ts)) s.bar; show (s.bar.filter fun t => !decide (t ∈ ts)).length ≤ _; omega⟩
  | _ => exact ⟨so.bar, by show s.bar.length ≤ _; omega⟩
theorem crowd_no {S : List Cl} {m : Nat} {pl : List Nat} (cr : L2.AS.Crowd (prb S) m pl) (M : List Txt) : ¬ Cod S M := fun h => cr.no (fun p => p < S.length) (fun p hp => by have h1 := cr.le p hp; have h2 : m < S.length := cr.lt; show p < S.length; omega) _ h.cd
end L2.DL
/-! NE: dict(pairs) of rows; codes or nothing compared. -/
namespace L2.DL
open PySem PySem.Spec PyProof.Rows L2.AS
theorem setCd_map {rows : List Row} {M : List Txt} (h : M.length = rows.length) : (setCd rows M).map (fun r => D.str (r.cd.getD [])) = txs M := by
  unfold setCd
  rw [List.map_zipWith]
  induction rows generalizing M with
  | nil => cases M with
    | nil => rfl
    | cons t M => simp at h
  | cons r rows ih =>
    cases M with
    | nil => simp at h
    | cons t M => simp only [List.zipWith_cons_cons, List.map_cons]; rw [ih (by simpa using h)]; rfl
theorem txs_inj : ∀ {l m : List Txt}, txs l = txs m → l = m
  | [], [], _ => rfl
  | [], _ :: _, h => by cases h
  | _ :: _, [], h => by cases h
  | a :: l, b :: m, h => by
    simp only [txs, List.map_cons, List.cons.injEq, D.str.injEq] at h
    rw [h.1, txs_inj h.2]
theorem setCd_cds {rows : List Row} {M : List Txt} (h : M.length = rows.length) : (setCd rows M).map (fun r => r.cd.getD []) = M := by
  refine txs_inj ?_
  rw [← setCd_map h]; unfold txs; rw [List.map_map]; rfl
end L2.DL
/-! NF: keyword-only parameters that are not given. -/
namespace L2.DL
open PySem PySem.Spec PyProof.Rows L2.AS
/-! ### results of methods of either kind; returned as they are -/
section
variable {X : Cx} {e o : Expr} {es : List Expr} {kws : List Keyword} {ks : List Str} {apos pos : Pos} {C : Addr} {m : Str} {spv : DSpV} {mo : EM D}
def mMethR (C : Addr) (m : Str) (spv : DSpV) (mo : EM D) (ma : EM (List D × List D)) : EM Ret := fun E env C0 Q => mo E env C0 fun d env1 C1 => IsO C m (dr C1 d) ∧ ma E env1 C1 fun p env2 C2 => spv (d :: p.1) p.2 C2 (fun r C3 => Q r env2 C3) fun x C3 => E x env2 C3
def sRetR (m : EM Ret) : SM := fun E dE env C => m E env C fun r _ C1 => dE.rt r C1
end
section
variable {E : EX} {env : DL.Env} {C0 : Cs} {C : Addr} {m : Str} {spv : DSpV} {mo : EM D} {m2 : EM (List D × List D)} {Q : Ret → DL.Env → Cs → Prop} {mr : EM Ret} {nx bk ct : DL.Env → Cs → Prop} {rt : Ret → Cs → Prop}
theorem i_methR (q : mo E env C0 fun d env1 C1 => IsO C m (dr C1 d) ∧ m2 E env1 C1 fun p env2 C2 => spv (d :: p.1) p.2 C2 (fun r C3 => Q r env2 C3) fun x C3 => E x env2 C3) : mMethR C m spv mo m2 E env C0 Q := q
theorem j_retR (q : mr E env C0 fun r _ C1 => rt r C1) : sRetR mr E ⟨nx, rt, bk, ct⟩ env C0 := q
theorem i_callL {i : Nat} {spv : DSpV} {Q : D → DL.Env → Cs → Prop} {Cl : Addr} (h : env[i]? = some (.shr (.cell Cl))) (q : m2 E env C0 fun p env1 C1 => spv p.1 p.2 C1 (fun r C2 => Q r.tree env1 C2) fun x C2 => E x env1 C2) : mCallL i Cl spv m2 E env C0 Q := ⟨h, q⟩
theorem o_kt {R : List D → Prop} (q : R []) : IterO .kt R := q
theorem g_dictD {kvs : List (DK × D)} {PC : Cont → Prop} (q : PC (.dct kvs)) : gDictD ([D.dct kvs].map (dr C0)) PC := q
end
/-! ### Cls.m(e, .., *e) -/
/-! ### a source of draws as an argument -/
def mCallP (sp : DSp) (dfl : List D) (ms : EM (List D)) : EM D := fun E env C Q => ms E env C fun ds env1 C1 => sp (ds ++ dfl) C1 (fun r C2 => match r with
  | .frs c => ∃ b, asPur c = some b ∧ ∀ a, C2 a = none → Q (.cell a) env1 (cput C2 a (.pur b))
  | .shr _ => False) fun x C2 => E x env1 C2
theorem i_callP {E : EX} {env : DL.Env} {C : Cs} {Q : D → DL.Env → Cs → Prop} {sp : DSp} {dfl : List D} {ms : EM (List D)} (q : ms E env C fun ds env1 C1 => sp (ds ++ dfl) C1 (fun r C2 => match r with
  | .frs c => ∃ b, asPur c = some b ∧ ∀ a, C2 a = none → Q (.cell a) env1 (cput C2 a (.pur b))
  | .shr _ => False) fun x C2 => E x env1 C2) : mCallP sp dfl ms E env C Q := q
/-! ### xs.clear() of an own list -/
def sClrL (n : Nat) : SM := fun _ dE env C => ∃ xs, env[n]? = some (.own (.lst xs)) ∧ dE.nx (env.set n (.own (.lst []))) C
theorem j_clrL {n : Nat} {xs : List D} {E : EX} {nx bk ct : DL.Env → Cs → Prop} {rt : Ret → Cs → Prop} {env : DL.Env} {C : Cs} (h : env[n]? = some (.own (.lst xs))) (q : nx (env.set n (.own (.lst []))) C) : sClrL n E ⟨nx, rt, bk, ct⟩ env C := ⟨xs, h, q⟩
end L2.DL
/-! NG: registers of merges' laws; what two registers make together. -/
namespace L2.DL
open PySem PySem.Spec PyProof.Rows L2.AS
/-! ### deeds that are done -/
theorem DeedOut.any {r : Reg} {n : Nat} {s : RSt} {d : Deed} {no : List Txt → Prop} {go : Reg → D → Prop} (hu : d ≠ .undo) (hr : d ≠ .redo) (so : StOk n r.span s) (dk : DeedOk r s d)
    (h1 : ∀ l, no l) (h2 : ∀ (M : List Txt) (x : List D), Cod (sitR r.span (d.bar s) s.slp (d.rows s)) M → ROk (n + 1) (r.push (chgR r.pause s (d.nx s) (d.bar s) (d.rows s) M)) → go (r.push (chgR r.pause s (d.nx s) (d.bar s) (d.rows s) M)) (.lst x)) : DeedOut r n s d no go := by
  cases d with
  | undo => exact absurd rfl hu
  | redo => exact absurd rfl hr
  | _ => exact ⟨fun _ _ _ => h1 _, fun M hM ok => h2 M _ hM.cod ok⟩
theorem sort_flt {l : List Txt} {p : Txt → Bool} (h : sortT l = l) : sortT (l.filter p) = l.filter p := by
  have := sortT_pw l
  rw [h] at this
  exact sortT_id (this.filter _)
theorem bar_sorted {r : Reg} {s : RSt} {d : Deed} (h : sortT s.bar = s.bar) : sortT (d.bar s) = d.bar s := by
  cases d with
  | ban ts => exact sortT_id (sortT_pw _)
  | alw ts => exact sort_flt h
  | _ => exact h
/-- what the merges' laws keep of a register -/
structure MOk (n : Nat) (r : Reg) : Prop where
  ok : ROk n r
  l7 : ∀ s ∈ r.sts, s.rows.length ≤ 7
  so : ∀ s ∈ r.sts, sortT s.bar = s.bar
theorem MOk.push {n : Nat} {r : Reg} {s : RSt} {d : Deed} {M : List Txt} (h : MOk n r) (hs : r.sts[r.spot]? = some s) (h7 : (d.rows s).length ≤ 7) (hM : Cod (sitR r.span (d.bar s) s.slp (d.rows s)) M) (ok : ROk (n + 1) (r.push (chgR r.pause s (d.nx s) (d.bar s) (d.rows s) M))) : MOk (n + 1) (r.push (chgR r.pause s (d.nx s) (d.bar s) (d.rows s) M)) := by
  have hm : ∀ s' ∈ (r.push (chgR r.pause s (d.nx s) (d.bar s) (d.rows s) M)).sts, s' ∈ r.sts ∨ s' = chgR r.pause s (d.nx s) (d.bar s) (d.rows s) M := fun s' h' => by
    rcases List.mem_append.mp h' with h' | h'
    · exact .inl (List.mem_of_mem_take h')
    · exact .inr (List.mem_singleton.mp h')
  refine ⟨ok, fun s' h' => ?_, fun s' h' => ?_⟩
  · rcases hm s' h' with h1 | rfl
    · exact h.l7 s' h1
    · show (setCd (d.rows s) M).length ≤ 7
      rw [setCd_len (by rw [hM.len, List.length_map])]; exact h7
  · rcases hm s' h' with h1 | rfl
    · exact h.so s' h1
    · exact bar_sorted (r := r) (h.so s (List.mem_of_getElem? hs))
theorem MOk.go {n k : Nat} {r : Reg} (h : MOk n r) (hk : k < r.sts.length) : MOk n { r with spot := k } := ⟨h.ok.go hk, h.l7, h.so⟩
theorem MOk.mono {n m : Nat} {r : Reg} (h : MOk n r) (l : n ≤ m) (hm : m ≤ 100) : MOk m r := ⟨h.ok.mono l hm, h.l7, h.so⟩
/-! ### what two registers make together -/
abbrev nmsR (s : RSt) : List Txt := s.rows.map (·.nm)
def cdR (s : RSt) (t : Txt) : Option Txt := (s.rows.find? fun r => decide (r.nm = t)).bind (·.cd)
theorem cdR_none {s : RSt} {t : Txt} (h : t ∉ nmsR s) : cdR s t = none := by
  unfold cdR
  rw [List.find?_eq_none.mpr fun r hr => by
    simp only [decide_eq_true_eq]
    exact fun e => h (e ▸ List.mem_map_of_mem (f := (·.nm)) hr)]
  rfl
theorem cdR_some {nx : Nat} {s : RSt} {r : Row} (h : RwOk nx s.rows) (hr : r ∈ s.rows) : cdR s r.nm = r.cd := by
  unfold cdR
  have : (s.rows.find? fun x => decide (x.nm = r.nm)) = some r := by
    have nd := h.nd
    generalize s.rows = l at nd hr
    induction l with
    | nil => cases hr
    | cons x l ih =>
      rw [List.map_cons, List.nodup_cons] at nd
      rw [List.find?_cons]
      rcases List.mem_cons.mp hr with rfl | hr
      · simp
      · have hne : x.nm ≠ r.nm := fun e => nd.1 (e ▸ List.mem_map_of_mem (f := (·.nm)) hr)
        simp only [hne, decide_false]
        exact ih nd.2 hr
  rw [this]; rfl
theorem cdR_in {n span : Nat} {s : RSt} (so : StOk n span s) {t : Txt} (h : t ∈ nmsR s) : ∃ c, cdR s t = some c ∧ cdOk span c ∧ look (.inr t) (nmKV s.rows) = some (.str c) := by
  obtain ⟨r, hr, rfl⟩ := List.mem_map.mp h
  obtain ⟨c, h1, h2⟩ := so.cd r hr
  refine ⟨c, by rw [cdR_some so.rws hr, h1], h2, ?_⟩
  have := look_nm_some (t := r.nm) so.rws.nd hr
  rw [h1] at this
  exact this
/-! ### shown -/
structure RFit (r : Row) : Prop where
  nm : nameOk r.nm
  cd : ∃ n c, n ≤ 3 ∧ r.cd = some c ∧ cdOk n c
theorem StOk.fit {n span : Nat} {s : RSt} (h : StOk n span s) (h3 : span ≤ 3) : ∀ r ∈ s.rows, RFit r := fun r hr => by
  obtain ⟨c, h1, h2⟩ := h.cd r hr
  exact ⟨h.rws.nm r hr, span, c, h3, h1, h2⟩
theorem Shws.len {k w b : Nat} {ds : List D} (h : ∀ d ∈ ds, Shw k w d) (hb : (w + 2) * ds.length ≤ b) : Shws k b ds := by
  have a := Shws.all h
  exact ⟨a.r, a.s, a.l, a.dp, Nat.le_trans a.wt hb⟩
/-! ### list(range(a, b)) -/
end L2.DL
/-! NH: the merged register. -/
namespace L2.DL
open PySem PySem.Spec PyProof.Rows L2.AS
end L2.DL
/-! SH: x in o, o with its own __contains__ that says a bool. -/
namespace L2.DL
open PySem PySem.Spec PyProof.Rows
end L2.DL
/-! OC: slots that hold nothing of their own. -/
namespace L2.DL
open PySem PySem.Spec PyProof.Rows L2.AS
/-- a slot that holds nothing of its own -/
def Ns (s : Slot) : Prop := s = .non ∨ ∃ d, s = .shr d
theorem ns_non : Ns .non := .inl rfl
end L2.DL
/-! OA: codes given up and codes that rest. -/
namespace L2.DL
open PySem PySem.Spec PyProof.Rows L2.AS
abbrev cds (s : RSt) : List Txt := s.rows.map fun r => r.cd.getD []
theorem lk_flt {α : Type} {q : Txt × α → Bool} : ∀ {l : Tb Txt α}, (ks l).Nodup → ∀ c, lk c (l.filter q) = (lk c l).bind fun x => if q (c, x) then some x else none
  | [], _, c => rfl
  | (d, x) :: r, n, c => by
    simp only [ks, List.map_cons, List.nodup_cons] at n
    have ih := lk_flt (q := q) (l := r) n.2 c
    rw [List.filter_cons]
    by_cases h : q (d, x) = true
    · rw [if_pos h]
      simp only [lk]
      by_cases e : d = c
      · subst e; rw [if_pos rfl, if_pos rfl]; simp [h]
      · rw [if_neg e, if_neg e]; exact ih
    · rw [if_neg h, ih]
      simp only [lk]
      by_cases e : d = c
      · subst e
        rw [if_pos rfl, lk_none.mpr n.1]; simp [h]
      · rw [if_neg e]
/-- what rests is what was given up not too long ago -/
def Rest (t p : Nat) (sl G : Tb Txt (Txt × Nat)) : Prop := ∀ c, lk c sl = (lk c G).bind fun x => if t < x.2 + p then some (x.1, x.2 + p) else none
def goneF (t1 : Nat) (M : List Txt) (G : Tb Txt (Txt × Nat)) (r : Row) : Tb Txt (Txt × Nat) := match r.cd with
  | some c => if c ∈ M then G else pt G c (r.nm, t1)
  | none => G
def gone (t1 : Nat) (M : List Txt) (rows : List Row) (G : Tb Txt (Txt × Nat)) : Tb Txt (Txt × Nat) := rows.foldl (goneF t1 M) G
theorem Rest.step {t1 p : Nat} {M : List Txt} {sl G : Tb Txt (Txt × Nat)} (hp : 0 < p) (h : Rest t1 p sl G) (r : Row) : Rest t1 p (restF p t1 M sl r) (goneF t1 M G r) := by
  unfold restF goneF
  cases r.cd with
  | none => exact h
  | some c =>
    by_cases e : c ∈ M
    · simp only [e, not_true, false_and, if_false, if_true]; exact h
    · simp only [e, not_false_iff, true_and, if_pos hp, if_false]
      intro d
      rw [lk_pt, lk_pt]
      by_cases e2 : d = c
      · rw [if_pos e2, if_pos e2]
        show _ = if t1 < t1 + p then _ else _
        rw [if_pos (by omega)]
      · rw [if_neg e2, if_neg e2]; exact h d
theorem chg_cds {pause nx span : Nat} {s : RSt} {bar : List Txt} {rows : List Row} {M : List Txt} (hM : Cod (sitR span bar s.slp rows) M) : cds (chgR pause s nx bar rows M) = M := setCd_cds (by rw [hM.len, List.length_map])
end L2.DL
/-! OB: crowds have fewer options than names; options of some names. -/
namespace L2.AS
open _root_.Lean.Grind
end L2.AS
namespace L2.DL
open PySem PySem.Spec PyProof.Rows L2.AS
/-! ### names of a crowd -/
theorem crowdT_mem (pl : List Nat) : ∀ (i : Nat) (S : List Cl) (t : Txt), t ∈ crowdT i S pl ↔ ∃ p c, S[p]? = some c ∧ i + p ∈ pl ∧ c.nm = t
  | _, [], t => by simp [crowdT]
  | i, c :: r, t => by
    have ih := crowdT_mem pl (i + 1) r t
    have key : (t ∈ crowdT i (c :: r) pl) ↔ ((i ∈ pl ∧ c.nm = t) ∨ t ∈ crowdT (i + 1) r pl) := by
      conv => lhs; unfold crowdT
      by_cases e : i ∈ pl
      · rw [if_pos e, List.mem_cons]; exact ⟨fun h => h.imp (fun h => ⟨e, h.symm⟩) id, fun h => h.imp (fun h => h.2.symm) id⟩
      · rw [if_neg e]; exact ⟨.inr, fun h => h.elim (fun h => absurd h.1 e) id⟩
    rw [key, ih]
    constructor
    · rintro (⟨h1, h2⟩ | ⟨p, d, h1, h2, h3⟩)
      · exact ⟨0, c, rfl, h1, h2⟩
      · exact ⟨p + 1, d, h1, by rw [show i + (p + 1) = i + 1 + p by omega]; exact h2, h3⟩
    · rintro ⟨p, d, h1, h2, h3⟩
      cases p with
      | zero => cases h1; exact .inl ⟨h2, h3⟩
      | succ p => exact .inr ⟨p, d, h1, by rw [show i + 1 + p = i + (p + 1) by omega]; exact h2, h3⟩
theorem crowdT_sub (pl : List Nat) : ∀ (i : Nat) (S : List Cl), (crowdT i S pl).Sublist (S.map (·.nm))
  | _, [] => List.Sublist.slnil
  | i, c :: r => by
    unfold crowdT
    by_cases e : i ∈ pl
    · rw [if_pos e]; exact (crowdT_sub pl (i + 1) r).cons₂ _
    · rw [if_neg e]; exact (crowdT_sub pl (i + 1) r).cons _
/-! ### options of some names -/
/-! ### parts of a situation -/
end L2.DL
/-! OD: the place of a text within a text. -/
namespace L2.DL
open PySem PySem.Spec PyProof.Rows L2.AS
end L2.DL
/-! OE: other names and codes. -/
namespace L2.DL
open PySem PySem.Spec PyProof.Rows L2.AS
/-- small letters -/
def low (t : Txt) : Prop := ∀ c ∈ t, 97 ≤ c ∧ c ≤ 122
def tnC (σ ρ : Txt → Txt) (c : Cl) : Cl := ⟨ρ c.nm, c.held.map σ, c.opts.map σ⟩
structure Turn (σ ρ : Txt → Txt) (S : List Cl) : Prop where
  inj : ∀ a b, low a → low b → σ a = σ b → a = b
  held : ∀ c ∈ S, ∀ t ∈ c.held, low t
  opts : ∀ c ∈ S, ∀ t ∈ c.opts, low t
open Classical in
noncomputable def bk (σ : Txt → Txt) (x : Txt) : Txt := if h : ∃ t, low t ∧ σ t = x then choose h else []
theorem bk_of {σ : Txt → Txt} (inj : ∀ a b, low a → low b → σ a = σ b → a = b) {t : Txt} (h : low t) : bk σ (σ t) = t := by
  have e : ∃ u, low u ∧ σ u = σ t := ⟨t, h, rfl⟩
  unfold bk
  rw [dif_pos e]
  exact inj _ _ (Classical.choose_spec e).1 h (Classical.choose_spec e).2
section
variable {σ ρ : Txt → Txt} {S : List Cl}
theorem tn_ops (p : Nat) : opS (S.map (tnC σ ρ)) p = (opS S p).map σ := by
  unfold opS
  rw [List.getElem?_map]
  cases S[p]? <;> rfl
theorem Turn.low_op (h : Turn σ ρ S) {p : Nat} {t : Txt} (ht : t ∈ opS S p) : low t := by
  unfold opS at ht
  cases hc : S[p]? with
  | none => rw [hc] at ht; cases ht
  | some c => rw [hc] at ht; exact h.opts c (List.mem_of_getElem? hc) t ht
theorem Turn.cod (h : Turn σ ρ S) {M : List Txt} (c : Cod S M) : Cod (S.map (tnC σ ρ)) (M.map σ) := by
  refine ⟨by rw [List.length_map, List.length_map, c.len], fun p x hx => ?_, ?_⟩
  · rw [List.getElem?_map] at hx
    obtain ⟨t, ht, rfl⟩ := Option.map_eq_some_iff.mp hx
    rw [tn_ops]
    exact List.mem_map_of_mem (c.opt p t ht)
  · refine nd_map c.nd fun a b ha hb e => ?_
    obtain ⟨i, hi⟩ := List.getElem?_of_mem ha
    obtain ⟨j, hj⟩ := List.getElem?_of_mem hb
    exact h.inj a b (h.low_op (c.opt i a hi)) (h.low_op (c.opt j b hj)) e
theorem Turn.back (h : Turn σ ρ S) {N : List Txt} (c : Cod (S.map (tnC σ ρ)) N) : ∃ M, N = M.map σ ∧ Cod S M := by
  have at_ : ∀ p x, N[p]? = some x → ∃ t, t ∈ opS S p ∧ σ t = x := fun p x hx => by
    have := c.opt p x hx
    rw [tn_ops] at this
    exact List.mem_map.mp this
  have e : ∀ p x, N[p]? = some x → bk σ x ∈ opS S p ∧ σ (bk σ x) = x := fun p x hx => by
    obtain ⟨t, h1, rfl⟩ := at_ p x hx
    rw [bk_of h.inj (h.low_op h1)]
    exact ⟨h1, rfl⟩
  refine ⟨N.map (bk σ), ?_, by rw [List.length_map, c.len, List.length_map], fun p x hx => ?_, ?_⟩
  · rw [List.map_map]
    conv => lhs; rw [← List.map_id N]
    refine List.map_congr_left fun x hx => ?_
    obtain ⟨i, hi⟩ := List.getElem?_of_mem hx
    exact (e i x hi).2.symm
  · rw [List.getElem?_map] at hx
    obtain ⟨y, hy, rfl⟩ := Option.map_eq_some_iff.mp hx
    exact (e p y hy).1
  · refine nd_map c.nd fun a b ha hb e2 => ?_
    obtain ⟨i, hi⟩ := List.getElem?_of_mem ha
    obtain ⟨j, hj⟩ := List.getElem?_of_mem hb
    rw [← (e i a hi).2, ← (e j b hj).2, e2]
theorem ix_map (inj : ∀ a b, low a → low b → σ a = σ b → a = b) {t : Txt} (ht : low t) : ∀ {l : List Txt}, (∀ u ∈ l, low u) → fstIx (σ t) (l.map σ) = fstIx t l
  | [], _ => rfl
  | a :: l, h => by
    have ih := ix_map inj ht (l := l) fun u hu => h u (List.mem_cons_of_mem _ hu)
    show (if σ a = σ t then some 0 else (fstIx (σ t) (l.map σ)).map (· + 1)) = (if a = t then some 0 else (fstIx t l).map (· + 1))
    by_cases e : a = t
    · rw [if_pos e, if_pos (by rw [e])]
    · rw [if_neg e, if_neg fun z => e (inj _ _ (h a List.mem_cons_self) ht z), ih]
theorem mem_tn (inj : ∀ a b, low a → low b → σ a = σ b → a = b) {t : Txt} (ht : low t) {l : List Txt} (h : ∀ u ∈ l, low u) : σ t ∈ l.map σ ↔ t ∈ l := by
  rw [List.mem_map]
  exact ⟨fun ⟨u, hu, e⟩ => by rwa [← inj u t (h u hu) ht e], fun h => ⟨t, h, rfl⟩⟩
theorem Turn.num (h : Turn σ ρ S) {c : Cl} (hc : c ∈ S) {t : Txt} (ht : low t) : chgI (tnC σ ρ c) (σ t) = chgI c t ∧ nmb (tnC σ ρ c) (σ t) = nmb c t := by
  have m := mem_tn h.inj ht (h.held c hc)
  refine ⟨?_, ?_⟩
  · unfold chgI chg
    have e : (tnC σ ρ c).held.isEmpty = c.held.isEmpty := by show (c.held.map σ).isEmpty = _; rw [List.isEmpty_map]
    rw [e, show decide (σ t ∈ (tnC σ ρ c).held) = decide (t ∈ c.held) from decide_eq_decide.mpr m]
  · unfold nmb numCl
    have e1 := ix_map h.inj ht (h.held c hc)
    have e2 := ix_map h.inj ht (h.opts c hc)
    show (((if σ t ∈ c.held.map σ then fstIx (σ t) (c.held.map σ) else (fstIx (σ t) (c.opts.map σ)).map (2 + ·)).getD 0 : Nat) : Int) = _
    by_cases e : t ∈ c.held
    · rw [if_pos e, if_pos (m.mpr e), e1]
    · rw [if_neg e, if_neg (fun z => e (m.mp z)), e2]
theorem zip_tn {β : Type} {f g : Cl → Txt → β} : ∀ {S : List Cl} {M : List Txt}, (∀ (p : Nat) (c : Cl) (t : Txt), S[p]? = some c → M[p]? = some t → f (tnC σ ρ c) (σ t) = g c t) → List.zipWith f (S.map (tnC σ ρ)) (M.map σ) = List.zipWith g S M
  | [], _, _ => by simp
  | _ :: _, [], _ => by simp
  | c :: S, t :: M, h => by
    simp only [List.map_cons, List.zipWith_cons_cons]
    rw [h 0 c t rfl rfl, zip_tn fun p c' t' a b => h (p + 1) c' t' a b]
theorem Turn.row (h : Turn σ ρ S) {M : List Txt} (c : Cod S M) : rowL (S.map (tnC σ ρ)) (M.map σ) = rowL S M := by
  have lw : ∀ (p : Nat) (d : Cl) (t : Txt), S[p]? = some d → M[p]? = some t → d ∈ S ∧ low t := fun p d t h1 h2 => ⟨List.mem_of_getElem? h1, h.low_op (c.opt p t h2)⟩
  unfold rowL chs nms
  rw [zip_tn (g := chgI) fun p d t h1 h2 => (h.num (lw p d t h1 h2).1 (lw p d t h1 h2).2).1, zip_tn (g := nmb) fun p d t h1 h2 => (h.num (lw p d t h1 h2).1 (lw p d t h1 h2).2).2]
theorem Turn.best (h : Turn σ ρ S) {M : List Txt} (b : Best S M) : Best (S.map (tnC σ ρ)) (M.map σ) := by
  refine ⟨h.cod b.cod, fun N hN => ?_⟩
  obtain ⟨M', rfl, hM'⟩ := h.back hN
  have := b.best M' hM'
  rw [Vc.le_def, rowSum_val b.cod, rowSum_val hM'] at this
  rw [Vc.le_def, rowSum_val (h.cod b.cod), rowSum_val hN, h.row b.cod, h.row hM']
  exact this
theorem Turn.cd (h : Turn σ ρ S) {Q : Nat → Prop} {M : Nat → Txt} (c : Cd (prb S) Q M) : Cd (prb (S.map (tnC σ ρ))) Q (fun p => σ (M p)) where
  opt := fun p hp => by
    show σ (M p) ∈ opS (S.map (tnC σ ρ)) p
    rw [tn_ops]; exact List.mem_map_of_mem (c.opt p hp)
  inj := fun p q hp hq e => c.inj p q hp hq (h.inj _ _ (h.low_op (c.opt p hp)) (h.low_op (c.opt q hq)) e)
theorem Turn.kept (h : Turn σ ρ S) : ∀ {T : List Cl} {M : List Txt}, (∀ c ∈ T, c ∈ S) → (∀ t ∈ M, low t) → keptT (T.map (tnC σ ρ)) (M.map σ) = (keptT T M).map ρ
  | [], _, _, _ => by simp [keptT]
  | _ :: _, [], _, _ => by simp [keptT]
  | c :: T, t :: M, hT, hM => by
    have ih := Turn.kept h (T := T) (M := M) (fun d hd => hT d (List.mem_cons_of_mem _ hd)) fun u hu => hM u (List.mem_cons_of_mem _ hu)
    have m := mem_tn h.inj (hM t List.mem_cons_self) (h.held c (hT c List.mem_cons_self))
    unfold keptT at ih ⊢
    simp only [List.map_cons, List.zip_cons_cons, List.filter_cons]
    by_cases e : t ∈ c.held
    · rw [if_pos (show decide (σ t ∈ (tnC σ ρ c).held) = true from decide_eq_true (m.mpr e)), if_pos (decide_eq_true e), List.map_cons, List.map_cons, List.map_cons, ih]; rfl
    · rw [if_neg (show ¬ decide (σ t ∈ (tnC σ ρ c).held) = true from fun z => e (m.mp (of_decide_eq_true z))), if_neg (by simpa using e), ih]
end
/-! ### letters moved on -/
end L2.DL
/-! RA: registers whose letters are exchanged. -/
namespace L2.DL
open PySem PySem.Spec PyProof.Rows L2.AS
/-- letters turned -/
def ltT (τ : Nat → Nat) (t : Txt) : Txt := t.map τ
structure LtOk (τ : Nat → Nat) : Prop where
  inj : ∀ a b, 97 ≤ a → a ≤ 122 → 97 ≤ b → b ≤ 122 → τ a = τ b → a = b
  lw : ∀ a, 97 ≤ a → a ≤ 122 → 97 ≤ τ a ∧ τ a ≤ 122
section
variable {τ : Nat → Nat}
theorem ltT_len {t : Txt} : (ltT τ t).length = t.length := by unfold ltT; rw [List.length_map]
theorem LtOk.lowT (h : LtOk τ) {t : Txt} (l : low t) : low (ltT τ t) := fun c hc => by
  obtain ⟨x, hx, rfl⟩ := List.mem_map.mp hc
  exact h.lw x (l x hx).1 (l x hx).2
theorem LtOk.name (h : LtOk τ) {t : Txt} (n : nameOk t) : nameOk (ltT τ t) := ⟨by rw [ltT_len]; exact n.1, by rw [ltT_len]; exact n.2.1, h.lowT n.2.2⟩
theorem LtOk.cd (h : LtOk τ) {n : Nat} {t : Txt} (c : cdOk n t) : cdOk n (ltT τ t) := ⟨by rw [ltT_len]; exact c.1, h.lowT c.2⟩
/-! ### lists of texts -/
/-! ### spellings and options -/
/-! ### rows, states, registers -/
/-! ### what changes make -/
/-! ### deeds -/
end
/-- the deed that a word and its texts mean -/
def DdOf (w one two : Txt) (d : Deed) : Prop := (w = wAdd ∧ d = .add [one]) ∨ (w = wDrop ∧ d = .drop [one]) ∨ (w = wRen ∧ d = .ren one two) ∨ (w = wBan ∧ d = .ban [one]) ∨ (w = wAlw ∧ d = .alw [one])
theorem DdOf.is {w one two : Txt} {d : Deed} (h : DdOf w one two d) : (w = wAdd → d = .add [one]) ∧ (w = wDrop → d = .drop [one]) ∧ (w = wRen → d = .ren one two) ∧ (w = wBan → d = .ban [one]) ∧ (w ≠ wAdd → w ≠ wDrop → w ≠ wRen → w ≠ wBan → d = .alw [one]) := by
  rcases h with ⟨rfl, rfl⟩ | ⟨rfl, rfl⟩ | ⟨rfl, rfl⟩ | ⟨rfl, rfl⟩ | ⟨rfl, rfl⟩ <;> simp [wAdd, wDrop, wRen, wBan, wAlw]
/-! ### a table of twelve letters -/
def tau92 (c : Nat) : Nat := ([(97, 113), (98, 109), (99, 122), (100, 120), (101, 107), (102, 121), (113, 97), (109, 98), (122, 99), (120, 100), (107, 101), (121, 102)].lookup c).getD c
theorem tau92_all : ((List.range 26).all fun i => decide (97 ≤ tau92 (97 + i)) && decide (tau92 (97 + i) ≤ 122) && (List.range 26).all fun j => decide (tau92 (97 + i) = tau92 (97 + j) → i = j)) = true := by decide +kernel
theorem tau92_ok : LtOk tau92 := by
  have h : ∀ a, 97 ≤ a → a ≤ 122 → (97 ≤ tau92 a ∧ tau92 a ≤ 122) ∧ ∀ b, 97 ≤ b → b ≤ 122 → tau92 a = tau92 b → a = b := fun a h1 h2 => by
    have q := List.all_eq_true.mp tau92_all (a - 97) (List.mem_range.mpr (by omega))
    rw [show 97 + (a - 97) = a from by omega, Bool.and_eq_true, Bool.and_eq_true] at q
    refine ⟨⟨of_decide_eq_true q.1.1, of_decide_eq_true q.1.2⟩, fun b h3 h4 e => ?_⟩
    have q2 := of_decide_eq_true (List.all_eq_true.mp q.2 (b - 97) (List.mem_range.mpr (by omega)))
    rw [show 97 + (b - 97) = b from by omega] at q2
    have := q2 e
    omega
  exact ⟨fun a b h1 h2 h3 h4 e => (h a h1 h2).2 b h3 h4 e, fun a h1 h2 => (h a h1 h2).1⟩
/-- of the first six letters -/
def inA (t : Txt) : Prop := ∀ c ∈ t, 97 ≤ c ∧ c ≤ 102
theorem inA.low {t : Txt} (h : inA t) : low t := fun c hc => by have := h c hc; omega
/-- all texts of a state are of such letters -/
structure StA (s : RSt) : Prop where
  nm : ∀ r ∈ s.rows, inA r.nm
  cd : ∀ r ∈ s.rows, ∀ c, r.cd = some c → inA c
  bar : ∀ c ∈ s.bar, inA c
  slp : ∀ e ∈ s.slp, inA e.1 ∧ inA e.2.1
theorem opts_inA {span : Nat} {bar : List Txt} {slp : Tb Txt (Txt × Nat)} {nm t : Txt} (h : inA nm) (ht : t ∈ optsR span bar slp nm) : inA t := fun c hc => h c ((spellS_mem (List.mem_filter.mp ht).1).2 c hc)
theorem cod_inA {span : Nat} {bar : List Txt} {slp : Tb Txt (Txt × Nat)} {rows : List Row} (h : ∀ r ∈ rows, inA r.nm) {M : List Txt} (hM : Cod (sitR span bar slp rows) M) : ∀ t ∈ M, inA t := fun t ht => by
  obtain ⟨i, hi⟩ := List.getElem?_of_mem ht
  have h1 := hM.opt i t hi
  unfold opS at h1
  rw [List.getElem?_map] at h1
  cases hr : rows[i]? with
  | none => rw [hr] at h1; cases h1
  | some r => rw [hr] at h1; exact opts_inA (h r (List.mem_of_getElem? hr)) h1
theorem StA.chg {s : RSt} (h : StA s) {span pause nx : Nat} {bar : List Txt} {rows : List Row} (hb : ∀ c ∈ bar, inA c) (hr : ∀ r ∈ rows, inA r.nm) {M : List Txt} (hM : Cod (sitR span bar s.slp rows) M) : StA (chgR pause s nx bar rows M) where
  nm := fun x hx => by
    obtain ⟨i, r, t, h1, h2, rfl⟩ := setCd_mem hx
    exact hr r (List.mem_of_getElem? h1)
  cd := fun x hx c hc => by
    obtain ⟨i, r, t, h1, h2, rfl⟩ := setCd_mem hx
    cases hc
    exact cod_inA hr hM _ (List.mem_of_getElem? h2)
  bar := hb
  slp := by
    have go : ∀ (rows : List Row) (slp : Tb Txt (Txt × Nat)), (∀ r ∈ rows, inA r.nm ∧ ∀ c, r.cd = some c → inA c) → (∀ e ∈ slp, inA e.1 ∧ inA e.2.1) → ∀ e ∈ restIn pause (s.tk + 1) M slp rows, inA e.1 ∧ inA e.2.1 := by
      intro rows
      induction rows with
      | nil => intro slp _ hs; exact hs
      | cons r rows ih =>
        intro slp h1 hs
        refine ih _ (fun x hx => h1 x (List.mem_cons_of_mem _ hx)) fun e he => ?_
        rcases restF_mem he with z | ⟨c, hc, rfl⟩
        · exact hs e z
        · exact ⟨(h1 r List.mem_cons_self).2 c hc, (h1 r List.mem_cons_self).1⟩
    exact go s.rows _ (fun r hr => ⟨h.nm r hr, h.cd r hr⟩) fun e he => h.slp e (List.mem_filter.mp he).1
/-- an item that is told, and the same one with other letters -/
inductive ItTw : D → D → Prop where
  | nm (t : Txt) (h : _root_.L2.DL.inA t) (l : t.length ≤ 100) : ItTw (.str t) (.str (ltT tau92 t))
  | row (t : Txt) (o : Option Txt) (c : Txt) (h : _root_.L2.DL.inA t) (ho : ∀ x, o = some x → _root_.L2.DL.inA x ∧ x.length ≤ 100) (hc : _root_.L2.DL.inA c) (l : t.length ≤ 100) (lc : c.length ≤ 100) :
      ItTw (.tup [.str t, optD o, .str c]) (.tup [.str (ltT tau92 t), optD (o.map (ltT tau92)), .str (ltT tau92 c)])
theorem asc_tau {t : Txt} (h : inA t) : asc (ltT tau92 t) := fun c hc => by
  have := tau92_ok.lowT h.low c hc
  omega
theorem ItTw.lay {d e : D} (h : ItTw d e) : Lay 1 e := by
  cases h with
  | nm t h l => exact Lay.str (k := 1) (asc_tau h)
  | row t o c h ho hc l lc =>
    refine Lay.tup (k := 0) fun x hx => ?_
    simp only [List.mem_cons, List.not_mem_nil, or_false] at hx
    rcases hx with rfl | rfl | rfl
    · exact Lay.str (asc_tau h)
    · cases o with
      | none => exact Lay.non
      | some x => exact Lay.str (asc_tau (ho x rfl).1)
    · exact Lay.str (asc_tau hc)
end L2.DL
/-! RB: target = ys.pop(e) of an own list. -/
namespace L2.DL
open PySem PySem.Spec PyProof.Rows
/-! ### worked out -/
end L2.DL
/-! RC: deeds that may be refused. -/
namespace L2.DL
open PySem PySem.Spec PyProof.Rows L2.AS
/-! ### a container of one's own that stays from here on -/
/-- the first text that is known or stands twice -/
def fstDup (known : List Txt) : List Txt → List Txt → Option Txt
  | _, [] => none
  | seen, t :: r => if t ∈ known ∨ t ∈ seen then some t else fstDup known (seen ++ [t]) r
/-- the first text that is not known or stands twice -/
def fstUn (known : List Txt) : List Txt → List Txt → Option Txt
  | _, [] => none
  | seen, t :: r => if t ∉ known ∨ t ∈ seen then some t else fstUn known (seen ++ [t]) r
/-- the first text that has not so many letters -/
def fstBad (n : Nat) (ts : List Txt) : Option Txt := ts.find? fun t => !decide (t.length = n)
theorem dup_none {known : List Txt} : ∀ {ts seen : List Txt}, fstDup known seen ts = none → (known ++ seen).Nodup → seen.Nodup → (known ++ (seen ++ ts)).Nodup
  | [], seen, _, h, _ => by rw [List.append_nil]; exact h
  | t :: r, seen, h, nd, ns => by
    unfold fstDup at h
    split at h
    · cases h
    · rename_i no
      have h1 : (known ++ (seen ++ [t])).Nodup := by
        rw [← List.append_assoc, List.nodup_append]
        refine ⟨nd, by simp, fun a ha b hb e => no ?_⟩
        rw [List.mem_singleton.mp hb] at e
        rw [← e]
        exact List.mem_append.mp ha
      have := dup_none (ts := r) (seen := seen ++ [t]) h h1 (List.nodup_append.mp h1).2.1
      rwa [List.append_assoc] at this
theorem un_none {known : List Txt} : ∀ {ts seen : List Txt}, fstUn known seen ts = none → seen.Nodup → (∀ t ∈ ts, t ∈ known) ∧ (seen ++ ts).Nodup
  | [], seen, _, h => ⟨fun t ht => (by cases ht), by rw [List.append_nil]; exact h⟩
  | t :: r, seen, h, nd => by
    unfold fstUn at h
    split at h
    · cases h
    · rename_i no
      have no1 : t ∈ known := Decidable.not_not.mp fun z => no (.inl z)
      have no2 : t ∉ seen := fun z => no (.inr z)
      have h1 : (seen ++ [t]).Nodup := by
        rw [List.nodup_append]
        refine ⟨nd, by simp, fun a ha b hb e => no2 ?_⟩
        rw [List.mem_singleton.mp hb] at e
        exact e ▸ ha
      obtain ⟨a, b⟩ := un_none (ts := r) (seen := seen ++ [t]) h h1
      refine ⟨fun u hu => ?_, by rwa [List.append_assoc] at b⟩
      rcases List.mem_cons.mp hu with rfl | z
      · exact no1
      · exact a u z
theorem bad_none {n : Nat} {ts : List Txt} (h : fstBad n ts = none) : ∀ t ∈ ts, t.length = n := fun t ht => by
  have := List.find?_eq_none.mp h t ht
  simpa using this
/-- how a deed is refused ahead of all codings -/
inductive Er where
  | taken (t : Txt) | unknown (t : Txt) | code (t : Txt) | nothing (w : Txt)
def Deed.err (r : Reg) (s : RSt) : Deed → Option Er
  | .add ts => (fstDup (nmsR s) [] ts).map .taken
  | .drop ts => (fstUn (nmsR s) [] ts).map .unknown
  | .ren o n => if o ∉ nmsR s then some (.unknown o) else if n ∈ nmsR s then some (.taken n) else none
  | .ban ts => (fstBad r.span ts).map .code
  | .alw ts => (fstBad r.span ts).map .code
  | .undo => if r.spot = 0 then some (.nothing wUndo) else none
  | .redo => if r.spot + 1 = r.sts.length then some (.nothing wRedo) else none
/-- the form that a deed's texts have -/
def DeedFit (s : RSt) : Deed → Prop
  | .add ts => (∀ t ∈ ts, nameOk t) ∧ s.rows.length + ts.length ≤ 44 ∧ ts.length ≤ 2
  | .drop ts => (∀ t ∈ ts, nameOk t) ∧ ts.length ≤ 2
  | .ren o n => nameOk o ∧ nameOk n
  | .ban ts => (∀ t ∈ ts, nameOk t) ∧ ts.length ≤ 2
  | .alw ts => (∀ t ∈ ts, nameOk t) ∧ ts.length ≤ 2
  | _ => True
theorem Deed.fine {n : Nat} {r : Reg} {s : RSt} {d : Deed} (ok : ROk n r) (so : StOk n r.span s) (f : DeedFit s d) (h : d.err r s = none) : DeedOk r s d := by
  have hsp := ok.spot
  cases d with
  | add ts =>
    have h : fstDup (nmsR s) [] ts = none := by simpa [Deed.err] using h
    exact ⟨f.1, by have := dup_none h (by rw [List.append_nil]; exact so.rws.nd) List.nodup_nil; simpa using this, f.2.1, f.2.2⟩
  | drop ts =>
    have h : fstUn (nmsR s) [] ts = none := by simpa [Deed.err] using h
    obtain ⟨a, b⟩ := un_none h List.nodup_nil
    exact ⟨a, by simpa using b, f.2⟩
  | ren o m =>
    have h : (if o ∉ nmsR s then some (Er.unknown o) else if m ∈ nmsR s then some (Er.taken m) else none) = none := h
    split at h
    · cases h
    · rename_i h1
      split at h
      · cases h
      · rename_i h2
        exact ⟨Decidable.not_not.mp h1, f.2, h2⟩
  | ban ts =>
    have h : fstBad r.span ts = none := by simpa [Deed.err] using h
    exact ⟨fun t ht => ⟨bad_none h t ht, (f.1 t ht).2.2⟩, Nat.zero_le _, f.2⟩
  | alw ts =>
    have h : fstBad r.span ts = none := by simpa [Deed.err] using h
    exact ⟨fun t ht => ⟨bad_none h t ht, (f.1 t ht).2.2⟩, Nat.zero_le _, f.2⟩
  | undo =>
    have h : (if r.spot = 0 then some (Er.nothing wUndo) else none) = none := h
    split at h
    · cases h
    · rename_i h1
      show 0 < r.spot
      omega
  | redo =>
    have h : (if r.spot + 1 = r.sts.length then some (Er.nothing wRedo) else none) = none := h
    split at h
    · cases h
    · rename_i h1
      show r.spot + 1 < r.sts.length
      omega
/-- how a deed ends that may be refused -/
def RegOut (cR cS cN cT cU cC cNo a : Addr) (r : Reg) (n : Nat) (s : RSt) (d : Deed) (C : Cs) (PR : Ret → Cs → Prop) (PX : XD → Cs → Prop) : Prop := match d.err r s with
  | some (.taken t) => PX (.own cT [("name", .str t)]) C
  | some (.unknown t) => PX (.own cU [("name", .str t)]) C
  | some (.code t) => PX (.own cC [("value", .str t)]) C
  | some (.nothing w) => PX (.own cNo [("action", .str w)]) C
  | none => DeedOut r n s d (fun l => PX (.own cN [("crowd", .lst (txs l))]) C) fun r' x => frsD x PR (cput C a (regC cR cS r'))
section
variable {cR cS cN cT cU cC cNo a : Addr} {r : Reg} {n : Nat} {s : RSt} {d : Deed} {C : Cs} {PR : Ret → Cs → Prop} {PX : XD → Cs → Prop}
theorem RegOut.taken {t : Txt} (q : RegOut cR cS cN cT cU cC cNo a r n s d C PR PX) (h : d.err r s = some (.taken t)) : PX (.own cT [("name", .str t)]) C := by unfold RegOut at q; rw [h] at q; exact q
theorem RegOut.unknown {t : Txt} (q : RegOut cR cS cN cT cU cC cNo a r n s d C PR PX) (h : d.err r s = some (.unknown t)) : PX (.own cU [("name", .str t)]) C := by unfold RegOut at q; rw [h] at q; exact q
theorem RegOut.code {t : Txt} (q : RegOut cR cS cN cT cU cC cNo a r n s d C PR PX) (h : d.err r s = some (.code t)) : PX (.own cC [("value", .str t)]) C := by unfold RegOut at q; rw [h] at q; exact q
theorem RegOut.nothing {t : Txt} (q : RegOut cR cS cN cT cU cC cNo a r n s d C PR PX) (h : d.err r s = some (.nothing t)) : PX (.own cNo [("action", .str t)]) C := by unfold RegOut at q; rw [h] at q; exact q
theorem RegOut.out (q : RegOut cR cS cN cT cU cC cNo a r n s d C PR PX) (h : d.err r s = none) : DeedOut r n s d (fun l => PX (.own cN [("crowd", .lst (txs l))]) C) fun r' x => frsD x PR (cput C a (regC cR cS r')) := by unfold RegOut at q; rw [h] at q; exact q
end
/-! ### with letters turned -/
/-! ### words and their texts -/
def wEnter : Txt := [101, 110, 116, 101, 114]
def WdOf (w : Txt) (ts : List Txt) (d : Deed) : Prop := 1 ≤ ts.length ∧ ts.length ≤ 2 ∧ ((w = wEnter ∧ d = .add ts) ∨ (w = wDrop ∧ d = .drop ts) ∨ (∃ o n, w = wRen ∧ ts = [o, n] ∧ d = .ren o n) ∨ (w = wBan ∧ d = .ban ts) ∨ (w = wAlw ∧ d = .alw ts))
theorem WdOf.is {w : Txt} {ts : List Txt} {d : Deed} (h : WdOf w ts d) : (w = wRen → ∃ o m, ts = [o, m] ∧ d = .ren o m) ∧ (w = wEnter → d = .add ts) ∧ (w = wDrop → d = .drop ts) ∧ (w = wBan → d = .ban ts) ∧ (w ≠ wRen → w ≠ wEnter → w ≠ wDrop → w ≠ wBan → d = .alw ts) := by
  rcases h.2.2 with ⟨rfl, rfl⟩ | ⟨rfl, rfl⟩ | ⟨o, m, rfl, rfl, rfl⟩ | ⟨rfl, rfl⟩ | ⟨rfl, rfl⟩ <;> simp [wEnter, wDrop, wRen, wBan, wAlw]
end L2.DL
/-! OJ: o[e] of an object with its own __getitem__. -/
namespace L2.DL
open PySem PySem.Spec PyProof.Rows
structure GetO (K : PySem.W.Frag) (C g : Addr) : Prop where
  at_ : PySem.W.findIn K (.ref C) "__getitem__" = some (some (.ref g))
  fn : PySem.W.isFn K (.ref g) = true
  fi : PySem.W.fnIn K g = true
structure GtV (X : Cx) (C : Addr) (spv : DSpV) : Prop where
  ex : ∃ k g, DCal X.prog X.w X.K X.mg X.base k (.ref g) [] spv ∧ Room (k + 1) X.A ∧ GetO X.K C g
structure QGt (P : Program) (w : World) (K : PySem.W.Frag) (mg : Str → Option Value) (base : Heap) (k : Nat) (C : Addr) (spv : DSpV) : Prop where
  ex : ∃ g, DCal P w K mg base k (.ref g) [] spv ∧ GetO K C g
theorem QGt.to {X : Cx} {j k : Nat} {C : Addr} {spv : DSpV} (c : QGt X.prog X.w X.K X.mg X.base k C spv) (hr : Room j X.A) (h : k + 1 ≤ j) : GtV X C spv := let ⟨g, d, a⟩ := c.ex; ⟨k, g, d, hr.mono h, a⟩
end L2.DL
/-! PA: codes that names hold stay; registers whose codes are options; merges with less. -/
namespace L2.DL
open PySem PySem.Spec PyProof.Rows L2.AS
theorem costRow_z0 {n p : Nat} {c : Cl} {t : Txt} (h : chgI c t = 0) : costRow n p c t 0 = List.replicate (2 * n + 1) 0 := by
  apply List.ext_getElem
  · rw [costRow_len, List.length_replicate]
  · intro i h1 h2
    rw [costRow_at h1, List.getElem_replicate, h]
    simp
theorem best_stay {S : List Cl} {M : List Txt} (c : Cod S M) (h : ∀ (p : Nat) (d : Cl) (t : Txt), S[p]? = some d → M[p]? = some t → d.held = [t]) : Best S M := by
  refine ⟨c, fun M' _ => ?_⟩
  have e : rowSum S M = sm (fun _ => (0 : VS S)) S.length := by
    unfold rowSum
    refine sm_eq fun p hp => ?_
    have hd : S[p]? = some S[p] := List.getElem?_eq_getElem hp
    have hm : M[p]? = some (M[p]'(by rw [c.len]; exact hp)) := List.getElem?_eq_getElem _
    have hh := h p _ _ hd hm
    rw [show M.getD p [] = M[p]'(by rw [c.len]; exact hp) from by rw [List.getD_eq_getElem?_getD, hm]; rfl]
    generalize M[p]'(by rw [c.len]; exact hp) = t at hh
    refine Vc.ext' ?_
    have hn : numCl S[p] t = some 0 := by
      unfold numCl
      rw [hh, if_pos (List.mem_singleton.mpr rfl)]
      show (if t = t then some 0 else _) = _
      rw [if_pos rfl]
    rw [kst_val hd hn, costRow_z0 (by unfold chgI chg; rw [hh]; simp)]
    rfl
  rw [e]
  exact sm_le fun p _ => kst_nonneg S p _
/-! ### codes that are options -/
structure OwnC (span : Nat) (s : RSt) : Prop where
  nd : (cds s).Nodup
  opt : ∀ r ∈ s.rows, ∀ c, r.cd = some c → c ∈ optsR span s.bar s.slp r.nm
theorem lk_restIn {pause t1 : Nat} {M : List Txt} {c : Txt} (h : c ∈ M) : ∀ (rows : List Row) {slp : Tb Txt (Txt × Nat)}, lk c (restIn pause t1 M slp rows) = lk c slp
  | [], _ => rfl
  | r :: rows, slp => by
    show lk c (restIn pause t1 M (restF pause t1 M slp r) rows) = _
    rw [lk_restIn h rows]
    unfold restF
    cases r.cd with
    | none => rfl
    | some d =>
      by_cases e : d ∈ M
      · simp only [e, not_true, false_and, if_false]
      · by_cases e2 : 0 < pause
        · simp only [e, not_false_iff, true_and, if_pos e2]
          rw [lk_pt, if_neg (fun z : c = d => e (z ▸ h))]
        · simp only [e, not_false_iff, true_and, if_neg e2]
theorem OwnC.chg {pause nx span : Nat} {s : RSt} {bar : List Txt} {rows : List Row} {M : List Txt} (n : (ks s.slp).Nodup) (hM : Cod (sitR span bar s.slp rows) M) : OwnC span (chgR pause s nx bar rows M) := by
  refine ⟨by rw [chg_cds hM]; exact hM.nd, fun r hr c hc => ?_⟩
  obtain ⟨i, r0, t, hr0, ht, rfl⟩ := setCd_mem hr
  have e : t = c := Option.some.inj hc
  subst e
  have ho := hM.opt i t ht
  rw [opS_some (c := claimR span bar s.slp r0) (by rw [List.getElem?_map, hr0]; rfl)] at ho
  obtain ⟨h1, h2⟩ := List.mem_filter.mp (show t ∈ (spellS r0.nm span).filter _ from ho)
  rw [Bool.and_eq_true] at h2
  refine List.mem_filter.mpr ⟨h1, ?_⟩
  rw [Bool.and_eq_true]
  refine ⟨h2.1, ?_⟩
  have hl : lk t (restIn pause (s.tk + 1) M (slpCut (s.tk + 1) M s.slp) s.rows) = none := by
    rw [lk_restIn (List.mem_of_getElem? ht)]
    unfold slpCut
    rw [lk_flt n]
    cases lk t s.slp with
    | none => rfl
    | some x => simp [List.mem_of_getElem? ht]
  show slpOk (restIn pause (s.tk + 1) M (slpCut (s.tk + 1) M s.slp) s.rows) r0.nm t = true
  unfold slpOk
  rw [hl]
structure MOkC (n : Nat) (r : Reg) : Prop where
  m : MOk n r
  own : ∀ s ∈ r.sts, OwnC r.span s
theorem MOkC.push {n : Nat} {r : Reg} {s : RSt} {d : Deed} {M : List Txt} (h : MOkC n r) (hs : r.sts[r.spot]? = some s) (h7 : (d.rows s).length ≤ 7) (hM : Cod (sitR r.span (d.bar s) s.slp (d.rows s)) M) (ok : ROk (n + 1) (r.push (chgR r.pause s (d.nx s) (d.bar s) (d.rows s) M))) : MOkC (n + 1) (r.push (chgR r.pause s (d.nx s) (d.bar s) (d.rows s) M)) :=
  ⟨h.m.push hs h7 hM ok, fun x hx => by
    rcases List.mem_append.mp (show x ∈ r.sts.take (r.spot + 1) ++ [_] from hx) with hx | hx
    · exact h.own x (List.mem_of_mem_take hx)
    · rw [List.mem_singleton.mp hx]; exact OwnC.chg (h.m.ok.st s (List.mem_of_getElem? hs)).slpN hM⟩
theorem MOkC.mono {n m : Nat} {r : Reg} (h : MOkC n r) (l : n ≤ m) (hm : m ≤ 100) : MOkC m r := ⟨h.m.mono l hm, h.own⟩
/-! ### names that are dropped -/
abbrev cdsR (rows : List Row) : List Txt := rows.map fun r => r.cd.getD []
theorem setCd_self : ∀ {rows : List Row}, (∀ r ∈ rows, r.cd ≠ none) → setCd rows (cdsR rows) = rows
  | [], _ => rfl
  | r :: rows, h => by
    have ih := setCd_self (rows := rows) fun x hx => h x (List.mem_cons_of_mem _ hx)
    have hr := h r List.mem_cons_self
    show { r with cd := some (r.cd.getD []) } :: setCd rows (cdsR rows) = _
    rw [ih]
    congr 1
    cases e : r.cd with
    | none => exact absurd e hr
    | some c => cases r; simp at e; subst e; rfl
theorem own_best {n span : Nat} {s : RSt} {rows : List Row} (so : StOk n span s) (o : OwnC span s) (h : rows.Sublist s.rows) : Best (sitR span s.bar s.slp rows) (cdsR rows) := by
  have at_ : ∀ (p : Nat) (r : Row), rows[p]? = some r → ∃ c, r.cd = some c ∧ c ∈ optsR span s.bar s.slp r.nm := fun p r hr => by
    have hm := h.subset (List.mem_of_getElem? hr)
    obtain ⟨c, hc, _⟩ := so.cd r hm
    exact ⟨c, hc, o.opt r hm c hc⟩
  refine best_stay ⟨by rw [List.length_map, List.length_map], fun p t ht => ?_, o.nd.sublist (h.map _)⟩ fun p d t hd ht => ?_
  · rw [List.getElem?_map] at ht
    obtain ⟨r, hr, rfl⟩ := Option.map_eq_some_iff.mp ht
    obtain ⟨c, hc, ho⟩ := at_ p r hr
    rw [opS_some (c := claimR span s.bar s.slp r) (by rw [List.getElem?_map, hr]; rfl), hc]
    exact ho
  · rw [List.getElem?_map] at ht hd
    obtain ⟨r, hr, rfl⟩ := Option.map_eq_some_iff.mp ht
    rw [hr] at hd
    cases hd
    obtain ⟨c, hc, _⟩ := at_ p r hr
    show r.cd.toList = [r.cd.getD []]
    rw [hc]; rfl
/-! ### merges with less -/
/-- a state with some of another one's names and bans -/
structure LessR (b s : RSt) : Prop where
  rows : s.rows.Sublist b.rows
  bar : ∀ t ∈ s.bar, t ∈ b.bar
theorem LessR.cd {nx : Nat} {b s : RSt} (h : LessR b s) (hb : RwOk nx b.rows) {t c : Txt} (hc : cdR s t = some c) : cdR b t = some c := by
  unfold cdR at hc
  cases hf : s.rows.find? (fun r => decide (r.nm = t)) with
  | none => rw [hf] at hc; cases hc
  | some r =>
    rw [hf] at hc
    have hn := List.find?_some hf
    have hm := h.rows.subset (List.mem_of_find?_eq_some hf)
    have e : r.nm = t := by simpa using hn
    subst e
    rw [cdR_some hb hm]
    exact hc
/-! ### what a register's names get -/
end L2.DL
/-! PD: is True, is False. -/
namespace L2.DL
open PySem PySem.Spec PyProof.Rows
end L2.DL
/-! PE: [*d.values(), ..]. -/
namespace L2.DL
open PySem PySem.Spec PyProof.Rows
end L2.DL
/-! PF: what a certificate adds up to. -/
namespace L2.AS
open Lean.Grind
end L2.AS
namespace L2.DL
open PySem PySem.Spec PyProof.Rows L2.AS
end L2.DL
/-! PG: ts.count(t) of texts. -/
namespace L2.DL
open PySem PySem.Spec PyProof.Rows
end L2.DL
/-! PH: a container of one's own is read as if it were shared, while the cells stay hidden; what comes of it is a list of texts, and all is as it was. -/
namespace L2.DL
open PySem PySem.Spec PyProof.Rows
end L2.DL
/-! PI: zip of two sources of any kind; of a list and a tuple. -/
namespace L2.DL
open PySem PySem.Spec PyProof.Rows
/-! ### a list and a tuple -/
/-! ### over trees -/
end L2.DL
/-! PJ: the same claims in another order: as many kept names. -/
namespace L2.DL
open PySem PySem.Spec PyProof.Rows L2.AS
/-- the code a coding gives to a name -/
def fnC (N M : List Txt) (t : Txt) : Txt := (lk t (N.zip M)).getD []
theorem fnC_map {N M : List Txt} (nd : N.Nodup) (hl : M.length = N.length) : N.map (fnC N M) = M := by
  refine List.ext_getElem (by rw [List.length_map, hl]) fun i h1 h2 => ?_
  have hi : i < N.length := by rw [List.length_map] at h1; exact h1
  rw [List.getElem_map]
  unfold fnC
  have hk : (ks (N.zip M)).Nodup := by
    unfold ks
    rw [List.map_fst_zip (by rw [hl]; exact Nat.le_refl _)]
    exact nd
  rw [lk_of hk (List.mem_iff_getElem?.mpr ⟨i, by
    rw [List.getElem?_zip_eq_some]
    exact ⟨List.getElem?_eq_getElem hi, List.getElem?_eq_getElem h2⟩⟩)]
  rfl
theorem cod_fn {N : List Txt} {c : Txt → Cl} {f : Txt → Txt} : Cod (N.map c) (N.map f) ↔ (∀ t ∈ N, f t ∈ (c t).opts) ∧ (N.map f).Nodup := by
  constructor
  · intro h
    refine ⟨fun t ht => ?_, h.nd⟩
    obtain ⟨i, hi⟩ := List.getElem?_of_mem ht
    have := h.opt i (f t) (by rw [List.getElem?_map, hi]; rfl)
    rwa [opS_some (by rw [List.getElem?_map, hi]; rfl)] at this
  · rintro ⟨h1, h2⟩
    refine ⟨by rw [List.length_map, List.length_map], fun p u hu => ?_, h2⟩
    rw [List.getElem?_map] at hu
    obtain ⟨t, ht, rfl⟩ := Option.map_eq_some_iff.mp hu
    rw [opS_some (by rw [List.getElem?_map, ht]; rfl)]
    exact h1 t (List.mem_of_getElem? ht)
theorem sgn_head {a b : Int} {x y : List Int} (h : sgn (a :: x) (b :: y) ≤ 0) : a ≤ b := by
  unfold sgn at h
  split at h
  · omega
  · omega
/-- a best coding keeps as many names as any -/
theorem best_keeps {S : List Cl} {M M' : List Txt} (h : Best S M) (h' : Cod S M') : (keptT S M').length ≤ (keptT S M).length := by
  have hb : sgn (rowSum S M).1 (rowSum S M').1 ≤ 0 := h.best M' h'
  rw [rowSum_val h.cod, rowSum_val h'] at hb
  have hs : (chs S M).sum ≤ (chs S M').sum := sgn_head hb
  have k1 := kept_len S M h.cod.len
  have k2 := kept_len S M' h'.len
  omega
/-! ### merges either way -/
end L2.DL
/-! PK: tuple(a text): a tuple of its signs that tells its object. -/
namespace L2.DL
open PySem PySem.Spec PyProof.Rows
end L2.DL
/-! QA: new containers within a tuple as cells; an expression that reads all cells as if they were laid, for a result without addresses. -/
namespace L2.DL
open PySem PySem.Spec PyProof.Rows
section
variable {X : Cx} {e e2 : Expr} {pos pos' : Pos}
/-- return (new, new): both are cells -/
def sRetC2 (m1 m2 : EM Cont) : SM := fun E dE env C => m1 E env C fun c1 env1 C1 => ∀ a, C1 a = none → m2 E env1 (cput C1 a (cellOf c1)) fun c2 _ C2 => ∀ b, C2 b = none → dE.rt (.shr (.tup [.cell a, .cell b])) (cput C2 b (cellOf c2))
end
/-- the tree with its cells read -/
inductive RdC (C : Cs) : D → D → Prop
  | same (d : D) : RdC C d d
  | lst {a : Addr} {xs : List D} : C a = some (.lst xs) → RdC C (.cell a) (.lst xs)
  | dct {a : Addr} {kvs : List (DK × D)} : C a = some (.dct kvs) → RdC C (.cell a) (.dct kvs)
  | two {d1 d2 e1 e2 : D} : RdC C d1 e1 → RdC C d2 e2 → RdC C (.tup [d1, d2]) (.tup [e1, e2])
/-- a result without addresses -/
def imm : D → Prop
  | .non | .bl _ | .int _ | .str _ => True
  | _ => False
/-- all cells laid -/
def hideH (Hs H : Hp) (C : Cs) : Hp := fun a => if (C a).isSome then H a else Hs a
def hideA (Z : Z0) (H : Hp) (C : Cs) : Z0 := { Z with Hs := hideH Z.Hs H C, H := fun a => if (C a).isSome then H a else Z.H a, C := fun a => if (C a).isSome then none else Z.C a }
theorem hideH_some {Hs H : Hp} {C : Cs} {a : Addr} {c : Cell} (h : C a = some c) : hideH Hs H C a = H a := by simp [hideH, h]
theorem hideH_none {Hs H : Hp} {C : Cs} {a : Addr} (h : C a = none) : hideH Hs H C a = Hs a := by simp [hideH, h]
theorem RdC.rep {K : PySem.W.Frag} {Hs H : Hp} {C : Cs} {d d' : D} (f : Fits K Hs H C) (sH : Same Hs (hideH Hs H C)) (r : RdC C d d') : ∀ {v : V}, Rep K Hs d v → Rep K (hideH Hs H C) d' v := by
  induction r with
  | same d => exact fun h => h.same sH
  | lst hc =>
    intro v h
    cases h
    obtain ⟨_, o, h2, vs, rfl, h3⟩ := f.cel _ _ hc
    exact .lst (by rw [hideH_some hc]; exact h2) (h3.same sH)
  | dct hc =>
    intro v h
    cases h
    obtain ⟨_, o, h2, vs, rfl, h3⟩ := f.cel _ _ hc
    exact .dct (.inl (by rw [hideH_some hc]; exact h2)) (h3.same sH)
  | two _ _ i1 i2 =>
    intro v h
    cases h with
    | tup ht hr =>
      cases hr with
      | cons h1 hr =>
        cases hr with
        | cons h2 hr =>
          cases hr
          exact .tup (TupA.same sH ht) (.cons (i1 h1) (.cons (i2 h2) .nil))
section
variable {env : DL.Env} {C : Cs} {E : EX} {m1 m2 : EM Cont}
theorem j_retC2 {nx bk ct : DL.Env → Cs → Prop} {rt : Ret → Cs → Prop} (q : m1 E env C fun c1 env1 C1 => ∀ a, C1 a = none → m2 E env1 (cput C1 a (cellOf c1)) fun c2 _ C2 => ∀ b, C2 b = none → rt (.shr (.tup [.cell a, .cell b])) (cput C2 b (cellOf c2))) : sRetC2 m1 m2 E ⟨nx, rt, bk, ct⟩ env C := q
end
/-! ### clear of a table that is a cell -/
def sClrD (mo : EM D) : SM := fun E dE env C => mo E env C fun d env1 C1 => ∃ a kvs, d = .cell a ∧ C1 a = some (.dct kvs) ∧ dE.nx env1 (cput C1 a (.dct []))
theorem j_clrD {env : DL.Env} {C : Cs} {E : EX} {mo : EM D} {nx bk ct : DL.Env → Cs → Prop} {rt : Ret → Cs → Prop} (q : mo E env C fun d env1 C1 => ∃ a kvs, d = .cell a ∧ C1 a = some (.dct kvs) ∧ nx env1 (cput C1 a (.dct []))) : sClrD mo E ⟨nx, rt, bk, ct⟩ env C := q
/-! ### two cells of a written pair are laid: nobody writes them any more -/
end L2.DL
/-! QC: try with two except clauses, the first with a name. -/
namespace L2.DL
open PySem PySem.Spec PyProof.Rows
/-! ### over trees -/
def CatchT (yes no yes2 no2 : List Addr) (i : Nat) (ms : Addr → Value → Option Addr → SM) (ms2 : SM) (E : EX) (dE : DEnds) (x : XD) (env : DL.Env) (C : Cs) : Prop := match x with
  | .own B fs => (B ∈ yes ∧ ∀ a dd, C a = none → ms a (.ref B) (some dd) E0 (dE.gone i) (env.set i (.shr (.exc a B dd fs))) C) ∨ (B ∈ no ∧ ((B ∈ yes2 ∧ ms2 E0 dE env C) ∨ (B ∈ no2 ∧ E (.own B fs) env C)))
  | .blt _ => False
def sTryT (yes no yes2 no2 : List Addr) (i : Nat) (mb : SM) (ms : Addr → Value → Option Addr → SM) (ms2 : SM) : SM := fun E dE env C => mb (CatchT yes no yes2 no2 i ms ms2 E dE) dE env C
section
variable {X : Cx} {x y n : Str} {c c2 : Addr} {i : Nat} {body suite suite2 : List Stmt} {b₀ b₁ : Stmt} {np nq pos pos' pos2 : Pos}
theorem j_tryT {E : EX} {env : DL.Env} {C : Cs} {yes no yes2 no2 : List Addr} {mb ms2 : SM} {ms : Addr → Value → Option Addr → SM} {nx bk ct : DL.Env → Cs → Prop} {rt : Ret → Cs → Prop} (q : mb (CatchT yes no yes2 no2 i ms ms2 E ⟨nx, rt, bk, ct⟩) ⟨nx, rt, bk, ct⟩ env C) : sTryT yes no yes2 no2 i mb ms ms2 E ⟨nx, rt, bk, ct⟩ env C := q
end
end L2.DL
/-! QB: states that may be compared; what merges tell, compared. -/
namespace L2.DL
open PySem PySem.Spec PyProof.Rows L2.AS
theorem push_at2 (r : Reg) (s : RSt) (h : r.spot < r.sts.length) : (r.push s).sts[(r.push s).spot]? = some s := by
  show (r.sts.take (r.spot + 1) ++ [s])[r.spot + 1]? = _
  rw [List.getElem?_append_right (by rw [List.length_take]; omega), List.length_take, Nat.min_eq_left (by omega)]
  simp
/-- few names, whose codes are options -/
structure H8 (span : Nat) (s : RSt) : Prop where
  n : s.rows.length ≤ 8
  o : OwnC span s
end L2.DL
/-! QF: registers at rest: changes that change nothing; two accounts of a deed with registers that are alike up to now. -/
namespace L2.DL
open PySem PySem.Spec PyProof.Rows L2.AS
theorem sitR_bar {span : Nat} {b1 b2 : List Txt} {slp : Tb Txt (Txt × Nat)} {rows : List Row} (h : ∀ t, t ∈ b1 ↔ t ∈ b2) : sitR span b1 slp rows = sitR span b2 slp rows := by
  refine List.map_congr_left fun r _ => ?_
  show (⟨_, _, optsR span b1 slp r.nm⟩ : Cl) = ⟨_, _, optsR span b2 slp r.nm⟩
  have : optsR span b1 slp r.nm = optsR span b2 slp r.nm := by
    unfold optsR
    refine List.filter_congr fun o _ => ?_
    rw [decide_eq_decide.mpr (h o)]
  rw [this]
theorem rest_best {n span : Nat} {s : RSt} {bar : List Txt} (so : StOk n span s) (o : OwnC span s) (h : ∀ t, t ∈ bar ↔ t ∈ s.bar) : Best (sitR span bar s.slp s.rows) (cdsR s.rows) := by
  rw [sitR_bar h]; exact own_best so o (List.Sublist.refl _)
theorem old_self {rows : List Row} (h : (rows.map (·.b)).Nodup) : ∀ r ∈ rows, oldOf rows r.b = r.cd := by
  induction rows with
  | nil => intro r hr; cases hr
  | cons x rows ih =>
    rw [List.map_cons, List.nodup_cons] at h
    intro r hr
    unfold oldOf
    rw [List.find?_cons]
    rcases List.mem_cons.mp hr with rfl | hr
    · simp
    · have hne : x.b ≠ r.b := fun e => h.1 (e ▸ List.mem_map_of_mem (f := (·.b)) hr)
      simp only [hne, decide_false]
      exact ih h.2 r hr
theorem told_self {rows : List Row} (h : (rows.map (·.b)).Nodup) : toldD rows rows = .lst [] := by
  show D.lst ((toldR rows rows).map _) = _
  have : toldR rows rows = [] := by
    unfold toldR
    rw [List.filter_eq_nil_iff]
    intro r hr
    simp [old_self h r hr]
  rw [this]; rfl
/-- the state behind a change that changes nothing -/
abbrev calmS (p nx : Nat) (bar : List Txt) (s : RSt) : RSt := chgR p s nx bar s.rows (cdsR s.rows)
theorem calm_rows {n span p nx : Nat} {bar : List Txt} {s : RSt} (so : StOk n span s) : (calmS p nx bar s).rows = s.rows := setCd_self fun x hx => by
  obtain ⟨c', hc', _⟩ := so.cd x hx
  rw [hc']; simp
theorem calm_told {n span : Nat} {s : RSt} (so : StOk n span s) : toldC s.rows (setCd s.rows (cdsR s.rows)) = .lst [] := by
  rw [setCd_self fun x hx => by
    obtain ⟨c', hc', _⟩ := so.cd x hx
    rw [hc']; simp]
  have := told_self so.rws.bn
  show Cont.lst _ = _
  have h2 : (toldR s.rows s.rows).map (tolD s.rows) = [] := by
    have h3 : D.lst ((toldR s.rows s.rows).map (tolD s.rows)) = D.lst [] := this
    injection h3
  rw [h2]
theorem calm_h8 {n span p nx : Nat} {bar : List Txt} {s : RSt} (so : StOk n span s) (h : H8 span s) (hb : ∀ t, t ∈ bar ↔ t ∈ s.bar) : H8 span (calmS p nx bar s) :=
  ⟨by rw [calm_rows so]; exact h.n, OwnC.chg so.slpN (rest_best so h.o hb).cod⟩
/-- registers that are alike up to now -/
structure Alike (r1 r : Reg) : Prop where
  sp : r1.span = r.span
  p : r1.pause = r.pause
  st : r1.spot = r.spot
  tk : r1.sts.take (r1.spot + 1) = r.sts.take (r.spot + 1)
theorem Alike.push {r1 r : Reg} (h : Alike r1 r) (s : RSt) : r1.push s = r.push s := by
  unfold Reg.push
  obtain ⟨a, b, c, d⟩ := r1
  obtain ⟨a', b', c', d'⟩ := r
  obtain ⟨h1, h2, h3, h4⟩ := h
  simp only at h1 h2 h3 h4
  subst h1 h2 h3
  simp only [h4]
theorem Alike.refl (r : Reg) : Alike r r := ⟨rfl, rfl, rfl, rfl⟩
theorem Alike.at {r1 r : Reg} (h : Alike r1 r) : r1.sts[r1.spot]? = r.sts[r.spot]? := by
  have e : ∀ x : Reg, x.sts[x.spot]? = (x.sts.take (x.spot + 1))[x.spot]? := fun x => by rw [List.getElem?_take]; simp
  rw [e r1, e r, h.tk, h.st]
/-- i changes that changed nothing behind the state s0 of r0 -/
structure Calm (r0 : Reg) (s0 : RSt) (i N : Nat) (r : Reg) (s : RSt) : Prop where
  ok : ROk N r
  hs : r.sts[r.spot]? = some s
  all : ∀ x ∈ r.sts, H8 r.span x
  sp : r.span = r0.span
  p : r.pause = r0.pause
  st : r.spot = r0.spot + i
  tk : r.sts.take (r0.spot + 1) = r0.sts.take (r0.spot + 1)
  rows : s.rows = s0.rows
  c : s.tk = s0.tk + i
theorem Calm.no {r0 r : Reg} {s0 s : RSt} {i N : Nat} {bar : List Txt} (K : Calm r0 s0 i N r s) (hb : ∀ t, t ∈ bar ↔ t ∈ s.bar) {m : Nat} {pl : List Nat} (cr : L2.AS.Crowd (prb (sitR r.span bar s.slp s.rows)) m pl) : False :=
  crowd_no cr _ (rest_best (K.ok.st s (List.mem_of_getElem? K.hs)) (K.all s (List.mem_of_getElem? K.hs)).o hb).cod
theorem Calm.step {r0 r : Reg} {s0 s : RSt} {i N nx : Nat} {bar : List Txt} {M : List Txt} (K : Calm r0 s0 i N r s) (hb : ∀ t, t ∈ bar ↔ t ∈ s.bar) (hM : Best (sitR r.span bar s.slp s.rows) M) (okM : ROk (N + 1) (r.push (chgR r.pause s nx bar s.rows M))) :
    toldC s.rows (setCd s.rows M) = .lst [] ∧ ∃ s', Calm r0 s0 (i + 1) (N + 1) (r.push (chgR r.pause s nx bar s.rows M)) s' := by
  have so := K.ok.st s (List.mem_of_getElem? K.hs)
  have h8 := K.all s (List.mem_of_getElem? K.hs)
  have e := hM.only held_sitR (rest_best so h8.o hb)
  subst e
  refine ⟨calm_told so, calmS r.pause nx bar s, okM, push_at2 r _ K.ok.spot, fun x hx => ?_, K.sp, K.p, ?_, ?_, (calm_rows so).trans K.rows, ?_⟩
  · rcases List.mem_append.mp hx with hx | hx
    · exact K.all x (List.mem_of_mem_take hx)
    · rw [List.mem_singleton.mp hx]; exact calm_h8 so h8 hb
  · show r.spot + 1 = _
    have := K.st; omega
  · show (r.sts.take (r.spot + 1) ++ [_]).take (r0.spot + 1) = _
    have h1 := K.ok.spot
    have h2 := K.st
    rw [List.take_append_of_le_length (by rw [List.length_take]; omega), List.take_take, Nat.min_eq_left (by omega)]
    exact K.tk
  · show s.tk + 1 = _
    have := K.c; omega
/-- going back -/
theorem Calm.back {r0 r : Reg} {s0 s : RSt} {i N : Nat} (K : Calm r0 s0 i N r s) : Alike { r with spot := r.spot - i } r0 := by
  have h := K.st
  have e : r.spot - i = r0.spot := by omega
  exact ⟨K.sp, K.p, e, by show r.sts.take (r.spot - i + 1) = _; rw [e]; exact K.tk⟩
end L2.DL
/-! QI: a newcomer among names that hold their codes: rows of names, and what the best coding changes. -/
namespace L2.DL
open PySem PySem.Spec PyProof.Rows L2.AS
/-- names N, each but nc with a code of its own, g, which is one of its options, op -/
structure NewC (N : List Txt) (nc : Txt) (g : Txt → Txt) (op : Txt → List Txt) : Prop where
  nd : N.Nodup
  hn : nc ∈ N
  inj : ∀ x ∈ N, ∀ y ∈ N, x ≠ nc → y ≠ nc → g x = g y → x = y
  ok : ∀ x ∈ N, x ≠ nc → g x ∈ op x
def newCl (nc : Txt) (g : Txt → Txt) (op : Txt → List Txt) (x : Txt) : Cl := ⟨x, if x = nc then [] else [g x], op x⟩
section
variable {N : List Txt} {nc : Txt} {g : Txt → Txt} {op : Txt → List Txt}
def EdgeN (N : List Txt) (nc : Txt) (g : Txt → Txt) (op : Txt → List Txt) (a b : Txt) : Prop := b ∈ N ∧ b ≠ nc ∧ g b ∈ op a
def FreeN (N : List Txt) (nc : Txt) (g : Txt → Txt) (op : Txt → List Txt) (a : Txt) : Prop := ∃ o ∈ op a, ∀ y ∈ N, y ≠ nc → g y ≠ o
inductive PathL (N : List Txt) (nc : Txt) (g : Txt → Txt) (op : Txt → List Txt) : Txt → List Txt → Prop
  | one : PathL N nc g op nc [nc]
  | step {n m : Txt} {R : List Txt} : PathL N nc g op n R → EdgeN N nc g op n m → PathL N nc g op m (R ++ [m])
theorem PathL.mem (hn : nc ∈ N) {n : Txt} {R : List Txt} (h : PathL N nc g op n R) : ∀ x ∈ R, x ∈ N := by
  induction h with
  | one => intro x hx; rw [List.mem_singleton.mp hx]; exact hn
  | step _ e ih =>
    intro x hx
    rcases List.mem_append.mp hx with hx | hx
    · exact ih x hx
    · rw [List.mem_singleton.mp hx]; exact e.1
theorem PathL.pre {n : Txt} {R : List Txt} (h : PathL N nc g op n R) : ∀ x ∈ R, ∃ R', PathL N nc g op x R' ∧ R'.length ≤ R.length := by
  induction h with
  | one => intro x hx; rw [List.mem_singleton.mp hx]; exact ⟨_, .one, Nat.le_refl _⟩
  | step p e ih =>
    intro x hx
    rcases List.mem_append.mp hx with hx | hx
    · obtain ⟨R', h1, h2⟩ := ih x hx
      exact ⟨R', h1, by rw [List.length_append]; omega⟩
    · rw [List.mem_singleton.mp hx]; exact ⟨_, .step p e, Nat.le_refl _⟩
theorem PathL.nodup {n : Txt} {R : List Txt} (h : PathL N nc g op n R) : (∀ R', PathL N nc g op n R' → R.length ≤ R'.length) → R.Nodup := by
  induction h with
  | one => intro _; simp
  | @step n m R p e ih =>
    intro hm
    have h1 : R.Nodup := ih fun R' h' => by
      have := hm _ (.step h' e)
      simp at this; omega
    refine List.nodup_append.mpr ⟨h1, by simp, fun a ha b hb z => ?_⟩
    rw [List.mem_singleton.mp hb] at z
    subst z
    obtain ⟨R', h2, h3⟩ := p.pre a ha
    have := hm R' h2
    simp at this; omega
/-- a row is moved up: each name takes the next one's code, the last one o -/
def shf (g : Txt → Txt) (o : Txt) : List Txt → Txt → Txt
  | [], x => g x
  | [a], x => if x = a then o else g x
  | a :: b :: r, x => if x = a then g b else shf g o (b :: r) x
theorem shf_out {o : Txt} : ∀ {R : List Txt} {x : Txt}, x ∉ R → shf g o R x = g x
  | [], _, _ => rfl
  | [a], x, h => by unfold shf; rw [if_neg (by simpa using h)]
  | a :: b :: r, x, h => by
    have hx : x ≠ a := fun e => h (e ▸ List.mem_cons_self)
    rw [shf, if_neg hx]
    exact shf_out fun z => h (List.mem_cons_of_mem _ z)
theorem shf_inj {o : Txt} {T : Txt → Prop} (inj : ∀ x y, T x → T y → g x = g y → x = y) (ho : ∀ x, T x → g x ≠ o) : ∀ {b : Txt} {r : List Txt}, (∀ x ∈ b :: r, T x) → (b :: r).Nodup →
    (∀ x y, T x → T y → shf g o (b :: r) x = shf g o (b :: r) y → x = y) ∧ ∀ x, T x → shf g o (b :: r) x ≠ g b
  | b, [], hT, _ => by
    have hb := hT b List.mem_cons_self
    refine ⟨fun x y hx hy e => ?_, fun x hx e => ?_⟩
    · unfold shf at e
      by_cases e1 : x = b
      · by_cases e2 : y = b
        · rw [e1, e2]
        · rw [if_pos e1, if_neg e2] at e; exact absurd e.symm (ho y hy)
      · by_cases e2 : y = b
        · rw [if_neg e1, if_pos e2] at e; exact absurd e (ho x hx)
        · rw [if_neg e1, if_neg e2] at e; exact inj x y hx hy e
    · unfold shf at e
      by_cases e1 : x = b
      · rw [if_pos e1] at e; exact ho b hb e.symm
      · rw [if_neg e1] at e; exact e1 (inj x b hx hb e)
  | b, b' :: r, hT, nd => by
    rw [List.nodup_cons] at nd
    have hb := hT b List.mem_cons_self
    have hb' := hT b' (List.mem_cons_of_mem _ List.mem_cons_self)
    obtain ⟨i1, i2⟩ := shf_inj inj ho (b := b') (r := r) (fun x hx => hT x (List.mem_cons_of_mem _ hx)) nd.2
    have hout : shf g o (b' :: r) b = g b := shf_out nd.1
    refine ⟨fun x y hx hy e => ?_, fun x hx e => ?_⟩
    · rw [shf, shf] at e
      by_cases e1 : x = b
      · by_cases e2 : y = b
        · rw [e1, e2]
        · rw [if_pos e1, if_neg e2] at e; exact absurd e.symm (i2 y hy)
      · by_cases e2 : y = b
        · rw [if_neg e1, if_pos e2] at e; exact absurd e (i2 x hx)
        · rw [if_neg e1, if_neg e2] at e; exact i1 x y hx hy e
    · rw [shf] at e
      by_cases e1 : x = b
      · rw [if_pos e1] at e
        exact nd.1 (by rw [inj b' b hb' hb e]; exact List.mem_cons_self)
      · rw [if_neg e1, ← hout] at e
        exact e1 (i1 x b hx hb e)
/-- consecutive names of a path -/
inductive Ch (N : List Txt) (nc : Txt) (g : Txt → Txt) (op : Txt → List Txt) : List Txt → Prop
  | one (a : Txt) : Ch N nc g op [a]
  | cons {a b : Txt} {r : List Txt} : EdgeN N nc g op a b → Ch N nc g op (b :: r) → Ch N nc g op (a :: b :: r)
theorem Ch.snoc {m : Txt} : ∀ {R : List Txt} {n : Txt}, Ch N nc g op R → R.getLast? = some n → EdgeN N nc g op n m → Ch N nc g op (R ++ [m])
  | _, n, .one a, h, e => by
    simp at h; subst h
    exact .cons e (.one m)
  | _, n, .cons (a := a) (b := b) (r := r) e1 c, h, e => by
    refine .cons e1 (Ch.snoc (R := b :: r) (n := n) c ?_ e)
    rw [List.getLast?_cons_cons] at h
    exact h
theorem PathL.ch {n : Txt} {R : List Txt} (h : PathL N nc g op n R) : Ch N nc g op R ∧ R.getLast? = some n ∧ ∃ r, R = nc :: r ∧ ∀ x ∈ r, x ∈ N ∧ x ≠ nc := by
  induction h with
  | one => exact ⟨.one _, rfl, [], rfl, fun x hx => by cases hx⟩
  | @step n m R p e ih =>
    obtain ⟨c, l, r, rfl, hr⟩ := ih
    refine ⟨c.snoc l e, List.getLast?_concat, r ++ [m], rfl, fun x hx => ?_⟩
    rcases List.mem_append.mp hx with hx | hx
    · exact hr x hx
    · rw [List.mem_singleton.mp hx]; exact ⟨e.1, e.2.1⟩
theorem shf_opt {o : Txt} : ∀ {R : List Txt} {n : Txt}, Ch N nc g op R → R.getLast? = some n → o ∈ op n → R.Nodup → ∀ x ∈ R, shf g o R x ∈ op x
  | _, n, .one a, h, ho, _, x, hx => by
    rw [List.mem_singleton.mp hx]
    simp at h; subst h
    unfold shf; rw [if_pos rfl]; exact ho
  | _, n, .cons (a := a) (b := b) (r := r) e c, h, ho, nd, x, hx => by
    rw [List.nodup_cons] at nd
    rw [List.getLast?_cons_cons] at h
    unfold shf
    by_cases e1 : x = a
    · rw [if_pos e1, e1]; exact e.2.2
    · rw [if_neg e1]
      exact shf_opt c h ho nd.2 x ((List.mem_cons.mp hx).resolve_left e1)
/-- moved up along a row whose last name has a free option: a coding, and who is not on the row keeps its code -/
theorem NewC.aug (h : NewC N nc g op) {n : Txt} {R : List Txt} (p : PathL N nc g op n R) (nd : R.Nodup) (hf : FreeN N nc g op n) : ∃ f, Cod (N.map (newCl nc g op)) (N.map f) ∧ ∀ x ∈ N, x ∉ R → f x = g x := by
  obtain ⟨o, ho, hfo⟩ := hf
  obtain ⟨c, l, r, rfl, hr⟩ := p.ch
  have hinj : ∀ x y, (x ∈ N ∧ x ≠ nc) → (y ∈ N ∧ y ≠ nc) → g x = g y → x = y := fun x y hx hy e => h.inj x hx.1 y hy.1 hx.2 hy.2 e
  have hno : ∀ x, (x ∈ N ∧ x ≠ nc) → g x ≠ o := fun x hx => hfo x hx.1 hx.2
  refine ⟨shf g o (nc :: r), cod_fn.mpr ⟨fun t ht => ?_, ?_⟩, fun x _ hx => shf_out hx⟩
  · by_cases hm : t ∈ nc :: r
    · exact shf_opt c l ho nd t hm
    · rw [shf_out hm]
      exact h.ok t ht fun e => hm (e ▸ List.mem_cons_self)
  · refine nd_map h.nd fun x y hx hy e => ?_
    cases r with
    | nil =>
      unfold shf at e
      by_cases e1 : x = nc
      · by_cases e2 : y = nc
        · rw [e1, e2]
        · rw [if_pos e1, if_neg e2] at e; exact absurd e.symm (hno y ⟨hy, e2⟩)
      · by_cases e2 : y = nc
        · rw [if_neg e1, if_pos e2] at e; exact absurd e (hno x ⟨hx, e1⟩)
        · rw [if_neg e1, if_neg e2] at e; exact hinj x y ⟨hx, e1⟩ ⟨hy, e2⟩ e
    | cons b r =>
      rw [List.nodup_cons] at nd
      obtain ⟨i1, i2⟩ := shf_inj hinj hno (b := b) (r := r) hr nd.2
      rw [shf, shf] at e
      by_cases e1 : x = nc
      · by_cases e2 : y = nc
        · rw [e1, e2]
        · rw [if_pos e1, if_neg e2] at e; exact absurd e.symm (i2 y ⟨hy, e2⟩)
      · by_cases e2 : y = nc
        · rw [if_neg e1, if_pos e2] at e; exact absurd e (i2 x ⟨hx, e1⟩)
        · rw [if_neg e1, if_neg e2] at e; exact i1 x y ⟨hx, e1⟩ ⟨hy, e2⟩ e
/-- the row of a coding f from the newcomer on: each next name had the code that the one before it gets -/
inductive RowF (N : List Txt) (nc : Txt) (g f : Txt → Txt) : Txt → List Txt → Prop
  | one : RowF N nc g f nc [nc]
  | step {n m : Txt} {R : List Txt} : RowF N nc g f n R → m ∈ N → m ≠ nc → g m = f n → RowF N nc g f m (R ++ [m])
theorem RowF.path {f : Txt → Txt} (hn : nc ∈ N) (hf : ∀ x ∈ N, f x ∈ op x) {n : Txt} {R : List Txt} (h : RowF N nc g f n R) : PathL N nc g op n R ∧ n ∈ N := by
  induction h with
  | one => exact ⟨.one, hn⟩
  | step _ h1 h2 h3 ih => exact ⟨.step ih.1 ⟨h1, h2, h3 ▸ hf _ ih.2⟩, h1⟩
theorem RowF.last {f : Txt → Txt} {n : Txt} {R : List Txt} (h : RowF N nc g f n R) : ∃ Q, R = Q ++ [n] := by
  cases h with
  | one => exact ⟨[], rfl⟩
  | step h _ _ _ => exact ⟨_, rfl⟩
theorem RowF.prev {f : Txt → Txt} {n : Txt} {R : List Txt} (h : RowF N nc g f n R) : ∀ x ∈ R, x ≠ nc → ∃ p ∈ R.dropLast, g x = f p := by
  induction h with
  | one => intro x hx hne; exact absurd (List.mem_singleton.mp hx) hne
  | @step n m R h h1 h2 h3 ih =>
    intro x hx hne
    obtain ⟨Q, eQ⟩ := h.last
    rw [List.dropLast_concat]
    rcases List.mem_append.mp hx with hx | hx
    · obtain ⟨p, hp, e⟩ := ih x hx hne
      exact ⟨p, (List.dropLast_sublist _).subset hp, e⟩
    · rw [List.mem_singleton.mp hx]
      exact ⟨n, by rw [eQ]; simp, h3⟩
theorem RowF.nodup {f : Txt → Txt} (hn : nc ∈ N) (hi : ∀ x ∈ N, ∀ y ∈ N, f x = f y → x = y) {n : Txt} {R : List Txt} (h : RowF N nc g f n R) : R.Nodup ∧ ∀ x ∈ R, x ∈ N := by
  induction h with
  | one => exact ⟨by simp, fun x hx => by rw [List.mem_singleton.mp hx]; exact hn⟩
  | @step n m R h h1 h2 h3 ih =>
    obtain ⟨i1, i2⟩ := ih
    obtain ⟨Q, eQ⟩ := h.last
    refine ⟨List.nodup_append.mpr ⟨i1, by simp, fun a ha b hb z => ?_⟩, fun x hx => ?_⟩
    · rw [List.mem_singleton.mp hb] at z
      subst z
      obtain ⟨p, hp, e⟩ := h.prev a ha h2
      rw [h3] at e
      have hnR : n ∈ R := by rw [eQ]; simp
      have : n = p := hi n (i2 n hnR) p (i2 p ((List.dropLast_sublist _).subset hp)) e
      rw [eQ] at i1 hp
      rw [List.dropLast_concat] at hp
      exact (List.nodup_append.mp i1).2.2 p hp n (by simp) this.symm
    · rcases List.mem_append.mp hx with hx | hx
      · exact i2 x hx
      · rw [List.mem_singleton.mp hx]; exact h1
theorem RowF.moved {f : Txt → Txt} (hi : ∀ x ∈ N, ∀ y ∈ N, f x = f y → x = y) (hn : nc ∈ N) {n : Txt} {R : List Txt} (h : RowF N nc g f n R) : ∀ x ∈ R, x ≠ nc → f x ≠ g x := by
  obtain ⟨nd, hm⟩ := h.nodup hn hi
  intro x hx hne e
  obtain ⟨p, hp, e2⟩ := h.prev x hx hne
  have hpx := hi x (hm x hx) p (hm p ((List.dropLast_sublist _).subset hp)) (e.trans e2)
  subst hpx
  -- x stands ahead of itself
  have key : ∀ {n : Txt} {R : List Txt}, RowF N nc g f n R → R.Nodup → ∀ x ∈ R, x ≠ nc → ¬ g x = f x := by
    intro n R h
    induction h with
    | one => intro _ x hx hne; exact absurd (List.mem_singleton.mp hx) hne
    | @step n m R h h1 h2 h3 ih =>
      intro nd x hx hne e
      have nd1 := (List.nodup_append.mp nd).1
      rcases List.mem_append.mp hx with hx | hx
      · exact ih nd1 x hx hne e
      · have hxm := List.mem_singleton.mp hx
        subst hxm
        obtain ⟨Q, eQ⟩ := h.last
        have hnR : n ∈ R := by rw [eQ]; simp
        have hR := (RowF.nodup hn hi h).2
        have : n = x := hi n (hR n hnR) x h1 (h3.symm.trans e)
        exact (List.nodup_append.mp nd).2.2 n hnR x (by simp) this
  exact key h nd x hx hne e.symm
theorem kept_eq {c : Txt → Cl} {f : Txt → Txt} (hc : ∀ t, (c t).nm = t) : ∀ N : List Txt, keptT (N.map c) (N.map f) = N.filter fun t => decide (f t ∈ (c t).held)
  | [] => rfl
  | t :: N => by
    have ih := kept_eq (c := c) (f := f) hc N
    unfold keptT at ih ⊢
    rw [List.map_cons, List.map_cons, List.zip_cons_cons, List.filter_cons, List.filter_cons]
    by_cases h : f t ∈ (c t).held
    · rw [if_pos (decide_eq_true h), if_pos (decide_eq_true h), List.map_cons, ih]
      show (c t).nm :: _ = _
      rw [hc]
    · rw [if_neg (by simpa using h), if_neg (by simpa using h), ih]
theorem filter_eq_of {α : Type} {p q : α → Bool} : ∀ {l : List α}, (∀ x ∈ l, p x = true → q x = true) → (l.filter q).length ≤ (l.filter p).length → l.filter p = l.filter q
  | [], _, _ => rfl
  | x :: l, h, hl => by
    have hle : (l.filter p).length ≤ (l.filter q).length := by
      rw [← List.countP_eq_length_filter, ← List.countP_eq_length_filter]
      exact List.countP_mono_left fun y hy => h y (List.mem_cons_of_mem _ hy)
    have h' : ∀ y ∈ l, p y = true → q y = true := fun y hy => h y (List.mem_cons_of_mem _ hy)
    rw [List.filter_cons, List.filter_cons] at hl ⊢
    by_cases hp : p x = true
    · have hq := h x List.mem_cons_self hp
      rw [if_pos hp, if_pos hq] at hl ⊢
      rw [filter_eq_of h' (by simpa using hl)]
    · by_cases hq : q x = true
      · rw [if_neg hp, if_pos hq] at hl
        simp at hl; omega
      · rw [if_neg hp, if_neg hq] at hl ⊢
        exact filter_eq_of h' hl
theorem flt_both {α : Type} (p : α → Bool) : ∀ l : List α, (l.filter p).length + (l.filter fun x => !p x).length = l.length
  | [] => rfl
  | x :: l => by
    have ih := flt_both p l
    rw [List.filter_cons, List.filter_cons]
    cases p x <;> simp <;> omega
theorem not_in_len {N R : List Txt} (hN : N.Nodup) (nd : R.Nodup) (hm : ∀ x ∈ R, x ∈ N) : (N.filter fun x => !decide (x ∈ R)).length + R.length = N.length := by
  have h1 : (N.filter fun x => decide (x ∈ R)).length = R.length := by
    refine Nat.le_antisymm (nd_le (hN.filter _) fun x hx => by simpa using (List.mem_filter.mp hx).2) (nd_le nd fun x hx => List.mem_filter.mpr ⟨hm x hx, by simpa using hx⟩)
  have h2 : (N.filter fun x => decide (x ∈ R)).length + (N.filter fun x => !decide (x ∈ R)).length = N.length := flt_both _ N
  omega
/-- the best coding with a newcomer: its row has the least length, and all others keep their codes -/
theorem NewC.best (h : NewC N nc g op) {M : List Txt} (hM : Best (N.map (newCl nc g op)) M) {n : Txt} {R : List Txt} (hR : RowF N nc g (fnC N M) n R) (hend : ∀ y ∈ N, y ≠ nc → g y ≠ fnC N M n)
    {n' : Txt} {R' : List Txt} (p : PathL N nc g op n' R') (hf : FreeN N nc g op n') (hmin : ∀ n'' R'', PathL N nc g op n'' R'' → FreeN N nc g op n'' → R'.length ≤ R''.length) :
    R.length = R'.length ∧ keptT (N.map (newCl nc g op)) M = N.filter fun x => !decide (x ∈ R) := by
  have hl : M.length = N.length := by rw [hM.cod.len, List.length_map]
  have eM := fnC_map h.nd hl
  obtain ⟨c1, c2⟩ := cod_fn.mp (show Cod (N.map (newCl nc g op)) (N.map (fnC N M)) by rw [eM]; exact hM.cod)
  have hi : ∀ x ∈ N, ∀ y ∈ N, fnC N M x = fnC N M y → x = y := fun x hx y hy e => by
    obtain ⟨i, hi⟩ := List.getElem?_of_mem hx
    obtain ⟨j, hj⟩ := List.getElem?_of_mem hy
    have e1 : (N.map (fnC N M))[i]? = some (fnC N M x) := by rw [List.getElem?_map, hi]; rfl
    have e2 : (N.map (fnC N M))[j]? = some (fnC N M x) := by rw [List.getElem?_map, hj, e]; rfl
    have hij : i = j := (List.getElem?_inj (List.getElem?_eq_some_iff.mp e1).1 c2).mp (e1.trans e2.symm)
    subst hij
    rw [hi] at hj
    exact Option.some.inj hj
  obtain ⟨nd, hm⟩ := hR.nodup h.hn hi
  obtain ⟨pR, nN⟩ := hR.path h.hn c1
  have le1 := hmin n R pR ⟨fnC N M n, c1 n nN, hend⟩
  have nd' : R'.Nodup := p.nodup fun R'' p'' => hmin n' R'' p'' hf
  obtain ⟨f', hc', hk'⟩ := h.aug p nd' hf
  have hm' := p.mem h.hn
  have bk := best_keeps hM hc'
  have kf : keptT (N.map (newCl nc g op)) (N.map f') = N.filter fun t => decide (f' t ∈ (newCl nc g op t).held) := kept_eq (fun _ => rfl) N
  have kM : keptT (N.map (newCl nc g op)) M = N.filter fun t => decide (fnC N M t ∈ (newCl nc g op t).held) := by
    conv => lhs; rw [← eM]
    exact kept_eq (fun _ => rfl) N
  have hncR : nc ∈ R := by
    obtain ⟨_, _, r, e, _⟩ := pR.ch
    rw [e]; exact List.mem_cons_self
  have hncR' : nc ∈ R' := by
    obtain ⟨_, _, r, e, _⟩ := p.ch
    rw [e]; exact List.mem_cons_self
  have sub1 : ∀ x ∈ N, decide (fnC N M x ∈ (newCl nc g op x).held) = true → (!decide (x ∈ R)) = true := fun x hx hd => by
    have hd := of_decide_eq_true hd
    unfold newCl at hd
    by_cases e : x = nc
    · simp [e] at hd
    · simp only [e, if_false] at hd
      have := List.mem_singleton.mp hd
      simp only [Bool.not_eq_true', decide_eq_false_iff_not]
      exact fun hxR => hR.moved hi h.hn x hxR e this
  have sub2 : (N.filter fun x => !decide (x ∈ R')).length ≤ (N.filter fun t => decide (f' t ∈ (newCl nc g op t).held)).length := by
    rw [← List.countP_eq_length_filter, ← List.countP_eq_length_filter]
    refine List.countP_mono_left fun x hx hd => ?_
    have hd : x ∉ R' := by simpa using hd
    have e : x ≠ nc := fun e => hd (e ▸ hncR')
    refine decide_eq_true ?_
    unfold newCl
    simp only [e, if_false]
    rw [hk' x hx hd]; simp
  have n1 := not_in_len h.nd nd hm
  have n2 := not_in_len h.nd nd' hm'
  rw [kf, kM] at bk
  have le2 : (N.filter fun t => decide (fnC N M t ∈ (newCl nc g op t).held)).length ≤ (N.filter fun x => !decide (x ∈ R)).length := by
    rw [← List.countP_eq_length_filter, ← List.countP_eq_length_filter]
    exact List.countP_mono_left sub1
  have eL : R.length = R'.length := by omega
  refine ⟨eL, ?_⟩
  rw [kM]
  exact filter_eq_of sub1 (by omega)
/-- a shortest row gives a coding -/
theorem NewC.cod (h : NewC N nc g op) {n : Txt} {R : List Txt} (p : PathL N nc g op n R) (hf : FreeN N nc g op n) (hmin : ∀ R'', PathL N nc g op n R'' → R.length ≤ R''.length) : ∃ M, Cod (N.map (newCl nc g op)) M := by
  obtain ⟨f, hc, _⟩ := h.aug p (p.nodup hmin) hf
  exact ⟨_, hc⟩
end
end L2.DL
/-! QJ: rows found round by round. -/
namespace L2.DL
open PySem PySem.Spec PyProof.Rows L2.AS
section
variable {N : List Txt} {nc : Txt} {g : Txt → Txt} {op : Txt → List Txt}
/-- after k rounds: the last names, those seen -/
structure Rnd (N : List Txt) (nc : Txt) (g : Txt → Txt) (op : Txt → List Txt) (L : List Txt) (k : Nat) (Sn : List Txt) : Prop where
  a : ∀ x ∈ L, ∃ R, PathL N nc g op x R ∧ R.length = k
  b : ∀ n R, PathL N nc g op n R → R.length ≤ k → n ∈ Sn
  c : ∀ n ∈ Sn, n ∉ L → ¬ FreeN N nc g op n ∧ ∀ m, EdgeN N nc g op n m → m ∈ Sn
  d : ∀ x ∈ L, ∀ R, PathL N nc g op x R → k ≤ R.length
  nd : Sn.Nodup
  sub : ∀ x ∈ Sn, x ∈ N
  ls : ∀ x ∈ L, x ∈ Sn
  k1 : 1 ≤ k
theorem PathL.pos {n : Txt} {R : List Txt} (h : PathL N nc g op n R) : 1 ≤ R.length := by
  cases h <;> simp
theorem Rnd.out {k : Nat} {Sn : List Txt} (h : Rnd N nc g op [] k Sn) : ∀ n R, PathL N nc g op n R → ¬ FreeN N nc g op n := fun n R p => by
  have : n ∈ Sn := by
    induction p with
    | one => exact h.b _ _ .one (by simpa using h.k1)
    | step p e ih => exact (h.c _ ih (by simp)).2 _ e
  exact (h.c n this (by simp)).1
theorem Rnd.go {L : List Txt} {k : Nat} {Sn : List Txt} (h : Rnd N nc g op L k Sn) (no : ∀ x ∈ L, ¬ FreeN N nc g op x) {L' : List Txt} (nd' : L'.Nodup) (hL : ∀ y, y ∈ L' ↔ (y ∈ N ∧ y ≠ nc ∧ (∃ x ∈ L, g y ∈ op x) ∧ y ∉ Sn)) :
    Rnd N nc g op L' (k + 1) (Sn ++ L') where
  a := fun y hy => by
    obtain ⟨h1, h2, ⟨x, hx, h3⟩, h4⟩ := (hL y).mp hy
    obtain ⟨R, p, e⟩ := h.a x hx
    exact ⟨R ++ [y], .step p ⟨h1, h2, h3⟩, by simp [e]⟩
  b := fun n R p hl => by
    cases p with
    | one => exact List.mem_append_left _ (h.b _ _ .one (by simpa using h.k1))
    | @step n' _ R' p e =>
      have hs := h.b _ _ p (by simp at hl; omega)
      by_cases hl' : n' ∈ L
      · by_cases hm : n ∈ Sn
        · exact List.mem_append_left _ hm
        · exact List.mem_append_right _ ((hL n).mpr ⟨e.1, e.2.1, ⟨n', hl', e.2.2⟩, hm⟩)
      · exact List.mem_append_left _ ((h.c _ hs hl').2 _ e)
  c := fun n hn hnl => by
    have hs := (List.mem_append.mp hn).resolve_right hnl
    by_cases hl' : n ∈ L
    · refine ⟨no n hl', fun m e => ?_⟩
      by_cases hm : m ∈ Sn
      · exact List.mem_append_left _ hm
      · exact List.mem_append_right _ ((hL m).mpr ⟨e.1, e.2.1, ⟨n, hl', e.2.2⟩, hm⟩)
    · exact ⟨(h.c n hs hl').1, fun m e => List.mem_append_left _ ((h.c n hs hl').2 m e)⟩
  d := fun y hy R p => by
    rcases Nat.lt_or_ge R.length (k + 1) with hl | hl
    · exact absurd (h.b y R p (by omega)) ((hL y).mp hy).2.2.2
    · exact hl
  nd := List.nodup_append.mpr ⟨h.nd, nd', fun a ha b hb e => ((hL b).mp hb).2.2.2 (e ▸ ha)⟩
  sub := fun x hx => (List.mem_append.mp hx).elim (h.sub x) fun hx => ((hL x).mp hx).1
  ls := fun x hx => List.mem_append_right _ hx
  k1 := by omega
end
theorem cod_inj {N M : List Txt} {c : Txt → Cl} (nd : N.Nodup) (hM : Cod (N.map c) M) : ∀ x ∈ N, ∀ y ∈ N, fnC N M x = fnC N M y → x = y := fun x hx y hy e => by
  have hl : M.length = N.length := by rw [hM.len, List.length_map]
  have eM := fnC_map nd hl
  have c2 : (N.map (fnC N M)).Nodup := by rw [eM]; exact hM.nd
  obtain ⟨i, hi⟩ := List.getElem?_of_mem hx
  obtain ⟨j, hj⟩ := List.getElem?_of_mem hy
  have e1 : (N.map (fnC N M))[i]? = some (fnC N M x) := by rw [List.getElem?_map, hi]; rfl
  have e2 : (N.map (fnC N M))[j]? = some (fnC N M x) := by rw [List.getElem?_map, hj, e]; rfl
  have hij : i = j := (List.getElem?_inj (List.getElem?_eq_some_iff.mp e1).1 c2).mp (e1.trans e2.symm)
  subst hij
  rw [hi] at hj
  exact Option.some.inj hj
end L2.DL
/-! QM: two situations as one. -/
namespace L2.DL
open PySem PySem.Spec PyProof.Rows L2.AS
/-- no code in common -/
def Apart (S T : List Cl) : Prop := ∀ c ∈ S, ∀ d ∈ T, ∀ x ∈ c.opts, x ∉ d.opts
theorem Apart.symm {S T : List Cl} (h : Apart S T) : Apart T S := fun d hd c hc x hx hy => h c hc d hd x hy hx
/-- two situations in one: where each one's claims stand -/
structure TwoS (S1 S2 T : List Cl) (e1 e2 : Nat → Nat) : Prop where
  m1 : ∀ i j, i < j → e1 i < e1 j
  m2 : ∀ i j, i < j → e2 i < e2 j
  a1 : ∀ i, i < S1.length → T[e1 i]? = S1[i]?
  a2 : ∀ i, i < S2.length → T[e2 i]? = S2[i]?
  all : ∀ p, p < T.length → (∃ i, i < S1.length ∧ e1 i = p) ∨ ∃ j, j < S2.length ∧ e2 j = p
  ap : ∀ i j, i < S1.length → j < S2.length → e1 i ≠ e2 j
theorem TwoS.swap {S1 S2 T : List Cl} {e1 e2 : Nat → Nat} (h : TwoS S1 S2 T e1 e2) : TwoS S2 S1 T e2 e1 := ⟨h.m2, h.m1, h.a2, h.a1, fun p hp => (h.all p hp).symm, fun i j hi hj e => h.ap j i hj hi e.symm⟩
theorem sub_filter : ∀ {l L : List Txt}, l.Sublist L → L.Nodup → L.filter (fun x => decide (x ∈ l)) = l := by
  intro l L h
  induction h with
  | slnil => intro _; rfl
  | @cons l L a h ih =>
    intro nd
    rw [List.nodup_cons] at nd
    rw [List.filter_cons, if_neg (by simpa using fun z => nd.1 (h.subset z))]
    exact ih nd.2
  | @cons_cons l L a h ih =>
    intro nd
    rw [List.nodup_cons] at nd
    rw [List.filter_cons, if_pos (by simp)]
    congr 1
    conv => rhs; rw [← ih nd.2]
    refine List.filter_congr fun x hx => decide_eq_decide.mpr ⟨fun z => (List.mem_cons.mp z).resolve_left fun e => nd.1 (e ▸ hx), fun z => List.mem_cons_of_mem _ z⟩
theorem sub_eq {l l' L : List Txt} (h : l.Sublist L) (h' : l'.Sublist L) (nd : L.Nodup) (m : ∀ x, x ∈ l ↔ x ∈ l') : l = l' := by
  rw [← sub_filter h nd, ← sub_filter h' nd]
  exact List.filter_congr fun x _ => decide_eq_decide.mpr (m x)
section
variable {S1 S2 T : List Cl} {e1 e2 : Nat → Nat}
theorem TwoS.inj (h : TwoS S1 S2 T e1 e2) {i j : Nat} (e : e1 i = e1 j) : i = j := by
  rcases Nat.lt_trichotomy i j with q | q | q
  · have := h.m1 i j q; omega
  · exact q
  · have := h.m1 j i q; omega
theorem TwoS.lt (h : TwoS S1 S2 T e1 e2) {i : Nat} (hi : i < S1.length) : e1 i < T.length := by
  have := h.a1 i hi
  rw [List.getElem?_eq_getElem hi] at this
  exact (List.getElem?_eq_some_iff.mp this).1
theorem TwoS.names (h : TwoS S1 S2 T e1 e2) (nd : (T.map (·.nm)).Nodup) (sb : (S1.map (·.nm)).Sublist (T.map (·.nm))) {pl pl1 : List Nat} (sd : ∀ q ∈ pl, ∃ k, k < S1.length ∧ e1 k = q) (hpl : ∀ k, k ∈ pl1 ↔ k < S1.length ∧ e1 k ∈ pl) : crowdT 0 T pl = crowdT 0 S1 pl1 := by
  refine sub_eq (crowdT_sub pl 0 T) ((crowdT_sub pl1 0 S1).trans sb) nd fun t => ?_
  rw [crowdT_mem, crowdT_mem]
  constructor
  · rintro ⟨p, c, h1, h2, h3⟩
    rw [Nat.zero_add] at h2
    obtain ⟨k, hk, rfl⟩ := sd p h2
    exact ⟨k, c, by rw [← h.a1 k hk]; exact h1, by rw [Nat.zero_add]; exact (hpl k).mpr ⟨hk, h2⟩, h3⟩
  · rintro ⟨k, c, h1, h2, h3⟩
    rw [Nat.zero_add] at h2
    obtain ⟨hk, hp⟩ := (hpl k).mp h2
    exact ⟨e1 k, c, by rw [h.a1 k hk]; exact h1, by rw [Nat.zero_add]; exact hp, h3⟩
end
end L2.DL
/-! SG: chains of changed names, where the second coding keeps as many names as it can. -/
namespace L2.DL
open PySem PySem.Spec PyProof.Rows L2.AS
/-- a first coding f of some names, a second one s of all; no names could go back to their first codes -/
structure Chn (N : List Txt) (f : Txt → Option Txt) (s : Txt → Txt) : Prop where
  nd : N.Nodup
  si : ∀ x ∈ N, ∀ y ∈ N, s x = s y → x = y
  fi : ∀ x ∈ N, ∀ y ∈ N, f x ≠ none → f x = f y → x = y
  cl : ∀ S : Txt → Prop, (∀ x, S x → x ∈ N ∧ f x ≠ none ∧ f x ≠ some (s x)) → (∀ o, S o → ∀ m ∈ N, f o = some (s m) → S m) → ∀ x, ¬ S x
def chgW (N : List Txt) (f : Txt → Option Txt) (s : Txt → Txt) : List Txt := N.filter fun n => decide (f n ≠ some (s n))
def nxW (N : List Txt) (f : Txt → Option Txt) (s : Txt → Txt) (n : Txt) : Option Txt := (chgW N f s).find? fun m => decide (f m = some (s n))
/-- a row up to its end -/
def RowT (nx : Txt → Option Txt) (R : List Txt) : Prop := ∀ (i : Nat) a, R[i]? = some a → nx a = R[i + 1]?
def rowF (nx : Txt → Option Txt) : Nat → Txt → List Txt
  | 0, x => [x]
  | k + 1, x => match nx x with
    | none => [x]
    | some y => x :: rowF nx k y
theorem rowF_head (nx : Txt → Option Txt) : ∀ (k : Nat) (x : Txt), (rowF nx k x)[0]? = some x
  | 0, x => rfl
  | k + 1, x => by unfold rowF; cases nx x <;> rfl
theorem rowF_cut (nx : Txt → Option Txt) : ∀ (k : Nat) (x : Txt) (i : Nat) (a b : Txt), (rowF nx k x)[i]? = some a → (rowF nx k x)[i + 1]? = some b → nx a = some b
  | 0, x, i, a, b, _, h => by simp [rowF] at h
  | k + 1, x, i, a, b, h1, h2 => by
    unfold rowF at h1 h2
    cases e : nx x with
    | none => rw [e] at h2; simp at h2
    | some y =>
      rw [e] at h1 h2
      cases i with
      | zero =>
        have e1 : x = a := by simpa using h1
        have e2 : (rowF nx k y)[0]? = some b := by simpa using h2
        rw [rowF_head] at e2
        rw [← e1, e, Option.some.inj e2]
      | succ i => exact rowF_cut nx k y i a b (by simpa using h1) (by simpa using h2)
theorem rowF_end (nx : Txt → Option Txt) : ∀ (k : Nat) (x : Txt), RowT nx (rowF nx k x) ∨ (rowF nx k x).length = k + 1
  | 0, x => .inr rfl
  | k + 1, x => by
    unfold rowF
    cases e : nx x with
    | none =>
      refine .inl fun i a h => ?_
      cases i with
      | zero => have : x = a := by simpa using h
                rw [← this, e]; rfl
      | succ i => simp at h
    | some y =>
      rcases rowF_end nx k y with h | h
      · refine .inl fun i a ha => ?_
        cases i with
        | zero =>
          have e1 : x = a := by simpa using ha
          rw [← e1, e]
          show some y = (x :: rowF nx k y)[1]?
          rw [List.getElem?_cons_succ, rowF_head]
        | succ i => exact h i a (by simpa using ha)
      · exact .inr (by simp [h])
section
variable {N : List Txt} {f : Txt → Option Txt} {s : Txt → Txt}
theorem mem_chgW {n : Txt} : n ∈ chgW N f s ↔ n ∈ N ∧ f n ≠ some (s n) := by unfold chgW; rw [List.mem_filter]; simp
theorem nxW_some (h : Chn N f s) {n m : Txt} : nxW N f s n = some m ↔ m ∈ chgW N f s ∧ f m = some (s n) := by
  unfold nxW
  constructor
  · intro e
    exact ⟨List.mem_of_find?_eq_some e, by simpa using List.find?_some e⟩
  · rintro ⟨h1, h2⟩
    cases e : (chgW N f s).find? fun m => decide (f m = some (s n)) with
    | none => exact absurd h2 (by simpa using List.find?_eq_none.mp e m h1)
    | some m' =>
      have a1 := List.mem_of_find?_eq_some e
      have a2 : f m' = some (s n) := by simpa using List.find?_some e
      rw [h.fi m' (mem_chgW.mp a1).1 m (mem_chgW.mp h1).1 (by rw [a2]; simp) (a2.trans h2.symm)]
theorem nxW_inj (h : Chn N f s) {n n' m : Txt} (hn : n ∈ N) (hn' : n' ∈ N) (e : nxW N f s n = some m) (e' : nxW N f s n' = some m) : n = n' := by
  have a := ((nxW_some h).mp e).2
  have b := ((nxW_some h).mp e').2
  rw [a] at b
  exact h.si n hn n' hn' (Option.some.inj b)
/-- who is followed by o in the second coding changes, too -/
theorem prev_chg (h : Chn N f s) {o m : Txt} (ho : o ∈ chgW N f s) (hm : m ∈ N) (e : f o = some (s m)) : m ∈ chgW N f s ∧ nxW N f s m = some o := by
  refine ⟨mem_chgW.mpr ⟨hm, fun z => ?_⟩, (nxW_some h).mpr ⟨ho, e⟩⟩
  have e2 := h.fi o (mem_chgW.mp ho).1 m hm (by rw [e]; simp) (e.trans z.symm)
  subst e2
  exact (mem_chgW.mp ho).2 e
/-- the row of a newcomer -/
def rowN (N : List Txt) (f : Txt → Option Txt) (s : Txt → Txt) (x : Txt) : List Txt := rowF (nxW N f s) (chgW N f s).length x
theorem row_mem (h : Chn N f s) {k : Nat} {x : Txt} (hx : x ∈ chgW N f s) : ∀ (i : Nat) y, (rowF (nxW N f s) k x)[i]? = some y → y ∈ chgW N f s
  | 0, y, e => by rw [rowF_head] at e; cases e; exact hx
  | i + 1, y, e => by
    have hl := (List.getElem?_eq_some_iff.mp e).1
    have ea : (rowF (nxW N f s) k x)[i]? = some ((rowF (nxW N f s) k x)[i]'(by omega)) := List.getElem?_eq_getElem (by omega)
    exact ((nxW_some h).mp (rowF_cut _ _ _ _ _ _ ea e)).1
theorem row_apart (h : Chn N f s) {k k' : Nat} {x x' : Txt} (hx : x ∈ chgW N f s) (hx' : x' ∈ chgW N f s) (h0 : f x = none) (h0' : f x' = none) : ∀ (i j : Nat) y, (rowF (nxW N f s) k x)[i]? = some y → (rowF (nxW N f s) k' x')[j]? = some y → x = x' ∧ i = j
  | 0, 0, y, e, e' => by rw [rowF_head] at e e'; cases e; cases e'; exact ⟨rfl, rfl⟩
  | 0, j + 1, y, e, e' => by
    rw [rowF_head] at e
    cases e
    have hl := (List.getElem?_eq_some_iff.mp e').1
    have ea : (rowF (nxW N f s) k' x')[j]? = some ((rowF (nxW N f s) k' x')[j]'(by omega)) := List.getElem?_eq_getElem (by omega)
    have := ((nxW_some h).mp (rowF_cut _ _ _ _ _ _ ea e')).2
    rw [h0] at this; cases this
  | i + 1, 0, y, e, e' => by
    rw [rowF_head] at e'
    cases e'
    have hl := (List.getElem?_eq_some_iff.mp e).1
    have ea : (rowF (nxW N f s) k x)[i]? = some ((rowF (nxW N f s) k x)[i]'(by omega)) := List.getElem?_eq_getElem (by omega)
    have := ((nxW_some h).mp (rowF_cut _ _ _ _ _ _ ea e)).2
    rw [h0'] at this; cases this
  | i + 1, j + 1, y, e, e' => by
    have hl := (List.getElem?_eq_some_iff.mp e).1
    have hl' := (List.getElem?_eq_some_iff.mp e').1
    have ea : (rowF (nxW N f s) k x)[i]? = some ((rowF (nxW N f s) k x)[i]'(by omega)) := List.getElem?_eq_getElem (by omega)
    have ea' : (rowF (nxW N f s) k' x')[j]? = some ((rowF (nxW N f s) k' x')[j]'(by omega)) := List.getElem?_eq_getElem (by omega)
    have z := nxW_inj h (mem_chgW.mp (row_mem h hx i _ ea)).1 (mem_chgW.mp (row_mem h hx' j _ ea')).1 (rowF_cut _ _ _ _ _ _ ea e) (rowF_cut _ _ _ _ _ _ ea' e')
    rw [← z] at ea'
    obtain ⟨a, b⟩ := row_apart h hx hx' h0 h0' i j _ ea ea'
    exact ⟨a, by omega⟩
theorem row_nodup (h : Chn N f s) {k : Nat} {x : Txt} (hx : x ∈ chgW N f s) (h0 : f x = none) : (rowF (nxW N f s) k x).Nodup := by
  refine List.pairwise_iff_getElem.mpr fun i j hi hj hij e => ?_
  have := (row_apart h hx hx h0 h0 i j _ (List.getElem?_eq_getElem hi) (by rw [e]; exact List.getElem?_eq_getElem hj)).2
  omega
structure RowOk (N : List Txt) (f : Txt → Option Txt) (s : Txt → Txt) (x : Txt) (R : List Txt) : Prop where
  hd : R[0]? = some x
  en : RowT (nxW N f s) R
  nd : R.Nodup
  sub : ∀ y ∈ R, y ∈ chgW N f s
theorem rowN_ok (h : Chn N f s) {x : Txt} (hx : x ∈ chgW N f s) (h0 : f x = none) : RowOk N f s x (rowN N f s x) := by
  have sub : ∀ y ∈ rowN N f s x, y ∈ chgW N f s := fun y hy => by
    obtain ⟨i, hi⟩ := List.getElem?_of_mem hy
    exact row_mem h hx i y hi
  have nd := row_nodup h (k := (chgW N f s).length) hx h0
  refine ⟨rowF_head _ _ _, ?_, nd, sub⟩
  rcases rowF_end (nxW N f s) (chgW N f s).length x with z | z
  · exact z
  · have := nd_le nd sub
    omega
/-- every changed name is on the row of a newcomer -/
theorem rows_cover (h : Chn N f s) : ∀ y ∈ chgW N f s, ∃ x ∈ chgW N f s, f x = none ∧ y ∈ rowN N f s x := by
  intro y hy
  refine Classical.byContradiction fun no => ?_
  refine h.cl (fun o => o ∈ chgW N f s ∧ ∀ x ∈ chgW N f s, f x = none → o ∉ rowN N f s x) (fun o ⟨h1, h2⟩ => ⟨(mem_chgW.mp h1).1, fun z => ?_, (mem_chgW.mp h1).2⟩) (fun o ⟨h1, h2⟩ m hm e => ?_) y ⟨hy, fun x hx h0 z => no ⟨x, hx, h0, z⟩⟩
  · exact h2 o h1 z (List.mem_of_getElem? (rowN_ok h h1 z).hd)
  · obtain ⟨a, b⟩ := prev_chg h h1 hm e
    refine ⟨a, fun x hx h0 z => h2 x hx h0 ?_⟩
    obtain ⟨i, hi⟩ := List.getElem?_of_mem z
    have := (rowN_ok h hx h0).en i m hi
    rw [b] at this
    exact List.mem_of_getElem? this.symm
end
/-! ### reaches -/
inductive Rch (op : Txt → List Txt) (own : Txt → Option Txt) : Txt → Nat → Prop
  | one {n o : Txt} : o ∈ op n → own o = none → Rch op own n 1
  | step {n o m : Txt} {k : Nat} : o ∈ op n → own o = some m → Rch op own m k → Rch op own n (k + 1)
def IsD (op : Txt → List Txt) (own : Txt → Option Txt) (n : Txt) (k : Nat) : Prop := Rch op own n k ∧ ∀ j, Rch op own n j → k ≤ j
section
variable {op : Txt → List Txt} {own : Txt → Option Txt}
theorem Rch.pos {n : Txt} {k : Nat} (h : Rch op own n k) : 1 ≤ k := by cases h <;> omega
end
end L2.DL
/-! SI: the best coding of names that hold their codes: its chains. -/
namespace L2.DL
open PySem PySem.Spec PyProof.Rows L2.AS
/-- a claim that holds the first code, if there is one -/
def hCl (f : Txt → Option Txt) (op : Txt → List Txt) (x : Txt) : Cl := ⟨x, (f x).toList, op x⟩
theorem chn_of_best {N : List Txt} {f : Txt → Option Txt} {op : Txt → List Txt} {M : List Txt} (nd : N.Nodup) (fi : ∀ x ∈ N, ∀ y ∈ N, f x ≠ none → f x = f y → x = y) (fo : ∀ x ∈ N, ∀ c, f x = some c → c ∈ op x)
    (hM : Best (N.map (hCl f op)) M) : Chn N f (fnC N M) := by
  have hl : M.length = N.length := by rw [hM.cod.len, List.length_map]
  have eM := fnC_map nd hl
  obtain ⟨c1, c2⟩ := cod_fn.mp (show Cod (N.map (hCl f op)) (N.map (fnC N M)) by rw [eM]; exact hM.cod)
  have si : ∀ x ∈ N, ∀ y ∈ N, fnC N M x = fnC N M y → x = y := cod_inj nd hM.cod
  refine ⟨nd, si, fi, fun S h1 h2 x0 hx0 => ?_⟩
  classical
  -- those of S go back to their first codes
  let s' : Txt → Txt := fun x => if S x then (f x).getD [] else fnC N M x
  have fS : ∀ x, S x → f x = some (s' x) := fun x hx => by
    show f x = some (if S x then (f x).getD [] else fnC N M x)
    rw [if_pos hx]
    cases e : f x with
    | none => exact absurd e (h1 x hx).2.1
    | some c => rfl
  have nS : ∀ x, ¬ S x → s' x = fnC N M x := fun x hx => if_neg hx
  have hC : Cod (N.map (hCl f op)) (N.map s') := by
    refine cod_fn.mpr ⟨fun t ht => ?_, ?_⟩
    · by_cases h : S t
      · exact fo t ht _ (fS t h)
      · rw [nS t h]; exact c1 t ht
    · refine nd_map nd fun a b ha hb e => ?_
      by_cases hA : S a <;> by_cases hB : S b
      · exact fi a ha b hb (by rw [fS a hA]; simp) (by rw [fS a hA, fS b hB, e])
      · rw [nS b hB] at e
        exact absurd (h2 a hA b hb (by rw [fS a hA, e])) hB
      · rw [nS a hA] at e
        exact absurd (h2 b hB a ha (by rw [fS b hB, ← e])) hA
      · rw [nS a hA, nS b hB] at e
        exact si a ha b hb e
  have k := best_keeps hM hC
  have e0 : keptT (N.map (hCl f op)) M = keptT (N.map (hCl f op)) (N.map (fnC N M)) := by rw [eM]
  rw [e0, kept_eq (fun _ => rfl), kept_eq (fun _ => rfl)] at k
  have e := filter_eq_of (l := N) (p := fun t => decide (fnC N M t ∈ (hCl f op t).held)) (q := fun t => decide (s' t ∈ (hCl f op t).held)) (fun t ht hp => by
    have hp := of_decide_eq_true hp
    have : f t = some (fnC N M t) := by
      cases e : f t with
      | none => simp [hCl, e] at hp
      | some c => simp [hCl, e] at hp; rw [hp]
    have hn : ¬ S t := fun z => (h1 t z).2.2 this
    refine decide_eq_true ?_
    rw [nS t hn]; exact hp) k
  have hx : x0 ∈ N.filter fun t => decide (s' t ∈ (hCl f op t).held) := List.mem_filter.mpr ⟨(h1 x0 hx0).1, decide_eq_true (by simp [hCl, fS x0 hx0])⟩
  rw [← e] at hx
  have hx := of_decide_eq_true (List.mem_filter.mp hx).2
  have hf := fS x0 hx0
  simp [hCl, hf] at hx
  exact (h1 x0 hx0).2.2 (by rw [hf, hx])
/-- a shortest row of a newcomer, and how far it reaches -/
theorem PathL.rch {N : List Txt} {nc : Txt} {g : Txt → Txt} {op : Txt → List Txt} {own : Txt → Option Txt} (ho : ∀ o m, own o = some m ↔ m ∈ N ∧ m ≠ nc ∧ g m = o) {n : Txt} {R : List Txt} (p : PathL N nc g op n R) : ∀ {k : Nat}, Rch op own n k → Rch op own nc (R.length + k - 1) := by
  induction p with
  | one => intro k h; simpa using h
  | @step n m R p e ih =>
    intro k h
    have := ih (.step e.2.2 ((ho _ _).mpr ⟨e.1, e.2.1, rfl⟩) h)
    rw [List.length_append, List.length_singleton]
    have hk := h.pos
    rwa [show R.length + 1 + k - 1 = R.length + (k + 1) - 1 from by omega]
theorem rch_path {N : List Txt} {nc : Txt} {g : Txt → Txt} {op : Txt → List Txt} {own : Txt → Option Txt} (ho : ∀ o m, own o = some m ↔ m ∈ N ∧ m ≠ nc ∧ g m = o) : ∀ {k : Nat} {n : Txt} {R : List Txt}, PathL N nc g op n R → Rch op own n k → ∃ n' R', PathL N nc g op n' R' ∧ FreeN N nc g op n' ∧ R'.length = R.length + k - 1
  | 0, n, R, p, h => by have := h.pos; omega
  | k + 1, n, R, p, h => by
    cases h with
    | @one _ o h1 h2 =>
      refine ⟨n, R, p, ⟨o, h1, fun y hy hn e => ?_⟩, by omega⟩
      have := (ho o y).mpr ⟨hy, hn, e⟩
      rw [h2] at this; cases this
    | @step _ o m _ h1 h2 h3 =>
      obtain ⟨a, b, c⟩ := (ho o m).mp h2
      have hk := h3.pos
      obtain ⟨n', R', p', f', l'⟩ := rch_path ho (.step p ⟨a, b, c ▸ h1⟩) h3
      exact ⟨n', R', p', f', by rw [l', List.length_append, List.length_singleton]; omega⟩
theorem free_rch {N : List Txt} {nc : Txt} {g : Txt → Txt} {op : Txt → List Txt} {own : Txt → Option Txt} (ho : ∀ o m, own o = some m ↔ m ∈ N ∧ m ≠ nc ∧ g m = o) {n : Txt} (h : FreeN N nc g op n) : Rch op own n 1 := by
  obtain ⟨o, h1, h2⟩ := h
  refine .one h1 ?_
  cases e : own o with
  | none => rfl
  | some m =>
    obtain ⟨a, b, c⟩ := (ho o m).mp e
    exact absurd c (h2 m a b)
/-- the reach of the newcomer is the length of the shortest rows -/
theorem reach_nc {N : List Txt} {nc : Txt} {g : Txt → Txt} {op : Txt → List Txt} {own : Txt → Option Txt} (ho : ∀ o m, own o = some m ↔ m ∈ N ∧ m ≠ nc ∧ g m = o) {k : Nat} :
    IsD op own nc k ↔ ∃ n R, PathL N nc g op n R ∧ FreeN N nc g op n ∧ R.length = k ∧ ∀ n' R', PathL N nc g op n' R' → FreeN N nc g op n' → k ≤ R'.length := by
  constructor
  · rintro ⟨h1, h2⟩
    obtain ⟨n, R, p, f, l⟩ := rch_path ho .one h1
    have hk := h1.pos
    refine ⟨n, R, p, f, by rw [l]; simp, fun n' R' p' f' => ?_⟩
    have := h2 _ (p'.rch ho (free_rch ho f'))
    omega
  · rintro ⟨n, R, p, f, l, hm⟩
    have hpos := p.pos
    have := p.rch ho (free_rch ho f)
    rw [Nat.add_sub_cancel] at this
    rw [l] at this
    refine ⟨this, fun j hj => ?_⟩
    obtain ⟨n', R', p', f', l'⟩ := rch_path ho .one hj
    have hjp := hj.pos
    have := hm n' R' p' f'
    rw [l'] at this
    simpa using this
end L2.DL
/-! SJ: registers without rest: many names entered at once or one by one; changes that change nothing. -/
namespace L2.DL
open PySem PySem.Spec PyProof.Rows L2.AS
theorem restIn0 {t1 : Nat} {M : List Txt} : ∀ (rows : List Row) (slp : Tb Txt (Txt × Nat)), restIn 0 t1 M slp rows = slp
  | [], _ => rfl
  | r :: rows, slp => by
    have e : restF 0 t1 M slp r = slp := by
      unfold restF
      cases r.cd with
      | none => rfl
      | some c => simp
    show restIn 0 t1 M (restF 0 t1 M slp r) rows = slp
    rw [e]; exact restIn0 rows slp
/-- registers without rest, of at most K names, whose codes are options -/
structure P0 (K : Nat) (r : Reg) : Prop where
  p : r.pause = 0
  slp : ∀ s ∈ r.sts, s.slp = []
  o : ∀ s ∈ r.sts, OwnC r.span s
  len : ∀ s ∈ r.sts, s.rows.length ≤ K
theorem chg_slp {s : RSt} {nx : Nat} {bar : List Txt} {rows : List Row} {M : List Txt} (h : s.slp = []) : (chgR 0 s nx bar rows M).slp = [] := by
  show restIn 0 _ M (slpCut _ M s.slp) s.rows = []
  rw [restIn0, h]; rfl
theorem P0.push {K L nx : Nat} {r : Reg} {s : RSt} {bar : List Txt} {rows : List Row} {M : List Txt} (h : P0 K r) (hs : r.sts[r.spot]? = some s) (hM : Cod (sitR r.span bar s.slp rows) M) (hl : rows.length ≤ L) (kl : K ≤ L) :
    P0 L (r.push (chgR r.pause s nx bar rows M)) := by
  have hm := List.mem_of_getElem? hs
  have ml : M.length = rows.length := by rw [hM.len, List.length_map]
  refine ⟨h.p, fun x hx => ?_, fun x hx => ?_, fun x hx => ?_⟩ <;> rcases List.mem_append.mp hx with hx | hx
  · exact h.slp x (List.mem_of_mem_take hx)
  · rw [List.mem_singleton.mp hx, h.p]; exact chg_slp (h.slp s hm)
  · exact h.o x (List.mem_of_mem_take hx)
  · rw [List.mem_singleton.mp hx]
    exact OwnC.chg (by rw [h.slp s hm]; exact List.nodup_nil) hM
  · exact Nat.le_trans (h.len x (List.mem_of_mem_take hx)) kl
  · rw [List.mem_singleton.mp hx]
    show (setCd rows M).length ≤ L
    rw [setCd_len ml]; exact hl
theorem P0.mono {K L : Nat} {r : Reg} (h : P0 K r) (kl : K ≤ L) : P0 L r := ⟨h.p, h.slp, h.o, fun s hs => Nat.le_trans (h.len s hs) kl⟩
/-! ### names and their codes -/
/-- some coding with these options -/
def AccN (op : Txt → List Txt) (N : List Txt) : Prop := ∃ g : Txt → Txt, (∀ t ∈ N, g t ∈ op t) ∧ (N.map g).Nodup
theorem AccN.no {op : Txt → List Txt} {N : List Txt} {f : Txt → Option Txt} {m : Nat} {pl : List Nat} (h : AccN op N) (cr : L2.AS.Crowd (prb (N.map (hCl f op))) m pl) : False := by
  obtain ⟨g, h1, h2⟩ := h
  exact crowd_no cr (N.map g) (cod_fn.mpr ⟨h1, h2⟩)
theorem AccN.perm {op : Txt → List Txt} {A B : List Txt} (p : A.Perm B) (h : AccN op A) : AccN op B := by
  obtain ⟨g, h1, h2⟩ := h
  exact ⟨g, fun t ht => h1 t (p.mem_iff.mpr ht), (p.map g).nodup_iff.mp h2⟩
/-! ### changes that change nothing -/
/-! ### the codes of a state as a table -/
theorem own_fi {n span : Nat} {s : RSt} (so : StOk n span s) (o : OwnC span s) {x y : Txt} (h : cdR s x ≠ none) (e : cdR s x = cdR s y) : x = y := by
  have mem : ∀ z, cdR s z ≠ none → z ∈ nmsR s := fun z hz => by
    by_cases h : z ∈ nmsR s
    · exact h
    · exact absurd (cdR_none h) hz
  obtain ⟨r1, h1, rfl⟩ := List.mem_map.mp (mem x h)
  obtain ⟨r2, h2, rfl⟩ := List.mem_map.mp (mem y (e ▸ h))
  rw [cdR_some so.rws h1, cdR_some so.rws h2] at e
  obtain ⟨i, hi⟩ := List.getElem?_of_mem h1
  obtain ⟨j, hj⟩ := List.getElem?_of_mem h2
  have hil : i < s.rows.length := (List.getElem?_eq_some_iff.mp hi).1
  have nd := o.nd
  unfold cds at nd
  have := (List.getElem?_inj (i := i) (j := j) (by rw [List.length_map]; exact hil) nd).mp (by rw [List.getElem?_map, List.getElem?_map, hi, hj]; simp [e])
  subst this
  rw [hi] at hj
  rw [Option.some.inj hj]
/-! ### a deed -/
end L2.DL
/-! SK: d.pop(e) of an own table, as a statement. -/
namespace L2.DL
open PySem PySem.Spec PyProof.Rows
/-! ### rows in another sequence -/
end L2.DL
/-! SL: one newcomer: the best coding has one row, of the newcomer's reach. -/
namespace L2.DL
open PySem PySem.Spec PyProof.Rows L2.AS
/-- a coding of the names but one, as a table -/
structure CdN (N : List Txt) (nc : Txt) (g : Txt → Txt) (cd : Tb Txt Txt) : Prop where
  n1 : (cd.map (·.1)).Nodup
  n2 : (cd.map (·.2)).Nodup
  lk : ∀ x c, L2.AS.lk x cd = some c ↔ x ∈ N ∧ x ≠ nc ∧ g x = c
theorem mem_lk {cd : Tb Txt Txt} (n1 : (cd.map (·.1)).Nodup) {x c : Txt} : (x, c) ∈ cd ↔ lk x cd = some c := ⟨fun h => lk_of n1 h, lk_mem⟩
theorem CdN.own {N : List Txt} {nc : Txt} {g : Txt → Txt} {cd : Tb Txt Txt} (h : CdN N nc g cd) (o m : Txt) : L2.AS.lk o (cd.map fun e => (e.2, e.1)) = some m ↔ m ∈ N ∧ m ≠ nc ∧ g m = o := by
  have n2' : (ks (cd.map fun e => (e.2, e.1))).Nodup := by
    have : ks (cd.map fun e => (e.2, e.1)) = cd.map (·.2) := by unfold ks; rw [List.map_map]; rfl
    rw [this]; exact h.n2
  rw [← h.lk, ← mem_lk h.n1]
  constructor
  · intro z
    obtain ⟨e, he, ee⟩ := List.mem_map.mp (lk_mem z)
    injection ee with e1 e2
    rw [← e1, ← e2]; exact he
  · intro z
    exact lk_of n2' (List.mem_map.mpr ⟨(m, o), z, rfl⟩)
theorem CdN.cl {N : List Txt} {nc : Txt} {g : Txt → Txt} {op : Txt → List Txt} {cd : Tb Txt Txt} (h : CdN N nc g cd) : N.map (newCl nc g op) = N.map (hCl (fun x => L2.AS.lk x cd) op) := by
  refine List.map_congr_left fun x hx => ?_
  show (⟨x, if x = nc then [] else [g x], op x⟩ : Cl) = ⟨x, (L2.AS.lk x cd).toList, op x⟩
  by_cases e : x = nc
  · rw [if_pos e]
    cases hl : L2.AS.lk x cd with
    | none => rfl
    | some c => exact absurd e ((h.lk x c).mp hl).2.1
  · rw [if_neg e, (h.lk x (g x)).mpr ⟨hx, e, rfl⟩]; rfl
theorem CdN.no {N : List Txt} {nc : Txt} {g : Txt → Txt} {cd : Tb Txt Txt} (h : CdN N nc g cd) {x : Txt} (hx : x ∈ N) : L2.AS.lk x cd = none ↔ x = nc := by
  constructor
  · intro z
    refine Classical.byContradiction fun e => ?_
    rw [(h.lk x (g x)).mpr ⟨hx, e, rfl⟩] at z; cases z
  · intro e
    cases hl : L2.AS.lk x cd with
    | none => rfl
    | some c => exact absurd e ((h.lk x c).mp hl).2.1
section
variable {N : List Txt} {nc : Txt} {g : Txt → Txt} {op : Txt → List Txt} {cd : Tb Txt Txt}
theorem NewC.chn (h : NewC N nc g op) (c : CdN N nc g cd) {M : List Txt} (hM : Best (N.map (newCl nc g op)) M) : Chn N (fun x => lk x cd) (fnC N M) := by
  rw [c.cl] at hM
  refine chn_of_best h.nd (fun x _ y _ n e => ?_) (fun x hx o e => ?_) hM
  · cases hl : lk x cd with
    | none => exact absurd hl n
    | some o =>
      have h1 := (c.lk x o).mp hl
      have h2 := (c.lk y o).mp (by rw [← show lk x cd = lk y cd from e]; exact hl)
      exact h.inj x h1.1 y h2.1 h1.2.1 h2.2.1 (h1.2.2.trans h2.2.2.symm)
  · have h1 := (c.lk x o).mp e
    rw [← h1.2.2]
    exact h.ok x h1.1 h1.2.1
/-- the row of the newcomer -/
theorem NewC.row (h : NewC N nc g op) (c : CdN N nc g cd) {M : List Txt} (hM : Best (N.map (newCl nc g op)) M) {k : Nat} (hk : IsD op (fun o => lk o (cd.map fun e => (e.2, e.1))) nc k) :
    nc ∈ chgW N (fun x => lk x cd) (fnC N M) ∧ (chgW N (fun x => lk x cd) (fnC N M)).filter (fun n => decide (lk n cd = none)) = [nc] ∧ (rowN N (fun x => lk x cd) (fnC N M) nc).length = k ∧ (chgW N (fun x => lk x cd) (fnC N M)).length = k := by
  have chn := h.chn c hM
  have f0 : lk nc cd = none := (c.no h.hn).mpr rfl
  have hnc : nc ∈ chgW N (fun x => lk x cd) (fnC N M) := mem_chgW.mpr ⟨h.hn, by show lk nc cd ≠ _; rw [f0]; simp⟩
  have ro := rowN_ok chn hnc f0
  have ndc : (chgW N (fun x => lk x cd) (fnC N M)).Nodup := h.nd.filter _
  have l1 : (chgW N (fun x => lk x cd) (fnC N M)).length = (rowN N (fun x => lk x cd) (fnC N M) nc).length := by
    refine Nat.le_antisymm (nd_le ndc fun y hy => ?_) (nd_le ro.nd ro.sub)
    obtain ⟨x, hx, hx0, hy'⟩ := rows_cover chn y hy
    have : x = nc := (c.no (mem_chgW.mp hx).1).mp hx0
    rw [← this]; exact hy'
  have only : (chgW N (fun x => lk x cd) (fnC N M)).filter (fun n => decide (lk n cd = none)) = [nc] := by
    have e : (chgW N (fun x => lk x cd) (fnC N M)).filter (fun n => decide (lk n cd = none)) = (chgW N (fun x => lk x cd) (fnC N M)).filter (fun n => n == nc) := List.filter_congr fun x hx => by
      rw [Bool.eq_iff_iff]
      simp only [decide_eq_true_eq, beq_iff_eq]
      exact c.no (mem_chgW.mp hx).1
    rw [e, List.filter_beq]
    rw [ndc.count, if_pos hnc]; rfl
  refine ⟨hnc, only, ?_, ?_⟩
  all_goals try rw [l1]
  all_goals
    -- the row leads from the newcomer to a name whose code was nobody's
    generalize hR : rowN N (fun x => lk x cd) (fnC N M) nc = R at *
    have step : ∀ (i : Nat) (y : Txt), R[i]? = some y → RowF N nc g (fnC N M) y (R.take (i + 1)) := by
      intro i
      induction i with
      | zero =>
        intro y hy
        have := ro.hd.symm.trans hy
        have e : nc = y := Option.some.inj this
        subst e
        rw [List.take_add_one, hy]
        exact .one
      | succ i ih =>
        intro y hy
        have hi : i < R.length := by have := (List.getElem?_eq_some_iff.mp hy).1; omega
        obtain ⟨z, hz⟩ : ∃ z, R[i]? = some z := ⟨_, List.getElem?_eq_getElem hi⟩
        have hn := ro.en i z hz
        rw [hy] at hn
        obtain ⟨a, b⟩ := (nxW_some chn).mp hn
        obtain ⟨b1, b2, b3⟩ := (c.lk y _).mp b
        rw [List.take_add_one, hy]
        exact .step (ih z hz) b1 b2 b3
    have hpos : 0 < R.length := (List.getElem?_eq_some_iff.mp ro.hd).1
    obtain ⟨z, hz⟩ : ∃ z, R[R.length - 1]? = some z := ⟨_, List.getElem?_eq_getElem (by omega)⟩
    have rf := step _ z hz
    rw [show R.length - 1 + 1 = R.length by omega, List.take_length] at rf
    have hend : ∀ y ∈ N, y ≠ nc → g y ≠ fnC N M z := fun y hy hn e => by
      have fy := (c.lk y (g y)).mpr ⟨hy, hn, rfl⟩
      have zc := ro.sub z (List.mem_of_getElem? hz)
      have last := ro.en _ z hz
      rw [List.getElem?_eq_none (by omega)] at last
      by_cases hc : y ∈ chgW N (fun x => lk x cd) (fnC N M)
      · have := (nxW_some chn (n := z) (m := y)).mpr ⟨hc, by show lk y cd = _; rw [fy, e]⟩
        rw [this] at last; cases last
      · have : lk y cd = some (fnC N M y) := Classical.byContradiction fun q => hc (mem_chgW.mpr ⟨hy, q⟩)
        rw [fy] at this
        have e2 : y = z := chn.si y hy z (mem_chgW.mp zc).1 ((Option.some.inj this).symm.trans e)
        exact hc (e2 ▸ zc)
    obtain ⟨n', R', p, hf, hl, hmin⟩ := (reach_nc c.own).mp hk
    exact ((h.best hM rf hend p hf fun n'' R'' p' f' => by rw [hl]; exact hmin n'' R'' p' f').1).trans hl
theorem NewC.back (h : NewC N nc g op) (c : CdN N nc g cd) {k : Nat} (hk : IsD op (fun o => lk o (cd.map fun e => (e.2, e.1))) nc k) : ∃ M, Cod (N.map (newCl nc g op)) M := by
  obtain ⟨n', R', p, hf, hl, hmin⟩ := (reach_nc c.own).mp hk
  exact h.cod p hf fun R'' p' => by rw [hl]; exact hmin n' R'' p' hf
end
end L2.DL
/-! SN: a situation in two halves: names O that hold codes, names W that hold none. -/
namespace L2.DL
open PySem PySem.Spec PyProof.Rows L2.AS
/-- the halves -/
structure Hlv (O W : List Txt) (kv : Tb Txt Txt) (op : Txt → List Txt) : Prop where
  nd : (O ++ W).Nodup
  n1 : (kv.map (·.1)).Nodup
  n2 : (kv.map (·.2)).Nodup
  k : ∀ x, (∃ c, lk x kv = some c) ↔ x ∈ O
  ok : ∀ x c, lk x kv = some c → c ∈ op x
  len : O.length + W.length ≤ 60
  ol : ∀ x, (op x).length ≤ 1000
  nm : ∀ x ∈ O ++ W, nameOk x
abbrev oldC (kv : Tb Txt Txt) (op : Txt → List Txt) (x : Txt) : Cl := hCl (fun x => lk x kv) op x
abbrev newCC (op : Txt → List Txt) (x : Txt) : Cl := ⟨x, [], op x⟩
section
variable {O W : List Txt} {kv : Tb Txt Txt} {op : Txt → List Txt}
theorem Hlv.no (h : Hlv O W kv op) {x : Txt} (hx : x ∈ W) : lk x kv = none := by
  cases e : lk x kv with
  | none => rfl
  | some c =>
    have := (h.k x).mp ⟨c, e⟩
    exact absurd rfl ((List.nodup_append.mp h.nd).2.2 x this x hx)
theorem Hlv.inj (h : Hlv O W kv op) {x y : Txt} (hx : lk x kv ≠ none) (e : lk x kv = lk y kv) : x = y := by
  cases ex : lk x kv with
  | none => exact absurd ex hx
  | some c =>
    have m1 := lk_mem ex
    have m2 := lk_mem (show lk y kv = some c by rw [← e, ex])
    obtain ⟨i, hi⟩ := List.getElem?_of_mem m1
    obtain ⟨j, hj⟩ := List.getElem?_of_mem m2
    have := (List.getElem?_inj (i := i) (j := j) (by rw [List.length_map]; exact (List.getElem?_eq_some_iff.mp hi).1) h.n2).mp (by rw [List.getElem?_map, List.getElem?_map, hi, hj]; rfl)
    subst this
    rw [hi] at hj
    have := Option.some.inj hj
    injection this
/-- with some of the others -/
theorem Hlv.cls (h : Hlv O W kv op) {V : List Txt} (hV : ∀ x ∈ V, x ∈ W) : O.map (fun x => clD (oldC kv op x)) ++ V.map (fun x => clD (newCC op x)) = ((O ++ V).map (oldC kv op)).map clD := by
  rw [List.map_append, List.map_append, List.map_map, List.map_map]
  congr 1
  refine List.map_congr_left fun x hx => ?_
  show clD ⟨x, [], op x⟩ = clD ⟨x, (lk x kv).toList, op x⟩
  rw [h.no (hV x hx)]; rfl
theorem Hlv.ndV (h : Hlv O W kv op) (n : Nat) : (O ++ W.take n).Nodup := h.nd.sublist (List.Sublist.append_left (List.take_sublist _ _) _)
theorem Hlv.chn (h : Hlv O W kv op) {n : Nat} {M : List Txt} (hM : Best ((O ++ W.take n).map (oldC kv op)) M) : Chn (O ++ W.take n) (fun x => lk x kv) (fnC (O ++ W.take n) M) :=
  chn_of_best (h.ndV n) (fun x _ y _ a e => h.inj a e) (fun x _ c e => h.ok x c e) hM
end
end L2.DL
/-! SQ: a def called in an except suite, with the exception for its argument. -/
namespace L2.DL
open PySem PySem.Spec PyProof.Rows
/-- a promise of such a def: the exception's address, class and table are known -/
abbrev XSp := Addr → Value → Option Addr → Sp
structure FnX (P : Program) (w : World) (K : PySem.W.Frag) (mg : Str → Option Value) (base : Heap) (k : Nat) (f : Addr) (fd : FuncData) (ps : List Str) (sp : XSp) : Prop where
  len : ∀ a c d vs H Q E, sp a c d vs H Q E → vs.length = ps.length
  run : ∀ (A : Around) (fr : List PySem.Env) (s : Shared) (H : Hp) (ar : Args) (us : List Value) (vs : List V) (Q : VK) (E : XK) (p : Addr × Obj) (c : Value) (d : Option Addr), Gd A → L2H.RoomH k A → A.handled = some (.ref p.1) → Zc c d p.2 → (∃ xs, p.2.data = .fields xs) → L2H.PinOk fr H s p →
    Env0 P w K mg base A fr s H → BindsTo s fd ar (ps.zip us) → Vals vs us → sp p.1 c d vs H Q E → codeAny (model P w) A (.call (.ref f) ar) (CR (L2.CX P w) fr P w H s Q E) s
/-! ### calls -/
section
variable {X : Cx} {k : Nat} {f a : Addr} {fd : FuncData} {ps : List Str} {oe : Obj} {cls : Value} {d : Option Addr} {pn : List (Addr × Obj)}
abbrev XDSp := Addr → Value → Option Addr → DSp
def liftX (K : PySem.W.Frag) (sp : XDSp) : XSp := fun a c d => lift K (sp a c d)
abbrev DFnX (P : Program) (w : World) (K : PySem.W.Frag) (mg : Str → Option Value) (base : Heap) (k : Nat) (f : Addr) (fd : FuncData) (ps : List Str) (sp : XDSp) : Prop := FnX P w K mg base k f fd ps (liftX K sp)
structure CalX (X : Cx) (x : Str) (sp : XDSp) : Prop where
  ex : ∃ k f fd ps, DFnX X.prog X.w X.K X.mg X.base k f fd ps sp ∧ Room k X.A ∧ X.mg x = some (.ref f) ∧ PySem.W.keepIn X.K (.ref f) = true ∧ Binds X.K fd ps []
end
/-! ### its body -/
/-! ### isinstance(e, C) of the exception -/
/-! ### for the texts that gen2.py prints -/
theorem _root_.L2H.RoomH.u60 {k : Nat} {A : Around} (r : L2H.RoomH k A) : A.units + 60 < cLine := by have := r.un; omega
theorem _root_.L2H.RoomH.u1 {k : Nat} {A : Around} (r : L2H.RoomH k A) : A.units + 1 < cLine := by have := r.un; omega
structure XCle (P : Program) (w : World) (K : PySem.W.Frag) (mg : Str → Option Value) (base : Heap) (k : Nat) (x : Str) (sp : XDSp) : Prop where
  ex : ∃ f fd ps, DFnX P w K mg base k f fd ps sp ∧ mg x = some (.ref f) ∧ PySem.W.keepIn K (.ref f) = true ∧ Binds K fd ps []
theorem XCle.to {X : Cx} {j k : Nat} {x : Str} {sp : XDSp} (c : XCle X.prog X.w X.K X.mg X.base k x sp) (hr : Room j X.A) (h : k ≤ j) : CalX X x sp := by
  obtain ⟨f, fd, ps, F, h1, h2, h3⟩ := c.ex
  exact ⟨k, f, fd, ps, F, hr.mono h, h1, h2, h3⟩
theorem kit_no {K : PySem.W.Frag} {B C : Addr} (it : IsT K C) (h : PySem.W.subIn K (.ref B) (.ref C) = some false) (h2 : PySem.W.subIn K (.ref C) (.ref C) = some true) : PySem.W.kitOne K (.ref B) (.ref C) = some false := by
  refine isi_sub it h ?_
  refine Bool.eq_false_iff.mpr fun z => ?_
  have e : B = C := Value.ref.inj (beq_iff_eq.mp z)
  subst e
  rw [h] at h2
  cases h2
end L2.DL
/-! SR: registers with rest: one newcomer. -/
namespace L2.DL
open PySem PySem.Spec PyProof.Rows L2.AS
theorem rest_gt {pause t1 : Nat} {M : List Txt} : ∀ (rows : List Row) (slp : Tb Txt (Txt × Nat)), (∀ e ∈ slp, t1 < e.2.2) → ∀ e ∈ restIn pause t1 M slp rows, t1 < e.2.2
  | [], slp, h => h
  | r :: rows, slp, h => by
    refine rest_gt rows (restF pause t1 M slp r) fun e he => ?_
    unfold restF at he
    cases hc : r.cd with
    | none => rw [hc] at he; exact h e he
    | some c =>
      rw [hc] at he
      dsimp only at he
      split at he
      · rename_i hp
        rcases pt_mem he with he | he
        · exact h e he
        · rw [he]; show t1 < t1 + pause; omega
      · exact h e he
/-- registers of at most K names, whose codes are options, whose rests last -/
structure P8 (K : Nat) (r : Reg) : Prop where
  o : ∀ s ∈ r.sts, OwnC r.span s
  len : ∀ s ∈ r.sts, s.rows.length ≤ K
  slp : ∀ s ∈ r.sts, ∀ e ∈ s.slp, s.tk < e.2.2
theorem P8.push {K L n nx : Nat} {r : Reg} {s : RSt} {bar : List Txt} {rows : List Row} {M : List Txt} (h : P8 K r) (so : StOk n r.span s) (hs : r.sts[r.spot]? = some s) (hM : Cod (sitR r.span bar s.slp rows) M) (hl : rows.length ≤ L) (kl : K ≤ L) :
    P8 L (r.push (chgR r.pause s nx bar rows M)) := by
  have ml : M.length = rows.length := by rw [hM.len, List.length_map]
  refine ⟨fun x hx => ?_, fun x hx => ?_, fun x hx => ?_⟩ <;> rcases List.mem_append.mp hx with hx | hx
  · exact h.o x (List.mem_of_mem_take hx)
  · rw [List.mem_singleton.mp hx]; exact OwnC.chg so.slpN hM
  · exact Nat.le_trans (h.len x (List.mem_of_mem_take hx)) kl
  · rw [List.mem_singleton.mp hx]
    show (setCd rows M).length ≤ L
    rw [setCd_len ml]; exact hl
  · exact h.slp x (List.mem_of_mem_take hx)
  · rw [List.mem_singleton.mp hx]
    refine rest_gt s.rows _ fun e he => ?_
    have := (List.mem_filter.mp he).2
    rw [Bool.and_eq_true] at this
    exact of_decide_eq_true this.1
theorem P8.mono {K L : Nat} {r : Reg} (h : P8 K r) (kl : K ≤ L) : P8 L r := ⟨h.o, fun s hs => Nat.le_trans (h.len s hs) kl, h.slp⟩
theorem P8.go {K k : Nat} {r : Reg} (h : P8 K r) : P8 K { r with spot := k } := ⟨h.o, h.len, h.slp⟩
/-! ### a newcomer -/
abbrev gOf (s : RSt) (x : Txt) : Txt := (cdR s x).getD []
section
variable {n span : Nat} {s : RSt} {w : Txt}
theorem cd_of (so : StOk n span s) {x : Txt} (hx : x ∈ nmsR s) : cdR s x = some (gOf s x) := by
  obtain ⟨c, h, _⟩ := cdR_in so hx
  unfold gOf
  rw [h]; rfl
theorem sit_new (so : StOk n span s) (hw : w ∉ nmsR s) : sitR span s.bar s.slp (s.rows ++ newR s.nx [w]) = (nmsR s ++ [w]).map (newCl w (gOf s) (optsR span s.bar s.slp)) := by
  show (s.rows ++ newR s.nx [w]).map (claimR span s.bar s.slp) = _
  rw [List.map_append, List.map_append, List.map_map]
  congr 1
  · refine List.map_congr_left fun r hr => ?_
    have hn : r.nm ∈ nmsR s := List.mem_map_of_mem hr
    have hne : r.nm ≠ w := fun e => hw (e ▸ hn)
    obtain ⟨c, hc, _⟩ := so.cd r hr
    show (⟨r.nm, r.cd.toList, _⟩ : Cl) = ⟨r.nm, if r.nm = w then [] else [gOf s r.nm], _⟩
    rw [if_neg hne]
    have : gOf s r.nm = c := by unfold gOf; rw [cdR_some so.rws hr, hc]; rfl
    rw [this, hc]; rfl
  · show [(⟨w, [], _⟩ : Cl)] = [⟨w, if w = w then [] else [gOf s w], _⟩]
    rw [if_pos rfl]
theorem new_in (hw : w ∉ nmsR s) {x : Txt} (hx : x ∈ nmsR s ++ [w]) (hn : x ≠ w) : x ∈ nmsR s := (List.mem_append.mp hx).resolve_right fun z => hn (List.mem_singleton.mp z)
theorem new_NewC (so : StOk n span s) (o : OwnC span s) (hw : w ∉ nmsR s) : NewC (nmsR s ++ [w]) w (gOf s) (optsR span s.bar s.slp) := by
  refine ⟨nodup_snoc so.rws.nd hw, List.mem_append.mpr (.inr (List.mem_singleton.mpr rfl)), fun x hx y hy nx ny e => ?_, fun x hx nx => ?_⟩
  · have h1 := cd_of so (new_in hw hx nx)
    have h2 := cd_of so (new_in hw hy ny)
    refine own_fi so o (by rw [h1]; simp) ?_
    rw [h1, h2, e]
  · obtain ⟨r, hr, rfl⟩ := List.mem_map.mp (new_in hw hx nx)
    obtain ⟨c, hc, _⟩ := so.cd r hr
    have : gOf s r.nm = c := by unfold gOf; rw [cdR_some so.rws hr, hc]; rfl
    rw [this]
    exact o.opt r hr c hc
end
end L2.DL
/-! SV: letters of registers; some letters turned into others. -/
namespace L2.DL
open PySem PySem.Spec PyProof.Rows L2.AS
/-- letters of a kind -/
abbrev ofL (G : Nat → Prop) (t : Txt) : Prop := ∀ c ∈ t, G c
structure StL (G : Nat → Prop) (s : RSt) : Prop where
  nm : ∀ r ∈ s.rows, ofL G r.nm
  cd : ∀ r ∈ s.rows, ∀ c, r.cd = some c → ofL G c
  bar : ∀ c ∈ s.bar, ofL G c
  slp : ∀ e ∈ s.slp, ofL G e.1 ∧ ofL G e.2.1
section
variable {G : Nat → Prop}
theorem opts_ofL {span : Nat} {bar : List Txt} {slp : Tb Txt (Txt × Nat)} {nm t : Txt} (h : ofL G nm) (ht : t ∈ optsR span bar slp nm) : ofL G t := fun c hc => h c ((spellS_mem (List.mem_filter.mp ht).1).2 c hc)
theorem cod_ofL {span : Nat} {bar : List Txt} {slp : Tb Txt (Txt × Nat)} {rows : List Row} (h : ∀ r ∈ rows, ofL G r.nm) {M : List Txt} (hM : Cod (sitR span bar slp rows) M) : ∀ t ∈ M, ofL G t := fun t ht => by
  obtain ⟨i, hi⟩ := List.getElem?_of_mem ht
  have h1 := hM.opt i t hi
  unfold opS at h1
  rw [List.getElem?_map] at h1
  cases hr : rows[i]? with
  | none => rw [hr] at h1; cases h1
  | some r => rw [hr] at h1; exact opts_ofL (h r (List.mem_of_getElem? hr)) h1
theorem StL.chg {s : RSt} (h : StL G s) {span pause nx : Nat} {bar : List Txt} {rows : List Row} (hb : ∀ c ∈ bar, ofL G c) (hr : ∀ r ∈ rows, ofL G r.nm) {M : List Txt} (hM : Cod (sitR span bar s.slp rows) M) : StL G (chgR pause s nx bar rows M) where
  nm := fun x hx => by
    obtain ⟨i, r, t, h1, h2, rfl⟩ := setCd_mem hx
    exact hr r (List.mem_of_getElem? h1)
  cd := fun x hx c hc => by
    obtain ⟨i, r, t, h1, h2, rfl⟩ := setCd_mem hx
    cases hc
    exact cod_ofL hr hM _ (List.mem_of_getElem? h2)
  bar := hb
  slp := by
    have go : ∀ (rows : List Row) (slp : Tb Txt (Txt × Nat)), (∀ r ∈ rows, ofL G r.nm ∧ ∀ c, r.cd = some c → ofL G c) → (∀ e ∈ slp, ofL G e.1 ∧ ofL G e.2.1) → ∀ e ∈ restIn pause (s.tk + 1) M slp rows, ofL G e.1 ∧ ofL G e.2.1 := by
      intro rows
      induction rows with
      | nil => intro slp _ hs; exact hs
      | cons r rows ih =>
        intro slp h1 hs
        refine ih _ (fun x hx => h1 x (List.mem_cons_of_mem _ hx)) fun e he => ?_
        rcases restF_mem he with z | ⟨c, hc, rfl⟩
        · exact hs e z
        · exact ⟨(h1 r List.mem_cons_self).2 c hc, (h1 r List.mem_cons_self).1⟩
    exact go s.rows _ (fun r hr => ⟨h.nm r hr, h.cd r hr⟩) fun e he => h.slp e (List.mem_filter.mp he).1
/-- all states of a register -/
def RgL (G : Nat → Prop) (r : Reg) : Prop := ∀ s ∈ r.sts, StL G s
theorem RgL.push {r : Reg} {s : RSt} {nx : Nat} {bar : List Txt} {rows : List Row} {M : List Txt} (h : RgL G r) (hs : r.sts[r.spot]? = some s) (hb : ∀ c ∈ bar, ofL G c) (hr : ∀ r ∈ rows, ofL G r.nm) (hM : Cod (sitR r.span bar s.slp rows) M) :
    RgL G (r.push (chgR r.pause s nx bar rows M)) := fun x hx => by
  rcases List.mem_append.mp hx with hx | hx
  · exact h x (List.mem_of_mem_take hx)
  · rw [List.mem_singleton.mp hx]; exact (h s (List.mem_of_getElem? hs)).chg hb hr hM
end
/-! ### some letters told, the others somehow -/
end L2.DL
/-! SW: what is told, with letters turned. -/
namespace L2.DL
open PySem PySem.Spec PyProof.Rows L2.AS
/-- a row that is told -/
structure Tld where
  nm : Txt
  o : Option Txt
  c : Txt
abbrev Tld.d (x : Tld) : D := .tup [.str x.nm, optD x.o, .str x.c]
end L2.DL
/-! SX: two registers asked alike, the second one with letters turned. -/
namespace L2.DL
open PySem PySem.Spec PyProof.Rows L2.AS
def tNoth : Txt := [110, 111, 116, 104, 105, 110, 103]
def tOther : Txt := [111, 116, 104, 101, 114]
def tUnkn : Txt := [117, 110, 107, 110, 111, 119, 110]
def tTaken : Txt := [116, 97, 107, 101, 110]
def tCode : Txt := [99, 111, 100, 101]
end L2.DL
/-! TA: sorted(list of tuples) whose first items (ints, texts) differ. -/
namespace L2.DL
open PySem PySem.Spec PyProof.Rows
abbrev KI := Sum Int Txt
def kiV : KI → V
  | .inl i => .int i
  | .inr t => .str (sV t)
def kLt (a b : List KI) : Bool := lexLt itemOrd a b
theorem kLt_swo {α : Type} (k : α → List KI) : SrtO.Swo fun x y => kLt (k x) (k y) := by
  refine ⟨fun x y h => ?_, fun x y z h1 h2 => ?_⟩
  · cases h' : kLt (k y) (k x) with
    | false => rfl
    | true =>
      have := lex_trans (O := itemOrd) _ _ _ h h'
      rw [lex_irrefl] at this
      cases this
  · cases h' : kLt (k z) (k x) with
    | false => rfl
    | true =>
      rcases lex_negTrans (O := itemOrd) (k z) (k y) (k x) h' with h | h
      · have : kLt (k z) (k y) = true := h
        rw [this] at h2; cases h2
      · have : kLt (k y) (k x) = true := h
        rw [this] at h1; cases h1
/-- a tuple of the heap, its first items told -/
def IsKey (h : Heap) (v : Value) (ks : List KI) : Prop := ∃ a o us us2 n, v = .ref a ∧ h.get? a = some o ∧ o.cls = .type "tuple" ∧ o.data = .seq (us ++ us2).toArray n ∧ Vals (ks.map kiV) us
theorem IsKey.keeps {h h' : Heap} {v : Value} {ks : List KI} (p : IsKey h v ks) (k : ∀ b o, h.get? b = some o → o.cls = .type "tuple" → h'.get? b = some o) : IsKey h' v ks := by
  obtain ⟨a, o, us, us2, n, e, ho, hc, hd, r⟩ := p
  exact ⟨a, o, us, us2, n, e, k _ _ ho hc, hc, hd, r⟩
/-- two sorted rows of the same things are one -/
theorem srt_uniq {α : Type} {R : α → α → Prop} (as : ∀ x y, R x y → ¬ R y x) : ∀ {l m : List α}, l.Perm m → l.Pairwise R → m.Pairwise R → l = m
  | [], m, p, _, _ => (List.Perm.eq_nil p.symm).symm
  | x :: l, [], p, _, _ => absurd p.length_eq (by simp)
  | x :: l, y :: m, p, h1, h2 => by
    rw [List.pairwise_cons] at h1 h2
    have e : x = y := by
      rcases List.mem_cons.mp (p.mem_iff.mp (List.mem_cons_self (a := x) (l := l))) with e | hx
      · exact e
      · rcases List.mem_cons.mp (p.mem_iff.mpr (List.mem_cons_self (a := y) (l := m))) with e | hy
        · exact e.symm
        · exact absurd (h2.1 x hx) (as _ _ (h1.1 y hy))
    subst e
    rw [srt_uniq as p.cons_inv h1.2 h2.2]
theorem kLt_asym (a b : List KI) (h : kLt a b = true) : ¬ kLt b a = true := fun z => by
  have := (kLt_swo (fun x : List KI => x)).asym a b h
  rw [this] at z; cases z
end L2.DL
/-! TB: d.setdefault(e, f) of an own table, as a statement. -/
namespace L2.DL
open PySem PySem.Spec PyProof.Rows
end L2.DL
/-! TC: what a recorder holds; the entries of its pages. -/
namespace L2.DL
open PySem PySem.Spec PyProof.Rows L2.AS
abbrev pgD (s : RSt) : D := .tup [.int s.tk, .dct (nmKV s.rows), .dct (bKV s.rows)]
abbrev recC (cV a : Addr) (ps : List RSt) (un : Nat) : Cell := .obj cV [("book", .cell a), ("pages", .lst (ps.map pgD)), ("undone", .int un)]
/-- the code of a name on a page -/
def cdP (ps : List RSt) (i : Nat) (w : Txt) : Option Txt := (ps[i]?).bind fun s => cdR s w
def tkP (ps : List RSt) (i : Nat) : Nat := ((ps[i]?).map (·.tk)).getD 0
/-- pages as they are -/
structure PgOk (ps : List RSt) : Prop where
  len : ps.length ≤ 101
  st : ∀ s ∈ ps, ∃ n span, StOk n span s
  asc : ∀ i j, i < ps.length → j < ps.length → tkP ps i = tkP ps j → i = j
structure En where
  f : Nat
  w : Txt
  c : Txt
  l : Option Nat
abbrev enK (e : En) : List KI := [.inl e.f, .inr e.w]
abbrev enLt (e e' : En) : Prop := kLt (enK e) (enK e') = true
def RunTo (ps : List RSt) (w c : Txt) (i j : Nat) : Prop := i ≤ j ∧ (∀ k, i ≤ k → k ≤ j → cdP ps k w = some c) ∧ (i = 0 ∨ cdP ps (i - 1) w ≠ some c)
def isEn (ps : List RSt) (e : En) : Prop := ∃ i j, RunTo ps e.w e.c i j ∧ e.f = tkP ps i ∧ ((j + 1 = ps.length ∧ e.l = none) ∨ (j + 1 < ps.length ∧ cdP ps (j + 1) e.w ≠ some e.c ∧ e.l = some (tkP ps (j + 1))))
structure Ent (ps : List RSt) (E : List En) : Prop where
  so : E.Pairwise enLt
  mem : ∀ e, e ∈ E ↔ isEn ps e
theorem Ent.nd {ps : List RSt} {E : List En} (h : Ent ps E) : E.Nodup := h.so.imp fun {a b} q z => by
  subst z
  have : kLt (enK a) (enK a) = false := lex_irrefl (O := itemOrd) _
  rw [q] at this; cases this
theorem perm_nd {α : Type} [DecidableEq α] : ∀ {l m : List α}, l.Nodup → m.Nodup → (∀ x, x ∈ l ↔ x ∈ m) → l.Perm m := fun {l m} h1 h2 h => (List.perm_ext_iff_of_nodup h1 h2).mpr h
open Classical in
theorem Ent.only {ps : List RSt} {E E' : List En} (h : Ent ps E) (h' : Ent ps E') : E = E' :=
  srt_uniq (fun x y => kLt_asym _ _) (perm_nd h.nd h'.nd fun e => (h.mem e).trans (h'.mem e).symm) h.so h'.so
/-! ### page by page -/
theorem RunTo.up {ps : List RSt} {w c : Txt} {i j : Nat} (h : RunTo ps w c i j) (q : cdP ps (j + 1) w = some c) : RunTo ps w c i (j + 1) := ⟨Nat.le_trans h.1 (by omega), fun k h1 h2 => by
  by_cases e : k = j + 1
  · rw [e]; exact q
  · exact h.2.1 k h1 (by omega), h.2.2⟩
theorem RunTo.at0 {ps : List RSt} {w c : Txt} {i j : Nat} (h : RunTo ps w c i j) : cdP ps j w = some c := h.2.1 j h.1 (Nat.le_refl _)
theorem RunTo.only {ps : List RSt} {w c : Txt} {i i' j : Nat} (h : RunTo ps w c i j) (h' : RunTo ps w c i' j) : i = i' := by
  rcases Nat.lt_trichotomy i i' with q | q | q
  · rcases h'.2.2 with z | z
    · omega
    · exact absurd (h.2.1 (i' - 1) (by omega) (by have := h'.1; omega)) z
  · exact q
  · rcases h.2.2 with z | z
    · omega
    · exact absurd (h'.2.1 (i - 1) (by omega) (by have := h.1; omega)) z
/-- set where there is none -/
def dfl {α : Type} (T : Tb Txt α) (w : Txt) (x : α) : Tb Txt α := match lk w T with
  | some _ => T
  | none => T ++ [(w, x)]
end L2.DL
namespace L2.DL
open PySem PySem.Spec PyProof.Rows L2.AS
end L2.DL
/-! TD: a recorder at hand; how its deeds end. -/
namespace L2.DL
open PySem PySem.Spec PyProof.Rows L2.AS
/-- the pages of a register from its state b on -/
def pgs (r : Reg) (b : Nat) : List RSt := (r.sts.take (r.spot + 1)).drop b
structure VAt (cV cR cS v a : Addr) (r : Reg) (b un n : Nat) (s : RSt) (C : Cs) : Prop where
  A : RAt cR cS a r n s C
  hv : C v = some (recC cV a (pgs r b) un)
  ne : v ≠ a
  b : b ≤ r.spot
  un : un + r.spot < r.sts.length
def Deed.errV (r : Reg) (b un : Nat) (s : RSt) : Deed → Option Er
  | .undo => if r.spot = b then some (.nothing wUndo) else none
  | .redo => if un = 0 then some (.nothing wRedo) else none
  | d => d.err r s
def Deed.un (un : Nat) : Deed → Nat
  | .undo => un + 1
  | .redo => un - 1
  | _ => 0
theorem errV_none {cV cR cS v a : Addr} {r : Reg} {b un n : Nat} {s : RSt} {C : Cs} {d : Deed} (h : VAt cV cR cS v a r b un n s C) (e : d.errV r b un s = none) : d.err r s = none := by
  have h1 := h.b
  have h2 := h.un
  cases d with
  | undo =>
    have e : (if r.spot = b then some (Er.nothing wUndo) else none) = none := e
    show (if r.spot = 0 then some (Er.nothing wUndo) else none) = none
    split at e
    · cases e
    · rename_i q; rw [if_neg (by omega)]
  | redo =>
    have e : (if un = 0 then some (Er.nothing wRedo) else none) = none := e
    show (if r.spot + 1 = r.sts.length then some (Er.nothing wRedo) else none) = none
    split at e
    · cases e
    · rename_i q; rw [if_neg (by omega)]
  | _ => exact e
end L2.DL
namespace L2.DL
open PySem PySem.Spec PyProof.Rows L2.AS
end L2.DL
namespace L2.DL
open PySem PySem.Spec PyProof.Rows L2.AS
/-- what a recorder answers to a deed -/
def AnswV (cV cR cS v a : Addr) (r : Reg) (b un n : Nat) (s : RSt) (d : Deed) (C : Cs) (PR : Ret → Cs → Prop) : Prop := match d.errV r b un s with
  | some (.taken t) => PR (.shr (.tup [.str tTaken, .str t])) C
  | some (.unknown t) => PR (.shr (.tup [.str tUnkn, .str t])) C
  | some (.code t) => nameOk t ∧ ∀ x : Txt, PR (.shr (.tup [.str tCode, .str x])) C
  | some (.nothing w) => PR (.shr (.tup [.str tNoth, .str w])) C
  | none => DeedOut r n s d (fun _ => PR (.shr (.tup [.str tOther, .int 0])) C) fun r' x => PR (.shr x) (cput (cput C a (regC cR cS r')) v (recC cV a (pgs r' b) (d.un un)))
end L2.DL
/-! TE: what a deed makes of a register's states; what the entries tell. -/
namespace L2.DL
open PySem PySem.Spec PyProof.Rows L2.AS
/-- the register behind a deed, and its state -/
inductive Gone (b : Nat) (r : Reg) (s : RSt) (d : Deed) : Reg → RSt → Prop
  | chg (M : List Txt) : d ≠ .undo → d ≠ .redo → DeedOk r s d → Best (sitR r.span (d.bar s) s.slp (d.rows s)) M → Gone b r s d (r.push (chgR r.pause s (d.nx s) (d.bar s) (d.rows s) M)) (chgR r.pause s (d.nx s) (d.bar s) (d.rows s) M)
  | undo (sn : RSt) : d = .undo → b < r.spot → r.sts[r.spot - 1]? = some sn → Gone b r s d { r with spot := r.spot - 1 } sn
  | redo (sn : RSt) : d = .redo → r.sts[r.spot + 1]? = some sn → Gone b r s d { r with spot := r.spot + 1 } sn
theorem push_at {r : Reg} {s : RSt} (h : r.spot < r.sts.length) : (r.push s).sts[(r.push s).spot]? = some s := by
  show (r.sts.take (r.spot + 1) ++ [s])[r.spot + 1]? = some s
  rw [List.getElem?_append_right (by rw [List.length_take]; omega), List.length_take, Nat.min_eq_left (by omega), Nat.sub_self]; rfl
theorem push_mem {r : Reg} {s x : RSt} (h : x ∈ (r.push s).sts) : x ∈ r.sts ∨ x = s := by
  rcases List.mem_append.mp (show x ∈ r.sts.take (r.spot + 1) ++ [s] from h) with h | h
  · exact .inl (List.mem_of_mem_take h)
  · exact .inr (List.mem_singleton.mp h)
section
variable {cV cR cS v a : Addr} {r : Reg} {b un n : Nat} {s : RSt} {d : Deed} {C : Cs} {PR : Ret → Cs → Prop}
/-- where a recorder stands behind a deed that is done -/
structure Went (b un n : Nat) (r : Reg) (s : RSt) (d : Deed) (r' : Reg) (s' : RSt) (un' : Nat) : Prop where
  g : Gone b r s d r' s'
  ok : ROk (n + 1) r'
  s : r'.sts[r'.spot]? = some s'
  b : b ≤ r'.spot
  un : un' + r'.spot < r'.sts.length
theorem AnswV.of (V : VAt cV cR cS v a r b un n s C) (fit : DeedFit s d) (k1 : ∀ (t : Txt) (u : D), PR (.shr (.tup [.str t, u])) C)
    (k2 : ∀ (r' : Reg) (s' : RSt), Went b un n r s d r' s' (d.un un) → d.errV r b un s = none → PR (.shr (toldD s.rows s'.rows)) (cput (cput C a (regC cR cS r')) v (recC cV a (pgs r' b) (d.un un)))) : AnswV cV cR cS v a r b un n s d C PR := by
  have A := V.A
  have hsp := A.ok.spot
  have hb := V.b
  have hu := V.un
  have hn := A.n1
  unfold AnswV
  cases he : d.errV r b un s with
  | some x =>
    cases x with
    | taken t => exact k1 _ _
    | unknown t => exact k1 _ _
    | nothing t => exact k1 _ _
    | code t =>
      refine ⟨?_, fun x => k1 _ _⟩
      have := he
      cases d with
      | undo => exact absurd he (by simp only [Deed.errV]; split <;> simp)
      | redo => exact absurd he (by simp only [Deed.errV]; split <;> simp)
      | add ts => exact absurd he (by simp [Deed.errV, Deed.err])
      | drop ts => exact absurd he (by simp [Deed.errV, Deed.err])
      | ren o m => exact absurd he (by simp only [Deed.errV, Deed.err]; (repeat' split) <;> simp)
      | ban ts =>
        have he : (fstBad r.span ts).map Er.code = some (.code t) := he
        obtain ⟨u, hu, eu⟩ := Option.map_eq_some_iff.mp he
        cases eu
        exact fit.1 t (List.mem_of_find?_eq_some hu)
      | alw ts =>
        have he : (fstBad r.span ts).map Er.code = some (.code t) := he
        obtain ⟨u, hu, eu⟩ := Option.map_eq_some_iff.mp he
        cases eu
        exact fit.1 t (List.mem_of_find?_eq_some hu)
  | none =>
    have dok := Deed.fine A.ok A.st fit (errV_none V he)
    have chg : ∀ (h1 : d ≠ .undo) (h2 : d ≠ .redo), (∀ (m : Nat) (pl : List Nat), L2.AS.Crowd (prb (sitR r.span (d.bar s) s.slp (d.rows s))) m pl → PR (.shr (.tup [.str tOther, .int 0])) C) ∧
        (∀ (M : List Txt), Best (sitR r.span (d.bar s) s.slp (d.rows s)) M → ROk (n + 1) (r.push (chgR r.pause s (d.nx s) (d.bar s) (d.rows s) M)) → PR (.shr (toldD s.rows (setCd (d.rows s) M))) (cput (cput C a (regC cR cS (r.push (chgR r.pause s (d.nx s) (d.bar s) (d.rows s) M)))) v (recC cV a (pgs (r.push (chgR r.pause s (d.nx s) (d.bar s) (d.rows s) M)) b) (d.un un)))) := fun h1 h2 =>
      ⟨fun m pl c => k1 _ _, fun M hM ok' => k2 _ _ ⟨.chg M h1 h2 dok hM, ok', push_at hsp, by show b ≤ r.spot + 1; omega, by
        have e0 : d.un un = 0 := by cases d <;> first | rfl | exact absurd rfl h1 | exact absurd rfl h2
        rw [e0]; exact (by have := ok'.spot; omega)⟩ he⟩
    cases d with
    | undo =>
      have hne : r.spot ≠ b := fun z => by
        have he : (if r.spot = b then some (Er.nothing wUndo) else none) = none := he
        rw [if_pos z] at he; cases he
      exact fun sn hsn => k2 _ sn ⟨.undo sn rfl (by omega) hsn, (A.ok.go (by omega)).mono (by omega) (by omega), hsn, by show b ≤ r.spot - 1; omega, by show un + 1 + (r.spot - 1) < r.sts.length; omega⟩ he
    | redo =>
      have hne : un ≠ 0 := fun z => by
        have he : (if un = 0 then some (Er.nothing wRedo) else none) = none := he
        rw [if_pos z] at he; cases he
      exact fun sn hsn => k2 _ sn ⟨.redo sn rfl hsn, (A.ok.go (by omega)).mono (by omega) (by omega), hsn, by show b ≤ r.spot + 1; omega, by show un - 1 + (r.spot + 1) < r.sts.length; omega⟩ he
    | add ts => exact chg (by simp) (by simp)
    | drop ts => exact chg (by simp) (by simp)
    | ren o m => exact chg (by simp) (by simp)
    | ban ts => exact chg (by simp) (by simp)
    | alw ts => exact chg (by simp) (by simp)
/-- a property of all states goes on -/
theorem Gone.all {Q : RSt → Prop} {r' : Reg} {s' : RSt} (g : Gone b r s d r' s') (h : ∀ x ∈ r.sts, Q x) (hn : ∀ M, d ≠ .undo → d ≠ .redo → DeedOk r s d → Best (sitR r.span (d.bar s) s.slp (d.rows s)) M → Q (chgR r.pause s (d.nx s) (d.bar s) (d.rows s) M)) : ∀ x ∈ r'.sts, Q x := by
  cases g with
  | chg M h1 h2 h3 h4 =>
    intro x hx
    rcases push_mem hx with hx | rfl
    · exact h x hx
    · exact hn M h1 h2 h3 h4
  | undo sn => exact h
  | redo sn => exact h
end
/-- states by their clocks -/
def TkId (r : Reg) : Prop := ∀ (i : Nat) (s : RSt), r.sts[i]? = some s → s.tk = i
theorem Gone.tk {b : Nat} {r : Reg} {s : RSt} {d : Deed} {r' : Reg} {s' : RSt} (g : Gone b r s d r' s') (hs : r.sts[r.spot]? = some s) (h : TkId r) : TkId r' := by
  have hl := (List.getElem?_eq_some_iff.mp hs).1
  cases g with
  | chg M h1 h2 h3 h4 =>
    intro i x hx
    have hx : (r.sts.take (r.spot + 1) ++ [_])[i]? = some x := hx
    by_cases hi : i < r.spot + 1
    · rw [List.getElem?_append_left (by rw [List.length_take]; omega), List.getElem?_take_of_lt hi] at hx
      exact h i x hx
    · rw [List.getElem?_append_right (by rw [List.length_take]; omega), List.length_take, Nat.min_eq_left (by omega)] at hx
      have hi2 : i = r.spot + 1 := by
        have := (List.getElem?_eq_some_iff.mp hx).1
        simp only [List.length_cons, List.length_nil] at this
        omega
      subst hi2
      rw [Nat.sub_self] at hx
      cases hx
      show s.tk + 1 = r.spot + 1
      rw [h _ _ hs]
  | undo sn => exact h
  | redo sn => exact h
/-- no code is had twice -/
def CdNd (s : RSt) : Prop := (s.rows.map (·.cd)).Nodup
/-! ### pages of a register with told clocks -/
/-- pages with ascending clocks, no code twice -/
structure PgA (ps : List RSt) : Prop where
  ok : PgOk ps
  lt : ∀ i j, i < j → j < ps.length → tkP ps i < tkP ps j
  nd : ∀ s ∈ ps, CdNd s
theorem PgA.le {ps : List RSt} (h : PgA ps) {i j : Nat} (hi : i < ps.length) (hj : j < ps.length) : tkP ps i ≤ tkP ps j ↔ i ≤ j := by
  rcases Nat.lt_trichotomy i j with q | q | q
  · have := h.lt i j q hj; omega
  · subst q; omega
  · have := h.lt j i q hi; omega
end L2.DL
/-! TF: a recorder behind any deed; entries shown and compared. -/
namespace L2.DL
open PySem PySem.Spec PyProof.Rows L2.AS
section
variable {cV cR cS v a : Addr} {r : Reg} {b un n : Nat} {s : RSt} {d : Deed} {C : Cs} {PR : Ret → Cs → Prop}
/-- where a recorder stands behind a deed, done or refused -/
structure Aft (cV cR cS v a : Addr) (b un n : Nat) (r : Reg) (s : RSt) (d : Deed) (C : Cs) (x : D) (r' : Reg) (s' : RSt) (un' : Nat) (C2 : Cs) : Prop where
  oth : ∀ z, z ≠ a → z ≠ v → C2 z = C z
  ca : C2 a = some (regC cR cS r')
  cv : C2 v = some (recC cV a (pgs r' b) un')
  ok : ROk (n + 1) r'
  hs : r'.sts[r'.spot]? = some s'
  hb : b ≤ r'.spot
  hun : un' + r'.spot < r'.sts.length
  how : (r' = r ∧ s' = s ∧ un' = un ∧ ∃ (t : Txt) (u : D), x = .tup [.str t, u]) ∨ (Gone b r s d r' s' ∧ d.errV r b un s = none ∧ un' = d.un un ∧ x = toldD s.rows s'.rows)
theorem AnswV.any (V : VAt cV cR cS v a r b un n s C) (fit : DeedFit s d) (k : ∀ x r' s' un' C2, Aft cV cR cS v a b un n r s d C x r' s' un' C2 → PR (.shr x) C2) : AnswV cV cR cS v a r b un n s d C PR := by
  refine AnswV.of V fit (fun t u => ?_) fun r' s' w he => ?_
  · exact k _ r s un C ⟨fun _ _ _ => rfl, V.A.c, V.hv, V.A.ok.mono (by omega) V.A.n1, V.A.s, V.b, V.un, .inl ⟨rfl, rfl, rfl, t, u, rfl⟩⟩
  · exact k _ r' s' (d.un un) _ ⟨fun z h1 h2 => by rw [cput_ne h2, cput_ne h1], by rw [cput_ne (Ne.symm V.ne)]; exact cput_same, cput_same, w.ok, w.s, w.b, w.un, .inr ⟨w.g, he, rfl, rfl⟩⟩
theorem Aft.any {Q : RSt → Prop} {x : D} {r' : Reg} {s' : RSt} {un' : Nat} {C2 : Cs} (h : Aft cV cR cS v a b un n r s d C x r' s' un' C2) (h0 : ∀ x ∈ r.sts, Q x) (hn : ∀ M, d ≠ .undo → d ≠ .redo → DeedOk r s d → Best (sitR r.span (d.bar s) s.slp (d.rows s)) M → Q (chgR r.pause s (d.nx s) (d.bar s) (d.rows s) M)) : ∀ x ∈ r'.sts, Q x := by
  rcases h.how with ⟨e, _⟩ | ⟨g, _⟩
  · rw [e]; exact h0
  · exact g.all h0 hn
end
/-! ### what entries hold -/
theorem small_all : ((List.range 128).all fun n => shwB 0 8 (.int (n : Int))) = true := by decide +kernel
theorem shw_small {n : Nat} (h : n < 128) : Shw 0 8 (.int n) := Shw.of (List.all_eq_true.mp small_all n (List.mem_range.mpr h))
end L2.DL
/-! TG: target = d.pop(e) of an own table. -/
namespace L2.DL
open PySem PySem.Spec PyProof.Rows
end L2.DL
namespace L2.DL
open PySem PySem.Spec PyProof.Rows
end L2.DL
namespace L2.DL
open PySem PySem.Spec PyProof.Rows
end L2.DL
/-! TH: zip of three lists. -/
namespace L2.DL
open PySem PySem.Spec PyProof.Rows
/-! ### over trees -/
end L2.DL
/-! TI: translations between the codes of two states; births that stay with names. -/
namespace L2.DL
open PySem PySem.Spec PyProof.Rows L2.AS
end L2.DL
/-! TJ: a def for books of two classes; a recorder and a register asked alike. -/
namespace L2.DL
open PySem PySem.Spec PyProof.Rows
/-! ### answers of either book, with what is shown -/
def Er.fit : Er → Prop
  | .taken t => nameOk t
  | .unknown t => nameOk t
  | .code t => nameOk t
  | .nothing w => w = wUndo ∨ w = wRedo
end L2.DL
/-! UC: properties, own `in` and defs asked for while an exception is handled. -/
namespace L2.DL
open PySem PySem.Spec PyProof.Rows
abbrev XK1 (sp : DSp) : XDSp := fun _ _ _ => sp
/-- a callable's promise where an exception is handled -/
structure DCalH (P : Program) (w : World) (K : PySem.W.Frag) (mg : Str → Option Value) (base : Heap) (k : Nat) (f : Value) (spv : DSpV) : Prop where
  run : ∀ (A : Around) (fr : List PySem.Env) (s : Shared) (H : Hp) (us : List Value) (vs : List V) (Q : VK) (E : XK) (p : Addr × Obj) (c : Value) (d : Option Addr), Gd A → L2H.RoomH k A → A.handled = some (.ref p.1) → Zc c d p.2 → (∃ xs, p.2.data = .fields xs) → L2H.PinOk fr H s p →
    Env0 P w K mg base A fr s H → Vals vs us → liftV K spv vs [] H Q E → codeAny (model P w) A (.call f ⟨us, []⟩) (CR (L2.CX P w) fr P w H s Q E) s
section
variable {P : Program} {w : World} {K : PySem.W.Frag} {mg : Str → Option Value} {base : Heap} {k : Nat} {f : Addr} {fd : FuncData} {ps : List Str} {sp : DSp}
theorem DCalH.mono {j : Nat} {v : Value} {spv : DSpV} (c : DCalH P w K mg base j v spv) (h : j ≤ k) : DCalH P w K mg base k v spv :=
  ⟨fun A fr s H us vs Q E p cc d gd room => c.run A fr s H us vs Q E p cc d gd (room.mono h)⟩
end
section
variable {X : Cx} {k : Nat} {a : Addr} {oe : Obj} {cls : Value} {d : Option Addr} {pn : List (Addr × Obj)} {σ : St} {spv : DSpV}
/-! ### a property -/
structure PrH (X : Cx) (C : Addr) (f : Str) (spv : DSpV) : Prop where
  ex : ∃ k p g, DCalH X.prog X.w X.K X.mg X.base k (.ref g) spv ∧ L2H.RoomH (k + 1) X.A ∧ Cls X.K C ∧ PropOf X.K C f p g
/-! ### in -/
structure OwH (X : Cx) (C : Addr) (nm : Str) (spv : DSpV) : Prop where
  ex : ∃ k g, DCalH X.prog X.w X.K X.mg X.base k (.ref g) spv ∧ L2H.RoomH (k + 1) X.A ∧ OwnM X.K C nm g
/-! ### a def -/
structure CalH (X : Cx) (x : Str) (sp : DSp) : Prop where
  ex : ∃ k f fd ps, DFnX X.prog X.w X.K X.mg X.base k f fd ps (XK1 sp) ∧ L2H.RoomH k X.A ∧ X.mg x = some (.ref f) ∧ PySem.W.keepIn X.K (.ref f) = true ∧ Binds X.K fd ps []
end
/-! ### for the texts that gen2.py prints -/
theorem _root_.L2H.RoomH.u64 {k : Nat} {A : Around} (r : L2H.RoomH k A) : A.units + 64 < cLine := by have := r.un; omega
theorem _root_.L2H.RoomH.u65 {k : Nat} {A : Around} (r : L2H.RoomH k A) : A.units + 65 < cLine := by have := r.un; omega
structure HPr (P : Program) (w : World) (K : PySem.W.Frag) (mg : Str → Option Value) (base : Heap) (k : Nat) (C : Addr) (f : Str) (spv : DSpV) : Prop where
  ex : ∃ p g, DCalH P w K mg base k (.ref g) spv ∧ Cls K C ∧ PropOf K C f p g
structure HOw (P : Program) (w : World) (K : PySem.W.Frag) (mg : Str → Option Value) (base : Heap) (k : Nat) (C : Addr) (nm : Str) (spv : DSpV) : Prop where
  ex : ∃ g, DCalH P w K mg base k (.ref g) spv ∧ OwnM K C nm g
structure HCle (P : Program) (w : World) (K : PySem.W.Frag) (mg : Str → Option Value) (base : Heap) (k : Nat) (x : Str) (sp : DSp) : Prop where
  ex : ∃ f fd ps, DFnX P w K mg base k f fd ps (XK1 sp) ∧ mg x = some (.ref f) ∧ PySem.W.keepIn K (.ref f) = true ∧ Binds K fd ps []
section
variable {X : Cx} {j k : Nat} {C : Addr} {f x : Str} {spv : DSpV} {sp : DSp}
theorem HPr.to (c : HPr X.prog X.w X.K X.mg X.base k C f spv) (hr : L2H.RoomH j X.A) (h : k + 1 ≤ j) : PrH X C f spv := let ⟨p, g, d, a, b⟩ := c.ex; ⟨k, p, g, d, hr.mono h, a, b⟩
theorem HOw.to (c : HOw X.prog X.w X.K X.mg X.base k C f spv) (hr : L2H.RoomH j X.A) (h : k + 1 ≤ j) : OwH X C f spv := let ⟨g, d, a⟩ := c.ex; ⟨k, g, d, hr.mono h, a⟩
theorem HCle.to (c : HCle X.prog X.w X.K X.mg X.base k x sp) (hr : L2H.RoomH j X.A) (h : k ≤ j) : CalH X x sp := let ⟨g, fd, ps, d, a, b, e⟩ := c.ex; ⟨k, g, fd, ps, d, hr.mono h, a, b, e⟩
end
end L2.DL
/-! VB: both accounts of the spellings are one; an expression evaluated apart. -/
namespace L2.DL
open PySem PySem.Spec PyProof.Rows L2.AS
end L2.DL
/-! VE: what is done to an answer at once, and to nobody's harm. -/
namespace L2.DL
open PySem PySem.Spec PyProof.Rows
/-! ### a list that is a cell is cleared -/
/-! ### a new list is cleared, or gets a new list: nobody sees it -/
end L2.DL
/-! WF: several names hidden at once; list(x) within a written thing as a cell; an instance called, its new answer kept. -/
namespace L2.DL
open PySem PySem.Spec PyProof.Rows
/-- the tree with its cells read, deeper -/
inductive RdE (C : Cs) : D → D → Prop
  | same (d : D) : RdE C d d
  | lst {a : Addr} {xs : List D} : C a = some (.lst xs) → RdE C (.cell a) (.lst xs)
  | two {d1 d2 e1 e2 : D} : RdE C d1 e1 → RdE C d2 e2 → RdE C (.tup [d1, d2]) (.tup [e1, e2])
  | l3 {d1 d2 d3 e1 e2 e3 : D} : RdE C d1 e1 → RdE C d2 e2 → RdE C d3 e3 → RdE C (.lst [d1, d2, d3]) (.lst [e1, e2, e3])
theorem RdE.rep {K : PySem.W.Frag} {Hs H : Hp} {C : Cs} {d d' : D} (f : Fits K Hs H C) (sH : Same Hs (hideH Hs H C)) (r : RdE C d d') : ∀ {v : V}, Rep K Hs d v → Rep K (hideH Hs H C) d' v := by
  induction r with
  | same d => exact fun h => h.same sH
  | lst hc =>
    intro v h
    cases h
    obtain ⟨_, o, h2, vs, rfl, h3⟩ := f.cel _ _ hc
    exact .lst (by rw [hideH_some hc]; exact h2) (h3.same sH)
  | two _ _ i1 i2 =>
    intro v h
    cases h with
    | tup ht hr =>
      cases hr with
      | cons h1 hr =>
        cases hr with
        | cons h2 hr =>
          cases hr
          exact .tup (TupA.same sH ht) (.cons (i1 h1) (.cons (i2 h2) .nil))
  | l3 _ _ _ i1 i2 i3 =>
    intro v h
    cases h with
    | lst ht hr =>
      cases hr with
      | cons h1 hr =>
        cases hr with
        | cons h2 hr =>
          cases hr with
          | cons h3 hr =>
            cases hr
            exact .lst (sH _ _ ht) (.cons (i1 h1) (.cons (i2 h2) (.cons (i3 h3) .nil)))
/-- two environments alike but for cells read -/
structure Laid (C : Cs) (env env' : DL.Env) : Prop where
  len : env'.length = env.length
  at_ : ∀ i : Nat, env'[i]? = env[i]? ∨ ∃ d d', env[i]? = some (.shr d) ∧ env'[i]? = some (.shr d') ∧ RdE C d d'
theorem Laid.nil {C : Cs} : Laid C [] [] := ⟨rfl, fun _ => .inl rfl⟩
theorem Laid.same {C : Cs} {s : Slot} {env env' : DL.Env} (h : Laid C env env') : Laid C (s :: env) (s :: env') := ⟨by rw [List.length_cons, List.length_cons, h.len], fun i => by
  cases i with
  | zero => exact .inl rfl
  | succ i => simpa using h.at_ i⟩
theorem Laid.rd {C : Cs} {d d' : D} {env env' : DL.Env} (r : RdE C d d') (h : Laid C env env') : Laid C (.shr d :: env) (.shr d' :: env') := ⟨by rw [List.length_cons, List.length_cons, h.len], fun i => by
  cases i with
  | zero => exact .inr ⟨d, d', rfl, rfl, r⟩
  | succ i => simpa using h.at_ i⟩
/-! ### list(x) within a written thing: the new list is a cell -/
/-! ### o(..), its new answer kept -/
end L2.DL
/-! WG: spellers asked with any values (k03). -/
namespace L2.DL
open PySem PySem.Spec PyProof.Rows
def Thg (C : Cs) (d : D) : Prop := okIn d ∨ ∃ (b : Addr) (xs : List D), d = .cell b ∧ C b = some (.lst xs)
def tCode3 : Txt := [99, 111, 100, 101]
def tName3 : Txt := [110, 97, 109, 101]
def Th3 (d : D) : Prop := okIn d ∧ Shw 2 400 d ∧ ∀ C, dr C d = d
theorem Thg.put {C : Cs} {a : Addr} {x : Cell} {d : D} (h : Thg C d) (ha : C a = none) : Thg (cput C a x) d := by
  rcases h with h | ⟨b, xs, rfl, hb⟩
  · exact .inl h
  · exact .inr ⟨b, xs, rfl, by rw [cput_ne (fun z => by rw [z, ha] at hb; cases hb)]; exact hb⟩
theorem Th3.str {t : Txt} (h : t.length ≤ 12) (ha : ∀ c ∈ t, c < 128) : Th3 (.str t) := ⟨⟨⟨_, rfl⟩, (fun s e => by cases e; omega), fun s e c hc => by cases e; exact ha c hc⟩, (shw_str (k := 2) h ha).mono (by omega) (by omega), fun _ => rfl⟩
theorem Th3.cd {t : Txt} {n : Nat} (h : cdOk n t) (h3 : n ≤ 3) : Th3 (.str t) := Th3.str (by rw [h.1]; omega) fun c hc => by have := h.2 c hc; omega
end L2.DL
/-! WH: try .. except x as n: .. whose exception is known behind the suite, too: the rest of the block is walked twice. -/
namespace L2.DL
open PySem PySem.Spec PyProof.Rows
/-! ### over trees -/
/-! ### [..] as an expression: the new list is a cell -/
def mLstC (ms : EM (List D)) : EM D := fun E env C Q => ms E env C fun ds env1 C1 => ds.length ≤ sizeLine ∧ ∀ a, C1 a = none → Q (.cell a) env1 (cput C1 a (.lst ds))
theorem d_lstC {X : Cx} {es : List Expr} {pos : Pos} {ms : EM (List D)} (h : DA X RShr es ms) : DE X RShr (.List es pos) (mLstC ms) := fun Z E hE => by
  refine ⟨fun pins s σ H Q I ⟨Hs, env, C, P, sr, q, k⟩ => (pe_lst (h Z E hE)).run pins s σ H Q I ⟨Hs, env, C, _, sr, q, fun ds env1 C1 vs Hs1 H1 q1 t1 s1 r1 => ?_⟩⟩
  have r := r1.rep
  refine ⟨by rw [← r.length]; exact q1.1, fun p hp => ?_⟩
  obtain ⟨p', u, e1, e2, r2, m1, m2, m3, no⟩ := fr_lay s1 hp (c := .lst ds) ⟨_, rfl, r⟩
  cases e1
  refine k (.cell p) env1 (cput C1 p (.lst ds)) (.ref p) Hs1 _ (q1.2 p m2) (t1.trans ⟨Same.refl _, fun a u hu hc => ⟨by rw [upd_ne (ne_of_none hu hp)]; exact hu, by rw [cput_ne (ne_of_none hu hp)]; exact hc⟩⟩) ?_ (.cell p)
  exact (s1.layP hp _).mkCell e2 m1 m2 m3 (cellOf_rep r2) no
end L2.DL
/-! WI: a recorder asked: nothing to do, another refusal, or a change (k46). -/
namespace L2.DL
open PySem PySem.Spec PyProof.Rows
end L2.DL
/-! WJ: newcomers that find free codes: nobody is without a code, no code rests (k46). -/
namespace L2.DL
open PySem PySem.Spec PyProof.Rows L2.AS
theorem kept_le : ∀ (S : List Cl) (M : List Txt), (keptT S M).length ≤ (S.filter fun c => !c.held.isEmpty).length
  | [], _ => Nat.zero_le _
  | _ :: _, [] => Nat.zero_le _
  | c :: S, t :: M => by
    have ih := kept_le S M
    have e1 : keptT (c :: S) (t :: M) = if t ∈ c.held then c.nm :: keptT S M else keptT S M := by
      unfold keptT
      rw [List.zip_cons_cons, List.filter_cons]
      by_cases e : t ∈ c.held <;> simp [e]
    rw [e1, List.filter_cons]
    by_cases e : t ∈ c.held
    · have hn : (!c.held.isEmpty) = true := by cases hh : c.held with
        | nil => rw [hh] at e; cases e
        | cons a l => rfl
      rw [if_pos e, if_pos hn, List.length_cons, List.length_cons]; omega
    · rw [if_neg e]
      split
      · rw [List.length_cons]; omega
      · exact ih
theorem kept_all : ∀ (S : List Cl) (M : List Txt), (S.filter fun c => !c.held.isEmpty).length ≤ (keptT S M).length → ∀ (p : Nat) (c : Cl) (t : Txt), S[p]? = some c → M[p]? = some t → c.held ≠ [] → t ∈ c.held
  | [], _, _, p, c, t, h, _, _ => by cases h
  | _ :: _, [], _, p, c, t, _, h, _ => by cases h
  | c0 :: S, t0 :: M, hl, p, c, t, hc, ht, hh => by
    have e1 : keptT (c0 :: S) (t0 :: M) = if t0 ∈ c0.held then c0.nm :: keptT S M else keptT S M := by
      unfold keptT
      rw [List.zip_cons_cons, List.filter_cons]
      by_cases e : t0 ∈ c0.held <;> simp [e]
    rw [e1, List.filter_cons] at hl
    have le := kept_le S M
    by_cases e : t0 ∈ c0.held
    · have hn : (!c0.held.isEmpty) = true := by cases hh : c0.held with
        | nil => rw [hh] at e; cases e
        | cons a l => rfl
      rw [if_pos e, if_pos hn, List.length_cons, List.length_cons] at hl
      cases p with
      | zero => cases hc; cases ht; exact e
      | succ p => exact kept_all S M (by omega) p c t (by simpa using hc) (by simpa using ht) hh
    · rw [if_neg e] at hl
      by_cases hn : (!c0.held.isEmpty) = true
      · rw [if_pos hn, List.length_cons] at hl; omega
      · rw [if_neg hn] at hl
        cases p with
        | zero =>
          cases hc; cases ht
          exfalso
          apply hn
          cases h0 : c0.held with
          | nil => exact absurd h0 hh
          | cons a l => rfl
        | succ p => exact kept_all S M hl p c t (by simpa using hc) (by simpa using ht) hh
/-- a state of few names, each with at least k codes, of which none is banned and none rests -/
structure Few (k : Nat) (span : Nat) (s : RSt) : Prop where
  o : OwnC span s
  slp : s.slp = []
  bar : ∀ o, o ∉ s.bar
  opt : ∀ x ∈ s.rows, k ≤ (spellS x.nm span).length
theorem Few.opts {k span : Nat} {s : RSt} (h : Few k span s) (nm : Txt) : optsR span s.bar s.slp nm = spellS nm span := by
  unfold optsR
  rw [h.slp]
  exact List.filter_eq_self.mpr fun o _ => by rw [decide_eq_false (h.bar o)]; rfl
section
variable {k n span nx' : Nat} {s : RSt} {w : Txt}
theorem Few.best (h : Few k span s) (so : StOk n span s) (hw : w ∉ nmsR s) (hk : s.rows.length < k) (ho : k ≤ (spellS w span).length) {M : List Txt} (hM : Best (sitR span s.bar s.slp (s.rows ++ newR s.nx [w])) M) :
    ∀ r ∈ s.rows, ∀ c, r.cd = some c → c ∈ M := by
  have nc := new_NewC so h.o hw
  have es := sit_new so hw
  have free : FreeN (nmsR s ++ [w]) w (gOf s) (optsR span s.bar s.slp) w := by
    refine Classical.byContradiction fun no => ?_
    have sub : ∀ o ∈ spellS w span, o ∈ (nmsR s).map (gOf s) := fun o hoo => by
      refine Classical.byContradiction fun z => no ⟨o, by rw [h.opts]; exact hoo, fun y hy hyw e => z ?_⟩
      rcases List.mem_append.mp hy with hy | hy
      · exact List.mem_map.mpr ⟨y, hy, e⟩
      · exact absurd (List.mem_singleton.mp hy) hyw
    have := nd_le (uniT_nd _) sub
    rw [List.length_map] at this
    have h2 : (nmsR s).length = s.rows.length := List.length_map _
    have h3 : (spellS w span).length ≤ (nmsR s).length := this
    omega
  obtain ⟨f, hf, hfg⟩ := nc.aug .one (by simp) free
  rw [es] at hM
  have keep := best_keeps hM hf
  have cnt : ((nmsR s ++ [w]).map (newCl w (gOf s) (optsR span s.bar s.slp))).filter (fun c => !c.held.isEmpty) = (nmsR s).map (newCl w (gOf s) (optsR span s.bar s.slp)) := by
    rw [List.map_append, List.filter_append]
    rw [show (([w] : List Txt).map (newCl w (gOf s) (optsR span s.bar s.slp))).filter (fun c => !c.held.isEmpty) = [] from by
      rw [List.map_cons, List.map_nil, List.filter_cons, if_neg (by show ¬ (!(newCl w (gOf s) (optsR span s.bar s.slp) w).held.isEmpty) = true; unfold newCl; rw [if_pos rfl]; exact fun z => by cases z)]; rfl, List.append_nil]
    refine List.filter_eq_self.mpr fun c hc => ?_
    obtain ⟨x, hx, rfl⟩ := List.mem_map.mp hc
    show (!(if x = w then ([] : List Txt) else [gOf s x]).isEmpty) = true
    rw [if_neg (fun z : x = w => hw (z ▸ hx))]; rfl
  have kf : (nmsR s).length ≤ (keptT ((nmsR s ++ [w]).map (newCl w (gOf s) (optsR span s.bar s.slp))) ((nmsR s ++ [w]).map f)).length := by
    have e : ∀ (l : List Txt), (∀ x ∈ l, x ≠ w → f x = gOf s x) → (l.filter fun x => decide (x ≠ w)).length ≤ (keptT (l.map (newCl w (gOf s) (optsR span s.bar s.slp))) (l.map f)).length := fun l hl => by
      induction l with
      | nil => exact Nat.zero_le _
      | cons x l ih =>
        have ih := ih fun y hy => hl y (List.mem_cons_of_mem _ hy)
        have e1 : keptT ((x :: l).map (newCl w (gOf s) (optsR span s.bar s.slp))) ((x :: l).map f) = if f x ∈ (newCl w (gOf s) (optsR span s.bar s.slp) x).held then x :: keptT (l.map (newCl w (gOf s) (optsR span s.bar s.slp))) (l.map f) else keptT (l.map (newCl w (gOf s) (optsR span s.bar s.slp))) (l.map f) := by
          unfold keptT
          rw [List.map_cons, List.map_cons, List.zip_cons_cons, List.filter_cons]
          by_cases e : f x ∈ (newCl w (gOf s) (optsR span s.bar s.slp) x).held
          · rw [if_pos (decide_eq_true e), if_pos e]; rfl
          · rw [if_neg (by rw [decide_eq_false e]; decide), if_neg e]
        rw [e1, List.filter_cons]
        by_cases hx : x = w
        · rw [if_neg (by rw [decide_eq_false (fun z => z hx)]; decide)]
          split
          · rw [List.length_cons]; omega
          · exact ih
        · rw [if_pos (decide_eq_true hx), if_pos (by
            show f x ∈ (if x = w then ([] : List Txt) else [gOf s x])
            rw [if_neg hx, hl x List.mem_cons_self hx]; exact List.mem_singleton.mpr rfl), List.length_cons, List.length_cons]
          omega
    have h1 := e (nmsR s ++ [w]) fun x hx hxw => hfg x hx (by simpa using hxw)
    have hfl : (nmsR s).filter (fun x => decide (x ≠ w)) = nmsR s := List.filter_eq_self.mpr fun x hx => decide_eq_true fun z : x = w => hw (z ▸ hx)
    rw [List.filter_append, hfl, List.length_append] at h1
    omega
  have all := kept_all _ M (by rw [cnt, List.length_map]; exact Nat.le_trans kf keep)
  intro r hr c hc
  obtain ⟨i, hi, e⟩ := List.mem_iff_getElem.mp hr
  have hri : s.rows[i]? = some r := List.getElem?_eq_some_iff.mpr ⟨hi, e⟩
  have hN : (nmsR s ++ [w])[i]? = some r.nm := by
    rw [List.getElem?_append_left (by show i < (s.rows.map _).length; rw [List.length_map]; exact hi)]
    show (s.rows.map _)[i]? = _
    rw [List.getElem?_map, hri]; rfl
  have hS : ((nmsR s ++ [w]).map (newCl w (gOf s) (optsR span s.bar s.slp)))[i]? = some (newCl w (gOf s) (optsR span s.bar s.slp) r.nm) := by rw [List.getElem?_map, hN]; rfl
  have hlen : M.length = s.rows.length + 1 := by
    rw [hM.cod.len, List.length_map, List.length_append]
    show (s.rows.map _).length + 1 = _
    rw [List.length_map]
  have hMi := List.getElem?_eq_getElem (l := M) (i := i) (by omega)
  have hrn : r.nm ∈ nmsR s := List.mem_map_of_mem hr
  have hne : r.nm ≠ w := fun z => hw (z ▸ hrn)
  have hh : (newCl w (gOf s) (optsR span s.bar s.slp) r.nm).held = [gOf s r.nm] := if_neg hne
  have ht := all i _ _ hS hMi (by rw [hh]; simp)
  rw [hh] at ht
  have hg : gOf s r.nm = c := by
    have h1 := cd_of so hrn
    rw [cdR_some so.rws hr, hc] at h1
    exact (Option.some.inj h1).symm
  rw [← hg, ← List.mem_singleton.mp ht]
  exact List.getElem_mem _
end
theorem shws_kv46 {w : Nat} : ∀ {cd : List (Txt × Txt)}, (∀ e ∈ cd, e.1.length + e.2.length ≤ w ∧ (∀ c ∈ e.1, c < 128) ∧ ∀ c ∈ e.2, c < 128) → isRkv (tD D.str cd) = true ∧ PyData.showableKv (toPkv (tD D.str cd)) = true ∧ PyData.leavesShortKv 103 (toPkv (tD D.str cd)) = true ∧ PyData.depthKv (toPkv (tD D.str cd)) = 0 ∧ PyData.weightKv (toPkv (tD D.str cd)) ≤ (w + 2) * cd.length
  | [], _ => ⟨rfl, rfl, rfl, rfl, by simp [tD, toPkv, PyData.weightKv]⟩
  | (a, b) :: cd, h => by
    obtain ⟨h1, h2, h3, h4, h5⟩ := shws_kv46 (w := w) (cd := cd) fun e he => h e (List.mem_cons_of_mem _ he)
    obtain ⟨g1, g2, g3⟩ := h (a, b) List.mem_cons_self
    have sa : Shw 0 a.length (.str a) := shw_str (Nat.le_refl _) g2
    have sb : Shw 0 b.length (.str b) := shw_str (Nat.le_refl _) g3
    have da := sa.dp
    have db := sb.dp
    have wa := sa.wt
    have wb := sb.wt
    have la := sa.l
    have lb := sb.l
    have ssa := sa.s
    have ssb := sb.s
    have ea : keyP (.inr a) = toP (.str a) := rfl
    unfold tD at h1 h2 h3 h4 h5 ⊢
    simp only [List.map_cons, isRkv, toPkv, PyData.showableKv, PyData.leavesShortKv, PyData.depthKv, PyData.weightKv, ea]
    refine ⟨by rw [h1]; rfl, by rw [ssa, ssb, h2]; rfl, by rw [la, lb, h3]; rfl, by omega, ?_⟩
    have g1 : a.length + b.length ≤ w := g1
    rw [List.length_cons, Nat.mul_succ]
    omega
theorem shw_tD46 {w n : Nat} {cd : List (Txt × Txt)} (h : ∀ e ∈ cd, e.1.length + e.2.length ≤ w ∧ (∀ c ∈ e.1, c < 128) ∧ ∀ c ∈ e.2, c < 128) (hl : cd.length ≤ n) : Shw 1 ((w + 2) * n) (.dct (tD D.str cd)) := by
  obtain ⟨h1, h2, h3, h4, h5⟩ := shws_kv46 h
  refine ⟨h1, ?_, ?_, ?_, ?_⟩
  · simp only [toP, PyData.showable, h2]
  · simp only [toP, PyData.leavesShort, h3]
  · simp only [toP, PyData.depth, h4]; omega
  · simp only [toP, PyData.weight]
    exact Nat.le_trans h5 (Nat.mul_le_mul_left _ hl)
/-! ### the text of a table of names and codes -/
end L2.DL
/-! WK: changes of registers refused, of any values (k40); newcomers with a free code. -/
namespace L2.DL
open PySem PySem.Spec PyProof.Rows L2.AS
inductive Er4
  | name (d : D)
  | code (d : D)
  | unk (d : D)
  | taken (d : D)
def tUnk4 : Txt := [117, 110, 107, 110, 111, 119, 110]
def tTak4 : Txt := [116, 97, 107, 101, 110]
def Er4.v : Er4 → D
  | .name d => d
  | .code d => d
  | .unk d => d
  | .taken d => d
def Er4.k : Er4 → Txt
  | .name _ => tName3
  | .code _ => tCode3
  | .unk _ => tUnk4
  | .taken _ => tTak4
def Er4.d (e : Er4) : D := .tup [.str e.k, e.v]
/-- a state without banned and resting codes -/
structure Fre (span : Nat) (s : RSt) : Prop where
  o : OwnC span s
  slp : s.slp = []
  bar : ∀ o, o ∉ s.bar
theorem Fre.opts {span : Nat} {s : RSt} (h : Fre span s) (nm : Txt) : optsR span s.bar s.slp nm = spellS nm span := by
  unfold optsR
  rw [h.slp]
  exact List.filter_eq_self.mpr fun o _ => by rw [decide_eq_false (h.bar o)]; rfl
section
variable {n span nx' : Nat} {s : RSt} {w : Txt}
theorem Fre.best (h : Fre span s) (so : StOk n span s) (hw : w ∉ nmsR s) (free : FreeN (nmsR s ++ [w]) w (gOf s) (optsR span s.bar s.slp) w) {M : List Txt} (hM : Best (sitR span s.bar s.slp (s.rows ++ newR s.nx [w])) M) :
    ∀ r ∈ s.rows, ∀ c, r.cd = some c → c ∈ M := by
  have nc := new_NewC so h.o hw
  have es := sit_new so hw
  obtain ⟨f, hf, hfg⟩ := nc.aug .one (by simp) free
  rw [es] at hM
  have keep := best_keeps hM hf
  have cnt : ((nmsR s ++ [w]).map (newCl w (gOf s) (optsR span s.bar s.slp))).filter (fun c => !c.held.isEmpty) = (nmsR s).map (newCl w (gOf s) (optsR span s.bar s.slp)) := by
    rw [List.map_append, List.filter_append]
    rw [show (([w] : List Txt).map (newCl w (gOf s) (optsR span s.bar s.slp))).filter (fun c => !c.held.isEmpty) = [] from by
      rw [List.map_cons, List.map_nil, List.filter_cons, if_neg (by show ¬ (!(newCl w (gOf s) (optsR span s.bar s.slp) w).held.isEmpty) = true; unfold newCl; rw [if_pos rfl]; exact fun z => by cases z)]; rfl, List.append_nil]
    refine List.filter_eq_self.mpr fun c hc => ?_
    obtain ⟨x, hx, rfl⟩ := List.mem_map.mp hc
    show (!(if x = w then ([] : List Txt) else [gOf s x]).isEmpty) = true
    rw [if_neg (fun z : x = w => hw (z ▸ hx))]; rfl
  have kf : (nmsR s).length ≤ (keptT ((nmsR s ++ [w]).map (newCl w (gOf s) (optsR span s.bar s.slp))) ((nmsR s ++ [w]).map f)).length := by
    have e : ∀ (l : List Txt), (∀ x ∈ l, x ≠ w → f x = gOf s x) → (l.filter fun x => decide (x ≠ w)).length ≤ (keptT (l.map (newCl w (gOf s) (optsR span s.bar s.slp))) (l.map f)).length := fun l hl => by
      induction l with
      | nil => exact Nat.zero_le _
      | cons x l ih =>
        have ih := ih fun y hy => hl y (List.mem_cons_of_mem _ hy)
        have e1 : keptT ((x :: l).map (newCl w (gOf s) (optsR span s.bar s.slp))) ((x :: l).map f) = if f x ∈ (newCl w (gOf s) (optsR span s.bar s.slp) x).held then x :: keptT (l.map (newCl w (gOf s) (optsR span s.bar s.slp))) (l.map f) else keptT (l.map (newCl w (gOf s) (optsR span s.bar s.slp))) (l.map f) := by
          unfold keptT
          rw [List.map_cons, List.map_cons, List.zip_cons_cons, List.filter_cons]
          by_cases e : f x ∈ (newCl w (gOf s) (optsR span s.bar s.slp) x).held
          · rw [if_pos (decide_eq_true e), if_pos e]; rfl
          · rw [if_neg (by rw [decide_eq_false e]; decide), if_neg e]
        rw [e1, List.filter_cons]
        by_cases hx : x = w
        · rw [if_neg (by rw [decide_eq_false (fun z => z hx)]; decide)]
          split
          · rw [List.length_cons]; omega
          · exact ih
        · rw [if_pos (decide_eq_true hx), if_pos (by
            show f x ∈ (if x = w then ([] : List Txt) else [gOf s x])
            rw [if_neg hx, hl x List.mem_cons_self hx]; exact List.mem_singleton.mpr rfl), List.length_cons, List.length_cons]
          omega
    have h1 := e (nmsR s ++ [w]) fun x hx hxw => hfg x hx (by simpa using hxw)
    have hfl : (nmsR s).filter (fun x => decide (x ≠ w)) = nmsR s := List.filter_eq_self.mpr fun x hx => decide_eq_true fun z : x = w => hw (z ▸ hx)
    rw [List.filter_append, hfl, List.length_append] at h1
    omega
  have all := kept_all _ M (by rw [cnt, List.length_map]; exact Nat.le_trans kf keep)
  intro r hr c hc
  obtain ⟨i, hi, e⟩ := List.mem_iff_getElem.mp hr
  have hri : s.rows[i]? = some r := List.getElem?_eq_some_iff.mpr ⟨hi, e⟩
  have hN : (nmsR s ++ [w])[i]? = some r.nm := by
    rw [List.getElem?_append_left (by show i < (s.rows.map _).length; rw [List.length_map]; exact hi)]
    show (s.rows.map _)[i]? = _
    rw [List.getElem?_map, hri]; rfl
  have hS : ((nmsR s ++ [w]).map (newCl w (gOf s) (optsR span s.bar s.slp)))[i]? = some (newCl w (gOf s) (optsR span s.bar s.slp) r.nm) := by rw [List.getElem?_map, hN]; rfl
  have hlen : M.length = s.rows.length + 1 := by
    rw [hM.cod.len, List.length_map, List.length_append]
    show (s.rows.map _).length + 1 = _
    rw [List.length_map]
  have hMi := List.getElem?_eq_getElem (l := M) (i := i) (by omega)
  have hrn : r.nm ∈ nmsR s := List.mem_map_of_mem hr
  have hne : r.nm ≠ w := fun z => hw (z ▸ hrn)
  have hh : (newCl w (gOf s) (optsR span s.bar s.slp) r.nm).held = [gOf s r.nm] := if_neg hne
  have ht := all i _ _ hS hMi (by rw [hh]; simp)
  rw [hh] at ht
  have hg : gOf s r.nm = c := by
    have h1 := cd_of so hrn
    rw [cdR_some so.rws hr, hc] at h1
    exact (Option.some.inj h1).symm
  rw [← hg, ← List.mem_singleton.mp ht]
  exact List.getElem_mem _
theorem Fre.cod (h : Fre span s) (so : StOk n span s) (hw : w ∉ nmsR s) (free : FreeN (nmsR s ++ [w]) w (gOf s) (optsR span s.bar s.slp) w) : ∃ M, Cod (sitR span s.bar s.slp (s.rows ++ newR s.nx [w])) M := by
  rw [sit_new so hw]
  obtain ⟨f, hf, _⟩ := (new_NewC so h.o hw).aug .one (by simp) free
  exact ⟨_, hf⟩
/-- a code that no other name spells -/
theorem Fre.free (h : Fre span s) (so : StOk n span s) (hw : w ∉ nmsR s) {o : Txt} (ho : o ∈ spellS w span) (hn : ∀ x ∈ nmsR s, o ∉ spellS x span) : FreeN (nmsR s ++ [w]) w (gOf s) (optsR span s.bar s.slp) w := by
  refine ⟨o, by rw [h.opts]; exact ho, fun y hy hyw e => ?_⟩
  have hy : y ∈ nmsR s := (List.mem_append.mp hy).resolve_right fun z => hyw (List.mem_singleton.mp z)
  have h1 := (new_NewC so h.o hw).ok y (List.mem_append.mpr (.inl hy)) hyw
  rw [h.opts, e] at h1
  exact hn y hy h1
end
/-! ### what is told, and shown -/
/-- no list -/
def NL (d : D) : Prop := ∃ t, tyD d = some t ∧ kitB t "list" = some false
theorem NL.str {t : Txt} : NL (.str t) := ⟨"str", rfl, by decide +kernel⟩
/-! ### isinstance(x, C) of an exception that is pinned on -/
end L2.DL
/-! WT (k28): lists in lists as cells: read as laid, laid for good, extended; an own list handed back as a cell. -/
namespace L2.DL
open PySem PySem.Spec PyProof.Rows
mutual
/-- the tree with all its cells read -/
inductive RdG (C : Cs) : D → D → Prop
  | same (d : D) : RdG C d d
  | cel {a : Addr} {xs ys : List D} : C a = some (.lst xs) → RdGs C xs ys → RdG C (.cell a) (.lst ys)
  | lst {xs ys : List D} : RdGs C xs ys → RdG C (.lst xs) (.lst ys)
  | tup {xs ys : List D} : RdGs C xs ys → RdG C (.tup xs) (.tup ys)
inductive RdGs (C : Cs) : List D → List D → Prop
  | nil : RdGs C [] []
  | cons {x y : D} {xs ys : List D} : RdG C x y → RdGs C xs ys → RdGs C (x :: xs) (y :: ys)
end
section
variable {K : PySem.W.Frag} {Hs H : Hp} {C : Cs}
mutual
theorem RdG.rep (f : Fits K Hs H C) (sH : Same Hs (hideH Hs H C)) : ∀ {d d' : D} {v : V}, RdG C d d' → Rep K Hs d v → Rep K (hideH Hs H C) d' v
  | _, _, _, .same _, h => h.same sH
  | _, _, _, .cel hc r, h => by
    cases h
    obtain ⟨_, o, h2, vs, rfl, h3⟩ := f.cel _ _ hc
    exact .lst (by rw [hideH_some hc]; exact h2) (RdGs.rep f sH r h3)
  | _, _, _, .lst r, h => by
    cases h with
    | lst ht hr => exact .lst (sH _ _ ht) (RdGs.rep f sH r hr)
  | _, _, _, .tup r, h => by
    cases h with
    | tup ht hr => exact .tup (TupA.same sH ht) (RdGs.rep f sH r hr)
theorem RdGs.rep (f : Fits K Hs H C) (sH : Same Hs (hideH Hs H C)) : ∀ {xs ys : List D} {vs : List V}, RdGs C xs ys → RepL K Hs xs vs → RepL K (hideH Hs H C) ys vs
  | _, _, _, .nil, h => by cases h; exact .nil
  | _, _, _, .cons r rs, h => by
    cases h with
    | cons h hs => exact .cons (RdG.rep f sH r h) (RdGs.rep f sH rs hs)
end
end
theorem RdGs.refl {C : Cs} : ∀ (xs : List D), RdGs C xs xs
  | [] => .nil
  | x :: xs => .cons (.same x) (RdGs.refl xs)
theorem RdGs.cells {C : Cs} : ∀ {ps : List Addr} {xss : List (List D)}, ps.length = xss.length → (∀ (i : Nat) p xs, ps[i]? = some p → xss[i]? = some xs → C p = some (.lst xs)) → RdGs C (ps.map D.cell) (xss.map D.lst)
  | [], [], _, _ => .nil
  | p :: ps, xs :: xss, hl, h => .cons (.cel (h 0 p xs rfl rfl) (by
      generalize xs = ys
      induction ys with
      | nil => exact .nil
      | cons y ys ih => exact .cons (.same y) ih)) (RdGs.cells (by simpa using hl) fun i q ys h1 h2 => h (i + 1) q ys (by simpa using h1) (by simpa using h2))
structure LaidG (C : Cs) (env env' : DL.Env) : Prop where
  len : env'.length = env.length
  at_ : ∀ i : Nat, env'[i]? = env[i]? ∨ ∃ d d', env[i]? = some (.shr d) ∧ env'[i]? = some (.shr d') ∧ RdG C d d'
theorem LaidG.refl (C : Cs) (env : DL.Env) : LaidG C env env := ⟨rfl, fun _ => .inl rfl⟩
theorem LaidG.set {C : Cs} {env : DL.Env} {i : Nat} {d d' : D} (h : env[i]? = some (.shr d)) (r : RdG C d d') : LaidG C env (env.set i (.shr d')) := ⟨List.length_set, fun j => by
  by_cases e : i = j
  · subst e
    have hl := (List.getElem?_eq_some_iff.mp h).1
    exact .inr ⟨d, d', h, by rw [List.getElem?_set_self hl], r⟩
  · exact .inl (List.getElem?_set_ne e)⟩
section
variable {K : PySem.W.Frag} {Z : Z0} {σ : St} {Hs H : Hp} {env env' : DL.Env} {C : Cs}
theorem hidG_in (sr : SR K Z σ Hs H env C) (ld : LaidG C env env') : SR K (hideA Z H C) σ (hideH Hs H C) H env' (fun _ => none) := by
  have sH : Same Hs (hideH Hs H C) := fun a o h => by
    cases hc : C a with
    | none => rw [hideH_none hc]; exact h
    | some c => rw [hideH_some hc]; exact sr.fit.sub a o h
  have own : ∀ {i : Nat} {c : Cont}, env'[i]? = some (.own c) → env[i]? = some (.own c) := fun {i c} h => by
    rcases ld.at_ i with z | ⟨d, d', z1, z2, _⟩
    · rw [← z]; exact h
    · rw [z2] at h; cases h
  refine ⟨⟨fun a x hx => ?_, fun a c hc => by cases hc⟩, ⟨fun a x hx => sH a x (sr.bas.fl a x hx), fun a x hx hc => ?_, fun a x hx => ?_⟩, ⟨by rw [ld.len]; exact sr.slt.len, fun i y hd => ?_, fun i c hc => ?_, fun i j c c' b hij hi hj hb => ?_⟩⟩
  · cases hc : C a with
    | none => rw [hideH_none hc] at hx; exact sr.fit.sub a x hx
    | some c => rw [hideH_some hc] at hx; exact hx
  · simp only [hideA] at hx hc ⊢
    cases hca : C a with
    | some c =>
      rw [hca] at hx
      simp only [Option.isSome_some, if_true] at hx
      exact ⟨hx, trivial, fun z => by rw [hideH_some hca] at z; rw [hx] at z; cases z⟩
    | none =>
      rw [hca] at hx hc
      simp only [Option.isSome_none, Bool.false_eq_true, if_false] at hx hc
      obtain ⟨b1, b2, b3⟩ := sr.bas.kp a x hx hc
      exact ⟨b1, trivial, fun z => by rw [hideH_none hca] at z ⊢; exact b3 z⟩
  · simp only [hideA] at hx
    cases hca : C a with
    | some c =>
      rw [hca] at hx
      simp only [Option.isSome_some, if_true] at hx
      exact ⟨x, hx⟩
    | none =>
      rw [hca] at hx
      simp only [Option.isSome_none, Bool.false_eq_true, if_false] at hx
      exact sr.bas.th a x hx
  · rcases ld.at_ i with z | ⟨d, d', z1, z2, rd⟩
    · rw [z] at hd
      obtain ⟨v, h1, h2⟩ := sr.slt.shr i y hd
      exact ⟨v, h1, h2.same sH⟩
    · rw [z2] at hd
      cases hd
      obtain ⟨v, h1, h2⟩ := sr.slt.shr i d z1
      exact ⟨v, h1, rd.rep sr.fit sH h2⟩
  · obtain ⟨b, x, h1, h2, h3, h4, h5, h6⟩ := sr.slt.own i c (own hc)
    exact ⟨b, x, h1, h2, h3.same sH, by rw [hideH_none h5]; exact h4, rfl, by simp only [hideA, h5, Option.isSome_none, Bool.false_eq_true, if_false]; exact h6⟩
  · exact sr.slt.sep i j c c' b hij (own hi) (own hj) hb
theorem hidG_out {H2 : Hp} (sr : SR K Z σ Hs H env C) (kp : ∀ a x, H a = some x → H2 a = some x) : SR K Z σ Hs H2 env C := by
  refine ⟨⟨fun a x hx => kp a x (sr.fit.sub a x hx), fun a c hc => ?_⟩, ⟨sr.bas.fl, fun a x hx hc => ?_, fun a x hx => ?_⟩, ⟨sr.slt.len, sr.slt.shr, fun i c hc => ?_, sr.slt.sep⟩⟩
  · obtain ⟨h1, x, h2, h3⟩ := sr.fit.cel a c hc
    exact ⟨h1, x, kp a x h2, h3⟩
  · obtain ⟨b1, b2, b3⟩ := sr.bas.kp a x hx hc
    exact ⟨kp a x b1, b2, b3⟩
  · obtain ⟨y, hy⟩ := sr.bas.th a x hx
    exact ⟨y, kp a y hy⟩
  · obtain ⟨b, x, h1, h2, h3, h4, h5, h6⟩ := sr.slt.own i c hc
    exact ⟨b, x, h1, kp b x h2, h3, h4, h5, h6⟩
theorem imm_rep {Hs' : Hp} {r : D} {v : V} (hi : imm r) (r2 : Rep K Hs r v) : Rep K Hs' r v := by
  cases r2 with
  | non => exact .non
  | bl b => exact .bl b
  | int i => exact .int i
  | str s => exact .str s
  | _ => exact hi.elim
end
/-- an expression that reads all cells as laid, its value has no address -/
def mHidG (m : EM D) : EM D := fun E env C Q => ∃ env', LaidG C env env' ∧ m E0 env' (fun _ => none) fun r env2 _ => env2 = env' ∧ imm r ∧ Q r env C
section
variable {X : Cx} {e : Expr}
theorem d_hidG {m : EM D} (h : DE X RShr e m) : DE X RShr e (mHidG m) := fun Z E hE => ⟨fun pins s σ H Q I ⟨Hs, env, C, P, sr, ⟨env', ld, q⟩, k⟩ => by
  refine (h _ E0 dx0).run pins s σ H Q I ⟨_, _, _, _, hidG_in sr ld, q, fun r env2 C2 v Hs2 H2 q2 t2 s2 r2 => ?_⟩
  obtain ⟨rfl, hi, q2⟩ := q2
  have kp : ∀ a x, H a = some x → H2 a = some x := fun a x hx => (t2.kp a x hx rfl).1
  exact k _ _ _ v Hs H2 q2 ⟨Same.refl _, fun a x hx hc => ⟨kp a x hx, hc⟩⟩ (hidG_out sr kp) (imm_rep hi r2)⟩
end
theorem i_hidG {E : EX} {env : DL.Env} {C : Cs} {m : EM D} {Q : D → DL.Env → Cs → Prop} (env' : DL.Env) (h : LaidG C env env') (q : m E0 env' (fun _ => none) fun r env2 _ => env2 = env' ∧ imm r ∧ Q r env C) : mHidG m E env C Q := ⟨env', h, q⟩
/-! ### the cells of a list are laid for good -/
/-! ### xs.extend(e) of a list that is a cell -/
/-! ### return of an own list: a cell -/
/-! ### an own thing, handed on -/
end L2.DL
namespace L2.DL
open PySem PySem.Spec PyProof.Rows L2.AS
/-! ### rows that come as cells -/
/-- cells that only come -/
def GrwC (C C' : Cs) : Prop := ∀ a u, C a = some u → C' a = some u
theorem GrwC.refl (C : Cs) : GrwC C C := fun _ _ h => h
theorem GrwC.trans {A B C : Cs} (h : GrwC A B) (h' : GrwC B C) : GrwC A C := fun a u e => h' a u (h a u e)
theorem GrwC.put {C C' : Cs} {a : Addr} {u : Cell} (h : GrwC C C') (ha : C' a = none) : GrwC C (cput C' a u) := fun b v e => by
  have := h b v e
  rw [cput_ne fun z => by rw [z, ha] at this; cases this]
  exact this
theorem GrwC.wr {C C' : Cs} {a : Addr} {u : Cell} (h : GrwC C C') (ha : C a = none) : GrwC C (cput C' a u) := fun b v e => by
  rw [cput_ne fun z => by rw [z, ha] at e; cases e]
  exact h b v e
structure RowsC (C C' : Cs) (ps : List Addr) (Rs : List (List Txt)) : Prop where
  len : ps.length = Rs.length
  gr : GrwC C C'
  nw : ∀ p ∈ ps, C p = none
  nd : ps.Nodup
  at_ : ∀ (k : Nat) p R, ps[k]? = some p → Rs[k]? = some R → C' p = some (.lst (txs R))
theorem RowsC.nil (C : Cs) : RowsC C C [] [] := ⟨rfl, GrwC.refl C, (fun p hp => by cases hp), List.nodup_nil, (fun k p R h => by simp at h)⟩
theorem RowsC.mem {C C' : Cs} {ps : List Addr} {Rs : List (List Txt)} (h : RowsC C C' ps Rs) {p : Addr} (hp : p ∈ ps) : ∃ R ∈ Rs, C' p = some (.lst (txs R)) := by
  obtain ⟨k, hk⟩ := List.getElem?_of_mem hp
  have hl := (List.getElem?_eq_some_iff.mp hk).1
  obtain ⟨R, hR⟩ : ∃ R, Rs[k]? = some R := ⟨_, List.getElem?_eq_getElem (by have := h.len; omega)⟩
  exact ⟨R, List.mem_of_getElem? hR, h.at_ k p R hk hR⟩
theorem RowsC.snoc {C C' : Cs} {ps : List Addr} {Rs : List (List Txt)} {a : Addr} {R : List Txt} (h : RowsC C C' ps Rs) (ha : C' a = none) : RowsC C (cput C' a (.lst (txs R))) (ps ++ [a]) (Rs ++ [R]) := by
  have hn : a ∉ ps := fun z => by obtain ⟨_, _, e⟩ := h.mem z; rw [ha] at e; cases e
  refine ⟨by rw [List.length_append, List.length_append, h.len]; rfl, h.gr.put ha, fun p hp => ?_, ?_, fun k p R' hp hR => ?_⟩
  · rcases List.mem_append.mp hp with hp | hp
    · exact h.nw p hp
    · rw [List.mem_singleton.mp hp]
      cases e : C a with
      | none => rfl
      | some u => have := h.gr _ _ e; rw [ha] at this; cases this
  · exact List.nodup_append.mpr ⟨h.nd, by simp, fun x hx y hy z => hn (by rw [List.mem_singleton.mp hy] at z; rw [← z]; exact hx)⟩
  · by_cases hk : k < ps.length
    · rw [List.getElem?_append_left hk] at hp
      rw [List.getElem?_append_left (by have := h.len; omega)] at hR
      rw [cput_ne fun z => hn (by rw [← z]; exact List.mem_of_getElem? hp)]
      exact h.at_ k p R' hp hR
    · rw [List.getElem?_append_right (by omega)] at hp
      rw [List.getElem?_append_right (by have := h.len; omega)] at hR
      have e0 : k - ps.length = 0 := by
        have := (List.getElem?_eq_some_iff.mp hp).1
        simp at this; omega
      rw [e0] at hp
      rw [← h.len, e0] at hR
      cases hp; cases hR
      exact cput_same
theorem RowsC.grow {C C' C2 : Cs} {ps : List Addr} {Rs : List (List Txt)} (h : RowsC C C' ps Rs) (g : GrwC C' C2) : RowsC C C2 ps Rs := ⟨h.len, h.gr.trans g, h.nw, h.nd, fun k p R hp hR => g _ _ (h.at_ k p R hp hR)⟩
theorem RowsC.rd {C C' : Cs} {ps : List Addr} {Rs : List (List Txt)} (h : RowsC C C' ps Rs) : RdGs C' (ps.map D.cell) (Rs.map fun R => D.lst (txs R)) := by
  have := RdGs.cells (C := C') (ps := ps) (xss := Rs.map txs) (by rw [List.length_map]; exact h.len) fun i p xs hp hx => by
    rw [List.getElem?_map] at hx
    obtain ⟨R, hR, rfl⟩ := Option.map_eq_some_iff.mp hx
    exact h.at_ i p R hp hR
  rw [List.map_map] at this
  exact this
end L2.DL
namespace L2.DL
open PySem PySem.Spec PyProof.Rows L2.AS
theorem RdGs.grow {C C' : Cs} (g : GrwC C C') : ∀ {xs ys : List D}, RdGs C xs ys → RdGs C' xs ys := by
  intro xs ys r
  refine RdGs.rec (C := C) (motive_1 := fun d e _ => RdG C' d e) (motive_2 := fun xs ys _ => RdGs C' xs ys) (fun d => .same d) (fun hc _ ih => .cel (g _ _ hc) ih) (fun _ ih => .lst ih) (fun _ ih => .tup ih) .nil (fun _ _ i1 i2 => .cons i1 i2) r
end L2.DL
/-! WU (k04): own exceptions made as values, by place and by keyword; their attributes, their classes. -/
namespace PySem.HandSPX
open Builtin Builtin.ObjectAttr
/-- C(..), C an own exception class, of any arguments: the object is laid with those by place, then __init__ is called with all -/
theorem exc_make {P : Program} {w : World} {A : Around} {R : Result → Shared → Prop} {K : PySem.W.Frag} {h : Heap} {g : Array GenState} {dr : Drawn} {t : Nat} {os : OsState} {C fI : Addr} {us : List Value} {kw : List (Str × Value)}
    (T : L2.OexC K C) (X : K.In h) (iC : PySem.W.findIn K (.ref C) "__init__" = some (some (.ref fI))) (tI : PySem.W.typeIn K (.ref fI) = some (.type "function")) (hl : us.length ≤ sizeLine)
    (hq : codeAny (model P w) (A.under (.builtin "type.__call__" ⟨.ref C :: us, kw⟩)) (.call (.ref fI) ⟨.ref (h.objs.size + 1) :: us, kw⟩) (PySem.W.InitBack (h.objs.size + 1) R) ⟨(h.push (PySem.W.kdv_tup us)).push (excO C h.objs.size), g, dr, t, os⟩) :
    codeAny (model P w) A (.call (.ref C) ⟨us, kw⟩) R ⟨h, g, dr, t, os⟩ := by
  obtain ⟨nm, q, N, bs, bm, sn, sub, ab, col, dd, k0, k1, k2, k3, k5, hC, hbm⟩ := T.cls
  have B := PySem.F.excBase_ValueError
  have bases : ∀ Y : String, (Value.ref C :: bm).contains (.type Y) = veTail.contains (.type Y) := fun Y => by rw [List.contains_cons, refsVE_contains Y bm hbm]; rfl
  have isB : (Value.ref C :: bm).contains (.type "ValueError") = true := (bases _).trans (by decide)
  have isA : (Value.ref C :: bm).contains (.type "AttributeError") = false := (bases _).trans (by decide)
  have isN : (Value.ref C :: bm).contains (.type "NameError") = false := (bases _).trans (by decide)
  have hC := X _ _ hC
  have isC : (Value.ref C :: bm).contains (.ref C) = true := by simp
  have up : ∀ b o, h.get? b = some o → ((h.push (PySem.W.kdv_tup us)).push (excO C h.objs.size)).get? b = some o := fun b o e => Heap.get?_push_of_some _ (Heap.get?_push_of_some _ e)
  have at2 : ((h.push (PySem.W.kdv_tup us)).push (excO C h.objs.size)).get? (h.objs.size + 1) = some (excO C h.objs.size) := by heap_get
  have look := (PySem.W.looks_findIn (M := model P w) X iC).keeps up
  have bind := (PySem.W.bind_fn (M := model P w) X (Value.ref (h.objs.size + 1)) tI).keeps up
  have l1 := tc_lookup
  have l2 := tc_bind (.ref C)
  have ty : (⟨h, g, dr, t, os⟩ : Shared).TypeIs (.ref C) "type" := ⟨_, hC, rfl⟩
  have st := B.noStar
  have en := B.ends
  refine codeAny_of_tree ?_
  show wpAny _ _ (callAny (.ref C) _) _ _ _
  repeat (any_goals (first | assumption | with_reducible refine wpAny_loadPart_at hC ?_ | wp_step))
  refine ⟨rfl, codeAny_call_builtin_at (Code.quiet_builtin _ (by decide +kernel)) entry_typeCall (wpAny_check_type_call_sub hC ?_)⟩
  repeat (first | with_reducible refine wpAny_loadPart_at hC ?_ | with_reducible refine wpAny_madeBy_exc hC ?_ | wp_step)
  refine codeAny_call_builtin_code (Code.quiet_builtin _ B.quiet) ?_
  simp only [checkBuiltinCall, B.newKind, B.newSplit, B.newRow]
  repeat (first | refine wpAny_loadPart_at hC ?_ | (refine wpAny_isSubtype_exc hC ?_; rw [isB]) | refine wpAny_staticBase_exc hC ?_ | refine wpAny_madeBy_exc hC ?_ | simp only [bne_self_eq_false, Bool.false_eq_true, if_false] | wp_step)
  refine codeAny_builtinAt B.entry ?_
  unfold Builtin.«BaseException.__new__»
  refine wpAt_bind ?_
  show wpAt _ _ _ (stack >>= _) _ _ _
  refine wpAt_bind (wpAt_stack fun p below => wpAt_of_wpAny ?_)
  wp_walk
  refine wpAt_of_wpAny ?_
  rw [B.owner]
  repeat (first | with_reducible refine wpAny_madeHere_exc B.canon hC ?_ | with_reducible refine wpAny_loadPart_at hC ?_ | (with_reducible refine wpAny_isSubtype_exc hC ?_; first | rw [isB] | rw [isA] | rw [isN]) | wp_step)
  refine wpAny_isSubtype_exc (up _ _ hC) ?_
  rw [isC]
  repeat (first | with_reducible refine wpAny_loadPart_at at2 ?_ | wp_step)
  simp only [Heap.size_push]
  show wpAny _ _ (typeLookup (.ref C) _) _ _ _
  refine look.at (wpAny_holding (wpAny_bind (bind.at (wpAny_bind (wpAny_call (codeAny_mono hq fun r s' z => ?_))))))
  rcases r with e | (v | _ | _ | _) <;> first | exact z | exact z.elim | skip
  obtain ⟨rfl, z⟩ := z
  first
    | exact wpAny_pure (wpAny_pure z)
    | (wp_walk; exact z)
end PySem.HandSPX
namespace L2.DL
open PySem PySem.Spec PyProof.Rows
/-! ### exceptions as cells -/
/-- at e an exception of the class at B, its dict at dd -/
def exK (e B dd : Addr) : Cell := .ext fun _ _ o => o = exo e B (some dd)
/-- at dd an exception's dict -/
def xdK (dd : Addr) (fs : List (Str × D)) : Cell := .ext fun K Hs o => ∃ ws, o = exd dd ws ∧ RepF K Hs fs ws
/-- C(d): a new exception -/
def spEx (B : Addr) (f : Str) : DSpV := fun ds es C P _ => ∃ d, ds ++ es = [d] ∧ ∀ e dd, C e = none → C dd = none → e ≠ dd → P (.shr (.cell e)) (cput (cput C dd (xdK dd [(f, d)])) e (exK e B dd))
section
variable {P : Program} {w : World} {K : PySem.W.Frag} {mg : Str → Option Value} {base : Heap} {k n : Nat} {f : Str} {fI C : Addr} {fd : FuncData} {ps ks : List Str}
theorem dcal_ex (T : OexC K C) (iC : PySem.W.findIn K (.ref C) "__init__" = some (some (.ref fI))) (tI : PySem.W.typeIn K (.ref fI) = some (.type "function")) (F : FnOk P w K mg base CX0 k fI fd ps (spXc C f))
    (kb : KB K fd ps ks (n + 1) [0, 1] []) (hn1 : n + ks.length = 1) : DCal P w K mg base (k + 1) (.ref C) ks (fun ds es Cc PP PX => ds.length = n ∧ es.length = ks.length ∧ spEx C f ds es Cc PP PX) := by
  refine ⟨fun A fr s H us ws vs zs Q E gd room e0 r rz h => ?_⟩
  obtain ⟨Hs, Cc, ds, es, PP, PX, f1, r1, r2, ⟨hds, hes, d, ed, q⟩, k1, k2⟩ := h
  have X : K.In s.heap := e0.mod.kin.keeps fun b o e => (e0.bs b o e).1
  obtain ⟨hp, g, dr, t, os⟩ := s
  have hna : H (hp.objs.size + 1) = none := e0.hok.fresh (Nat.le_succ _)
  have lu : us.length = n := by rw [← r.length, ← r1.length]; exact hds
  have lw : ws.length = ks.length := by rw [← rz.length, ← r2.length]; exact hes
  have kp : ∀ b o, hp.get? b = some o → ((hp.push (PySem.W.kdv_tup us)).push (PySem.HandSPX.excO C hp.objs.size)).get? b = some o := fun b o e => Heap.get?_push_of_some _ (Heap.get?_push_of_some _ e)
  have at2 : ((hp.push (PySem.W.kdv_tup us)).push (PySem.HandSPX.excO C hp.objs.size)).get? (hp.objs.size + 1) = some (PySem.HandSPX.excO C hp.objs.size) := by heap_get
  have e2 : Env0 P w K mg base A fr ⟨(hp.push (PySem.W.kdv_tup us)).push (PySem.HandSPX.excO C hp.objs.size), g, dr, t, os⟩ (upd H (hp.objs.size + 1) (exo (hp.objs.size + 1) C none)) := by
    refine ⟨e0.frames, e0.mod, fun b x e => ⟨kp b x (e0.bs b x e).1, ?_⟩, ?_, Heap.FunFrames.of_keeps (fun b x e _ => ⟨x, kp b x e, rfl⟩) e0.funs, fun b hb => ?_, e0.hok.laid kp (Nat.le_succ _) (exo_ok at2), e0.bare⟩
    · rw [upd_ne (Nat.ne_of_lt (Nat.lt_succ_of_lt (Heap.lt_size (e0.bs b x e).1)))]
      exact (e0.bs b x e).2
    · show base.objs.size ≤ ((hp.push (PySem.W.kdv_tup us)).push (PySem.HandSPX.excO C hp.objs.size)).objs.size
      rw [Heap.size_push, Heap.size_push]
      have := e0.bsz
      exact Nat.le_succ_of_le (Nat.le_succ_of_le this)
    · obtain ⟨_, x, hx, _⟩ := e0.funs.mem hb
      rw [upd_ne (Nat.ne_of_lt (Nat.lt_succ_of_lt (Heap.lt_size hx)))]
      exact e0.frf b hb
  have un := Un.laid (fs := frs fr) (ex := []) (o := exo (hp.objs.size + 1) C none) kp (Nat.le_succ _) hna
  obtain ⟨v, ev⟩ : ∃ v, vs ++ zs = [v] := by
    have hl : (vs ++ zs).length = 1 := by rw [List.length_append, r.length, rz.length, lu, lw]; exact hn1
    match vs ++ zs, hl with
    | [v], _ => exact ⟨v, rfl⟩
  obtain ⟨u, eu⟩ : ∃ u, us ++ ws = [u] := by
    have hl : (us ++ ws).length = 1 := by rw [List.length_append, lu, lw]; exact hn1
    match us ++ ws, hl with
    | [u], _ => exact ⟨u, rfl⟩
  have ruv : Vals [v] [u] := by rw [← ev, ← eu]; exact r.append rz
  have rdv : Rep K Hs d v := by
    have := r1.append r2
    rw [ed, ev] at this
    cases this with
    | cons h _ => exact h
  have bnd := kb ⟨(hp.push (PySem.W.kdv_tup us)).push (PySem.HandSPX.excO C hp.objs.size), g, dr, t, os⟩ (.ref (hp.objs.size + 1) :: us) ws (X.keeps kp) (by rw [List.length_cons, lu]) lw
  rw [List.append_nil, List.cons_append, eu] at bnd
  refine PySem.HandSPX.exc_make T X iC tI (by rw [lu, sizeLine_eq]; omega) (codeAny_mono (F.run _ fr _ _ _ [.ref (hp.objs.size + 1), u] [V.ref (hp.objs.size + 1), v] (fun y H2 => y = .non ∧ Q (.ref (hp.objs.size + 1)) H2) (fun _ _ _ => False) (room.make C us _) (e2.make C us _) bnd (.cons rfl ruv) ⟨_, _, rfl, upd_same, fun dx hd hne => ⟨rfl, ?_⟩⟩) fun rr s' z => ?_)
  · have hd1 : H dx = none := by rw [upd_ne hne] at hd; exact hd
    have eH : upd (upd (upd H (hp.objs.size + 1) (exo (hp.objs.size + 1) C none)) dx (exd dx [(f, v)])) (hp.objs.size + 1) (exo (hp.objs.size + 1) C (some dx)) = upd (upd H dx (exd dx [(f, v)])) (hp.objs.size + 1) (exo (hp.objs.size + 1) C (some dx)) := by
      funext b
      by_cases h1 : b = hp.objs.size + 1
      · rw [h1, upd_same, upd_same]
      · rw [upd_ne h1, upd_ne h1]
        by_cases h2 : b = dx
        · rw [h2, upd_same, upd_same]
        · rw [upd_ne h2, upd_ne h2, upd_ne h1]
    rw [eH]
    have hda : upd H dx (exd dx [(f, v)]) (hp.objs.size + 1) = none := by rw [upd_ne (Ne.symm hne)]; exact hna
    have f2 := (f1.layP (o := exd dx [(f, v)]) hd1).layP (o := exo (hp.objs.size + 1) C (some dx)) hda
    obtain ⟨n1, n2⟩ := f1.nothing hna
    obtain ⟨n3, n4⟩ := f1.nothing hd1
    refine k1 _ _ _ Hs _ (q (hp.objs.size + 1) dx n2 n4 (Ne.symm hne)) ⟨f2.sub, fun b c e => ?_⟩ ⟨fun _ _ e => e, fun x o e c => ?_, fun x o e => ?_⟩ (.cell _)
    · by_cases hb : b = hp.objs.size + 1
      · subst hb
        rw [cput_same] at e
        cases e
        exact ⟨n1, _, upd_same, Hs, Le.of (Same.refl _), rfl⟩
      · rw [cput_ne hb] at e
        by_cases hb2 : b = dx
        · subst hb2
          rw [cput_same] at e
          cases e
          exact ⟨n3, exd b [(f, v)], by rw [upd_ne hb, upd_same], Hs, Le.of (Same.refl _), _, rfl, .cons rdv .nil⟩
        · rw [cput_ne hb2] at e
          exact f2.cel b c e
    · have e' : H x = some o := e
      have h1 : x ≠ hp.objs.size + 1 := ne_of_none e' hna
      have h2 : x ≠ dx := ne_of_none e' hd1
      exact ⟨by rw [upd_ne h1, upd_ne h2]; exact e', by rw [cput_ne h1, cput_ne h2]; exact c, fun z => z⟩
    · have e' : H x = some o := e
      have h1 : x ≠ hp.objs.size + 1 := ne_of_none e' hna
      have h2 : x ≠ dx := ne_of_none e' hd1
      exact ⟨o, by rw [upd_ne h1, upd_ne h2]; exact e'⟩
  · cases rr with
    | error e => exact z.elim
    | ok fl =>
      cases fl with
      | ret u =>
        obtain ⟨v', H', os', bare, un2, hok, rv, ev', q'⟩ := z
        subst ev'
        obtain rfl : u = Value.none := rv
        exact ⟨rfl, .ref (hp.objs.size + 1), H', os', bare, un.trans un2, hok, rfl, q'⟩
      | next => exact z.elim
      | brk => exact z.elim
      | cont => exact z.elim
end
end L2.DL
namespace L2.DL
open PySem PySem.Spec PyProof.Rows
/-! ### o.f of such -/
def mExA (tab : List Addr) (f : Str) (mo : EM D) : EM D := fun E env C Q => mo E env C fun d env1 C1 => ∃ e B dd fs x, d = .cell e ∧ C1 e = some (exK e B dd) ∧ C1 dd = some (xdK dd fs) ∧ B ∈ tab ∧ fs.lookup f = some x ∧ Q x env1 C1
/-- what the heap has at such -/
theorem ex_at {K : PySem.W.Frag} {Hs H : Hp} {C1 : Cs} {e B dd : Addr} {fs : List (Str × D)} (ft : Fits K Hs H C1) (he : C1 e = some (exK e B dd)) (hd : C1 dd = some (xdK dd fs)) : H e = some (exo e B (some dd)) ∧ ∃ ws, H dd = some (exd dd ws) ∧ RepF K Hs fs ws := by
  obtain ⟨_, o1, h1, _, _, rfl⟩ := ft.cel e _ he
  obtain ⟨_, o2, h2, Hs0, l, ws, rfl, rf⟩ := ft.cel dd _ hd
  exact ⟨h1, ws, h2, rf.le l⟩
section
variable {X : Cx} {o e : Expr} {f : Str} {pos p p' : Pos} {mo : EM D} {tab : List Addr}
theorem d_exA (ht : ∀ B ∈ tab, XfC X.K B ∧ PySem.W.findIn X.K (.ref B) f = some none) (ho : DE X RShr o mo) (hb : attributeBase o f X.env (eval o X.env) = eval o X.env) : DE X RShr (.Attribute o f pos) (mExA tab f mo) := fun Z E hE => by
  refine ⟨fun pins s σ H Q I ⟨Hs, env, C, P, sr, q, k⟩ => attr_of hb (thn ((ho Z E hE).run pins s σ H (fun v H1 => ∃ e B dd ws y, v = .ref e ∧ H1 e = some (exo e B (some dd)) ∧ H1 dd = some (exd dd ws) ∧ B ∈ tab ∧ ws.lookup f = some y ∧ Q y H1) I ⟨Hs, env, C, _, sr, q, fun d env1 C1 v Hs1 H1 q1 t1 s1 r1 => ?_⟩) fun u s1 hh => ?_)⟩
  · obtain ⟨e, B, dd, fs, x, rfl, h1, h2, hB, hx, q1⟩ := q1
    cases r1
    obtain ⟨g1, ws, g2, rf⟩ := ex_at s1.fit h1 h2
    obtain ⟨y, hy, ry⟩ := rf.look.1 x hx
    exact ⟨e, B, dd, ws, y, rfl, g1, g2, hB, hy, k _ _ _ _ _ _ q1 t1 s1 ry⟩
  · obtain ⟨v, H1, I1, rv, e, B, dd, ws, y, rfl, g1, g2, hB, hy, q⟩ := hh
    obtain rfl : u = Value.ref e := rv
    obtain ⟨T, hno⟩ := ht B hB
    obtain ⟨t1, ha⟩ := exo_at I1.hok g1
    obtain ⟨mA, hns, hr⟩ := exd_at I1.hok g2
    obtain ⟨od, hod, hl⟩ := lookIn_ns hns
    obtain ⟨z, hz, rz⟩ := RelO.some_of (v := y) (o := mA f) (by rw [← hy]; exact hr f)
    have J : PySem.W.InstAt s1.heap e _ B (some od) := ⟨ha, rfl, rfl, hod⟩
    exact HandSPX.exc_get I1.kIn J T.ga T.gg T.exC (PySem.W.findObj_own T.hdC hno rfl (by rw [hl, hz])) (handed_of rz) ⟨y, H1, I1.tok _, rz, q⟩
/-! ### isinstance(o, T) -/
def mExI (tab : List (Addr × Bool)) (mo : EM D) : EM D := fun E env C Q => mo E env C fun d env1 C1 => ∃ e B dd fs b, d = .cell e ∧ C1 e = some (exK e B dd) ∧ C1 dd = some (xdK dd fs) ∧ (B, b) ∈ tab ∧ Q (.bl b) env1 C1
def rIsE (tv : V) (tab : List (Addr × Bool)) : List V → Hp → VK → Prop := fun xs H Q => ∃ e B dd ws b, xs = [.ref e, tv] ∧ H e = some (exo e B (some dd)) ∧ H dd = some (exd dd ws) ∧ (B, b) ∈ tab ∧ Q (.bl b) H
theorem call_isE {tv : V} {T : Value} {tab : List (Addr × Bool)} (hT : ∀ u, RelV tv u → u = T) (nT : ∀ (d : Addr), T ≠ .ref d ∨ True) (ht : ∀ q ∈ tab, ExcC X.K q.1 ∧ PySem.W.kitOne X.K (.ref q.1) T = some q.2) : CallR X (.builtin "isinstance") (rIsE tv tab) := by
  intro pins s σ H xs us Q I r h
  obtain ⟨e, B, dd, ws, b, rfl, g1, g2, hB, q⟩ := h
  cases r with
  | cons rx rr =>
    cases rr with
    | cons rt rr =>
      cases rr
      cases rx
      cases hT _ rt
      obtain ⟨xc, hk⟩ := ht _ hB
      obtain ⟨t1, ha⟩ := exo_at I.hok g1
      obtain ⟨mA, hns, _⟩ := exd_at I.hok g2
      obtain ⟨od, hod, _⟩ := lookIn_ns hns
      have J : PySem.W.InstAt s.heap e _ B (some od) := ⟨ha, rfl, rfl, hod⟩
      have hcl : (PySem.W.clsIn X.K B).isSome = true := by
        obtain ⟨cd, hc, _⟩ := PySem.W.any_some xc.hd
        rw [hc]; rfl
      exact PySem.W.kia_one (PySem.W.kitx_exc hcl xc.hg xc.hk xc.hs xc.ha xc.hn xc.ht xc.hm) I.kIn J hk (fun z => nomatch z) fun tk => ⟨.bl b, H, I.kept (t' := tk) fun _ _ z => z, rfl, q⟩
theorem d_exI {tv : V} {T : Value} {tab : List (Addr × Bool)} {te : Expr} (hT : ∀ u, RelV tv u → u = T) (ht : ∀ q ∈ tab, ExcC X.K q.1 ∧ PySem.W.kitOne X.K (.ref q.1) T = some q.2) (ho : DE X RShr o mo) (hte : PE X te (tC tv))
    (hg : Gl X "isinstance") (hm : X.mg "isinstance" = none) (hst : starEach [o, te] X.env = (false, eval o X.env) :: starEach [te] X.env) (hst2 : starEach [te] X.env = (false, eval te X.env) :: starEach [] X.env) (hpl : (backTo pos (starEach [te] X.env)).any (·.1) = false) :
    DE X RShr (.Call (.Name "isinstance" p) [o, te] [] pos) (mExI tab mo) := fun Z E hE => by
  refine ⟨fun pins s σ H Q I ⟨Hs, env, C, P, sr, q, k⟩ => (pe_callB (call_isE (X := X) (tab := tab) hT (fun _ => .inr trivial) ht) hg hm (by decide +kernel) (pa_cons (ho Z E hE) (pa_cons hte pa_nil hst2) hst) (by decide) (by decide) hst hpl).run pins s σ H Q I ?_⟩
  refine ⟨Hs, env, C, _, sr, q, fun d env1 C1 v Hs1 H1 q1 t1 s1 r1 => ?_⟩
  obtain ⟨e, B, dd, fs, b, rfl, h1, h2, hB, q1⟩ := q1
  cases r1
  obtain ⟨g1, ws, g2, rf⟩ := ex_at s1.fit h1 h2
  exact ⟨e, B, dd, ws, b, rfl, g1, g2, hB, k _ _ _ _ _ _ q1 t1 s1 (.bl b)⟩
end
end L2.DL
namespace L2.DL
open PySem PySem.Spec PyProof.Rows
/-! ### by name; lists of facts -/
def spExP (B : Addr) (f : Str) (n m : Nat) : DSpV := fun ds es C P PX => ds.length = n ∧ es.length = m ∧ spEx B f ds es C P PX
theorem xit_nil {K : PySem.W.Frag} {T : Value} : ∀ q ∈ ([] : List (Addr × Bool)), ExcC K q.1 ∧ PySem.W.kitOne K (.ref q.1) T = some q.2 := fun q hq => by cases hq
theorem xit_cons {K : PySem.W.Frag} {B : Addr} {T : Value} {b : Bool} {tab : List (Addr × Bool)} (h : ExcC K B ∧ PySem.W.kitOne K (.ref B) T = some b) (r : ∀ q ∈ tab, ExcC K q.1 ∧ PySem.W.kitOne K (.ref q.1) T = some q.2) :
    ∀ q ∈ (B, b) :: tab, ExcC K q.1 ∧ PySem.W.kitOne K (.ref q.1) T = some q.2 := fun q hq => by
  rcases List.mem_cons.mp hq with rfl | hq
  · exact h
  · exact r q hq
theorem kit_yes {K : PySem.W.Frag} {B C : Addr} (it : IsT K C) (h : PySem.W.subIn K (.ref B) (.ref C) = some true) : PySem.W.kitOne K (.ref B) (.ref C) = some true := by
  by_cases e : B = C
  · subst e; exact isi_self
  · exact isi_sub it h (by simpa using e)
theorem kit_ve {K : PySem.W.Frag} {B : Addr} (h : PySem.W.subIn K (.ref B) (.type "ValueError") = some true) : PySem.W.kitOne K (.ref B) (.type "ValueError") = some true := by
  show (if (Value.ref B == Value.type "ValueError") = true then some true else if PySem.W.kitMeta "ValueError" = true then PySem.W.subIn K (.ref B) (.type "ValueError") else none) = some true
  rw [if_neg (by simp), if_pos (by decide +kernel)]
  exact h
/-! ### many of them -/
/-- new exceptions, of these classes, attributes and values -/
structure Exs (C C' : Cs) (es : List Addr) (l : List (Addr × Str × D)) : Prop where
  len : es.length = l.length
  gr : GrwC C C'
  at_ : ∀ (i : Nat) e p, es[i]? = some e → l[i]? = some p → ∃ dd, C' e = some (exK e p.1 dd) ∧ C' dd = some (xdK dd [(p.2.1, p.2.2)])
theorem Exs.nil (C : Cs) : Exs C C [] [] := ⟨rfl, GrwC.refl C, fun i e p h => by simp at h⟩
theorem GrwC.ex {C C' : Cs} {e dd : Addr} {u v : Cell} (h : GrwC C C') (he : C' e = none) (hd : C' dd = none) (hne : e ≠ dd) : GrwC C (cput (cput C' dd u) e v) := (h.put hd).put (by rw [cput_ne hne]; exact he)
theorem Exs.grow {C C' C2 : Cs} {es : List Addr} {l : List (Addr × Str × D)} (h : Exs C C' es l) (g : GrwC C' C2) : Exs C C2 es l := ⟨h.len, h.gr.trans g, fun i e p h1 h2 => by
  obtain ⟨dd, a, b⟩ := h.at_ i e p h1 h2
  exact ⟨dd, g _ _ a, g _ _ b⟩⟩
theorem Exs.snoc {C C' : Cs} {es : List Addr} {l : List (Addr × Str × D)} {e dd B : Addr} {f : Str} {d : D} (h : Exs C C' es l) (he : C' e = none) (hd : C' dd = none) (hne : e ≠ dd) :
    Exs C (cput (cput C' dd (xdK dd [(f, d)])) e (exK e B dd)) (es ++ [e]) (l ++ [(B, f, d)]) := by
  have g : GrwC C' (cput (cput C' dd (xdK dd [(f, d)])) e (exK e B dd)) := (GrwC.refl C').ex he hd hne
  refine ⟨by rw [List.length_append, List.length_append, h.len]; rfl, h.gr.trans g, fun i x p hx hp => ?_⟩
  by_cases hi : i < es.length
  · rw [List.getElem?_append_left hi] at hx
    rw [List.getElem?_append_left (by rw [← h.len]; exact hi)] at hp
    obtain ⟨dx, a, b⟩ := h.at_ i x p hx hp
    exact ⟨dx, g _ _ a, g _ _ b⟩
  · rw [List.getElem?_append_right (by omega)] at hx
    rw [List.getElem?_append_right (by rw [← h.len]; omega)] at hp
    have e0 : i - es.length = 0 := by
      have := (List.getElem?_eq_some_iff.mp hx).1
      simp at this; omega
    rw [e0] at hx
    rw [← h.len, e0] at hp
    cases hx; cases hp
    exact ⟨dd, cput_same, by rw [cput_ne (Ne.symm hne)]; exact cput_same⟩
end L2.DL
namespace L2.DL
open PySem PySem.Spec PyProof.Rows
abbrev top (i : Nat) : Stmt := PySem.Challenge.pw_ownletters_k04_errors_made.main.body.getD i (.Pass ⟨0, 0, 0, 0⟩)
class Cad where
  c_BadName : Addr
  c_CodeError : Addr
  c_BadCode : Addr
  c_BadLength : Addr
  c_BadCost : Addr
  c_BadText : Addr
  c_BadCommand : Addr
  c_UnknownName : Addr
  c_NameTaken : Addr
  c_NoCoding : Addr
  c_NothingToDo : Addr
  c_BadClock : Addr
  c_Stuck : Addr
section
variable [Cad]
def sp__law_purse : DSp := spPurse true
def sp__law_draw : DSp := spDraw true
def sp__law_choose : DSp := spChoose true
/-- shown in few signs -/
def Th04 (d : D) : Prop := Shw 6 400 d
def sp__law_values : DSp := fun ds C PR _ => ∃ (st : Addr) (n : Nat), ds = [.cell st, .int n] ∧ C st = some (.pur true) ∧ n ≤ 10 ∧ ∀ vs : List D, vs.length = 12 → (∀ d ∈ vs, Th04 d) → PR (.shr (.lst vs)) C
/-- the classes in their sequence, each with its attribute -/
def kn04 : List (Addr × Str) := [(Cad.c_BadName, "value"), (Cad.c_BadCode, "value"), (Cad.c_BadLength, "value"), (Cad.c_BadCost, "value"), (Cad.c_BadText, "value"), (Cad.c_BadCommand, "command"), (Cad.c_UnknownName, "name"), (Cad.c_NameTaken, "name"), (Cad.c_NoCoding, "crowd"), (Cad.c_NothingToDo, "action"), (Cad.c_BadClock, "value"), (Cad.c_Stuck, "circles")]
/-- what is made of twelve values -/
def l04 (vs : List D) : List (Addr × Str × D) := (kn04.zip vs).map fun p => (p.1.1, p.1.2, p.2)
def sp__law_made : DSp := fun ds C PR _ => ∃ vs : List D, ds = [.lst vs] ∧ vs.length = 12 ∧ ∀ (es : List Addr) (C' : Cs), es.length = 12 → Exs C C' es (l04 vs) → PR (.shr (.lst (es.map D.cell))) C'
def sp__law_named : DSp := fun ds C PR _ => ∃ vs : List D, ds = [.lst vs] ∧ vs.length = 12 ∧ ∀ (es : List Addr) (C' : Cs), es.length = 12 → Exs C C' es (l04 vs) → PR (.shr (.lst (es.map D.cell))) C'
def kb04 (k : Nat) : List D := (List.range 12).map fun j => .bl (decide (j = k))
def sp__law_kinds : DSp := fun ds C PR _ => ∃ (e B dd : Addr) (f : Str) (fs : List (Str × D)) (k : Nat), ds = [.cell e] ∧ C e = some (exK e B dd) ∧ C dd = some (xdK dd fs) ∧ kn04[k]? = some (B, f) ∧ PR (.shr (.lst (kb04 k))) C
def sp__law_of_one_kind : DSp := fun ds C PR _ => ∃ (e B dd : Addr) (f : Str) (fs : List (Str × D)) (k : Nat), ds = [.cell e, .int k] ∧ C e = some (exK e B dd) ∧ C dd = some (xdK dd fs) ∧ kn04[k]? = some (B, f) ∧ PR (.shr (.bl true)) C
def spLaw : DSp := fun ds C PR _ => ∃ (ns : List Int), ds = [.scr ns] ∧ ns.length ≤ 63 ∧ (∀ n ∈ ns, Builtin.Int.intBits n ≤ 1048576) ∧ ∀ C', PR (.shr (.bl true)) C'
/-- what the text's globals and classes are -/
structure Gls [Cad] (K : PySem.W.Frag) (mg : Str → Option Value) : Prop where
  n_ValueError : mg "ValueError" = none
  n_enumerate : mg "enumerate" = none
  n_isinstance : mg "isinstance" = none
  n_len : mg "len" = none
  n_max : mg "max" = none
  n_min : mg "min" = none
  n_range : mg "range" = none
  n_repr : mg "repr" = none
  g_BadName : mg "BadName" = some (.ref Cad.c_BadName)
  g_BadCode : mg "BadCode" = some (.ref Cad.c_BadCode)
  g_BadLength : mg "BadLength" = some (.ref Cad.c_BadLength)
  g_BadCost : mg "BadCost" = some (.ref Cad.c_BadCost)
  g_BadText : mg "BadText" = some (.ref Cad.c_BadText)
  g_BadCommand : mg "BadCommand" = some (.ref Cad.c_BadCommand)
  g_UnknownName : mg "UnknownName" = some (.ref Cad.c_UnknownName)
  g_NameTaken : mg "NameTaken" = some (.ref Cad.c_NameTaken)
  g_NoCoding : mg "NoCoding" = some (.ref Cad.c_NoCoding)
  g_NothingToDo : mg "NothingToDo" = some (.ref Cad.c_NothingToDo)
  g_BadClock : mg "BadClock" = some (.ref Cad.c_BadClock)
  g_Stuck : mg "Stuck" = some (.ref Cad.c_Stuck)
  xx_BadName_value : XfC K Cad.c_BadName ∧ PySem.W.findIn K (.ref Cad.c_BadName) "value" = some none
  xx_BadCode_value : XfC K Cad.c_BadCode ∧ PySem.W.findIn K (.ref Cad.c_BadCode) "value" = some none
  xx_BadLength_value : XfC K Cad.c_BadLength ∧ PySem.W.findIn K (.ref Cad.c_BadLength) "value" = some none
  xx_BadCost_value : XfC K Cad.c_BadCost ∧ PySem.W.findIn K (.ref Cad.c_BadCost) "value" = some none
  xx_BadClock_value : XfC K Cad.c_BadClock ∧ PySem.W.findIn K (.ref Cad.c_BadClock) "value" = some none
  xx_BadText_value : XfC K Cad.c_BadText ∧ PySem.W.findIn K (.ref Cad.c_BadText) "value" = some none
  xx_BadCommand_command : XfC K Cad.c_BadCommand ∧ PySem.W.findIn K (.ref Cad.c_BadCommand) "command" = some none
  xx_NoCoding_crowd : XfC K Cad.c_NoCoding ∧ PySem.W.findIn K (.ref Cad.c_NoCoding) "crowd" = some none
  xx_UnknownName_name : XfC K Cad.c_UnknownName ∧ PySem.W.findIn K (.ref Cad.c_UnknownName) "name" = some none
  xx_NameTaken_name : XfC K Cad.c_NameTaken ∧ PySem.W.findIn K (.ref Cad.c_NameTaken) "name" = some none
  xx_NothingToDo_action : XfC K Cad.c_NothingToDo ∧ PySem.W.findIn K (.ref Cad.c_NothingToDo) "action" = some none
  xx_Stuck_circles : XfC K Cad.c_Stuck ∧ PySem.W.findIn K (.ref Cad.c_Stuck) "circles" = some none
  g_CodeError : mg "CodeError" = some (.ref Cad.c_CodeError)
  it_CodeError : IsT K Cad.c_CodeError
  ki_Stuck_CodeError : ExcC K Cad.c_Stuck ∧ PySem.W.kitOne K (.ref Cad.c_Stuck) (.ref Cad.c_CodeError) = some true
  ki_NothingToDo_CodeError : ExcC K Cad.c_NothingToDo ∧ PySem.W.kitOne K (.ref Cad.c_NothingToDo) (.ref Cad.c_CodeError) = some true
  ki_NoCoding_CodeError : ExcC K Cad.c_NoCoding ∧ PySem.W.kitOne K (.ref Cad.c_NoCoding) (.ref Cad.c_CodeError) = some true
  ki_NameTaken_CodeError : ExcC K Cad.c_NameTaken ∧ PySem.W.kitOne K (.ref Cad.c_NameTaken) (.ref Cad.c_CodeError) = some true
  ki_UnknownName_CodeError : ExcC K Cad.c_UnknownName ∧ PySem.W.kitOne K (.ref Cad.c_UnknownName) (.ref Cad.c_CodeError) = some true
  ki_BadCommand_CodeError : ExcC K Cad.c_BadCommand ∧ PySem.W.kitOne K (.ref Cad.c_BadCommand) (.ref Cad.c_CodeError) = some true
  ki_BadText_CodeError : ExcC K Cad.c_BadText ∧ PySem.W.kitOne K (.ref Cad.c_BadText) (.ref Cad.c_CodeError) = some true
  ki_BadClock_CodeError : ExcC K Cad.c_BadClock ∧ PySem.W.kitOne K (.ref Cad.c_BadClock) (.ref Cad.c_CodeError) = some true
  ki_BadCost_CodeError : ExcC K Cad.c_BadCost ∧ PySem.W.kitOne K (.ref Cad.c_BadCost) (.ref Cad.c_CodeError) = some true
  ki_BadLength_CodeError : ExcC K Cad.c_BadLength ∧ PySem.W.kitOne K (.ref Cad.c_BadLength) (.ref Cad.c_CodeError) = some true
  ki_BadCode_CodeError : ExcC K Cad.c_BadCode ∧ PySem.W.kitOne K (.ref Cad.c_BadCode) (.ref Cad.c_CodeError) = some true
  ki_BadName_CodeError : ExcC K Cad.c_BadName ∧ PySem.W.kitOne K (.ref Cad.c_BadName) (.ref Cad.c_CodeError) = some true
  kv_Stuck : ExcC K Cad.c_Stuck ∧ PySem.W.kitOne K (.ref Cad.c_Stuck) (.type "ValueError") = some true
  kv_NothingToDo : ExcC K Cad.c_NothingToDo ∧ PySem.W.kitOne K (.ref Cad.c_NothingToDo) (.type "ValueError") = some true
  kv_NoCoding : ExcC K Cad.c_NoCoding ∧ PySem.W.kitOne K (.ref Cad.c_NoCoding) (.type "ValueError") = some true
  kv_NameTaken : ExcC K Cad.c_NameTaken ∧ PySem.W.kitOne K (.ref Cad.c_NameTaken) (.type "ValueError") = some true
  kv_UnknownName : ExcC K Cad.c_UnknownName ∧ PySem.W.kitOne K (.ref Cad.c_UnknownName) (.type "ValueError") = some true
  kv_BadCommand : ExcC K Cad.c_BadCommand ∧ PySem.W.kitOne K (.ref Cad.c_BadCommand) (.type "ValueError") = some true
  kv_BadText : ExcC K Cad.c_BadText ∧ PySem.W.kitOne K (.ref Cad.c_BadText) (.type "ValueError") = some true
  kv_BadClock : ExcC K Cad.c_BadClock ∧ PySem.W.kitOne K (.ref Cad.c_BadClock) (.type "ValueError") = some true
  kv_BadCost : ExcC K Cad.c_BadCost ∧ PySem.W.kitOne K (.ref Cad.c_BadCost) (.type "ValueError") = some true
  kv_BadLength : ExcC K Cad.c_BadLength ∧ PySem.W.kitOne K (.ref Cad.c_BadLength) (.type "ValueError") = some true
  kv_BadCode : ExcC K Cad.c_BadCode ∧ PySem.W.kitOne K (.ref Cad.c_BadCode) (.type "ValueError") = some true
  kv_BadName : ExcC K Cad.c_BadName ∧ PySem.W.kitOne K (.ref Cad.c_BadName) (.type "ValueError") = some true
  it_BadName : IsT K Cad.c_BadName
  ki_Stuck_BadName : ExcC K Cad.c_Stuck ∧ PySem.W.kitOne K (.ref Cad.c_Stuck) (.ref Cad.c_BadName) = some false
  ki_NothingToDo_BadName : ExcC K Cad.c_NothingToDo ∧ PySem.W.kitOne K (.ref Cad.c_NothingToDo) (.ref Cad.c_BadName) = some false
  ki_NoCoding_BadName : ExcC K Cad.c_NoCoding ∧ PySem.W.kitOne K (.ref Cad.c_NoCoding) (.ref Cad.c_BadName) = some false
  ki_NameTaken_BadName : ExcC K Cad.c_NameTaken ∧ PySem.W.kitOne K (.ref Cad.c_NameTaken) (.ref Cad.c_BadName) = some false
  ki_UnknownName_BadName : ExcC K Cad.c_UnknownName ∧ PySem.W.kitOne K (.ref Cad.c_UnknownName) (.ref Cad.c_BadName) = some false
  ki_BadCommand_BadName : ExcC K Cad.c_BadCommand ∧ PySem.W.kitOne K (.ref Cad.c_BadCommand) (.ref Cad.c_BadName) = some false
  ki_BadText_BadName : ExcC K Cad.c_BadText ∧ PySem.W.kitOne K (.ref Cad.c_BadText) (.ref Cad.c_BadName) = some false
  ki_BadClock_BadName : ExcC K Cad.c_BadClock ∧ PySem.W.kitOne K (.ref Cad.c_BadClock) (.ref Cad.c_BadName) = some false
  ki_BadCost_BadName : ExcC K Cad.c_BadCost ∧ PySem.W.kitOne K (.ref Cad.c_BadCost) (.ref Cad.c_BadName) = some false
  ki_BadLength_BadName : ExcC K Cad.c_BadLength ∧ PySem.W.kitOne K (.ref Cad.c_BadLength) (.ref Cad.c_BadName) = some false
  ki_BadCode_BadName : ExcC K Cad.c_BadCode ∧ PySem.W.kitOne K (.ref Cad.c_BadCode) (.ref Cad.c_BadName) = some false
  ki_BadName_BadName : ExcC K Cad.c_BadName ∧ PySem.W.kitOne K (.ref Cad.c_BadName) (.ref Cad.c_BadName) = some true
  it_BadCode : IsT K Cad.c_BadCode
  ki_Stuck_BadCode : ExcC K Cad.c_Stuck ∧ PySem.W.kitOne K (.ref Cad.c_Stuck) (.ref Cad.c_BadCode) = some false
  ki_NothingToDo_BadCode : ExcC K Cad.c_NothingToDo ∧ PySem.W.kitOne K (.ref Cad.c_NothingToDo) (.ref Cad.c_BadCode) = some false
  ki_NoCoding_BadCode : ExcC K Cad.c_NoCoding ∧ PySem.W.kitOne K (.ref Cad.c_NoCoding) (.ref Cad.c_BadCode) = some false
  ki_NameTaken_BadCode : ExcC K Cad.c_NameTaken ∧ PySem.W.kitOne K (.ref Cad.c_NameTaken) (.ref Cad.c_BadCode) = some false
  ki_UnknownName_BadCode : ExcC K Cad.c_UnknownName ∧ PySem.W.kitOne K (.ref Cad.c_UnknownName) (.ref Cad.c_BadCode) = some false
  ki_BadCommand_BadCode : ExcC K Cad.c_BadCommand ∧ PySem.W.kitOne K (.ref Cad.c_BadCommand) (.ref Cad.c_BadCode) = some false
  ki_BadText_BadCode : ExcC K Cad.c_BadText ∧ PySem.W.kitOne K (.ref Cad.c_BadText) (.ref Cad.c_BadCode) = some false
  ki_BadClock_BadCode : ExcC K Cad.c_BadClock ∧ PySem.W.kitOne K (.ref Cad.c_BadClock) (.ref Cad.c_BadCode) = some false
  ki_BadCost_BadCode : ExcC K Cad.c_BadCost ∧ PySem.W.kitOne K (.ref Cad.c_BadCost) (.ref Cad.c_BadCode) = some false
  ki_BadLength_BadCode : ExcC K Cad.c_BadLength ∧ PySem.W.kitOne K (.ref Cad.c_BadLength) (.ref Cad.c_BadCode) = some false
  ki_BadCode_BadCode : ExcC K Cad.c_BadCode ∧ PySem.W.kitOne K (.ref Cad.c_BadCode) (.ref Cad.c_BadCode) = some true
  ki_BadName_BadCode : ExcC K Cad.c_BadName ∧ PySem.W.kitOne K (.ref Cad.c_BadName) (.ref Cad.c_BadCode) = some false
  it_BadLength : IsT K Cad.c_BadLength
  ki_Stuck_BadLength : ExcC K Cad.c_Stuck ∧ PySem.W.kitOne K (.ref Cad.c_Stuck) (.ref Cad.c_BadLength) = some false
  ki_NothingToDo_BadLength : ExcC K Cad.c_NothingToDo ∧ PySem.W.kitOne K (.ref Cad.c_NothingToDo) (.ref Cad.c_BadLength) = some false
  ki_NoCoding_BadLength : ExcC K Cad.c_NoCoding ∧ PySem.W.kitOne K (.ref Cad.c_NoCoding) (.ref Cad.c_BadLength) = some false
  ki_NameTaken_BadLength : ExcC K Cad.c_NameTaken ∧ PySem.W.kitOne K (.ref Cad.c_NameTaken) (.ref Cad.c_BadLength) = some false
  ki_UnknownName_BadLength : ExcC K Cad.c_UnknownName ∧ PySem.W.kitOne K (.ref Cad.c_UnknownName) (.ref Cad.c_BadLength) = some false
  ki_BadCommand_BadLength : ExcC K Cad.c_BadCommand ∧ PySem.W.kitOne K (.ref Cad.c_BadCommand) (.ref Cad.c_BadLength) = some false
  ki_BadText_BadLength : ExcC K Cad.c_BadText ∧ PySem.W.kitOne K (.ref Cad.c_BadText) (.ref Cad.c_BadLength) = some false
  ki_BadClock_BadLength : ExcC K Cad.c_BadClock ∧ PySem.W.kitOne K (.ref Cad.c_BadClock) (.ref Cad.c_BadLength) = some false
  ki_BadCost_BadLength : ExcC K Cad.c_BadCost ∧ PySem.W.kitOne K (.ref Cad.c_BadCost) (.ref Cad.c_BadLength) = some false
  ki_BadLength_BadLength : ExcC K Cad.c_BadLength ∧ PySem.W.kitOne K (.ref Cad.c_BadLength) (.ref Cad.c_BadLength) = some true
  ki_BadCode_BadLength : ExcC K Cad.c_BadCode ∧ PySem.W.kitOne K (.ref Cad.c_BadCode) (.ref Cad.c_BadLength) = some false
  ki_BadName_BadLength : ExcC K Cad.c_BadName ∧ PySem.W.kitOne K (.ref Cad.c_BadName) (.ref Cad.c_BadLength) = some false
  it_BadCost : IsT K Cad.c_BadCost
  ki_Stuck_BadCost : ExcC K Cad.c_Stuck ∧ PySem.W.kitOne K (.ref Cad.c_Stuck) (.ref Cad.c_BadCost) = some false
  ki_NothingToDo_BadCost : ExcC K Cad.c_NothingToDo ∧ PySem.W.kitOne K (.ref Cad.c_NothingToDo) (.ref Cad.c_BadCost) = some false
  ki_NoCoding_BadCost : ExcC K Cad.c_NoCoding ∧ PySem.W.kitOne K (.ref Cad.c_NoCoding) (.ref Cad.c_BadCost) = some false
  ki_NameTaken_BadCost : ExcC K Cad.c_NameTaken ∧ PySem.W.kitOne K (.ref Cad.c_NameTaken) (.ref Cad.c_BadCost) = some false
  ki_UnknownName_BadCost : ExcC K Cad.c_UnknownName ∧ PySem.W.kitOne K (.ref Cad.c_UnknownName) (.ref Cad.c_BadCost) = some false
  ki_BadCommand_BadCost : ExcC K Cad.c_BadCommand ∧ PySem.W.kitOne K (.ref Cad.c_BadCommand) (.ref Cad.c_BadCost) = some false
  ki_BadText_BadCost : ExcC K Cad.c_BadText ∧ PySem.W.kitOne K (.ref Cad.c_BadText) (.ref Cad.c_BadCost) = some false
  ki_BadClock_BadCost : ExcC K Cad.c_BadClock ∧ PySem.W.kitOne K (.ref Cad.c_BadClock) (.ref Cad.c_BadCost) = some false
  ki_BadCost_BadCost : ExcC K Cad.c_BadCost ∧ PySem.W.kitOne K (.ref Cad.c_BadCost) (.ref Cad.c_BadCost) = some true
  ki_BadLength_BadCost : ExcC K Cad.c_BadLength ∧ PySem.W.kitOne K (.ref Cad.c_BadLength) (.ref Cad.c_BadCost) = some false
  ki_BadCode_BadCost : ExcC K Cad.c_BadCode ∧ PySem.W.kitOne K (.ref Cad.c_BadCode) (.ref Cad.c_BadCost) = some false
  ki_BadName_BadCost : ExcC K Cad.c_BadName ∧ PySem.W.kitOne K (.ref Cad.c_BadName) (.ref Cad.c_BadCost) = some false
  it_BadText : IsT K Cad.c_BadText
  ki_Stuck_BadText : ExcC K Cad.c_Stuck ∧ PySem.W.kitOne K (.ref Cad.c_Stuck) (.ref Cad.c_BadText) = some false
  ki_NothingToDo_BadText : ExcC K Cad.c_NothingToDo ∧ PySem.W.kitOne K (.ref Cad.c_NothingToDo) (.ref Cad.c_BadText) = some false
  ki_NoCoding_BadText : ExcC K Cad.c_NoCoding ∧ PySem.W.kitOne K (.ref Cad.c_NoCoding) (.ref Cad.c_BadText) = some false
  ki_NameTaken_BadText : ExcC K Cad.c_NameTaken ∧ PySem.W.kitOne K (.ref Cad.c_NameTaken) (.ref Cad.c_BadText) = some false
  ki_UnknownName_BadText : ExcC K Cad.c_UnknownName ∧ PySem.W.kitOne K (.ref Cad.c_UnknownName) (.ref Cad.c_BadText) = some false
  ki_BadCommand_BadText : ExcC K Cad.c_BadCommand ∧ PySem.W.kitOne K (.ref Cad.c_BadCommand) (.ref Cad.c_BadText) = some false
  ki_BadText_BadText : ExcC K Cad.c_BadText ∧ PySem.W.kitOne K (.ref Cad.c_BadText) (.ref Cad.c_BadText) = some true
  ki_BadClock_BadText : ExcC K Cad.c_BadClock ∧ PySem.W.kitOne K (.ref Cad.c_BadClock) (.ref Cad.c_BadText) = some false
  ki_BadCost_BadText : ExcC K Cad.c_BadCost ∧ PySem.W.kitOne K (.ref Cad.c_BadCost) (.ref Cad.c_BadText) = some false
  ki_BadLength_BadText : ExcC K Cad.c_BadLength ∧ PySem.W.kitOne K (.ref Cad.c_BadLength) (.ref Cad.c_BadText) = some false
  ki_BadCode_BadText : ExcC K Cad.c_BadCode ∧ PySem.W.kitOne K (.ref Cad.c_BadCode) (.ref Cad.c_BadText) = some false
  ki_BadName_BadText : ExcC K Cad.c_BadName ∧ PySem.W.kitOne K (.ref Cad.c_BadName) (.ref Cad.c_BadText) = some false
  it_BadCommand : IsT K Cad.c_BadCommand
  ki_Stuck_BadCommand : ExcC K Cad.c_Stuck ∧ PySem.W.kitOne K (.ref Cad.c_Stuck) (.ref Cad.c_BadCommand) = some false
  ki_NothingToDo_BadCommand : ExcC K Cad.c_NothingToDo ∧ PySem.W.kitOne K (.ref Cad.c_NothingToDo) (.ref Cad.c_BadCommand) = some false
  ki_NoCoding_BadCommand : ExcC K Cad.c_NoCoding ∧ PySem.W.kitOne K (.ref Cad.c_NoCoding) (.ref Cad.c_BadCommand) = some false
  ki_NameTaken_BadCommand : ExcC K Cad.c_NameTaken ∧ PySem.W.kitOne K (.ref Cad.c_NameTaken) (.ref Cad.c_BadCommand) = some false
  ki_UnknownName_BadCommand : ExcC K Cad.c_UnknownName ∧ PySem.W.kitOne K (.ref Cad.c_UnknownName) (.ref Cad.c_BadCommand) = some false
  ki_BadCommand_BadCommand : ExcC K Cad.c_BadCommand ∧ PySem.W.kitOne K (.ref Cad.c_BadCommand) (.ref Cad.c_BadCommand) = some true
  ki_BadText_BadCommand : ExcC K Cad.c_BadText ∧ PySem.W.kitOne K (.ref Cad.c_BadText) (.ref Cad.c_BadCommand) = some false
  ki_BadClock_BadCommand : ExcC K Cad.c_BadClock ∧ PySem.W.kitOne K (.ref Cad.c_BadClock) (.ref Cad.c_BadCommand) = some false
  ki_BadCost_BadCommand : ExcC K Cad.c_BadCost ∧ PySem.W.kitOne K (.ref Cad.c_BadCost) (.ref Cad.c_BadCommand) = some false
  ki_BadLength_BadCommand : ExcC K Cad.c_BadLength ∧ PySem.W.kitOne K (.ref Cad.c_BadLength) (.ref Cad.c_BadCommand) = some false
  ki_BadCode_BadCommand : ExcC K Cad.c_BadCode ∧ PySem.W.kitOne K (.ref Cad.c_BadCode) (.ref Cad.c_BadCommand) = some false
  ki_BadName_BadCommand : ExcC K Cad.c_BadName ∧ PySem.W.kitOne K (.ref Cad.c_BadName) (.ref Cad.c_BadCommand) = some false
  it_UnknownName : IsT K Cad.c_UnknownName
  ki_Stuck_UnknownName : ExcC K Cad.c_Stuck ∧ PySem.W.kitOne K (.ref Cad.c_Stuck) (.ref Cad.c_UnknownName) = some false
  ki_NothingToDo_UnknownName : ExcC K Cad.c_NothingToDo ∧ PySem.W.kitOne K (.ref Cad.c_NothingToDo) (.ref Cad.c_UnknownName) = some false
  ki_NoCoding_UnknownName : ExcC K Cad.c_NoCoding ∧ PySem.W.kitOne K (.ref Cad.c_NoCoding) (.ref Cad.c_UnknownName) = some false
  ki_NameTaken_UnknownName : ExcC K Cad.c_NameTaken ∧ PySem.W.kitOne K (.ref Cad.c_NameTaken) (.ref Cad.c_UnknownName) = some false
  ki_UnknownName_UnknownName : ExcC K Cad.c_UnknownName ∧ PySem.W.kitOne K (.ref Cad.c_UnknownName) (.ref Cad.c_UnknownName) = some true
  ki_BadCommand_UnknownName : ExcC K Cad.c_BadCommand ∧ PySem.W.kitOne K (.ref Cad.c_BadCommand) (.ref Cad.c_UnknownName) = some false
  ki_BadText_UnknownName : ExcC K Cad.c_BadText ∧ PySem.W.kitOne K (.ref Cad.c_BadText) (.ref Cad.c_UnknownName) = some false
  ki_BadClock_UnknownName : ExcC K Cad.c_BadClock ∧ PySem.W.kitOne K (.ref Cad.c_BadClock) (.ref Cad.c_UnknownName) = some false
  ki_BadCost_UnknownName : ExcC K Cad.c_BadCost ∧ PySem.W.kitOne K (.ref Cad.c_BadCost) (.ref Cad.c_UnknownName) = some false
  ki_BadLength_UnknownName : ExcC K Cad.c_BadLength ∧ PySem.W.kitOne K (.ref Cad.c_BadLength) (.ref Cad.c_UnknownName) = some false
  ki_BadCode_UnknownName : ExcC K Cad.c_BadCode ∧ PySem.W.kitOne K (.ref Cad.c_BadCode) (.ref Cad.c_UnknownName) = some false
  ki_BadName_UnknownName : ExcC K Cad.c_BadName ∧ PySem.W.kitOne K (.ref Cad.c_BadName) (.ref Cad.c_UnknownName) = some false
  it_NameTaken : IsT K Cad.c_NameTaken
  ki_Stuck_NameTaken : ExcC K Cad.c_Stuck ∧ PySem.W.kitOne K (.ref Cad.c_Stuck) (.ref Cad.c_NameTaken) = some false
  ki_NothingToDo_NameTaken : ExcC K Cad.c_NothingToDo ∧ PySem.W.kitOne K (.ref Cad.c_NothingToDo) (.ref Cad.c_NameTaken) = some false
  ki_NoCoding_NameTaken : ExcC K Cad.c_NoCoding ∧ PySem.W.kitOne K (.ref Cad.c_NoCoding) (.ref Cad.c_NameTaken) = some false
  ki_NameTaken_NameTaken : ExcC K Cad.c_NameTaken ∧ PySem.W.kitOne K (.ref Cad.c_NameTaken) (.ref Cad.c_NameTaken) = some true
  ki_UnknownName_NameTaken : ExcC K Cad.c_UnknownName ∧ PySem.W.kitOne K (.ref Cad.c_UnknownName) (.ref Cad.c_NameTaken) = some false
  ki_BadCommand_NameTaken : ExcC K Cad.c_BadCommand ∧ PySem.W.kitOne K (.ref Cad.c_BadCommand) (.ref Cad.c_NameTaken) = some false
  ki_BadText_NameTaken : ExcC K Cad.c_BadText ∧ PySem.W.kitOne K (.ref Cad.c_BadText) (.ref Cad.c_NameTaken) = some false
  ki_BadClock_NameTaken : ExcC K Cad.c_BadClock ∧ PySem.W.kitOne K (.ref Cad.c_BadClock) (.ref Cad.c_NameTaken) = some false
  ki_BadCost_NameTaken : ExcC K Cad.c_BadCost ∧ PySem.W.kitOne K (.ref Cad.c_BadCost) (.ref Cad.c_NameTaken) = some false
  ki_BadLength_NameTaken : ExcC K Cad.c_BadLength ∧ PySem.W.kitOne K (.ref Cad.c_BadLength) (.ref Cad.c_NameTaken) = some false
  ki_BadCode_NameTaken : ExcC K Cad.c_BadCode ∧ PySem.W.kitOne K (.ref Cad.c_BadCode) (.ref Cad.c_NameTaken) = some false
  ki_BadName_NameTaken : ExcC K Cad.c_BadName ∧ PySem.W.kitOne K (.ref Cad.c_BadName) (.ref Cad.c_NameTaken) = some false
  it_NoCoding : IsT K Cad.c_NoCoding
  ki_Stuck_NoCoding : ExcC K Cad.c_Stuck ∧ PySem.W.kitOne K (.ref Cad.c_Stuck) (.ref Cad.c_NoCoding) = some false
  ki_NothingToDo_NoCoding : ExcC K Cad.c_NothingToDo ∧ PySem.W.kitOne K (.ref Cad.c_NothingToDo) (.ref Cad.c_NoCoding) = some false
  ki_NoCoding_NoCoding : ExcC K Cad.c_NoCoding ∧ PySem.W.kitOne K (.ref Cad.c_NoCoding) (.ref Cad.c_NoCoding) = some true
  ki_NameTaken_NoCoding : ExcC K Cad.c_NameTaken ∧ PySem.W.kitOne K (.ref Cad.c_NameTaken) (.ref Cad.c_NoCoding) = some false
  ki_UnknownName_NoCoding : ExcC K Cad.c_UnknownName ∧ PySem.W.kitOne K (.ref Cad.c_UnknownName) (.ref Cad.c_NoCoding) = some false
  ki_BadCommand_NoCoding : ExcC K Cad.c_BadCommand ∧ PySem.W.kitOne K (.ref Cad.c_BadCommand) (.ref Cad.c_NoCoding) = some false
  ki_BadText_NoCoding : ExcC K Cad.c_BadText ∧ PySem.W.kitOne K (.ref Cad.c_BadText) (.ref Cad.c_NoCoding) = some false
  ki_BadClock_NoCoding : ExcC K Cad.c_BadClock ∧ PySem.W.kitOne K (.ref Cad.c_BadClock) (.ref Cad.c_NoCoding) = some false
  ki_BadCost_NoCoding : ExcC K Cad.c_BadCost ∧ PySem.W.kitOne K (.ref Cad.c_BadCost) (.ref Cad.c_NoCoding) = some false
  ki_BadLength_NoCoding : ExcC K Cad.c_BadLength ∧ PySem.W.kitOne K (.ref Cad.c_BadLength) (.ref Cad.c_NoCoding) = some false
  ki_BadCode_NoCoding : ExcC K Cad.c_BadCode ∧ PySem.W.kitOne K (.ref Cad.c_BadCode) (.ref Cad.c_NoCoding) = some false
  ki_BadName_NoCoding : ExcC K Cad.c_BadName ∧ PySem.W.kitOne K (.ref Cad.c_BadName) (.ref Cad.c_NoCoding) = some false
  it_NothingToDo : IsT K Cad.c_NothingToDo
  ki_Stuck_NothingToDo : ExcC K Cad.c_Stuck ∧ PySem.W.kitOne K (.ref Cad.c_Stuck) (.ref Cad.c_NothingToDo) = some false
  ki_NothingToDo_NothingToDo : ExcC K Cad.c_NothingToDo ∧ PySem.W.kitOne K (.ref Cad.c_NothingToDo) (.ref Cad.c_NothingToDo) = some true
  ki_NoCoding_NothingToDo : ExcC K Cad.c_NoCoding ∧ PySem.W.kitOne K (.ref Cad.c_NoCoding) (.ref Cad.c_NothingToDo) = some false
  ki_NameTaken_NothingToDo : ExcC K Cad.c_NameTaken ∧ PySem.W.kitOne K (.ref Cad.c_NameTaken) (.ref Cad.c_NothingToDo) = some false
  ki_UnknownName_NothingToDo : ExcC K Cad.c_UnknownName ∧ PySem.W.kitOne K (.ref Cad.c_UnknownName) (.ref Cad.c_NothingToDo) = some false
  ki_BadCommand_NothingToDo : ExcC K Cad.c_BadCommand ∧ PySem.W.kitOne K (.ref Cad.c_BadCommand) (.ref Cad.c_NothingToDo) = some false
  ki_BadText_NothingToDo : ExcC K Cad.c_BadText ∧ PySem.W.kitOne K (.ref Cad.c_BadText) (.ref Cad.c_NothingToDo) = some false
  ki_BadClock_NothingToDo : ExcC K Cad.c_BadClock ∧ PySem.W.kitOne K (.ref Cad.c_BadClock) (.ref Cad.c_NothingToDo) = some false
  ki_BadCost_NothingToDo : ExcC K Cad.c_BadCost ∧ PySem.W.kitOne K (.ref Cad.c_BadCost) (.ref Cad.c_NothingToDo) = some false
  ki_BadLength_NothingToDo : ExcC K Cad.c_BadLength ∧ PySem.W.kitOne K (.ref Cad.c_BadLength) (.ref Cad.c_NothingToDo) = some false
  ki_BadCode_NothingToDo : ExcC K Cad.c_BadCode ∧ PySem.W.kitOne K (.ref Cad.c_BadCode) (.ref Cad.c_NothingToDo) = some false
  ki_BadName_NothingToDo : ExcC K Cad.c_BadName ∧ PySem.W.kitOne K (.ref Cad.c_BadName) (.ref Cad.c_NothingToDo) = some false
  it_BadClock : IsT K Cad.c_BadClock
  ki_Stuck_BadClock : ExcC K Cad.c_Stuck ∧ PySem.W.kitOne K (.ref Cad.c_Stuck) (.ref Cad.c_BadClock) = some false
  ki_NothingToDo_BadClock : ExcC K Cad.c_NothingToDo ∧ PySem.W.kitOne K (.ref Cad.c_NothingToDo) (.ref Cad.c_BadClock) = some false
  ki_NoCoding_BadClock : ExcC K Cad.c_NoCoding ∧ PySem.W.kitOne K (.ref Cad.c_NoCoding) (.ref Cad.c_BadClock) = some false
  ki_NameTaken_BadClock : ExcC K Cad.c_NameTaken ∧ PySem.W.kitOne K (.ref Cad.c_NameTaken) (.ref Cad.c_BadClock) = some false
  ki_UnknownName_BadClock : ExcC K Cad.c_UnknownName ∧ PySem.W.kitOne K (.ref Cad.c_UnknownName) (.ref Cad.c_BadClock) = some false
  ki_BadCommand_BadClock : ExcC K Cad.c_BadCommand ∧ PySem.W.kitOne K (.ref Cad.c_BadCommand) (.ref Cad.c_BadClock) = some false
  ki_BadText_BadClock : ExcC K Cad.c_BadText ∧ PySem.W.kitOne K (.ref Cad.c_BadText) (.ref Cad.c_BadClock) = some false
  ki_BadClock_BadClock : ExcC K Cad.c_BadClock ∧ PySem.W.kitOne K (.ref Cad.c_BadClock) (.ref Cad.c_BadClock) = some true
  ki_BadCost_BadClock : ExcC K Cad.c_BadCost ∧ PySem.W.kitOne K (.ref Cad.c_BadCost) (.ref Cad.c_BadClock) = some false
  ki_BadLength_BadClock : ExcC K Cad.c_BadLength ∧ PySem.W.kitOne K (.ref Cad.c_BadLength) (.ref Cad.c_BadClock) = some false
  ki_BadCode_BadClock : ExcC K Cad.c_BadCode ∧ PySem.W.kitOne K (.ref Cad.c_BadCode) (.ref Cad.c_BadClock) = some false
  ki_BadName_BadClock : ExcC K Cad.c_BadName ∧ PySem.W.kitOne K (.ref Cad.c_BadName) (.ref Cad.c_BadClock) = some false
  it_Stuck : IsT K Cad.c_Stuck
  ki_Stuck_Stuck : ExcC K Cad.c_Stuck ∧ PySem.W.kitOne K (.ref Cad.c_Stuck) (.ref Cad.c_Stuck) = some true
  ki_NothingToDo_Stuck : ExcC K Cad.c_NothingToDo ∧ PySem.W.kitOne K (.ref Cad.c_NothingToDo) (.ref Cad.c_Stuck) = some false
  ki_NoCoding_Stuck : ExcC K Cad.c_NoCoding ∧ PySem.W.kitOne K (.ref Cad.c_NoCoding) (.ref Cad.c_Stuck) = some false
  ki_NameTaken_Stuck : ExcC K Cad.c_NameTaken ∧ PySem.W.kitOne K (.ref Cad.c_NameTaken) (.ref Cad.c_Stuck) = some false
  ki_UnknownName_Stuck : ExcC K Cad.c_UnknownName ∧ PySem.W.kitOne K (.ref Cad.c_UnknownName) (.ref Cad.c_Stuck) = some false
  ki_BadCommand_Stuck : ExcC K Cad.c_BadCommand ∧ PySem.W.kitOne K (.ref Cad.c_BadCommand) (.ref Cad.c_Stuck) = some false
  ki_BadText_Stuck : ExcC K Cad.c_BadText ∧ PySem.W.kitOne K (.ref Cad.c_BadText) (.ref Cad.c_Stuck) = some false
  ki_BadClock_Stuck : ExcC K Cad.c_BadClock ∧ PySem.W.kitOne K (.ref Cad.c_BadClock) (.ref Cad.c_Stuck) = some false
  ki_BadCost_Stuck : ExcC K Cad.c_BadCost ∧ PySem.W.kitOne K (.ref Cad.c_BadCost) (.ref Cad.c_Stuck) = some false
  ki_BadLength_Stuck : ExcC K Cad.c_BadLength ∧ PySem.W.kitOne K (.ref Cad.c_BadLength) (.ref Cad.c_Stuck) = some false
  ki_BadCode_Stuck : ExcC K Cad.c_BadCode ∧ PySem.W.kitOne K (.ref Cad.c_BadCode) (.ref Cad.c_Stuck) = some false
  ki_BadName_Stuck : ExcC K Cad.c_BadName ∧ PySem.W.kitOne K (.ref Cad.c_BadName) (.ref Cad.c_Stuck) = some false
/-! ### _law_purse -/
abbrev st__law_purse : Stmt := top 15
theorem sc__law_purse : FnScope ["_law_script", "_law_start", "_law_mixed", "_law_entry", "_law_digits"] ["_law_script", "_law_start"] (defScope st__law_purse) := ⟨rfl, rfl, rfl, by decide +kernel, rfl, by decide +kernel, by decide +kernel⟩
def m__law_purse : SM :=
  (sSeq (sSet 2 (mOp gAdd (mC (.int 2003)) (mOp gMul (mPeek 1) (mC (.int 71)))))
    (sSeq (sFor (gN 3) (mIter (mVar 0)) (sSet 2 (mOp gAdd (mOp (gI (fun _ j => 0 < j) fun i j => i % j) (mOp (gI PowOk fun i j => i ^ j.toNat) (mOp gAdd (mOp gAdd (mOp gMul (mPeek 2) (mC (.int 50021))) (mOp gMul (mPeek 3) (mPeek 3))) (mC (.int 29))) (mC (.int 2))) (mC (.int 2147483543))) (mC (.int 5)))))
    (sSeq (sSet 4 (mIf (mAndT (mTst (mOp (gOrd (fun i j => decide (i < j)) fun s t => decide (s < t)) (mPeek 1) (mCallB gLen (mCons (mPeek 0) mNil)))) (mTst (mOp (gOrd (fun i j => decide (j ≤ i)) fun s t => !decide (s < t)) (mOp gIx (mPeek 0) (mPeek 1)) (mOp (gI PowOk fun i j => i ^ j.toNat) (mC (.int 10)) (mC (.int 18)))))) (mOp (gI0 fun i j => i - j) (mOp gIx (mPeek 0) (mPeek 1)) (mOp (gI PowOk fun i j => i ^ j.toNat) (mC (.int 10)) (mC (.int 18)))) (mC (.int 0))))
    (sRetF (mDct (mPCons (mC (.str [100, 105, 103, 105, 116, 115])) (mVar 4) (mPCons (mC (.str [109, 105, 120, 101, 100])) (mVar 2) mPNil)))))))
/-! ### _law_draw -/
abbrev st__law_draw : Stmt := top 16
theorem sc__law_draw : FnScope ["_law_purse_here", "_law_size", "_law_found"] ["_law_purse_here", "_law_size"] (defScope st__law_draw) := ⟨rfl, rfl, rfl, by decide +kernel, rfl, by decide +kernel, by decide +kernel⟩
def m__law_draw : SM :=
  (sSeq (sIf (mTst (mOp (gOrd (fun i j => decide (j ≤ i)) fun s t => !decide (s < t)) (mOp gIx (mPeek 0) (mC (.str [100, 105, 103, 105, 116, 115]))) (mPeek 1))) (sSeq (sSet 2 (mOp (gI (fun _ j => 0 < j) fun i j => i % j) (mOp gIx (mPeek 0) (mC (.str [100, 105, 103, 105, 116, 115]))) (mPeek 1)))
    (sSeq (sAsg (gPutC (mVar 0) (mC (.str [100, 105, 103, 105, 116, 115]))) (mOp (gI DivOk fun i j => i / j) (mOp gIx (mPeek 0) (mC (.str [100, 105, 103, 105, 116, 115]))) (mPeek 1)))
    (sRetO 2))) sNext)
    (sSeq (sAsg (gPutC (mVar 0) (mC (.str [109, 105, 120, 101, 100]))) (mOp (gI (fun _ j => 0 < j) fun i j => i % j) (mOp gAdd (mOp gMul (mOp gIx (mPeek 0) (mC (.str [109, 105, 120, 101, 100]))) (mC (.int 40692))) (mC (.int 3791))) (mC (.int 2147483399))))
    (sRet (mOp (gI (fun _ j => 0 < j) fun i j => i % j) (mOp (gI DivOk fun i j => i / j) (mOp (gI (fun _ j => 0 < j) fun i j => i % j) (mOp (gI PowOk fun i j => i ^ j.toNat) (mOp (gI (fun _ j => 0 < j) fun i j => i % j) (mOp (gI PowOk fun i j => i ^ j.toNat) (mOp gIx (mPeek 0) (mC (.str [109, 105, 120, 101, 100]))) (mC (.int 2))) (mC (.int 2147483563))) (mC (.int 3))) (mC (.int 1000000007))) (mC (.int 11))) (mPeek 1)))))
/-! ### _law_choose -/
abbrev st__law_choose : Stmt := top 17
theorem sc__law_choose : FnScope ["_law_purse_here", "_law_things"] ["_law_purse_here", "_law_things"] (defScope st__law_choose) := ⟨rfl, rfl, rfl, by decide +kernel, rfl, by decide +kernel, by decide +kernel⟩
def m__law_choose : SM :=
  (sRet (mOp gIx (mPeek 1) (mCall sp__law_draw [] (mCons (mVar 0) (mCons (mCallB gLen (mCons (mPeek 1) mNil)) mNil)))))
/-! ### _law_values -/
abbrev st__law_values : Stmt := top 18
theorem sc__law_values : FnScope ["_law_purse_here", "_law_turn", "_law_some", "_law_found", "_law_turned", "_law_word", "_law_some_names"] ["_law_purse_here", "_law_turn"] (defScope st__law_values) := ⟨rfl, rfl, rfl, by decide +kernel, rfl, by decide +kernel, by decide +kernel⟩
def m__law_values : SM :=
  (sSeq (sSet 2 (mMap Cont.d (mLst (mCons (mC (.int 0)) (mCons (mUn gNeg (mC (.int 1))) (mCons (mOp (gI PowOk fun i j => i ^ j.toNat) (mC (.int 10)) (mC (.int 59))) (mCons (mC (.bl true)) (mCons (mC .non) (mCons (mC (.str [])) (mCons (mC (.str [117, 110, 100, 111])) (mCons (mTup mNil) (mCons (mTup (mCons (mC (.int 0)) (mCons (mTup (mCons (mC (.int 1)) mNil)) mNil))) (mCons (mMap Cont.d (mLst (mCons (mC (.int 1)) (mCons (mVar 1) mNil)))) (mCons (mMap Cont.d (mC (.dct []))) mNil))))))))))))))
    (sSeq (sSetO 3 (mComp [4] (gN 4) (mRng1 (mCons (mC (.int 6)) mNil)) (mC true) (mCall sp__law_choose [] (mCons (mVar 0) (mCons (mVar 2) mNil)))))
    (sSeq (sAsg (gPutO 3 (mC (.int 3))) (mTup (mCons (mC (.int 1)) (mCons (mVar 1) (mCons (mCall sp__law_draw [] (mCons (mVar 0) (mCons (mC (.int 9)) mNil))) mNil)))))
    (sSeq (sSet 5 (mCall sp__law_choose [] (mCons (mVar 0) (mCons (mMap Cont.d (mLst (mCons (mC (.str [97])) (mCons (mC (.str [122, 122])) (mCons (mC (.str [100, 101, 115, 107])) mNil))))) mNil))))
    (sSeq (sSet 6 (mCall sp__law_choose [] (mCons (mVar 0) (mCons (mMap Cont.d (mLst (mCons (mMap Cont.d (mLst (mCons (mC (.str [97])) (mCons (mC (.str [98])) mNil)))) (mCons (mMap Cont.d (mLst (mCons (mC (.str [122, 122])) mNil))) (mCons (mMap Cont.d (mLst (mCons (mC (.str [97])) (mCons (mC (.str [98])) (mCons (mC (.str [99])) mNil))))) mNil))))) mNil))))
    (sSeq (sSet 3 (mOp gAdd (mPeek 3) (mMap Cont.d (mLst (mCons (mVar 5) (mCons (mOp gAdd (mPeek 5) (mC (.str [98]))) (mCons (mVar 6) (mCons (mCall sp__law_choose [] (mCons (mVar 0) (mCons (mMap Cont.d (mLst (mCons (mC (.str [117, 110, 100, 111])) (mCons (mC (.str [114, 101, 100, 111])) mNil)))) mNil))) (mCons (mCall sp__law_choose [] (mCons (mVar 0) (mCons (mVar 2) mNil))) mNil)))))))))
    (sRet (mOp gAdd (mPeek 3) (mMap Cont.d (mLst (mCons (mMap Cont.d (mLst (mCons (mVar 6) (mCons (mMap Cont.d (mLst (mCons (mC (.str [120])) (mCons (mC (.str [121])) mNil)))) mNil)))) mNil)))))))))))
/-! ### _law_made -/
abbrev st__law_made : Stmt := top 21
theorem sc__law_made : FnScope ["_law_one", "_law_some"] ["_law_one"] (defScope st__law_made) := ⟨rfl, rfl, rfl, by decide +kernel, rfl, by decide +kernel, by decide +kernel⟩
def m__law_made : SM :=
  (sSeq (sSet 1 (mMap Cont.d (mLst (mCons (mCallV (spExP Cad.c_BadName "value" 1 0) (mPos (mCons (mOp gIx (mPeek 0) (mC (.int 0))) mNil))) (mCons (mCallV (spExP Cad.c_BadCode "value" 1 0) (mPos (mCons (mOp gIx (mPeek 0) (mC (.int 1))) mNil))) (mCons (mCallV (spExP Cad.c_BadLength "value" 1 0) (mPos (mCons (mOp gIx (mPeek 0) (mC (.int 2))) mNil))) (mCons (mCallV (spExP Cad.c_BadCost "value" 1 0) (mPos (mCons (mOp gIx (mPeek 0) (mC (.int 3))) mNil))) (mCons (mCallV (spExP Cad.c_BadText "value" 1 0) (mPos (mCons (mOp gIx (mPeek 0) (mC (.int 4))) mNil))) (mCons (mCallV (spExP Cad.c_BadCommand "command" 1 0) (mPos (mCons (mOp gIx (mPeek 0) (mC (.int 5))) mNil))) mNil)))))))))
    (sSeq (sSet 1 (mOp gAdd (mPeek 1) (mMap Cont.d (mLst (mCons (mCallV (spExP Cad.c_UnknownName "name" 1 0) (mPos (mCons (mOp gIx (mPeek 0) (mC (.int 6))) mNil))) (mCons (mCallV (spExP Cad.c_NameTaken "name" 1 0) (mPos (mCons (mOp gIx (mPeek 0) (mC (.int 7))) mNil))) (mCons (mCallV (spExP Cad.c_NoCoding "crowd" 1 0) (mPos (mCons (mOp gIx (mPeek 0) (mC (.int 8))) mNil))) (mCons (mCallV (spExP Cad.c_NothingToDo "action" 1 0) (mPos (mCons (mOp gIx (mPeek 0) (mC (.int 9))) mNil))) mNil))))))))
    (sRet (mOp gAdd (mPeek 1) (mMap Cont.d (mLst (mCons (mCallV (spExP Cad.c_BadClock "value" 1 0) (mPos (mCons (mOp gIx (mPeek 0) (mC (.int 10))) mNil))) (mCons (mCallV (spExP Cad.c_Stuck "circles" 1 0) (mPos (mCons (mOp gIx (mPeek 0) (mC (.int 11))) mNil))) mNil))))))))
/-! ### _law_named -/
abbrev st__law_named : Stmt := top 22
theorem sc__law_named : FnScope ["_law_one", "_law_some"] ["_law_one"] (defScope st__law_named) := ⟨rfl, rfl, rfl, by decide +kernel, rfl, by decide +kernel, by decide +kernel⟩
def m__law_named : SM :=
  (sSeq (sSet 1 (mMap Cont.d (mLst (mCons (mCallV (spExP Cad.c_BadName "value" 0 1) (mPosK mNil (mCons (mOp gIx (mPeek 0) (mC (.int 0))) mNil))) (mCons (mCallV (spExP Cad.c_BadCode "value" 0 1) (mPosK mNil (mCons (mOp gIx (mPeek 0) (mC (.int 1))) mNil))) (mCons (mCallV (spExP Cad.c_BadLength "value" 0 1) (mPosK mNil (mCons (mOp gIx (mPeek 0) (mC (.int 2))) mNil))) (mCons (mCallV (spExP Cad.c_BadCost "value" 0 1) (mPosK mNil (mCons (mOp gIx (mPeek 0) (mC (.int 3))) mNil))) mNil)))))))
    (sSeq (sSet 1 (mOp gAdd (mPeek 1) (mMap Cont.d (mLst (mCons (mCallV (spExP Cad.c_BadText "value" 0 1) (mPosK mNil (mCons (mOp gIx (mPeek 0) (mC (.int 4))) mNil))) (mCons (mCallV (spExP Cad.c_BadCommand "command" 0 1) (mPosK mNil (mCons (mOp gIx (mPeek 0) (mC (.int 5))) mNil))) (mCons (mCallV (spExP Cad.c_UnknownName "name" 0 1) (mPosK mNil (mCons (mOp gIx (mPeek 0) (mC (.int 6))) mNil))) mNil)))))))
    (sSeq (sSet 1 (mOp gAdd (mPeek 1) (mMap Cont.d (mLst (mCons (mCallV (spExP Cad.c_NameTaken "name" 0 1) (mPosK mNil (mCons (mOp gIx (mPeek 0) (mC (.int 7))) mNil))) (mCons (mCallV (spExP Cad.c_NoCoding "crowd" 0 1) (mPosK mNil (mCons (mOp gIx (mPeek 0) (mC (.int 8))) mNil))) (mCons (mCallV (spExP Cad.c_NothingToDo "action" 0 1) (mPosK mNil (mCons (mOp gIx (mPeek 0) (mC (.int 9))) mNil))) mNil)))))))
    (sRet (mOp gAdd (mPeek 1) (mMap Cont.d (mLst (mCons (mCallV (spExP Cad.c_BadClock "value" 0 1) (mPosK mNil (mCons (mOp gIx (mPeek 0) (mC (.int 10))) mNil))) (mCons (mCallV (spExP Cad.c_Stuck "circles" 0 1) (mPosK mNil (mCons (mOp gIx (mPeek 0) (mC (.int 11))) mNil))) mNil)))))))))
/-! ### _law_kinds -/
abbrev st__law_kinds : Stmt := top 19
theorem sc__law_kinds : FnScope ["_law_error", "_law_kinds_here"] ["_law_error"] (defScope st__law_kinds) := ⟨rfl, rfl, rfl, by decide +kernel, rfl, by decide +kernel, by decide +kernel⟩
def m__law_kinds : SM :=
  (sSeq (sSet 1 (mMap Cont.d (mLst (mCons (mExI [(Cad.c_BadName, true), (Cad.c_BadCode, false), (Cad.c_BadLength, false), (Cad.c_BadCost, false), (Cad.c_BadClock, false), (Cad.c_BadText, false), (Cad.c_BadCommand, false), (Cad.c_UnknownName, false), (Cad.c_NameTaken, false), (Cad.c_NoCoding, false), (Cad.c_NothingToDo, false), (Cad.c_Stuck, false)] (mVar 0)) (mCons (mExI [(Cad.c_BadName, false), (Cad.c_BadCode, true), (Cad.c_BadLength, false), (Cad.c_BadCost, false), (Cad.c_BadClock, false), (Cad.c_BadText, false), (Cad.c_BadCommand, false), (Cad.c_UnknownName, false), (Cad.c_NameTaken, false), (Cad.c_NoCoding, false), (Cad.c_NothingToDo, false), (Cad.c_Stuck, false)] (mVar 0)) (mCons (mExI [(Cad.c_BadName, false), (Cad.c_BadCode, false), (Cad.c_BadLength, true), (Cad.c_BadCost, false), (Cad.c_BadClock, false), (Cad.c_BadText, false), (Cad.c_BadCommand, false), (Cad.c_UnknownName, false), (Cad.c_NameTaken, false), (Cad.c_NoCoding, false), (Cad.c_NothingToDo, false), (Cad.c_Stuck, false)] (mVar 0)) mNil))))))
    (sSeq (sSet 1 (mOp gAdd (mPeek 1) (mMap Cont.d (mLst (mCons (mExI [(Cad.c_BadName, false), (Cad.c_BadCode, false), (Cad.c_BadLength, false), (Cad.c_BadCost, true), (Cad.c_BadClock, false), (Cad.c_BadText, false), (Cad.c_BadCommand, false), (Cad.c_UnknownName, false), (Cad.c_NameTaken, false), (Cad.c_NoCoding, false), (Cad.c_NothingToDo, false), (Cad.c_Stuck, false)] (mVar 0)) (mCons (mExI [(Cad.c_BadName, false), (Cad.c_BadCode, false), (Cad.c_BadLength, false), (Cad.c_BadCost, false), (Cad.c_BadClock, false), (Cad.c_BadText, true), (Cad.c_BadCommand, false), (Cad.c_UnknownName, false), (Cad.c_NameTaken, false), (Cad.c_NoCoding, false), (Cad.c_NothingToDo, false), (Cad.c_Stuck, false)] (mVar 0)) (mCons (mExI [(Cad.c_BadName, false), (Cad.c_BadCode, false), (Cad.c_BadLength, false), (Cad.c_BadCost, false), (Cad.c_BadClock, false), (Cad.c_BadText, false), (Cad.c_BadCommand, true), (Cad.c_UnknownName, false), (Cad.c_NameTaken, false), (Cad.c_NoCoding, false), (Cad.c_NothingToDo, false), (Cad.c_Stuck, false)] (mVar 0)) mNil)))))))
    (sSeq (sSet 1 (mOp gAdd (mPeek 1) (mMap Cont.d (mLst (mCons (mExI [(Cad.c_BadName, false), (Cad.c_BadCode, false), (Cad.c_BadLength, false), (Cad.c_BadCost, false), (Cad.c_BadClock, false), (Cad.c_BadText, false), (Cad.c_BadCommand, false), (Cad.c_UnknownName, true), (Cad.c_NameTaken, false), (Cad.c_NoCoding, false), (Cad.c_NothingToDo, false), (Cad.c_Stuck, false)] (mVar 0)) (mCons (mExI [(Cad.c_BadName, false), (Cad.c_BadCode, false), (Cad.c_BadLength, false), (Cad.c_BadCost, false), (Cad.c_BadClock, false), (Cad.c_BadText, false), (Cad.c_BadCommand, false), (Cad.c_UnknownName, false), (Cad.c_NameTaken, true), (Cad.c_NoCoding, false), (Cad.c_NothingToDo, false), (Cad.c_Stuck, false)] (mVar 0)) (mCons (mExI [(Cad.c_BadName, false), (Cad.c_BadCode, false), (Cad.c_BadLength, false), (Cad.c_BadCost, false), (Cad.c_BadClock, false), (Cad.c_BadText, false), (Cad.c_BadCommand, false), (Cad.c_UnknownName, false), (Cad.c_NameTaken, false), (Cad.c_NoCoding, true), (Cad.c_NothingToDo, false), (Cad.c_Stuck, false)] (mVar 0)) mNil)))))))
    (sRet (mOp gAdd (mPeek 1) (mMap Cont.d (mLst (mCons (mExI [(Cad.c_BadName, false), (Cad.c_BadCode, false), (Cad.c_BadLength, false), (Cad.c_BadCost, false), (Cad.c_BadClock, false), (Cad.c_BadText, false), (Cad.c_BadCommand, false), (Cad.c_UnknownName, false), (Cad.c_NameTaken, false), (Cad.c_NoCoding, false), (Cad.c_NothingToDo, true), (Cad.c_Stuck, false)] (mVar 0)) (mCons (mExI [(Cad.c_BadName, false), (Cad.c_BadCode, false), (Cad.c_BadLength, false), (Cad.c_BadCost, false), (Cad.c_BadClock, true), (Cad.c_BadText, false), (Cad.c_BadCommand, false), (Cad.c_UnknownName, false), (Cad.c_NameTaken, false), (Cad.c_NoCoding, false), (Cad.c_NothingToDo, false), (Cad.c_Stuck, false)] (mVar 0)) (mCons (mExI [(Cad.c_BadName, false), (Cad.c_BadCode, false), (Cad.c_BadLength, false), (Cad.c_BadCost, false), (Cad.c_BadClock, false), (Cad.c_BadText, false), (Cad.c_BadCommand, false), (Cad.c_UnknownName, false), (Cad.c_NameTaken, false), (Cad.c_NoCoding, false), (Cad.c_NothingToDo, false), (Cad.c_Stuck, true)] (mVar 0)) mNil))))))))))
/-! ### _law_of_one_kind -/
abbrev st__law_of_one_kind : Stmt := top 20
theorem sc__law_of_one_kind : FnScope ["_law_error", "_law_at", "_law_k"] ["_law_error", "_law_at"] (defScope st__law_of_one_kind) := ⟨rfl, rfl, rfl, by decide +kernel, rfl, by decide +kernel, by decide +kernel⟩
def m__law_of_one_kind : SM :=
  (sSeq (sIf (mOrT (mNotT (mTru (mExI [(Cad.c_BadName, true), (Cad.c_BadCode, true), (Cad.c_BadLength, true), (Cad.c_BadCost, true), (Cad.c_BadClock, true), (Cad.c_BadText, true), (Cad.c_BadCommand, true), (Cad.c_UnknownName, true), (Cad.c_NameTaken, true), (Cad.c_NoCoding, true), (Cad.c_NothingToDo, true), (Cad.c_Stuck, true)] (mVar 0)))) (mNotT (mTru (mExI [(Cad.c_BadName, true), (Cad.c_BadCode, true), (Cad.c_BadLength, true), (Cad.c_BadCost, true), (Cad.c_BadClock, true), (Cad.c_BadText, true), (Cad.c_BadCommand, true), (Cad.c_UnknownName, true), (Cad.c_NameTaken, true), (Cad.c_NoCoding, true), (Cad.c_NothingToDo, true), (Cad.c_Stuck, true)] (mVar 0))))) (sRet (mC (.bl false))) sNext)
    (sRet (mOp (gEq false) (mCall sp__law_kinds [] (mCons (mVar 0) mNil)) (mMap Cont.d (mComp [2] (gN 2) (mRng1 (mCons (mC (.int 12)) mNil)) (mC true) (mOp (gEq false) (mPeek 2) (mPeek 1)))))))
/-! ### law -/
abbrev st_law : Stmt := top 23
theorem sc_law : FnScope ["_law_script", "_law_start", "_law_purse_here", "_law_turn", "_law_one", "_law_other", "_law_own", "_law_some", "_law_more", "_law_kept", "_law_errors", "_law_due", "_law_found", "_law_at", "_law_error"] ["_law_script"] (defScope st_law) := ⟨rfl, rfl, rfl, by decide +kernel, rfl, by decide +kernel, by decide +kernel⟩
def m_law : SM :=
  (sSeq (sFor (gN 1) (mRng1 (mCons (mCallB (g2I fun i j => if j > i then j else i) (mCons (mC (.int 1)) (mCons (mCallB (g2I fun i j => if j < i then j else i) (mCons (mC (.int 4)) (mCons (mCallB gLen (mCons (mPeek 0) mNil)) mNil))) mNil))) mNil)) (sSeq (sSetPur 2 (mCallF sp__law_purse [] (mCons (mVar 0) (mCons (mVar 1) mNil))))
    (sFor (gN 3) (mRng1 (mCons (mC (.int 4)) mNil)) (sSeq (sPar3 4 5 6 (mCons (mCall sp__law_values [] (mCons (mVar 2) (mCons (mVar 3) mNil))) (mCons (mCall sp__law_values [] (mCons (mVar 2) (mCons (mVar 3) mNil))) (mCons (mLstC (mCons (mC (.str [97])) mNil)) mNil))))
    (sSeq (sPar 7 8 (mCons (mCall sp__law_made [] (mCons (mVar 4) mNil)) (mCons (mCall sp__law_named [] (mCons (mVar 5) mNil)) mNil)))
    (sSeq (sSet 9 (mMap Cont.d (mLst (mCons (mExA [Cad.c_BadName, Cad.c_BadCode, Cad.c_BadLength, Cad.c_BadCost, Cad.c_BadClock, Cad.c_BadText] "value" (mCallV (spExP Cad.c_BadName "value" 1 0) (mPos (mCons (mVar 6) mNil)))) (mCons (mExA [Cad.c_BadName, Cad.c_BadCode, Cad.c_BadLength, Cad.c_BadCost, Cad.c_BadClock, Cad.c_BadText] "value" (mCallV (spExP Cad.c_BadCode "value" 1 0) (mPos (mCons (mVar 6) mNil)))) (mCons (mExA [Cad.c_BadName, Cad.c_BadCode, Cad.c_BadLength, Cad.c_BadCost, Cad.c_BadClock, Cad.c_BadText] "value" (mCallV (spExP Cad.c_BadLength "value" 1 0) (mPos (mCons (mVar 6) mNil)))) mNil))))))
    (sSeq (sSet 9 (mOp gAdd (mPeek 9) (mMap Cont.d (mLst (mCons (mExA [Cad.c_BadName, Cad.c_BadCode, Cad.c_BadLength, Cad.c_BadCost, Cad.c_BadClock, Cad.c_BadText] "value" (mCallV (spExP Cad.c_BadText "value" 1 0) (mPos (mCons (mVar 6) mNil)))) (mCons (mExA [Cad.c_BadCommand] "command" (mCallV (spExP Cad.c_BadCommand "command" 1 0) (mPos (mCons (mVar 6) mNil)))) (mCons (mExA [Cad.c_NoCoding] "crowd" (mCallV (spExP Cad.c_NoCoding "crowd" 1 0) (mPos (mCons (mVar 6) mNil)))) (mCons (mExA [Cad.c_BadName, Cad.c_BadCode, Cad.c_BadLength, Cad.c_BadCost, Cad.c_BadClock, Cad.c_BadText] "value" (mCallV (spExP Cad.c_BadClock "value" 1 0) (mPos (mCons (mVar 6) mNil)))) mNil))))))))
    (sSeq (sAppC (mVar 6) (mC (.str [98])))
    (sSeq (sIf (mTst (mOp (gEq true) (mHidG (mCallB gRepr (mCons (mPeek 9) mNil))) (mCallB gRepr (mCons (mOp gMul (mMap Cont.d (mLst (mCons (mMap Cont.d (mLst (mCons (mC (.str [97])) (mCons (mC (.str [98])) mNil)))) mNil))) (mC (.int 7))) mNil)))) (sRet (mC (.bl false))) sNext)
    (sFor (gTupD 2 (gsCons (gN 10) (gsCons (gN 11) gsNil))) (mIter (mMap Cont.d (mLst (mCons (mTup (mCons (mVar 7) (mCons (mVar 4) mNil))) (mCons (mTup (mCons (mVar 8) (mCons (mVar 5) mNil))) (mCons (mTup (mCons (mVar 7) (mCons (mVar 4) mNil))) mNil)))))) (sSeq (sSet 12 (mMap Cont.d (mLst (mCons (mExA [Cad.c_BadName, Cad.c_BadCode, Cad.c_BadLength, Cad.c_BadCost, Cad.c_BadClock, Cad.c_BadText] "value" (mOp gIx (mPeek 10) (mC (.int 0)))) (mCons (mExA [Cad.c_BadName, Cad.c_BadCode, Cad.c_BadLength, Cad.c_BadCost, Cad.c_BadClock, Cad.c_BadText] "value" (mOp gIx (mPeek 10) (mC (.int 1)))) (mCons (mExA [Cad.c_BadName, Cad.c_BadCode, Cad.c_BadLength, Cad.c_BadCost, Cad.c_BadClock, Cad.c_BadText] "value" (mOp gIx (mPeek 10) (mC (.int 2)))) (mCons (mExA [Cad.c_BadName, Cad.c_BadCode, Cad.c_BadLength, Cad.c_BadCost, Cad.c_BadClock, Cad.c_BadText] "value" (mOp gIx (mPeek 10) (mC (.int 3)))) (mCons (mExA [Cad.c_BadName, Cad.c_BadCode, Cad.c_BadLength, Cad.c_BadCost, Cad.c_BadClock, Cad.c_BadText] "value" (mOp gIx (mPeek 10) (mC (.int 4)))) mNil))))))))
    (sSeq (sSet 12 (mOp gAdd (mPeek 12) (mMap Cont.d (mLst (mCons (mExA [Cad.c_BadCommand] "command" (mOp gIx (mPeek 10) (mC (.int 5)))) (mCons (mExA [Cad.c_UnknownName, Cad.c_NameTaken] "name" (mOp gIx (mPeek 10) (mC (.int 6)))) (mCons (mExA [Cad.c_UnknownName, Cad.c_NameTaken] "name" (mOp gIx (mPeek 10) (mC (.int 7)))) (mCons (mExA [Cad.c_NoCoding] "crowd" (mOp gIx (mPeek 10) (mC (.int 8)))) (mCons (mExA [Cad.c_NothingToDo] "action" (mOp gIx (mPeek 10) (mC (.int 9)))) mNil)))))))))
    (sSeq (sSet 12 (mOp gAdd (mPeek 12) (mMap Cont.d (mLst (mCons (mExA [Cad.c_BadName, Cad.c_BadCode, Cad.c_BadLength, Cad.c_BadCost, Cad.c_BadClock, Cad.c_BadText] "value" (mOp gIx (mPeek 10) (mC (.int 10)))) (mCons (mExA [Cad.c_Stuck] "circles" (mOp gIx (mPeek 10) (mC (.int 11)))) mNil))))))
    (sSeq (sIf (mTst (mOp (gEq true) (mCallB gRepr (mCons (mPeek 12) mNil)) (mCallB gRepr (mCons (mPeek 11) mNil)))) (sRet (mC (.bl false))) sNext)
    (sIf (mTst (mOp (gIn false) (mC (.bl false)) (mMap Cont.d (mComp [13, 14] (gTupD 2 (gsCons (gN 13) (gsCons (gN 14) gsNil))) (mEnum (mCons (mVar 10) mNil)) (mC true) (mCall sp__law_of_one_kind [] (mCons (mVar 14) (mCons (mVar 13) mNil))))))) (sRet (mC (.bl false))) sNext)))))))))))))))
    (sRet (mC (.bl true))))
end
end L2.DL
namespace L2.DL
open PySem PySem.Spec PyProof.Rows
section
variable [Cad]
theorem b__law_purse {P : Program} {w : World} {K : PySem.W.Frag} {mg : Str → Option Value} {base : Heap} (T : Gls K mg) (hbase : ∃ o, base.get? sysModules = some o)  {f : Addr} {cdv : Value} {A : Around} {fr : List PySem.Env} {s : Shared} {H : Hp} {E : XK} (gd : Gd A)
    (hr : Room 0 (A.deeper (envOfC "_law_purse" (defScope st__law_purse) s.heap.objs.size f cdv))) : DSs (BodyX P w K mg base ["_law_script", "_law_start", "_law_mixed", "_law_entry", "_law_digits"] "_law_purse" st__law_purse f cdv A fr s H E) (defBody st__law_purse) m__law_purse :=
  (ds_cons (ds_set (d_op opd_add (DE.pk d_int) (DE.pk (d_op opd_mulA (d_peek (pv 1)) (DE.pk d_int)))) (fun h => ps_set (i := 2) sc__law_purse.nd rfl (by first | exact .inl rfl | exact .inr rfl) h))
    (ds_cons (ds_for (passes_of rfl) rfl (di_seq (d_var (pv 0))) (dg_name (pg_name (i := 3) sc__law_purse.nd rfl (by first | exact .inl rfl | exact .inr rfl))) (ds_one (ds_set (d_op opd_add (DE.pk (d_op opd_mod (DE.pk (d_op opd_pow (DE.pk (d_op opd_add (DE.pk (d_op opd_add (DE.pk (d_op opd_mulA (d_peek (pv 2)) (DE.pk d_int))) (DE.pk (d_op opd_mulA (d_peek (pv 3)) (d_peek (pv 3)))))) (DE.pk d_int))) (DE.pk d_int))) (DE.pk d_int))) (DE.pk d_int)) (fun h => ps_set (i := 2) sc__law_purse.nd rfl (by first | exact .inl rfl | exact .inr rfl) h))) (fun _ => rfl))
    (ds_cons (ds_set (d_if (DW.pt (dw_and (dt_cmp opd_lt (d_peek (pv 1)) (DE.pk (d_callB calld_len (da_cons lasts_pk (d_peek (pv 0)) da_nil rfl) (by rfl) T.n_len (by decide +kernel) (by decide) (by decide) rfl rfl)) (nomark _)) (dw_and1 (dt_cmp opd_ge (DE.pk (d_ix hr.u1 (d_peek (pv 0)) (d_peek (pv 1)) (fun _ _ => rfl))) (DE.pk (d_op opd_pow (DE.pk d_int) (DE.pk d_int))) (nomark _))))) (d_op opd_sub (DE.pk (d_ix hr.u1 (d_peek (pv 0)) (d_peek (pv 1)) (fun _ _ => rfl))) (DE.pk (d_op opd_pow (DE.pk d_int) (DE.pk d_int)))) d_int) (fun h => ps_set (i := 4) sc__law_purse.nd rfl (by first | exact .inl rfl | exact .inr rfl) h))
    (ds_one (ds_retF (d_dct (dps_cons (d_strc (by decide +kernel)) (d_var (pv 4)) (dps_cons (d_strc (by decide +kernel)) (d_var (pv 2)) dps_nil)) rfl rfl (by simp) (by decide)))))))
theorem b__law_draw {P : Program} {w : World} {K : PySem.W.Frag} {mg : Str → Option Value} {base : Heap} (T : Gls K mg) (hbase : ∃ o, base.get? sysModules = some o)  {f : Addr} {cdv : Value} {A : Around} {fr : List PySem.Env} {s : Shared} {H : Hp} {E : XK} (gd : Gd A)
    (hr : Room 0 (A.deeper (envOfC "_law_draw" (defScope st__law_draw) s.heap.objs.size f cdv))) : DSs (BodyX P w K mg base ["_law_purse_here", "_law_size", "_law_found"] "_law_draw" st__law_draw f cdv A fr s H E) (defBody st__law_draw) m__law_draw :=
  (ds_cons (ds_if (dt_cmp opd_ge (DE.pk (d_ix hr.u1 (d_peek (pv 0)) (DE.pk (d_strc (by decide +kernel))) (fun _ _ => rfl))) (d_peek (pv 1)) (nomark _)) (ds_cons (ds_set (d_op opd_mod (DE.pk (d_ix hr.u1 (d_peek (pv 0)) (DE.pk (d_strc (by decide +kernel))) (fun _ _ => rfl))) (d_peek (pv 1))) (fun h => ps_set (i := 2) sc__law_draw.nd rfl (by first | exact .inl rfl | exact .inr rfl) h))
    (ds_cons (ds_asg (d_op opd_div (DE.pk (d_ix hr.u1 (d_peek (pv 0)) (DE.pk (d_strc (by decide +kernel))) (fun _ _ => rfl))) (d_peek (pv 1))) (dg_putC hr.u1 (d_var (pv 0)) (d_strc (by decide +kernel)) (fun _ => rfl)) rfl rfl rfl)
    (ds_one (ds_retO (pv 2))))) ds_nil)
    (ds_cons (ds_asg (d_op opd_mod (DE.pk (d_op opd_add (DE.pk (d_op opd_mulA (DE.pk (d_ix hr.u1 (d_peek (pv 0)) (DE.pk (d_strc (by decide +kernel))) (fun _ _ => rfl))) (DE.pk d_int))) (DE.pk d_int))) (DE.pk d_int)) (dg_putC hr.u1 (d_var (pv 0)) (d_strc (by decide +kernel)) (fun _ => rfl)) rfl rfl rfl)
    (ds_one (ds_ret (d_op opd_mod (DE.pk (d_op opd_div (DE.pk (d_op opd_mod (DE.pk (d_op opd_pow (DE.pk (d_op opd_mod (DE.pk (d_op opd_pow (DE.pk (d_ix hr.u1 (d_peek (pv 0)) (DE.pk (d_strc (by decide +kernel))) (fun _ _ => rfl))) (DE.pk d_int))) (DE.pk d_int))) (DE.pk d_int))) (DE.pk d_int))) (DE.pk d_int))) (d_peek (pv 1)))))))
theorem b__law_choose {P : Program} {w : World} {K : PySem.W.Frag} {mg : Str → Option Value} {base : Heap} (T : Gls K mg) (hbase : ∃ o, base.get? sysModules = some o) (c__law_draw : Cle P w K mg base 1 "_law_draw" sp__law_draw) {f : Addr} {cdv : Value} {A : Around} {fr : List PySem.Env} {s : Shared} {H : Hp} {E : XK} (gd : Gd A)
    (hr : Room 1 (A.deeper (envOfC "_law_choose" (defScope st__law_choose) s.heap.objs.size f cdv))) : DSs (BodyX P w K mg base ["_law_purse_here", "_law_things"] "_law_choose" st__law_choose f cdv A fr s H E) (defBody st__law_choose) m__law_choose :=
  (ds_one (ds_ret (d_ix hr.u1 (d_peek (pv 1)) (DE.pk (d_call (c__law_draw.to hr (by decide)) gd (by rfl) (da_cons lasts_shr (d_var (pv 0)) (da_cons lasts_shr (d_callB calld_len (da_cons lasts_pk (d_peek (pv 1)) da_nil rfl) (by rfl) T.n_len (by decide +kernel) (by decide) (by decide) rfl rfl) da_nil rfl) rfl) (by decide) rfl rfl)) (fun _ _ => rfl))))
theorem b__law_values {P : Program} {w : World} {K : PySem.W.Frag} {mg : Str → Option Value} {base : Heap} (T : Gls K mg) (hbase : ∃ o, base.get? sysModules = some o) (c__law_choose : Cle P w K mg base 2 "_law_choose" sp__law_choose) (c__law_draw : Cle P w K mg base 1 "_law_draw" sp__law_draw) {f : Addr} {cdv : Value} {A : Around} {fr : List PySem.Env} {s : Shared} {H : Hp} {E : XK} (gd : Gd A)
    (hr : Room 2 (A.deeper (envOfC "_law_values" (defScope st__law_values) s.heap.objs.size f cdv))) : DSs (BodyX P w K mg base ["_law_purse_here", "_law_turn", "_law_some", "_law_found", "_law_turned", "_law_word", "_law_some_names"] "_law_values" st__law_values f cdv A fr s H E) (defBody st__law_values) m__law_values :=
  (ds_cons (ds_set (DE.frz (d_lst (da_cons lasts_shr d_int (da_cons lasts_shr (d_neg (DE.pk d_int)) (da_cons lasts_shr (d_op opd_pow (DE.pk d_int) (DE.pk d_int)) (da_cons lasts_shr d_bl (da_cons lasts_shr d_non (da_cons lasts_shr (d_strc (by decide +kernel)) (da_cons lasts_shr (d_strc (by decide +kernel)) (da_cons lasts_shr (d_tup da_nil) (da_cons lasts_shr (d_tup (da_cons lasts_shr d_int (da_cons lasts_shr (d_tup (da_cons lasts_shr d_int da_nil rfl)) da_nil rfl) rfl)) (da_cons lasts_shr (DE.frz (d_lst (da_cons lasts_shr d_int (da_cons lasts_shr (d_var (pv 1)) da_nil rfl) rfl))) (da_cons lasts_shr (DE.frz d_dct0) da_nil rfl) rfl) rfl) rfl) rfl) rfl) rfl) rfl) rfl) rfl) rfl))) (fun h => ps_set (i := 2) sc__law_values.nd rfl (by first | exact .inl rfl | exact .inr rfl) h))
    (ds_cons (ds_compO fun _ _ hE => ps_comp (i := 3) (own := [("_law_turned", 4)]) rfl sc__law_values.nd rfl rfl rfl (di_rng1 (by rfl) T.n_range (da_cons lasts_shr d_int da_nil rfl) rfl) (blkOk_by (N := ["_law_purse_here", "_law_turn", "_law_some", "_law_found", "_law_turned", "_law_word", "_law_some_names"]) (sc := defScope st__law_values) (own := [("_law_turned", 4)]) (by decide +kernel)) (fun _ _ _ _ _ => (dgw_name (pg_name (i := 4) sc__law_values.nd rfl (by first | exact .inl rfl | exact .inr rfl)) (by simp))) (fun _ _ _ _ _ => dts_nil) (fun _ _ _ _ _ => (d_call (c__law_choose.to hr (by decide)) gd (by rfl) (da_cons lasts_shr (d_var (pv 0)) (da_cons lasts_shr (d_var (pv 2)) da_nil rfl) rfl) (by decide) rfl rfl)) (fun _ => rfl) hE)
    (ds_cons (ds_asg (d_tup (da_cons lasts_shr d_int (da_cons lasts_shr (d_var (pv 1)) (da_cons lasts_shr (d_call (c__law_draw.to hr (by decide)) gd (by rfl) (da_cons lasts_shr (d_var (pv 0)) (da_cons lasts_shr d_int da_nil rfl) rfl) (by decide) rfl rfl) da_nil rfl) rfl) rfl)) (dg_putO hr.u1 (pv 3) d_int (fun _ => rfl)) rfl rfl rfl)
    (ds_cons (ds_set (d_call (c__law_choose.to hr (by decide)) gd (by rfl) (da_cons lasts_shr (d_var (pv 0)) (da_cons lasts_shr (DE.frz (d_lst (da_cons lasts_shr (d_strc (by decide +kernel)) (da_cons lasts_shr (d_strc (by decide +kernel)) (da_cons lasts_shr (d_strc (by decide +kernel)) da_nil rfl) rfl) rfl))) da_nil rfl) rfl) (by decide) rfl rfl) (fun h => ps_set (i := 5) sc__law_values.nd rfl (by first | exact .inl rfl | exact .inr rfl) h))
    (ds_cons (ds_set (d_call (c__law_choose.to hr (by decide)) gd (by rfl) (da_cons lasts_shr (d_var (pv 0)) (da_cons lasts_shr (DE.frz (d_lst (da_cons lasts_shr (DE.frz (d_lst (da_cons lasts_shr (d_strc (by decide +kernel)) (da_cons lasts_shr (d_strc (by decide +kernel)) da_nil rfl) rfl))) (da_cons lasts_shr (DE.frz (d_lst (da_cons lasts_shr (d_strc (by decide +kernel)) da_nil rfl))) (da_cons lasts_shr (DE.frz (d_lst (da_cons lasts_shr (d_strc (by decide +kernel)) (da_cons lasts_shr (d_strc (by decide +kernel)) (da_cons lasts_shr (d_strc (by decide +kernel)) da_nil rfl) rfl) rfl))) da_nil rfl) rfl) rfl))) da_nil rfl) rfl) (by decide) rfl rfl) (fun h => ps_set (i := 6) sc__law_values.nd rfl (by first | exact .inl rfl | exact .inr rfl) h))
    (ds_cons (ds_set (d_op opd_add (d_peek (pv 3)) (DE.frP (d_lst (da_cons lasts_shr (d_var (pv 5)) (da_cons lasts_shr (d_op opd_add (d_peek (pv 5)) (DE.pk (d_strc (by decide +kernel)))) (da_cons lasts_shr (d_var (pv 6)) (da_cons lasts_shr (d_call (c__law_choose.to hr (by decide)) gd (by rfl) (da_cons lasts_shr (d_var (pv 0)) (da_cons lasts_shr (DE.frz (d_lst (da_cons lasts_shr (d_strc (by decide +kernel)) (da_cons lasts_shr (d_strc (by decide +kernel)) da_nil rfl) rfl))) da_nil rfl) rfl) (by decide) rfl rfl) (da_cons lasts_shr (d_call (c__law_choose.to hr (by decide)) gd (by rfl) (da_cons lasts_shr (d_var (pv 0)) (da_cons lasts_shr (d_var (pv 2)) da_nil rfl) rfl) (by decide) rfl rfl) da_nil rfl) rfl) rfl) rfl) rfl)))) (fun h => ps_set (i := 3) sc__law_values.nd rfl (by first | exact .inl rfl | exact .inr rfl) h))
    (ds_one (ds_ret (d_op opd_add (d_peek (pv 3)) (DE.frP (d_lst (da_cons lasts_shr (DE.frz (d_lst (da_cons lasts_shr (d_var (pv 6)) (da_cons lasts_shr (DE.frz (d_lst (da_cons lasts_shr (d_strc (by decide +kernel)) (da_cons lasts_shr (d_strc (by decide +kernel)) da_nil rfl) rfl))) da_nil rfl) rfl))) da_nil rfl))))))))))))
theorem b__law_made {P : Program} {w : World} {K : PySem.W.Frag} {mg : Str → Option Value} {base : Heap} (T : Gls K mg) (hbase : ∃ o, base.get? sysModules = some o) (x_BadName : QRa P w K mg base 1 "BadName" Cad.c_BadName "value") (ex_BadName : QNm P w K mg base 2 "BadName" [] (spExP Cad.c_BadName "value" 1 0)) (x_BadCode : QRa P w K mg base 1 "BadCode" Cad.c_BadCode "value") (ex_BadCode : QNm P w K mg base 2 "BadCode" [] (spExP Cad.c_BadCode "value" 1 0)) (x_BadLength : QRa P w K mg base 1 "BadLength" Cad.c_BadLength "value") (ex_BadLength : QNm P w K mg base 2 "BadLength" [] (spExP Cad.c_BadLength "value" 1 0)) (x_BadCost : QRa P w K mg base 1 "BadCost" Cad.c_BadCost "value") (ex_BadCost : QNm P w K mg base 2 "BadCost" [] (spExP Cad.c_BadCost "value" 1 0)) (x_BadText : QRa P w K mg base 1 "BadText" Cad.c_BadText "value") (ex_BadText : QNm P w K mg base 2 "BadText" [] (spExP Cad.c_BadText "value" 1 0)) (x_BadCommand : QRa P w K mg base 1 "BadCommand" Cad.c_BadCommand "command") (ex_BadCommand : QNm P w K mg base 2 "BadCommand" [] (spExP Cad.c_BadCommand "command" 1 0)) (x_UnknownName : QRa P w K mg base 1 "UnknownName" Cad.c_UnknownName "name") (ex_UnknownName : QNm P w K mg base 2 "UnknownName" [] (spExP Cad.c_UnknownName "name" 1 0)) (x_NameTaken : QRa P w K mg base 1 "NameTaken" Cad.c_NameTaken "name") (ex_NameTaken : QNm P w K mg base 2 "NameTaken" [] (spExP Cad.c_NameTaken "name" 1 0)) (x_NoCoding : QRa P w K mg base 1 "NoCoding" Cad.c_NoCoding "crowd") (ex_NoCoding : QNm P w K mg base 2 "NoCoding" [] (spExP Cad.c_NoCoding "crowd" 1 0)) (x_NothingToDo : QRa P w K mg base 1 "NothingToDo" Cad.c_NothingToDo "action") (ex_NothingToDo : QNm P w K mg base 2 "NothingToDo" [] (spExP Cad.c_NothingToDo "action" 1 0)) (x_BadClock : QRa P w K mg base 1 "BadClock" Cad.c_BadClock "value") (ex_BadClock : QNm P w K mg base 2 "BadClock" [] (spExP Cad.c_BadClock "value" 1 0)) (x_Stuck : QRa P w K mg base 1 "Stuck" Cad.c_Stuck "circles") (ex_Stuck : QNm P w K mg base 2 "Stuck" [] (spExP Cad.c_Stuck "circles" 1 0)) {f : Addr} {cdv : Value} {A : Around} {fr : List PySem.Env} {s : Shared} {H : Hp} {E : XK} (gd : Gd A)
    (hr : Room 2 (A.deeper (envOfC "_law_made" (defScope st__law_made) s.heap.objs.size f cdv))) : DSs (BodyX P w K mg base ["_law_one", "_law_some"] "_law_made" st__law_made f cdv A fr s H E) (defBody st__law_made) m__law_made :=
  (ds_cons (ds_set (DE.frz (d_lst (da_cons lasts_shr (d_callV (ex_BadName.to hr (by decide)) gd (by rfl) (daj_pos (da_cons lasts_shr (d_ix hr.u1 (d_peek (pv 0)) (DE.pk d_int) (fun _ _ => rfl)) da_nil rfl) rfl (fun _ => rfl)) (by decide)) (da_cons lasts_shr (d_callV (ex_BadCode.to hr (by decide)) gd (by rfl) (daj_pos (da_cons lasts_shr (d_ix hr.u1 (d_peek (pv 0)) (DE.pk d_int) (fun _ _ => rfl)) da_nil rfl) rfl (fun _ => rfl)) (by decide)) (da_cons lasts_shr (d_callV (ex_BadLength.to hr (by decide)) gd (by rfl) (daj_pos (da_cons lasts_shr (d_ix hr.u1 (d_peek (pv 0)) (DE.pk d_int) (fun _ _ => rfl)) da_nil rfl) rfl (fun _ => rfl)) (by decide)) (da_cons lasts_shr (d_callV (ex_BadCost.to hr (by decide)) gd (by rfl) (daj_pos (da_cons lasts_shr (d_ix hr.u1 (d_peek (pv 0)) (DE.pk d_int) (fun _ _ => rfl)) da_nil rfl) rfl (fun _ => rfl)) (by decide)) (da_cons lasts_shr (d_callV (ex_BadText.to hr (by decide)) gd (by rfl) (daj_pos (da_cons lasts_shr (d_ix hr.u1 (d_peek (pv 0)) (DE.pk d_int) (fun _ _ => rfl)) da_nil rfl) rfl (fun _ => rfl)) (by decide)) (da_cons lasts_shr (d_callV (ex_BadCommand.to hr (by decide)) gd (by rfl) (daj_pos (da_cons lasts_shr (d_ix hr.u1 (d_peek (pv 0)) (DE.pk d_int) (fun _ _ => rfl)) da_nil rfl) rfl (fun _ => rfl)) (by decide)) da_nil rfl) rfl) rfl) rfl) rfl) rfl))) (fun h => ps_set (i := 1) sc__law_made.nd rfl (by first | exact .inl rfl | exact .inr rfl) h))
    (ds_cons (ds_set (d_op opd_add (d_peek (pv 1)) (DE.frP (d_lst (da_cons lasts_shr (d_callV (ex_UnknownName.to hr (by decide)) gd (by rfl) (daj_pos (da_cons lasts_shr (d_ix hr.u1 (d_peek (pv 0)) (DE.pk d_int) (fun _ _ => rfl)) da_nil rfl) rfl (fun _ => rfl)) (by decide)) (da_cons lasts_shr (d_callV (ex_NameTaken.to hr (by decide)) gd (by rfl) (daj_pos (da_cons lasts_shr (d_ix hr.u1 (d_peek (pv 0)) (DE.pk d_int) (fun _ _ => rfl)) da_nil rfl) rfl (fun _ => rfl)) (by decide)) (da_cons lasts_shr (d_callV (ex_NoCoding.to hr (by decide)) gd (by rfl) (daj_pos (da_cons lasts_shr (d_ix hr.u1 (d_peek (pv 0)) (DE.pk d_int) (fun _ _ => rfl)) da_nil rfl) rfl (fun _ => rfl)) (by decide)) (da_cons lasts_shr (d_callV (ex_NothingToDo.to hr (by decide)) gd (by rfl) (daj_pos (da_cons lasts_shr (d_ix hr.u1 (d_peek (pv 0)) (DE.pk d_int) (fun _ _ => rfl)) da_nil rfl) rfl (fun _ => rfl)) (by decide)) da_nil rfl) rfl) rfl) rfl)))) (fun h => ps_set (i := 1) sc__law_made.nd rfl (by first | exact .inl rfl | exact .inr rfl) h))
    (ds_one (ds_ret (d_op opd_add (d_peek (pv 1)) (DE.frP (d_lst (da_cons lasts_shr (d_callV (ex_BadClock.to hr (by decide)) gd (by rfl) (daj_pos (da_cons lasts_shr (d_ix hr.u1 (d_peek (pv 0)) (DE.pk d_int) (fun _ _ => rfl)) da_nil rfl) rfl (fun _ => rfl)) (by decide)) (da_cons lasts_shr (d_callV (ex_Stuck.to hr (by decide)) gd (by rfl) (daj_pos (da_cons lasts_shr (d_ix hr.u1 (d_peek (pv 0)) (DE.pk d_int) (fun _ _ => rfl)) da_nil rfl) rfl (fun _ => rfl)) (by decide)) da_nil rfl) rfl))))))))
theorem b__law_named {P : Program} {w : World} {K : PySem.W.Frag} {mg : Str → Option Value} {base : Heap} (T : Gls K mg) (hbase : ∃ o, base.get? sysModules = some o) (x_BadName : QRa P w K mg base 1 "BadName" Cad.c_BadName "value") (exk_BadName : QNm P w K mg base 2 "BadName" ["value"] (spExP Cad.c_BadName "value" 0 1)) (x_BadCode : QRa P w K mg base 1 "BadCode" Cad.c_BadCode "value") (exk_BadCode : QNm P w K mg base 2 "BadCode" ["value"] (spExP Cad.c_BadCode "value" 0 1)) (x_BadLength : QRa P w K mg base 1 "BadLength" Cad.c_BadLength "value") (exk_BadLength : QNm P w K mg base 2 "BadLength" ["value"] (spExP Cad.c_BadLength "value" 0 1)) (x_BadCost : QRa P w K mg base 1 "BadCost" Cad.c_BadCost "value") (exk_BadCost : QNm P w K mg base 2 "BadCost" ["value"] (spExP Cad.c_BadCost "value" 0 1)) (x_BadText : QRa P w K mg base 1 "BadText" Cad.c_BadText "value") (exk_BadText : QNm P w K mg base 2 "BadText" ["value"] (spExP Cad.c_BadText "value" 0 1)) (x_BadCommand : QRa P w K mg base 1 "BadCommand" Cad.c_BadCommand "command") (exk_BadCommand : QNm P w K mg base 2 "BadCommand" ["command"] (spExP Cad.c_BadCommand "command" 0 1)) (x_UnknownName : QRa P w K mg base 1 "UnknownName" Cad.c_UnknownName "name") (exk_UnknownName : QNm P w K mg base 2 "UnknownName" ["name"] (spExP Cad.c_UnknownName "name" 0 1)) (x_NameTaken : QRa P w K mg base 1 "NameTaken" Cad.c_NameTaken "name") (exk_NameTaken : QNm P w K mg base 2 "NameTaken" ["name"] (spExP Cad.c_NameTaken "name" 0 1)) (x_NoCoding : QRa P w K mg base 1 "NoCoding" Cad.c_NoCoding "crowd") (exk_NoCoding : QNm P w K mg base 2 "NoCoding" ["crowd"] (spExP Cad.c_NoCoding "crowd" 0 1)) (x_NothingToDo : QRa P w K mg base 1 "NothingToDo" Cad.c_NothingToDo "action") (exk_NothingToDo : QNm P w K mg base 2 "NothingToDo" ["action"] (spExP Cad.c_NothingToDo "action" 0 1)) (x_BadClock : QRa P w K mg base 1 "BadClock" Cad.c_BadClock "value") (exk_BadClock : QNm P w K mg base 2 "BadClock" ["value"] (spExP Cad.c_BadClock "value" 0 1)) (x_Stuck : QRa P w K mg base 1 "Stuck" Cad.c_Stuck "circles") (exk_Stuck : QNm P w K mg base 2 "Stuck" ["circles"] (spExP Cad.c_Stuck "circles" 0 1)) {f : Addr} {cdv : Value} {A : Around} {fr : List PySem.Env} {s : Shared} {H : Hp} {E : XK} (gd : Gd A)
    (hr : Room 2 (A.deeper (envOfC "_law_named" (defScope st__law_named) s.heap.objs.size f cdv))) : DSs (BodyX P w K mg base ["_law_one", "_law_some"] "_law_named" st__law_named f cdv A fr s H E) (defBody st__law_named) m__law_named :=
  (ds_cons (ds_set (DE.frz (d_lst (da_cons lasts_shr (d_callV (exk_BadName.to hr (by decide)) gd (by rfl) (daj_kw0 (dk_cons (d_ix hr.u1 (d_peek (pv 0)) (DE.pk d_int) (fun _ _ => rfl)) dk_nil) (fun _ => rfl) (fun _ => rfl) (fun _ => rfl)) (by decide)) (da_cons lasts_shr (d_callV (exk_BadCode.to hr (by decide)) gd (by rfl) (daj_kw0 (dk_cons (d_ix hr.u1 (d_peek (pv 0)) (DE.pk d_int) (fun _ _ => rfl)) dk_nil) (fun _ => rfl) (fun _ => rfl) (fun _ => rfl)) (by decide)) (da_cons lasts_shr (d_callV (exk_BadLength.to hr (by decide)) gd (by rfl) (daj_kw0 (dk_cons (d_ix hr.u1 (d_peek (pv 0)) (DE.pk d_int) (fun _ _ => rfl)) dk_nil) (fun _ => rfl) (fun _ => rfl) (fun _ => rfl)) (by decide)) (da_cons lasts_shr (d_callV (exk_BadCost.to hr (by decide)) gd (by rfl) (daj_kw0 (dk_cons (d_ix hr.u1 (d_peek (pv 0)) (DE.pk d_int) (fun _ _ => rfl)) dk_nil) (fun _ => rfl) (fun _ => rfl) (fun _ => rfl)) (by decide)) da_nil rfl) rfl) rfl) rfl))) (fun h => ps_set (i := 1) sc__law_named.nd rfl (by first | exact .inl rfl | exact .inr rfl) h))
    (ds_cons (ds_set (d_op opd_add (d_peek (pv 1)) (DE.frP (d_lst (da_cons lasts_shr (d_callV (exk_BadText.to hr (by decide)) gd (by rfl) (daj_kw0 (dk_cons (d_ix hr.u1 (d_peek (pv 0)) (DE.pk d_int) (fun _ _ => rfl)) dk_nil) (fun _ => rfl) (fun _ => rfl) (fun _ => rfl)) (by decide)) (da_cons lasts_shr (d_callV (exk_BadCommand.to hr (by decide)) gd (by rfl) (daj_kw0 (dk_cons (d_ix hr.u1 (d_peek (pv 0)) (DE.pk d_int) (fun _ _ => rfl)) dk_nil) (fun _ => rfl) (fun _ => rfl) (fun _ => rfl)) (by decide)) (da_cons lasts_shr (d_callV (exk_UnknownName.to hr (by decide)) gd (by rfl) (daj_kw0 (dk_cons (d_ix hr.u1 (d_peek (pv 0)) (DE.pk d_int) (fun _ _ => rfl)) dk_nil) (fun _ => rfl) (fun _ => rfl) (fun _ => rfl)) (by decide)) da_nil rfl) rfl) rfl)))) (fun h => ps_set (i := 1) sc__law_named.nd rfl (by first | exact .inl rfl | exact .inr rfl) h))
    (ds_cons (ds_set (d_op opd_add (d_peek (pv 1)) (DE.frP (d_lst (da_cons lasts_shr (d_callV (exk_NameTaken.to hr (by decide)) gd (by rfl) (daj_kw0 (dk_cons (d_ix hr.u1 (d_peek (pv 0)) (DE.pk d_int) (fun _ _ => rfl)) dk_nil) (fun _ => rfl) (fun _ => rfl) (fun _ => rfl)) (by decide)) (da_cons lasts_shr (d_callV (exk_NoCoding.to hr (by decide)) gd (by rfl) (daj_kw0 (dk_cons (d_ix hr.u1 (d_peek (pv 0)) (DE.pk d_int) (fun _ _ => rfl)) dk_nil) (fun _ => rfl) (fun _ => rfl) (fun _ => rfl)) (by decide)) (da_cons lasts_shr (d_callV (exk_NothingToDo.to hr (by decide)) gd (by rfl) (daj_kw0 (dk_cons (d_ix hr.u1 (d_peek (pv 0)) (DE.pk d_int) (fun _ _ => rfl)) dk_nil) (fun _ => rfl) (fun _ => rfl) (fun _ => rfl)) (by decide)) da_nil rfl) rfl) rfl)))) (fun h => ps_set (i := 1) sc__law_named.nd rfl (by first | exact .inl rfl | exact .inr rfl) h))
    (ds_one (ds_ret (d_op opd_add (d_peek (pv 1)) (DE.frP (d_lst (da_cons lasts_shr (d_callV (exk_BadClock.to hr (by decide)) gd (by rfl) (daj_kw0 (dk_cons (d_ix hr.u1 (d_peek (pv 0)) (DE.pk d_int) (fun _ _ => rfl)) dk_nil) (fun _ => rfl) (fun _ => rfl) (fun _ => rfl)) (by decide)) (da_cons lasts_shr (d_callV (exk_Stuck.to hr (by decide)) gd (by rfl) (daj_kw0 (dk_cons (d_ix hr.u1 (d_peek (pv 0)) (DE.pk d_int) (fun _ _ => rfl)) dk_nil) (fun _ => rfl) (fun _ => rfl) (fun _ => rfl)) (by decide)) da_nil rfl) rfl)))))))))
theorem b__law_kinds {P : Program} {w : World} {K : PySem.W.Frag} {mg : Str → Option Value} {base : Heap} (T : Gls K mg) (hbase : ∃ o, base.get? sysModules = some o)  {f : Addr} {cdv : Value} {A : Around} {fr : List PySem.Env} {s : Shared} {H : Hp} {E : XK} (gd : Gd A)
    (hr : Room 0 (A.deeper (envOfC "_law_kinds" (defScope st__law_kinds) s.heap.objs.size f cdv))) : DSs (BodyX P w K mg base ["_law_error", "_law_kinds_here"] "_law_kinds" st__law_kinds f cdv A fr s H E) (defBody st__law_kinds) m__law_kinds :=
  (ds_cons (ds_set (DE.frz (d_lst (da_cons lasts_shr (d_exI (tv := .ref Cad.c_BadName) (T := .ref Cad.c_BadName) (fun _ h => h) (xit_cons T.ki_BadName_BadName (xit_cons T.ki_BadCode_BadName (xit_cons T.ki_BadLength_BadName (xit_cons T.ki_BadCost_BadName (xit_cons T.ki_BadClock_BadName (xit_cons T.ki_BadText_BadName (xit_cons T.ki_BadCommand_BadName (xit_cons T.ki_UnknownName_BadName (xit_cons T.ki_NameTaken_BadName (xit_cons T.ki_NoCoding_BadName (xit_cons T.ki_NothingToDo_BadName (xit_cons T.ki_Stuck_BadName xit_nil)))))))))))) (d_var (pv 0)) (pe_glob (v := .ref Cad.c_BadName) (by rfl) T.g_BadName rfl (by decide)) (by rfl) T.n_isinstance rfl rfl rfl) (da_cons lasts_shr (d_exI (tv := .ref Cad.c_BadCode) (T := .ref Cad.c_BadCode) (fun _ h => h) (xit_cons T.ki_BadName_BadCode (xit_cons T.ki_BadCode_BadCode (xit_cons T.ki_BadLength_BadCode (xit_cons T.ki_BadCost_BadCode (xit_cons T.ki_BadClock_BadCode (xit_cons T.ki_BadText_BadCode (xit_cons T.ki_BadCommand_BadCode (xit_cons T.ki_UnknownName_BadCode (xit_cons T.ki_NameTaken_BadCode (xit_cons T.ki_NoCoding_BadCode (xit_cons T.ki_NothingToDo_BadCode (xit_cons T.ki_Stuck_BadCode xit_nil)))))))))))) (d_var (pv 0)) (pe_glob (v := .ref Cad.c_BadCode) (by rfl) T.g_BadCode rfl (by decide)) (by rfl) T.n_isinstance rfl rfl rfl) (da_cons lasts_shr (d_exI (tv := .ref Cad.c_BadLength) (T := .ref Cad.c_BadLength) (fun _ h => h) (xit_cons T.ki_BadName_BadLength (xit_cons T.ki_BadCode_BadLength (xit_cons T.ki_BadLength_BadLength (xit_cons T.ki_BadCost_BadLength (xit_cons T.ki_BadClock_BadLength (xit_cons T.ki_BadText_BadLength (xit_cons T.ki_BadCommand_BadLength (xit_cons T.ki_UnknownName_BadLength (xit_cons T.ki_NameTaken_BadLength (xit_cons T.ki_NoCoding_BadLength (xit_cons T.ki_NothingToDo_BadLength (xit_cons T.ki_Stuck_BadLength xit_nil)))))))))))) (d_var (pv 0)) (pe_glob (v := .ref Cad.c_BadLength) (by rfl) T.g_BadLength rfl (by decide)) (by rfl) T.n_isinstance rfl rfl rfl) da_nil rfl) rfl) rfl))) (fun h => ps_set (i := 1) sc__law_kinds.nd rfl (by first | exact .inl rfl | exact .inr rfl) h))
    (ds_cons (ds_set (d_op opd_add (d_peek (pv 1)) (DE.frP (d_lst (da_cons lasts_shr (d_exI (tv := .ref Cad.c_BadCost) (T := .ref Cad.c_BadCost) (fun _ h => h) (xit_cons T.ki_BadName_BadCost (xit_cons T.ki_BadCode_BadCost (xit_cons T.ki_BadLength_BadCost (xit_cons T.ki_BadCost_BadCost (xit_cons T.ki_BadClock_BadCost (xit_cons T.ki_BadText_BadCost (xit_cons T.ki_BadCommand_BadCost (xit_cons T.ki_UnknownName_BadCost (xit_cons T.ki_NameTaken_BadCost (xit_cons T.ki_NoCoding_BadCost (xit_cons T.ki_NothingToDo_BadCost (xit_cons T.ki_Stuck_BadCost xit_nil)))))))))))) (d_var (pv 0)) (pe_glob (v := .ref Cad.c_BadCost) (by rfl) T.g_BadCost rfl (by decide)) (by rfl) T.n_isinstance rfl rfl rfl) (da_cons lasts_shr (d_exI (tv := .ref Cad.c_BadText) (T := .ref Cad.c_BadText) (fun _ h => h) (xit_cons T.ki_BadName_BadText (xit_cons T.ki_BadCode_BadText (xit_cons T.ki_BadLength_BadText (xit_cons T.ki_BadCost_BadText (xit_cons T.ki_BadClock_BadText (xit_cons T.ki_BadText_BadText (xit_cons T.ki_BadCommand_BadText (xit_cons T.ki_UnknownName_BadText (xit_cons T.ki_NameTaken_BadText (xit_cons T.ki_NoCoding_BadText (xit_cons T.ki_NothingToDo_BadText (xit_cons T.ki_Stuck_BadText xit_nil)))))))))))) (d_var (pv 0)) (pe_glob (v := .ref Cad.c_BadText) (by rfl) T.g_BadText rfl (by decide)) (by rfl) T.n_isinstance rfl rfl rfl) (da_cons lasts_shr (d_exI (tv := .ref Cad.c_BadCommand) (T := .ref Cad.c_BadCommand) (fun _ h => h) (xit_cons T.ki_BadName_BadCommand (xit_cons T.ki_BadCode_BadCommand (xit_cons T.ki_BadLength_BadCommand (xit_cons T.ki_BadCost_BadCommand (xit_cons T.ki_BadClock_BadCommand (xit_cons T.ki_BadText_BadCommand (xit_cons T.ki_BadCommand_BadCommand (xit_cons T.ki_UnknownName_BadCommand (xit_cons T.ki_NameTaken_BadCommand (xit_cons T.ki_NoCoding_BadCommand (xit_cons T.ki_NothingToDo_BadCommand (xit_cons T.ki_Stuck_BadCommand xit_nil)))))))))))) (d_var (pv 0)) (pe_glob (v := .ref Cad.c_BadCommand) (by rfl) T.g_BadCommand rfl (by decide)) (by rfl) T.n_isinstance rfl rfl rfl) da_nil rfl) rfl) rfl)))) (fun h => ps_set (i := 1) sc__law_kinds.nd rfl (by first | exact .inl rfl | exact .inr rfl) h))
    (ds_cons (ds_set (d_op opd_add (d_peek (pv 1)) (DE.frP (d_lst (da_cons lasts_shr (d_exI (tv := .ref Cad.c_UnknownName) (T := .ref Cad.c_UnknownName) (fun _ h => h) (xit_cons T.ki_BadName_UnknownName (xit_cons T.ki_BadCode_UnknownName (xit_cons T.ki_BadLength_UnknownName (xit_cons T.ki_BadCost_UnknownName (xit_cons T.ki_BadClock_UnknownName (xit_cons T.ki_BadText_UnknownName (xit_cons T.ki_BadCommand_UnknownName (xit_cons T.ki_UnknownName_UnknownName (xit_cons T.ki_NameTaken_UnknownName (xit_cons T.ki_NoCoding_UnknownName (xit_cons T.ki_NothingToDo_UnknownName (xit_cons T.ki_Stuck_UnknownName xit_nil)))))))))))) (d_var (pv 0)) (pe_glob (v := .ref Cad.c_UnknownName) (by rfl) T.g_UnknownName rfl (by decide)) (by rfl) T.n_isinstance rfl rfl rfl) (da_cons lasts_shr (d_exI (tv := .ref Cad.c_NameTaken) (T := .ref Cad.c_NameTaken) (fun _ h => h) (xit_cons T.ki_BadName_NameTaken (xit_cons T.ki_BadCode_NameTaken (xit_cons T.ki_BadLength_NameTaken (xit_cons T.ki_BadCost_NameTaken (xit_cons T.ki_BadClock_NameTaken (xit_cons T.ki_BadText_NameTaken (xit_cons T.ki_BadCommand_NameTaken (xit_cons T.ki_UnknownName_NameTaken (xit_cons T.ki_NameTaken_NameTaken (xit_cons T.ki_NoCoding_NameTaken (xit_cons T.ki_NothingToDo_NameTaken (xit_cons T.ki_Stuck_NameTaken xit_nil)))))))))))) (d_var (pv 0)) (pe_glob (v := .ref Cad.c_NameTaken) (by rfl) T.g_NameTaken rfl (by decide)) (by rfl) T.n_isinstance rfl rfl rfl) (da_cons lasts_shr (d_exI (tv := .ref Cad.c_NoCoding) (T := .ref Cad.c_NoCoding) (fun _ h => h) (xit_cons T.ki_BadName_NoCoding (xit_cons T.ki_BadCode_NoCoding (xit_cons T.ki_BadLength_NoCoding (xit_cons T.ki_BadCost_NoCoding (xit_cons T.ki_BadClock_NoCoding (xit_cons T.ki_BadText_NoCoding (xit_cons T.ki_BadCommand_NoCoding (xit_cons T.ki_UnknownName_NoCoding (xit_cons T.ki_NameTaken_NoCoding (xit_cons T.ki_NoCoding_NoCoding (xit_cons T.ki_NothingToDo_NoCoding (xit_cons T.ki_Stuck_NoCoding xit_nil)))))))))))) (d_var (pv 0)) (pe_glob (v := .ref Cad.c_NoCoding) (by rfl) T.g_NoCoding rfl (by decide)) (by rfl) T.n_isinstance rfl rfl rfl) da_nil rfl) rfl) rfl)))) (fun h => ps_set (i := 1) sc__law_kinds.nd rfl (by first | exact .inl rfl | exact .inr rfl) h))
    (ds_one (ds_ret (d_op opd_add (d_peek (pv 1)) (DE.frP (d_lst (da_cons lasts_shr (d_exI (tv := .ref Cad.c_NothingToDo) (T := .ref Cad.c_NothingToDo) (fun _ h => h) (xit_cons T.ki_BadName_NothingToDo (xit_cons T.ki_BadCode_NothingToDo (xit_cons T.ki_BadLength_NothingToDo (xit_cons T.ki_BadCost_NothingToDo (xit_cons T.ki_BadClock_NothingToDo (xit_cons T.ki_BadText_NothingToDo (xit_cons T.ki_BadCommand_NothingToDo (xit_cons T.ki_UnknownName_NothingToDo (xit_cons T.ki_NameTaken_NothingToDo (xit_cons T.ki_NoCoding_NothingToDo (xit_cons T.ki_NothingToDo_NothingToDo (xit_cons T.ki_Stuck_NothingToDo xit_nil)))))))))))) (d_var (pv 0)) (pe_glob (v := .ref Cad.c_NothingToDo) (by rfl) T.g_NothingToDo rfl (by decide)) (by rfl) T.n_isinstance rfl rfl rfl) (da_cons lasts_shr (d_exI (tv := .ref Cad.c_BadClock) (T := .ref Cad.c_BadClock) (fun _ h => h) (xit_cons T.ki_BadName_BadClock (xit_cons T.ki_BadCode_BadClock (xit_cons T.ki_BadLength_BadClock (xit_cons T.ki_BadCost_BadClock (xit_cons T.ki_BadClock_BadClock (xit_cons T.ki_BadText_BadClock (xit_cons T.ki_BadCommand_BadClock (xit_cons T.ki_UnknownName_BadClock (xit_cons T.ki_NameTaken_BadClock (xit_cons T.ki_NoCoding_BadClock (xit_cons T.ki_NothingToDo_BadClock (xit_cons T.ki_Stuck_BadClock xit_nil)))))))))))) (d_var (pv 0)) (pe_glob (v := .ref Cad.c_BadClock) (by rfl) T.g_BadClock rfl (by decide)) (by rfl) T.n_isinstance rfl rfl rfl) (da_cons lasts_shr (d_exI (tv := .ref Cad.c_Stuck) (T := .ref Cad.c_Stuck) (fun _ h => h) (xit_cons T.ki_BadName_Stuck (xit_cons T.ki_BadCode_Stuck (xit_cons T.ki_BadLength_Stuck (xit_cons T.ki_BadCost_Stuck (xit_cons T.ki_BadClock_Stuck (xit_cons T.ki_BadText_Stuck (xit_cons T.ki_BadCommand_Stuck (xit_cons T.ki_UnknownName_Stuck (xit_cons T.ki_NameTaken_Stuck (xit_cons T.ki_NoCoding_Stuck (xit_cons T.ki_NothingToDo_Stuck (xit_cons T.ki_Stuck_Stuck xit_nil)))))))))))) (d_var (pv 0)) (pe_glob (v := .ref Cad.c_Stuck) (by rfl) T.g_Stuck rfl (by decide)) (by rfl) T.n_isinstance rfl rfl rfl) da_nil rfl) rfl) rfl)))))))))
theorem b__law_of_one_kind {P : Program} {w : World} {K : PySem.W.Frag} {mg : Str → Option Value} {base : Heap} (T : Gls K mg) (hbase : ∃ o, base.get? sysModules = some o) (c__law_kinds : Cle P w K mg base 1 "_law_kinds" sp__law_kinds) {f : Addr} {cdv : Value} {A : Around} {fr : List PySem.Env} {s : Shared} {H : Hp} {E : XK} (gd : Gd A)
    (hr : Room 1 (A.deeper (envOfC "_law_of_one_kind" (defScope st__law_of_one_kind) s.heap.objs.size f cdv))) : DSs (BodyX P w K mg base ["_law_error", "_law_at", "_law_k"] "_law_of_one_kind" st__law_of_one_kind f cdv A fr s H E) (defBody st__law_of_one_kind) m__law_of_one_kind :=
  (ds_cons (ds_if (DW.pt (dw_or (dt_not (dt_tru (DE.pk (d_exI (tv := .ref Cad.c_CodeError) (T := .ref Cad.c_CodeError) (fun _ h => h) (xit_cons T.ki_BadName_CodeError (xit_cons T.ki_BadCode_CodeError (xit_cons T.ki_BadLength_CodeError (xit_cons T.ki_BadCost_CodeError (xit_cons T.ki_BadClock_CodeError (xit_cons T.ki_BadText_CodeError (xit_cons T.ki_BadCommand_CodeError (xit_cons T.ki_UnknownName_CodeError (xit_cons T.ki_NameTaken_CodeError (xit_cons T.ki_NoCoding_CodeError (xit_cons T.ki_NothingToDo_CodeError (xit_cons T.ki_Stuck_CodeError xit_nil)))))))))))) (d_var (pv 0)) (pe_glob (v := .ref Cad.c_CodeError) (by rfl) T.g_CodeError rfl (by decide)) (by rfl) T.n_isinstance rfl rfl rfl)) (fun _ => rfl))) (dw_or1 (dt_not (dt_tru (DE.pk (d_exI (tv := .ty "ValueError") (T := .type "ValueError") (fun _ h => h) (xit_cons T.kv_BadName (xit_cons T.kv_BadCode (xit_cons T.kv_BadLength (xit_cons T.kv_BadCost (xit_cons T.kv_BadClock (xit_cons T.kv_BadText (xit_cons T.kv_BadCommand (xit_cons T.kv_UnknownName (xit_cons T.kv_NameTaken (xit_cons T.kv_NoCoding (xit_cons T.kv_NothingToDo (xit_cons T.kv_Stuck xit_nil)))))))))))) (d_var (pv 0)) (pe_bltn (v := .ty "ValueError") (by rfl) T.n_ValueError (by decide +kernel) rfl (by decide) (by decide)) (by rfl) T.n_isinstance rfl rfl rfl)) (fun _ => rfl)))))) (ds_one (ds_ret d_bl)) ds_nil)
    (ds_one (ds_ret (d_cmp (opd_eq hr.u64) (DE.pk (d_call (c__law_kinds.to hr (by decide)) gd (by rfl) (da_cons lasts_shr (d_var (pv 0)) da_nil rfl) (by decide) rfl rfl)) (DE.frP (d_comp (own := [("_law_k", 2)]) rfl sc__law_of_one_kind.nd (di_rng1 (by rfl) T.n_range (da_cons lasts_shr d_int da_nil rfl) rfl) (blkOk_by (N := ["_law_error", "_law_at", "_law_k"]) (sc := defScope st__law_of_one_kind) (own := [("_law_k", 2)]) (by decide +kernel)) (fun _ _ _ _ _ => (dgw_name (pg_name (i := 2) sc__law_of_one_kind.nd rfl (by first | exact .inl rfl | exact .inr rfl)) (by simp))) (fun _ _ _ _ _ => dts_nil) (fun _ _ _ _ _ => (d_cmp (opd_eq hr.u64) (d_peek (pv 2)) (d_peek (pv 1)) (nomark _))) (fun _ => rfl))) (nomark _)))))
theorem b_law {P : Program} {w : World} {K : PySem.W.Frag} {mg : Str → Option Value} {base : Heap} (T : Gls K mg) (hbase : ∃ o, base.get? sysModules = some o) (c__law_purse : Cle P w K mg base 1 "_law_purse" sp__law_purse) (c__law_values : Cle P w K mg base 3 "_law_values" sp__law_values) (c__law_made : Cle P w K mg base 3 "_law_made" sp__law_made) (c__law_named : Cle P w K mg base 3 "_law_named" sp__law_named) (x_BadName : QRa P w K mg base 1 "BadName" Cad.c_BadName "value") (ex_BadName : QNm P w K mg base 2 "BadName" [] (spExP Cad.c_BadName "value" 1 0)) (x_BadCode : QRa P w K mg base 1 "BadCode" Cad.c_BadCode "value") (ex_BadCode : QNm P w K mg base 2 "BadCode" [] (spExP Cad.c_BadCode "value" 1 0)) (x_BadLength : QRa P w K mg base 1 "BadLength" Cad.c_BadLength "value") (ex_BadLength : QNm P w K mg base 2 "BadLength" [] (spExP Cad.c_BadLength "value" 1 0)) (x_BadText : QRa P w K mg base 1 "BadText" Cad.c_BadText "value") (ex_BadText : QNm P w K mg base 2 "BadText" [] (spExP Cad.c_BadText "value" 1 0)) (x_BadCommand : QRa P w K mg base 1 "BadCommand" Cad.c_BadCommand "command") (ex_BadCommand : QNm P w K mg base 2 "BadCommand" [] (spExP Cad.c_BadCommand "command" 1 0)) (x_NoCoding : QRa P w K mg base 1 "NoCoding" Cad.c_NoCoding "crowd") (ex_NoCoding : QNm P w K mg base 2 "NoCoding" [] (spExP Cad.c_NoCoding "crowd" 1 0)) (x_BadClock : QRa P w K mg base 1 "BadClock" Cad.c_BadClock "value") (ex_BadClock : QNm P w K mg base 2 "BadClock" [] (spExP Cad.c_BadClock "value" 1 0)) (c__law_of_one_kind : Cle P w K mg base 2 "_law_of_one_kind" sp__law_of_one_kind) {f : Addr} {cdv : Value} {A : Around} {fr : List PySem.Env} {s : Shared} {H : Hp} {E : XK} (gd : Gd A)
    (hr : Room 3 (A.deeper (envOfC "law" (defScope st_law) s.heap.objs.size f cdv))) : DSs (BodyX P w K mg base ["_law_script", "_law_start", "_law_purse_here", "_law_turn", "_law_one", "_law_other", "_law_own", "_law_some", "_law_more", "_law_kept", "_law_errors", "_law_due", "_law_found", "_law_at", "_law_error"] "law" st_law f cdv A fr s H E) (defBody st_law) m_law :=
  (ds_cons (ds_for (passes_of rfl) rfl (di_rng1 (by rfl) T.n_range (da_cons lasts_shr (d_callB (calld_max rfl) (da_cons lasts_pk (DE.pk d_int) (da_cons lasts_pk (DE.pk (d_callB (calld_min rfl) (da_cons lasts_pk (DE.pk d_int) (da_cons lasts_pk (DE.pk (d_callB calld_len (da_cons lasts_pk (d_peek (pv 0)) da_nil rfl) (by rfl) T.n_len (by decide +kernel) (by decide) (by decide) rfl rfl)) da_nil rfl) rfl) (by rfl) T.n_min (by decide +kernel) (by decide) (by decide) rfl rfl)) da_nil rfl) rfl) (by rfl) T.n_max (by decide +kernel) (by decide) (by decide) rfl rfl) da_nil rfl) rfl) (dg_name (pg_name (i := 1) sc_law.nd rfl (by first | exact .inl rfl | exact .inr rfl))) (ds_cons (ds_setPur (d_callF (c__law_purse.to hr (by decide)) gd (by rfl) (da_cons lasts_shr (d_var (pv 0)) (da_cons lasts_shr (d_var (pv 1)) da_nil rfl) rfl) (by decide) rfl rfl) (fun h => ps_set (i := 2) sc_law.nd rfl (by first | exact .inl rfl | exact .inr rfl) h))
    (ds_one (ds_for (passes_of rfl) rfl (di_rng1 (by rfl) T.n_range (da_cons lasts_shr d_int da_nil rfl) rfl) (dg_name (pg_name (i := 3) sc_law.nd rfl (by first | exact .inl rfl | exact .inr rfl))) (ds_cons (ds_par3 (da_cons lasts_shr (d_call (c__law_values.to hr (by decide)) gd (by rfl) (da_cons lasts_shr (d_var (pv 2)) (da_cons lasts_shr (d_var (pv 3)) da_nil rfl) rfl) (by decide) rfl rfl) (da_cons lasts_shr (d_call (c__law_values.to hr (by decide)) gd (by rfl) (da_cons lasts_shr (d_var (pv 2)) (da_cons lasts_shr (d_var (pv 3)) da_nil rfl) rfl) (by decide) rfl rfl) (da_cons lasts_shr (d_lstC (da_cons lasts_shr (d_strc (by decide +kernel)) da_nil rfl)) da_nil rfl) rfl) rfl) (fun h => ps_par3 (i := 4) (j := 5) (l := 6) rfl sc_law.nd rfl rfl rfl (by decide) (by decide) (by decide) rfl rfl rfl h rfl))
    (ds_cons (ds_par (da_cons lasts_shr (d_call (c__law_made.to hr (by decide)) gd (by rfl) (da_cons lasts_shr (d_var (pv 4)) da_nil rfl) (by decide) rfl rfl) (da_cons lasts_shr (d_call (c__law_named.to hr (by decide)) gd (by rfl) (da_cons lasts_shr (d_var (pv 5)) da_nil rfl) (by decide) rfl rfl) da_nil rfl) rfl) (fun h => ps_par (i := 7) (j := 8) rfl sc_law.nd rfl rfl (by decide) rfl rfl h rfl))
    (ds_cons (ds_set (DE.frz (d_lst (da_cons lasts_shr (d_exA (xf_cons (T.xx_BadName_value) (xf_cons (T.xx_BadCode_value) (xf_cons (T.xx_BadLength_value) (xf_cons (T.xx_BadCost_value) (xf_cons (T.xx_BadClock_value) (xf_cons (T.xx_BadText_value) (xf_nil))))))) (d_callV (ex_BadName.to hr (by decide)) gd (by rfl) (daj_pos (da_cons lasts_shr (d_var (pv 6)) da_nil rfl) rfl (fun _ => rfl)) (by decide)) rfl) (da_cons lasts_shr (d_exA (xf_cons (T.xx_BadName_value) (xf_cons (T.xx_BadCode_value) (xf_cons (T.xx_BadLength_value) (xf_cons (T.xx_BadCost_value) (xf_cons (T.xx_BadClock_value) (xf_cons (T.xx_BadText_value) (xf_nil))))))) (d_callV (ex_BadCode.to hr (by decide)) gd (by rfl) (daj_pos (da_cons lasts_shr (d_var (pv 6)) da_nil rfl) rfl (fun _ => rfl)) (by decide)) rfl) (da_cons lasts_shr (d_exA (xf_cons (T.xx_BadName_value) (xf_cons (T.xx_BadCode_value) (xf_cons (T.xx_BadLength_value) (xf_cons (T.xx_BadCost_value) (xf_cons (T.xx_BadClock_value) (xf_cons (T.xx_BadText_value) (xf_nil))))))) (d_callV (ex_BadLength.to hr (by decide)) gd (by rfl) (daj_pos (da_cons lasts_shr (d_var (pv 6)) da_nil rfl) rfl (fun _ => rfl)) (by decide)) rfl) da_nil rfl) rfl) rfl))) (fun h => ps_set (i := 9) sc_law.nd rfl (by first | exact .inl rfl | exact .inr rfl) h))
    (ds_cons (ds_set (d_op opd_add (d_peek (pv 9)) (DE.frP (d_lst (da_cons lasts_shr (d_exA (xf_cons (T.xx_BadName_value) (xf_cons (T.xx_BadCode_value) (xf_cons (T.xx_BadLength_value) (xf_cons (T.xx_BadCost_value) (xf_cons (T.xx_BadClock_value) (xf_cons (T.xx_BadText_value) (xf_nil))))))) (d_callV (ex_BadText.to hr (by decide)) gd (by rfl) (daj_pos (da_cons lasts_shr (d_var (pv 6)) da_nil rfl) rfl (fun _ => rfl)) (by decide)) rfl) (da_cons lasts_shr (d_exA (xf_cons (T.xx_BadCommand_command) (xf_nil)) (d_callV (ex_BadCommand.to hr (by decide)) gd (by rfl) (daj_pos (da_cons lasts_shr (d_var (pv 6)) da_nil rfl) rfl (fun _ => rfl)) (by decide)) rfl) (da_cons lasts_shr (d_exA (xf_cons (T.xx_NoCoding_crowd) (xf_nil)) (d_callV (ex_NoCoding.to hr (by decide)) gd (by rfl) (daj_pos (da_cons lasts_shr (d_var (pv 6)) da_nil rfl) rfl (fun _ => rfl)) (by decide)) rfl) (da_cons lasts_shr (d_exA (xf_cons (T.xx_BadName_value) (xf_cons (T.xx_BadCode_value) (xf_cons (T.xx_BadLength_value) (xf_cons (T.xx_BadCost_value) (xf_cons (T.xx_BadClock_value) (xf_cons (T.xx_BadText_value) (xf_nil))))))) (d_callV (ex_BadClock.to hr (by decide)) gd (by rfl) (daj_pos (da_cons lasts_shr (d_var (pv 6)) da_nil rfl) rfl (fun _ => rfl)) (by decide)) rfl) da_nil rfl) rfl) rfl) rfl)))) (fun h => ps_set (i := 9) sc_law.nd rfl (by first | exact .inl rfl | exact .inr rfl) h))
    (ds_cons (ds_appC (d_var (pv 6)) (d_strc (by decide +kernel)) rfl rfl rfl rfl rfl)
    (ds_cons (ds_if (dt_cmp (opd_ne hr.u64) (DE.pk (d_hidG (d_callB (calld_repr gd hr.u60 hbase) (da_cons lasts_pk (d_peek (pv 9)) da_nil rfl) (by rfl) T.n_repr (by decide +kernel) (by decide) (by decide) rfl rfl))) (DE.pk (d_callB (calld_repr gd hr.u60 hbase) (da_cons lasts_pk (DE.pk (d_op opd_mulA (DE.frP (d_lst (da_cons lasts_shr (DE.frz (d_lst (da_cons lasts_shr (d_strc (by decide +kernel)) (da_cons lasts_shr (d_strc (by decide +kernel)) da_nil rfl) rfl))) da_nil rfl))) (DE.pk d_int))) da_nil rfl) (by rfl) T.n_repr (by decide +kernel) (by decide) (by decide) rfl rfl)) (nomark _)) (ds_one (ds_ret d_bl)) ds_nil)
    (ds_one (ds_for (passes_of rfl) rfl (di_seq (DE.frz (d_lst (da_cons lasts_shr (d_tup (da_cons lasts_shr (d_var (pv 7)) (da_cons lasts_shr (d_var (pv 4)) da_nil rfl) rfl)) (da_cons lasts_shr (d_tup (da_cons lasts_shr (d_var (pv 8)) (da_cons lasts_shr (d_var (pv 5)) da_nil rfl) rfl)) (da_cons lasts_shr (d_tup (da_cons lasts_shr (d_var (pv 7)) (da_cons lasts_shr (d_var (pv 4)) da_nil rfl) rfl)) da_nil rfl) rfl) rfl)))) (dg_tup rfl (dgs_cons (pg_name (i := 10) sc_law.nd rfl (by first | exact .inl rfl | exact .inr rfl)) (dgs_cons (pg_name (i := 11) sc_law.nd rfl (by first | exact .inl rfl | exact .inr rfl)) dgs_nil rfl) rfl) rfl rfl) (ds_cons (ds_set (DE.frz (d_lst (da_cons lasts_shr (d_exA (xf_cons (T.xx_BadName_value) (xf_cons (T.xx_BadCode_value) (xf_cons (T.xx_BadLength_value) (xf_cons (T.xx_BadCost_value) (xf_cons (T.xx_BadClock_value) (xf_cons (T.xx_BadText_value) (xf_nil))))))) (d_ix hr.u1 (d_peek (pv 10)) (DE.pk d_int) (fun _ _ => rfl)) rfl) (da_cons lasts_shr (d_exA (xf_cons (T.xx_BadName_value) (xf_cons (T.xx_BadCode_value) (xf_cons (T.xx_BadLength_value) (xf_cons (T.xx_BadCost_value) (xf_cons (T.xx_BadClock_value) (xf_cons (T.xx_BadText_value) (xf_nil))))))) (d_ix hr.u1 (d_peek (pv 10)) (DE.pk d_int) (fun _ _ => rfl)) rfl) (da_cons lasts_shr (d_exA (xf_cons (T.xx_BadName_value) (xf_cons (T.xx_BadCode_value) (xf_cons (T.xx_BadLength_value) (xf_cons (T.xx_BadCost_value) (xf_cons (T.xx_BadClock_value) (xf_cons (T.xx_BadText_value) (xf_nil))))))) (d_ix hr.u1 (d_peek (pv 10)) (DE.pk d_int) (fun _ _ => rfl)) rfl) (da_cons lasts_shr (d_exA (xf_cons (T.xx_BadName_value) (xf_cons (T.xx_BadCode_value) (xf_cons (T.xx_BadLength_value) (xf_cons (T.xx_BadCost_value) (xf_cons (T.xx_BadClock_value) (xf_cons (T.xx_BadText_value) (xf_nil))))))) (d_ix hr.u1 (d_peek (pv 10)) (DE.pk d_int) (fun _ _ => rfl)) rfl) (da_cons lasts_shr (d_exA (xf_cons (T.xx_BadName_value) (xf_cons (T.xx_BadCode_value) (xf_cons (T.xx_BadLength_value) (xf_cons (T.xx_BadCost_value) (xf_cons (T.xx_BadClock_value) (xf_cons (T.xx_BadText_value) (xf_nil))))))) (d_ix hr.u1 (d_peek (pv 10)) (DE.pk d_int) (fun _ _ => rfl)) rfl) da_nil rfl) rfl) rfl) rfl) rfl))) (fun h => ps_set (i := 12) sc_law.nd rfl (by first | exact .inl rfl | exact .inr rfl) h))
    (ds_cons (ds_set (d_op opd_add (d_peek (pv 12)) (DE.frP (d_lst (da_cons lasts_shr (d_exA (xf_cons (T.xx_BadCommand_command) (xf_nil)) (d_ix hr.u1 (d_peek (pv 10)) (DE.pk d_int) (fun _ _ => rfl)) rfl) (da_cons lasts_shr (d_exA (xf_cons (T.xx_UnknownName_name) (xf_cons (T.xx_NameTaken_name) (xf_nil))) (d_ix hr.u1 (d_peek (pv 10)) (DE.pk d_int) (fun _ _ => rfl)) rfl) (da_cons lasts_shr (d_exA (xf_cons (T.xx_UnknownName_name) (xf_cons (T.xx_NameTaken_name) (xf_nil))) (d_ix hr.u1 (d_peek (pv 10)) (DE.pk d_int) (fun _ _ => rfl)) rfl) (da_cons lasts_shr (d_exA (xf_cons (T.xx_NoCoding_crowd) (xf_nil)) (d_ix hr.u1 (d_peek (pv 10)) (DE.pk d_int) (fun _ _ => rfl)) rfl) (da_cons lasts_shr (d_exA (xf_cons (T.xx_NothingToDo_action) (xf_nil)) (d_ix hr.u1 (d_peek (pv 10)) (DE.pk d_int) (fun _ _ => rfl)) rfl) da_nil rfl) rfl) rfl) rfl) rfl)))) (fun h => ps_set (i := 12) sc_law.nd rfl (by first | exact .inl rfl | exact .inr rfl) h))
    (ds_cons (ds_set (d_op opd_add (d_peek (pv 12)) (DE.frP (d_lst (da_cons lasts_shr (d_exA (xf_cons (T.xx_BadName_value) (xf_cons (T.xx_BadCode_value) (xf_cons (T.xx_BadLength_value) (xf_cons (T.xx_BadCost_value) (xf_cons (T.xx_BadClock_value) (xf_cons (T.xx_BadText_value) (xf_nil))))))) (d_ix hr.u1 (d_peek (pv 10)) (DE.pk d_int) (fun _ _ => rfl)) rfl) (da_cons lasts_shr (d_exA (xf_cons (T.xx_Stuck_circles) (xf_nil)) (d_ix hr.u1 (d_peek (pv 10)) (DE.pk d_int) (fun _ _ => rfl)) rfl) da_nil rfl) rfl)))) (fun h => ps_set (i := 12) sc_law.nd rfl (by first | exact .inl rfl | exact .inr rfl) h))
    (ds_cons (ds_if (dt_cmp (opd_ne hr.u64) (DE.pk (d_callB (calld_repr gd hr.u60 hbase) (da_cons lasts_pk (d_peek (pv 12)) da_nil rfl) (by rfl) T.n_repr (by decide +kernel) (by decide) (by decide) rfl rfl)) (DE.pk (d_callB (calld_repr gd hr.u60 hbase) (da_cons lasts_pk (d_peek (pv 11)) da_nil rfl) (by rfl) T.n_repr (by decide +kernel) (by decide) (by decide) rfl rfl)) (nomark _)) (ds_one (ds_ret d_bl)) ds_nil)
    (ds_one (ds_if (dt_cmp (opd_in hr.u65) (DE.pk d_bl) (DE.frP (d_comp (own := [("_law_at", 13), ("_law_error", 14)]) rfl sc_law.nd (di_enum (by rfl) T.n_enumerate (da_cons lasts_shr (d_var (pv 10)) da_nil rfl) rfl) (blkOk_by (N := ["_law_script", "_law_start", "_law_purse_here", "_law_turn", "_law_one", "_law_other", "_law_own", "_law_some", "_law_more", "_law_kept", "_law_errors", "_law_due", "_law_found", "_law_at", "_law_error"]) (sc := defScope st_law) (own := [("_law_at", 13), ("_law_error", 14)]) (by decide +kernel)) (fun _ _ _ _ _ => (dgw_tup rfl (dgsw_cons (pg_name (i := 13) sc_law.nd rfl (by first | exact .inl rfl | exact .inr rfl)) (by simp) (dgsw_cons (pg_name (i := 14) sc_law.nd rfl (by first | exact .inl rfl | exact .inr rfl)) (by simp) dgsw_nil rfl) rfl) rfl rfl)) (fun _ _ _ _ _ => dts_nil) (fun _ _ _ _ _ => (d_call (c__law_of_one_kind.to hr (by decide)) gd (by rfl) (da_cons lasts_shr (d_var (pv 14)) (da_cons lasts_shr (d_var (pv 13)) da_nil rfl) rfl) (by decide) rfl rfl)) (fun _ => rfl))) rfl) (ds_one (ds_ret d_bl)) ds_nil)))))) (fun _ => rfl))))))))) (fun _ => rfl)))) (fun _ => rfl))
    (ds_one (ds_ret d_bl)))
end
end L2.DL
namespace L2.DL
open PySem PySem.Spec PyProof.Rows
local macro_rules | `(tactic| walk_at "ev") => `(tactic| first | refine i_var (by rfl) ?_ | refine i_peek (by rfl) ?_ | refine i_varO (by rfl) ?_ | refine i_peekO (by rfl) ?_ | refine g_fldC (by assumption) (by rfl) ?_ | refine g_fld (by rfl) ?_ | refine j_clrO (by rfl) ?_ | refine j_clrL (by rfl) ?_ | refine j_ext (by rfl) ?_ | refine j_retO (by rfl) ?_ | refine j_retOO (by rfl) ?_ | refine j_app (by rfl) ?_ | refine j_aug (by rfl) ?_ | refine i_callLF (by rfl) ?_ | refine i_callL (by rfl) ?_ | refine j_appPop (by rfl) (by rfl) ?_ | refine j_ins (by rfl) ?_ | refine j_putO (by rfl) ?_ | refine j_tupD (by rfl) ?_ | refine j_gsF (by rfl) ?_ | refine l_size (Nat.le_of_ble_eq_true (by rfl)) ?_ | dsimp only [List.set_cons_succ, List.set_cons_zero])
local macro_rules | `(tactic| walk_at "ev") => `(tactic| with_reducible first | refine j_tupD (by with_unfolding_all rfl) ?_ | refine j_gsF (by with_unfolding_all rfl) ?_ | refine l_size (Nat.le_of_ble_eq_true (by with_unfolding_all rfl)) ?_)
local macro_rules | `(tactic| walk_at "ev") => `(tactic| with_reducible first | refine g_fldC (by assumption) (by with_unfolding_all rfl) ?_ | refine g_fld (by with_unfolding_all rfl) ?_ | refine j_clrO (by with_unfolding_all rfl) ?_ | refine j_clrL (by with_unfolding_all rfl) ?_ | refine j_ext (by with_unfolding_all rfl) ?_ | refine j_retO (by with_unfolding_all rfl) ?_ | refine j_retOO (by with_unfolding_all rfl) ?_ | refine j_app (by with_unfolding_all rfl) ?_ | refine j_aug (by with_unfolding_all rfl) ?_ | refine i_callLF (by with_unfolding_all rfl) ?_ | refine i_callL (by with_unfolding_all rfl) ?_ | refine j_appPop (by with_unfolding_all rfl) (by with_unfolding_all rfl) ?_ | refine j_ins (by with_unfolding_all rfl) ?_ | refine j_putO (by with_unfolding_all rfl) ?_)
local macro_rules | `(tactic| walk_at "ev") => `(tactic| with_reducible first | refine o_str ?_ | refine o_scr ?_ | refine p_par2 ?_ | refine g_neg ?_ | refine g_ordS ?_ | refine g_inS ?_ | refine g_lenR ?_ | refine g_2I ?_ | refine g_tupT ?_ | refine g_cutT ?_ | refine i_var (by with_unfolding_all rfl) ?_ | refine i_peek (by with_unfolding_all rfl) ?_ | refine i_varO (by with_unfolding_all rfl) ?_ | refine i_peekO (by with_unfolding_all rfl) ?_)
local macro_rules | `(tactic| walk_at "ev") => `(tactic| with_reducible first | refine i_tupX ?_ | refine x_txs ?_ | refine x_nil ?_ | refine x_one ?_ | refine i_tx1 ?_ | refine i_un ?_ | refine i_rng2 ?_ | refine t_int ?_ | refine t_lst ?_ | refine t_tup ?_ | refine t_non ?_ | refine o_tup ?_ | refine o_kt ?_ | refine g_dictD ?_)
local macro_rules | `(tactic| walk_at "ev") => `(tactic| with_reducible first | refine j_par ?_ | refine j_setPur ?_ | refine j_putC ?_ | refine j_retC2 ?_ | refine j_clrD ?_ | refine i_txN ?_ | refine g_find3 ?_ | refine i_dri ?_ | refine j_callR ?_ | refine i_ist ?_ | refine i_andV ?_ | refine i_orV ?_ | refine i_notV ?_ | refine i_chain ?_)
local macro_rules | `(tactic| walk_at "ev") => `(tactic| with_reducible first | refine i_lenO ?_ | refine i_boolO ?_ | refine i_isiO ?_ | refine j_raise ?_ | refine j_tryAs ?_ | refine j_tryO ?_ | refine j_tryT ?_ | refine i_zipA ?_ | refine z_lst ?_ | refine z_tup ?_ | refine g_eqNT ?_ | refine j_fldS ?_ | refine j_fldC ?_ | refine j_setC ?_)
local macro_rules | `(tactic| walk_at "ev") => `(tactic| with_reducible first | refine i_cm ?_ | refine g_intI ?_ | refine g_intB ?_ | refine i_cntB ?_ | refine i_posK ?_ | refine i_star ?_ | refine q_tup ?_ | refine q_lst ?_ | refine i_callV ?_ | refine i_callVF ?_ | refine i_methR ?_ | refine i_methF ?_ | refine i_opE ?_ | refine i_negO ?_)
local macro_rules | `(tactic| walk_at "ev") => `(tactic| with_reducible first | refine j_appC ?_ | refine i_truO ?_ | refine i_isHd ?_ | refine g_eqNX ?_ | refine g_inX ?_ | refine g_ninX ?_ | refine g_lenX ?_ | refine o_tupX ?_ | refine g_tupX ?_ | refine i_idx ?_ | refine j_asg2 ?_ | refine j_parOO ?_ | refine j_parF ?_ | refine j_parOS ?_)
local macro_rules | `(tactic| walk_at "ev") => `(tactic| with_reducible first | refine i_compD ?_ | refine i_compD2 ?_ | refine i_kv ?_ | refine p_l ?_ | refine i_dget ?_ | refine i_dget2 ?_ | refine i_enumT ?_ | refine e_lst ?_ | refine e_tup ?_ | refine r_none ?_ | refine r_str ?_ | refine i_dpop ?_ | refine i_tab ?_ | refine j_augS ?_)
local macro_rules | `(tactic| walk_at "ev") => `(tactic| with_reducible first | refine p_par3 ?_ | refine g_listNL ?_ | refine g_listNT ?_ | refine g_setSortK ?_ | refine g_sortedL ?_ | refine j_augF ?_ | refine i_dw ?_ | refine i_lift ?_ | refine i_dl ?_ | refine l_lst ?_ | refine l_tup ?_ | refine w_dct ?_ | refine j_forX ?_ | refine i_compX ?_)
local macro_rules | `(tactic| walk_at "ev") => `(tactic| with_reducible first | refine j_gsNil ?_ | refine j_drop ?_ | refine j_retR ?_ | refine j_retF ?_ | refine i_callF ?_ | refine i_callP ?_ | refine i_rng1 ?_ | refine i_isi ?_ | refine i_isb ?_ | refine j_par2 ?_ | refine i_callR ?_ | refine i_unF ?_ | refine g_str ?_ | refine j_par3 ?_)
local macro_rules | `(tactic| walk_at "ev") => `(tactic| with_reducible first | refine i_pos ?_ | refine i_meth ?_ | refine i_prop ?_ | refine j_setO ?_ | refine i_cut ?_ | refine i_part ?_ | refine i_nop ?_ | refine g_listT ?_ | refine g_listL ?_ | refine g_tupL ?_ | refine g_cutL ?_ | refine g_lenT ?_ | refine j_gsC ?_ | refine j_gsG ?_)
local macro_rules | `(tactic| walk_at "ev") => `(tactic| with_reducible first | refine g_neI ?_ | refine g_I0 ?_ | refine g_addI ?_ | refine g_ordI ?_ | refine j_for ?_ | refine i_tru ?_ | refine t_bl ?_ | refine i_andT ?_ | refine i_orT ?_ | refine i_notT ?_ | refine j_asg ?_ | refine i_ifE ?_ | refine g_eqNL ?_ | refine g_lenL ?_)
local macro_rules | `(tactic| walk_at "ev") => `(tactic| with_reducible first | refine i_tup ?_ | refine i_lst ?_ | refine j_ret ?_ | refine j_gN ?_ | refine i_itT ?_ | refine i_itF ?_ | refine i_itNT ?_ | refine i_itNF ?_ | refine o_lst ?_ | refine i_iter ?_ | refine i_comp ?_ | refine g_eqS ?_ | refine g_eqI ?_ | refine g_neS ?_)
local macro_rules | `(tactic| walk_at "ev") => `(tactic| with_reducible first | refine j_seq ?_ | refine i_peek (by with_unfolding_all rfl) ?_ | refine i_op ?_ | refine i_c ?_ | refine i_cons ?_ | refine i_var (by with_unfolding_all rfl) ?_ | refine i_nil ?_ | refine i_tst ?_ | refine j_set ?_ | refine j_if ?_ | refine j_next ?_ | refine i_map ?_ | refine i_callB ?_ | refine i_call ?_)
local macro_rules | `(tactic| decreasing_trivial) => `(tactic| repeat walk_at "ev")
section
variable [Cad]
/-! _law_purse -/
theorem pure__law_purse : PU m__law_purse 5 2 sp__law_purse := fun ds C PR PX ⟨ns, i, e, hl, hi, hb, q⟩ => ⟨by rw [e]; rfl, by
    subst e
    change m__law_purse _ _ [.shr (.scr ns), .shr (.int i), .non, .non, .non] C
    unfold m__law_purse
    decreasing_trivial
    refine g_mulI (mulOk_small (by omega) (by decide)) ?_
    decreasing_trivial
    refine forL_inv (fun _ env C' => C' = C ∧ ∃ (m : Int) (s : Slot), 0 ≤ m ∧ m < 4294967296 ∧ env = [.shr (.scr ns), .shr (.int i), .shr (.int m), s, .non]) ?_ ?_ ?_
    · exact ⟨rfl, _, _, by omega, by omega, rfl⟩
    · rintro k d env C' nx' hd ⟨rfl, m, s, m0, m1, rfl⟩ hn
      rw [List.getElem?_map] at hd
      obtain ⟨z, hz, rfl⟩ := Option.map_eq_some_iff.mp hd
      have hz1 := lt_bits (hb z (List.mem_of_getElem? hz))
      have hm1 : m.natAbs < 2 ^ 33 := by omega
      have hp1 : (m * 50021).natAbs < 2 ^ (33 + 20) := bits_prod hm1 (by decide)
      have hp2 : (z * z).natAbs < 2 ^ (1048576 + 1048576) := bits_prod hz1 hz1
      decreasing_trivial
      refine g_mulI (mulOk_small (by omega) (by decide)) ?_
      decreasing_trivial
      refine g_mulI (mulOk_bits hz1 hz1 (by decide)) ?_
      decreasing_trivial
      have hp3 : (m * 50021 + z * z).natAbs < 2 ^ (1048576 + 1048576 + 1) := bits_sum (Nat.lt_of_lt_of_le hp1 (Nat.pow_le_pow_right (by decide) (by decide))) hp2
      have hp4 : (m * 50021 + z * z + 29).natAbs < 2 ^ (1048576 + 1048576 + 1 + 1) := bits_sum hp3 (Nat.lt_of_lt_of_le (show (29 : Int).natAbs < 2 ^ 5 by decide) (Nat.pow_le_pow_right (by decide) (by decide)))
      refine g_I (powOk_bits (k := 2) hp4 (by decide)) ?_
      decreasing_trivial
      refine g_I (by decide) ?_
      decreasing_trivial
      exact hn _ _ ⟨rfl, _, _, by omega, by omega, rfl⟩
    · rintro env C' ⟨rfl, m, s, m0, m1, rfl⟩
      decreasing_trivial
      have fin : ∀ x : Int, sRetF (mDct (mPCons (mC (.str [100, 105, 103, 105, 116, 115])) (mVar 4) (mPCons (mC (.str [109, 105, 120, 101, 100])) (mVar 2) mPNil))) (fun x _ C => PX x C) ⟨fun _ C => PR (.shr .non) C, PR, fun _ _ => False, fun _ _ => False⟩ [.shr (.scr ns), .shr (.int i), .shr (.int m), s, .shr (.int x)] C' := fun x => by
        exact ⟨_, rfl, _, rfl, (by show 2 ≤ 15; decide), q x m m0 m1⟩
      refine i_ite (fun h => ?_) fun h => ?_
      · have h2 : (i : Int) < ns.length := of_decide_eq_true h
        obtain ⟨z, hz, hx⟩ := atI_int (xs := ns) (i := i) (by omega) h2
        decreasing_trivial
        refine g_ixR hx ?_
        decreasing_trivial
        refine g_I (powOk_small (k := 18) (by decide) (by decide)) ?_
        decreasing_trivial
        refine i_ite (fun h3 => ?_) fun h3 => ?_
        · decreasing_trivial
          refine g_ixR hx ?_
          decreasing_trivial
          refine g_I (powOk_small (k := 18) (by decide) (by decide)) ?_
          decreasing_trivial
          exact fin _
        · decreasing_trivial
          exact fin _
      · decreasing_trivial
        exact fin _⟩
/-! _law_draw -/
theorem pure__law_draw : PUd m__law_draw 3 true := fun a n i j C n0 n1 j0 j1 hc => by
    have hc' : C a = some (.dct [(.inr dgT, .int i), (.inr mxT, .int j)]) := hc
    change m__law_draw E0 _ [.shr (.cell a), .shr (.int n), .non] C
    unfold m__law_draw
    decreasing_trivial
    refine g_ixCD hc' rfl rfl rfl ?_
    decreasing_trivial
    refine i_ite (fun h => ?_) fun h => ?_
    · decreasing_trivial
      refine g_ixCD hc' rfl rfl rfl ?_
      decreasing_trivial
      refine g_I n0 ?_
      decreasing_trivial
      refine g_ixCD hc' rfl rfl rfl ?_
      decreasing_trivial
      refine g_I (divOk_of n0 n1) ?_
      decreasing_trivial
      refine g_putCD hc' rfl (by show 2 < sizeLine; decide) ?_
      decreasing_trivial
      exact ⟨i % n, i / n, j, Int.emod_nonneg _ (by omega), Int.emod_lt_of_pos _ n0, j0, j1, rfl, rfl⟩
    · decreasing_trivial
      refine g_ixCD hc' rfl rfl rfl ?_
      decreasing_trivial
      refine g_mulI (mulOk_small (by omega) (by decide)) ?_
      decreasing_trivial
      refine g_I (by decide) ?_
      decreasing_trivial
      refine g_putCD hc' rfl (by show 2 < sizeLine; decide) ?_
      decreasing_trivial
      generalize hj : (j * 40692 + 3791) % 2147483399 = j'
      have q0 : 0 ≤ j' := by rw [← hj]; exact Int.emod_nonneg _ (by decide)
      have q1 : j' < 2147483399 := by rw [← hj]; exact Int.emod_lt_of_pos _ (by decide)
      refine g_ixCD cput_same rfl rfl rfl ?_
      decreasing_trivial
      refine g_I (powOk_small (k := 2) (by omega) (by decide)) ?_
      decreasing_trivial
      refine g_I (by decide) ?_
      decreasing_trivial
      generalize hx : (j' ^ Int.toNat 2) % 2147483563 = x
      have x0 : 0 ≤ x := by rw [← hx]; exact Int.emod_nonneg _ (by decide)
      have x1 : x < 2147483563 := by rw [← hx]; exact Int.emod_lt_of_pos _ (by decide)
      refine g_I (powOk_small (k := 3) (by omega) (by decide)) ?_
      decreasing_trivial
      refine g_I (by decide) ?_
      decreasing_trivial
      refine g_I (divOk_of (by decide) (by decide)) ?_
      decreasing_trivial
      refine g_I n0 ?_
      exact ⟨_, i, j', Int.emod_nonneg _ (by omega), Int.emod_lt_of_pos _ n0, q0, by omega, rfl, rfl⟩
/-! _law_choose -/
theorem pure__law_choose : PU m__law_choose 2 2 sp__law_choose := fun ds C PR PX ⟨a, x, xs, e, hc, hx, ne, hl, q⟩ => ⟨by rw [e]; rfl, by
    subst e
    have hp : 0 < xs.length := List.length_pos_iff.mpr ne
    rcases hx with rfl | rfl | ⟨s, rfl, rfl⟩
    · change m__law_choose _ _ [.shr (.cell a), .shr (.lst xs)] C
      unfold m__law_choose
      decreasing_trivial
      refine ⟨a, _, rfl, hc, by omega, by omega, fun k k0 k1 => ?_⟩
      obtain ⟨y, hy, hx⟩ := atI_int k0 k1
      refine g_ixL hx ?_
      exact q y hy
    · change m__law_choose _ _ [.shr (.cell a), .shr (.tup xs)] C
      unfold m__law_choose
      decreasing_trivial
      refine ⟨a, _, rfl, hc, by omega, by omega, fun k k0 k1 => ?_⟩
      obtain ⟨y, hy, hx⟩ := atI_int k0 k1
      refine g_ixT hx ?_
      exact q y hy
    · rw [List.length_map] at hp hl
      change m__law_choose _ _ [.shr (.cell a), .shr (.str s)] C
      unfold m__law_choose
      decreasing_trivial
      refine g_lenS hl ?_
      decreasing_trivial
      refine ⟨a, _, rfl, hc, by omega, by omega, fun k k0 k1 => ?_⟩
      obtain ⟨y, hy, hx⟩ := atI_int k0 k1
      refine g_ixS hl hx ?_
      exact q _ (List.mem_map.mpr ⟨y, hy, rfl⟩)⟩
/-! _law_values -/
theorem pure__law_values : PU m__law_values 7 2 sp__law_values := fun ds C PR PX ⟨st, n, e, hc, hn, q⟩ => ⟨by rw [e]; rfl, by
  subst e
  change m__law_values _ _ [.shr (.cell st), .shr (.int n), .non, .non, .non, .non, .non] C
  unfold m__law_values
  have hz := sizeLine_eq
  have ti : ∀ i : Int, i.natAbs < 2 ^ 300 → Shw 0 301 (.int i) := fun i h => shw_int h
  have ts : ∀ t : Txt, t.length ≤ 100 → (∀ c ∈ t, c < 128) → Shw 0 100 (.str t) := fun t h1 h2 => shw_str h1 h2
  decreasing_trivial
  refine ⟨⟨by decide, by decide⟩, Nat.zero_le _, by show 1 ≤ sizeLine; omega, by show 2 ≤ sizeLine; omega, by show 2 ≤ sizeLine; omega, by show 11 ≤ sizeLine; omega, ?_⟩
  decreasing_trivial
  refine r_rng1 (by decide) ?_
  generalize hS : [D.int 0, D.int (-1), D.int (10 ^ Int.toNat 59), D.bl true, D.non, D.str [], D.str [117, 110, 100, 111], D.tup [], D.tup [D.int 0, D.tup [D.int 1]], (Cont.lst [D.int 1, D.int n]).d, (Cont.dct []).d] = S
  have hS1 : S ≠ [] ∧ S.length ≤ 16777216 ∧ ∀ d ∈ S, Th04 d := by
    rw [← hS]
    refine ⟨List.cons_ne_nil _ _, by show 11 ≤ 16777216; decide, fun d hd => ?_⟩
    simp only [List.mem_cons, List.not_mem_nil, or_false] at hd
    have mk : ∀ {k w : Nat} {d : D}, Shw k w d → k ≤ 6 → w ≤ 400 → Th04 d := fun h a b => h.mono a b
    rcases hd with rfl | rfl | rfl | rfl | rfl | rfl | rfl | rfl | rfl | rfl | rfl
    · exact mk (ti 0 (by decide)) (by decide) (by decide)
    · exact mk (ti (-1) (by decide)) (by decide) (by decide)
    · exact mk (ti _ (by decide +kernel)) (by decide) (by decide)
    · exact mk (shw_bl (k := 0) true) (by decide) (by decide)
    · exact mk (shw_non (k := 0)) (by decide) (by decide)
    · exact mk (ts [] (by decide) (by decide)) (by decide) (by decide)
    · exact mk (ts _ (by decide) (by decide)) (by decide) (by decide)
    · exact mk (Shws.tup (Shws.nil (k := 0) (w := 0))) (by decide) (by decide)
    · exact mk (Shws.tup (.cons ((ti 0 (by decide)).mono (k' := 1) (by decide) (Nat.le_refl _)) (.cons (Shws.tup (.cons (shw_small (n := 1) (by decide)) (Shws.nil (w := 0)))) (Shws.nil (w := 0))))) (by decide) (by decide)
    · exact mk (Shws.lst (.cons (shw_small (n := 1) (by decide)) (.cons (shw_small (n := n) (by omega)) (Shws.nil (w := 0))))) (by decide) (by decide)
    · exact mk (shw_tD46 (w := 0) (n := 0) (cd := []) (fun e he => by cases he) (Nat.le_refl _)) (by decide) (by decide)
  clear hS
  refine ⟨rfl, ?_⟩
  refine compL_inv (fun k acc C' => C' = C ∧ acc.length = k ∧ ∀ d ∈ acc, Th04 d) ⟨rfl, rfl, fun d hd => by cases hd⟩ ?_ ?_
  · rintro k d acc C1 nxt hd ⟨rfl, hk, ha⟩ hx
    refine ⟨rfl, ?_⟩
    decreasing_trivial
    refine ⟨rfl, ?_⟩
    decreasing_trivial
    refine ⟨st, .lst S, S, rfl, hc, .inl rfl, hS1.1, hS1.2.1, fun x hx' => ?_⟩
    decreasing_trivial
    have hk6 := (List.getElem?_eq_some_iff.mp hd).1
    have hk7 : k < 6 := hk6
    refine ⟨rfl, by omega, hx _ _ ⟨rfl, by rw [List.length_append, hk]; rfl, fun y hy => ?_⟩⟩
    rcases List.mem_append.mp hy with hy | hy
    · exact ha y hy
    · rw [List.mem_singleton.mp hy]
      exact hS1.2.2 x hx'
  · rintro acc C1 ⟨rfl, hk, ha⟩
    have hk : acc.length = 6 := hk
    obtain ⟨a0, a1, a2, a3, a4, a5, rfl⟩ : ∃ a0 a1 a2 a3 a4 a5, acc = [a0, a1, a2, a3, a4, a5] := by
      match acc, hk with
      | [a0, a1, a2, a3, a4, a5], _ => exact ⟨_, _, _, _, _, _, rfl⟩
    decreasing_trivial
    refine ⟨st, 9, rfl, hc, by decide, by decide, fun z z0 z9 => ?_⟩
    decreasing_trivial
    refine ⟨3, 3, rfl, rfl, ?_⟩
    decreasing_trivial
    have tw : ∀ t ∈ [[97], [122, 122], [100, 101, 115, 107]], t.length ≤ 4 ∧ ∀ c ∈ t, c < 128 := by decide
    refine ⟨st, .lst (txs [[97], [122, 122], [100, 101, 115, 107]]), txs [[97], [122, 122], [100, 101, 115, 107]], rfl, hc, .inl rfl, List.cons_ne_nil _ _, by show 3 ≤ 16777216; decide, fun x hx' => ?_⟩
    obtain ⟨wd, hw, rfl⟩ := List.mem_map.mp hx'
    obtain ⟨w1, w2⟩ := tw wd hw
    decreasing_trivial
    have tn : ∀ l ∈ ([[[97], [98]], [[122, 122]], [[97], [98], [99]]] : List (List Txt)), l.length ≤ 3 ∧ ∀ t ∈ l, t.length ≤ 2 ∧ ∀ c ∈ t, c < 128 := by decide
    refine ⟨st, .lst ([[[97], [98]], [[122, 122]], [[97], [98], [99]]].map fun l : List Txt => D.lst (txs l)), [[[97], [98]], [[122, 122]], [[97], [98], [99]]].map fun l : List Txt => D.lst (txs l), rfl, hc, .inl rfl, List.cons_ne_nil _ _, by show 3 ≤ 16777216; decide, fun x hx' => ?_⟩
    obtain ⟨nl, hnl, rfl⟩ := List.mem_map.mp hx'
    obtain ⟨l1, l2⟩ := tn nl hnl
    decreasing_trivial
    refine g_addS (s := wd) (t := [98]) (by show wd.length + 1 ≤ sizeLine; omega) ?_
    decreasing_trivial
    have tu : ∀ t ∈ [[117, 110, 100, 111], [114, 101, 100, 111]], t.length ≤ 4 ∧ ∀ c ∈ t, c < 128 := by decide
    refine ⟨st, .lst (txs [[117, 110, 100, 111], [114, 101, 100, 111]]), txs [[117, 110, 100, 111], [114, 101, 100, 111]], rfl, hc, .inl rfl, List.cons_ne_nil _ _, by show 2 ≤ 16777216; decide, fun x hx' => ?_⟩
    obtain ⟨wu, hu, rfl⟩ := List.mem_map.mp hx'
    obtain ⟨u1, u2⟩ := tu wu hu
    decreasing_trivial
    refine ⟨st, .lst S, S, rfl, hc, .inl rfl, hS1.1, hS1.2.1, fun xz hx2 => ?_⟩
    decreasing_trivial
    refine ⟨by show 6 + 5 ≤ sizeLine; omega, ?_⟩
    decreasing_trivial
    refine g_addL (by show 11 + 1 ≤ sizeLine; omega) ?_
    refine q _ rfl fun d hd => ?_
    have mk : ∀ {k w : Nat} {d : D}, Shw k w d → k ≤ 6 → w ≤ 400 → Th04 d := fun h a b => h.mono a b
    have sn : Shw 1 20 (.lst (txs nl)) := (Shws.lst (shws_txs (k := 0) (m := 3) (w := 2) l2 l1)).mono (Nat.le_refl _) (by decide)
    rcases List.mem_append.mp hd with hd | hd
    · rcases List.mem_append.mp hd with hd | hd
      · simp only [List.mem_cons, List.not_mem_nil, or_false] at hd
        rcases hd with rfl | rfl | rfl | rfl | rfl | rfl
        · exact ha _ (by simp)
        · exact ha _ (by simp)
        · exact ha _ (by simp)
        · exact mk (Shws.tup (.cons (shw_small (n := 1) (by decide)) (.cons (shw_small (n := n) (by omega)) (.cons (shw_int (k := 0) (n := z) (Nat.lt_of_le_of_lt (show z.natAbs ≤ 9 by omega) (by decide))) (Shws.nil (w := 0)))))) (by decide) (by decide)
        · exact ha _ (by simp)
        · exact ha _ (by simp)
      · simp only [List.mem_cons, List.not_mem_nil, or_false] at hd
        rcases hd with rfl | rfl | rfl | rfl | rfl
        · exact mk (shw_str (k := 0) (w := 4) w1 w2) (by decide) (by decide)
        · exact mk (shw_str (k := 0) (w := 5) (t := wd ++ [98]) (by rw [List.length_append]; show wd.length + 1 ≤ 5; omega) (fun c hc => by
            rcases List.mem_append.mp hc with hc | hc
            · exact w2 c hc
            · rw [List.mem_singleton.mp hc]; decide)) (by decide) (by decide)
        · exact mk sn (by decide) (by decide)
        · exact mk (shw_str (k := 0) (w := 4) u1 u2) (by decide) (by decide)
        · exact hS1.2.2 _ hx2
    · rw [List.mem_singleton.mp hd]
      have sx : Shw 1 20 (.lst (txs [[120], [121]])) := (Shws.lst (shws_txs (k := 0) (m := 2) (w := 1) (by decide) (by decide))).mono (Nat.le_refl _) (by decide)
      exact mk (Shws.lst (.cons sn (.cons sx (Shws.nil (w := 0))))) (by decide) (by decide)⟩
/-! _law_made -/
theorem twelve {vs : List D} (h : vs.length = 12) : ∃ v0 v1 v2 v3 v4 v5 v6 v7 v8 v9 v10 v11, vs = [v0, v1, v2, v3, v4, v5, v6, v7, v8, v9, v10, v11] := by
  match vs, h with
  | [v0, v1, v2, v3, v4, v5, v6, v7, v8, v9, v10, v11], _ => exact ⟨_, _, _, _, _, _, _, _, _, _, _, _, rfl⟩
theorem pure__law_made : PU m__law_made 2 1 sp__law_made := fun ds C PR PX ⟨vs, ed, hl, q⟩ => ⟨by rw [ed]; rfl, by
  subst ed
  obtain ⟨v0, v1, v2, v3, v4, v5, v6, v7, v8, v9, v10, v11, rfl⟩ := twelve hl
  change m__law_made _ _ [.shr (.lst [v0, v1, v2, v3, v4, v5, v6, v7, v8, v9, v10, v11]), .non] C
  unfold m__law_made
  have hz := sizeLine_eq
  decreasing_trivial
  refine g_ixL (x := v0) (atI_nat (k := 0) rfl) ?_
  decreasing_trivial
  refine ⟨rfl, rfl, v0, rfl, fun e0 d0 he0 hd0 hn0 => ?_⟩
  decreasing_trivial
  refine g_ixL (x := v1) (atI_nat (k := 1) rfl) ?_
  decreasing_trivial
  refine ⟨rfl, rfl, v1, rfl, fun e1 d1 he1 hd1 hn1 => ?_⟩
  decreasing_trivial
  refine g_ixL (x := v2) (atI_nat (k := 2) rfl) ?_
  decreasing_trivial
  refine ⟨rfl, rfl, v2, rfl, fun e2 d2 he2 hd2 hn2 => ?_⟩
  decreasing_trivial
  refine g_ixL (x := v3) (atI_nat (k := 3) rfl) ?_
  decreasing_trivial
  refine ⟨rfl, rfl, v3, rfl, fun e3 d3 he3 hd3 hn3 => ?_⟩
  decreasing_trivial
  refine g_ixL (x := v4) (atI_nat (k := 4) rfl) ?_
  decreasing_trivial
  refine ⟨rfl, rfl, v4, rfl, fun e4 d4 he4 hd4 hn4 => ?_⟩
  decreasing_trivial
  refine g_ixL (x := v5) (atI_nat (k := 5) rfl) ?_
  decreasing_trivial
  refine ⟨rfl, rfl, v5, rfl, fun e5 d5 he5 hd5 hn5 => ?_⟩
  decreasing_trivial
  refine g_ixL (x := v6) (atI_nat (k := 6) rfl) ?_
  decreasing_trivial
  refine ⟨rfl, rfl, v6, rfl, fun e6 d6 he6 hd6 hn6 => ?_⟩
  decreasing_trivial
  refine g_ixL (x := v7) (atI_nat (k := 7) rfl) ?_
  decreasing_trivial
  refine ⟨rfl, rfl, v7, rfl, fun e7 d7 he7 hd7 hn7 => ?_⟩
  decreasing_trivial
  refine g_ixL (x := v8) (atI_nat (k := 8) rfl) ?_
  decreasing_trivial
  refine ⟨rfl, rfl, v8, rfl, fun e8 d8 he8 hd8 hn8 => ?_⟩
  decreasing_trivial
  refine g_ixL (x := v9) (atI_nat (k := 9) rfl) ?_
  decreasing_trivial
  refine ⟨rfl, rfl, v9, rfl, fun e9 d9 he9 hd9 hn9 => ?_⟩
  decreasing_trivial
  refine g_addL (by simp; omega) ?_
  decreasing_trivial
  refine g_ixL (x := v10) (atI_nat (k := 10) rfl) ?_
  decreasing_trivial
  refine ⟨rfl, rfl, v10, rfl, fun e10 d10 he10 hd10 hn10 => ?_⟩
  decreasing_trivial
  refine g_ixL (x := v11) (atI_nat (k := 11) rfl) ?_
  decreasing_trivial
  refine ⟨rfl, rfl, v11, rfl, fun e11 d11 he11 hd11 hn11 => ?_⟩
  decreasing_trivial
  refine g_addL (by simp; omega) ?_
  decreasing_trivial
  exact q [e0, e1, e2, e3, e4, e5, e6, e7, e8, e9, e10, e11] _ rfl (((((((((((((Exs.nil C).snoc he0 hd0 hn0).snoc he1 hd1 hn1).snoc he2 hd2 hn2).snoc he3 hd3 hn3).snoc he4 hd4 hn4).snoc he5 hd5 hn5).snoc he6 hd6 hn6).snoc he7 hd7 hn7).snoc he8 hd8 hn8).snoc he9 hd9 hn9).snoc he10 hd10 hn10).snoc he11 hd11 hn11)⟩
/-! _law_named -/
theorem pure__law_named : PU m__law_named 2 1 sp__law_named := fun ds C PR PX ⟨vs, ed, hl, q⟩ => ⟨by rw [ed]; rfl, by
  subst ed
  obtain ⟨v0, v1, v2, v3, v4, v5, v6, v7, v8, v9, v10, v11, rfl⟩ := twelve hl
  change m__law_named _ _ [.shr (.lst [v0, v1, v2, v3, v4, v5, v6, v7, v8, v9, v10, v11]), .non] C
  unfold m__law_named
  have hz := sizeLine_eq
  decreasing_trivial
  refine g_ixL (x := v0) (atI_nat (k := 0) rfl) ?_
  decreasing_trivial
  refine ⟨rfl, rfl, v0, rfl, fun e0 d0 he0 hd0 hn0 => ?_⟩
  decreasing_trivial
  refine g_ixL (x := v1) (atI_nat (k := 1) rfl) ?_
  decreasing_trivial
  refine ⟨rfl, rfl, v1, rfl, fun e1 d1 he1 hd1 hn1 => ?_⟩
  decreasing_trivial
  refine g_ixL (x := v2) (atI_nat (k := 2) rfl) ?_
  decreasing_trivial
  refine ⟨rfl, rfl, v2, rfl, fun e2 d2 he2 hd2 hn2 => ?_⟩
  decreasing_trivial
  refine g_ixL (x := v3) (atI_nat (k := 3) rfl) ?_
  decreasing_trivial
  refine ⟨rfl, rfl, v3, rfl, fun e3 d3 he3 hd3 hn3 => ?_⟩
  decreasing_trivial
  refine g_ixL (x := v4) (atI_nat (k := 4) rfl) ?_
  decreasing_trivial
  refine ⟨rfl, rfl, v4, rfl, fun e4 d4 he4 hd4 hn4 => ?_⟩
  decreasing_trivial
  refine g_ixL (x := v5) (atI_nat (k := 5) rfl) ?_
  decreasing_trivial
  refine ⟨rfl, rfl, v5, rfl, fun e5 d5 he5 hd5 hn5 => ?_⟩
  decreasing_trivial
  refine g_ixL (x := v6) (atI_nat (k := 6) rfl) ?_
  decreasing_trivial
  refine ⟨rfl, rfl, v6, rfl, fun e6 d6 he6 hd6 hn6 => ?_⟩
  decreasing_trivial
  refine g_addL (by simp; omega) ?_
  decreasing_trivial
  refine g_ixL (x := v7) (atI_nat (k := 7) rfl) ?_
  decreasing_trivial
  refine ⟨rfl, rfl, v7, rfl, fun e7 d7 he7 hd7 hn7 => ?_⟩
  decreasing_trivial
  refine g_ixL (x := v8) (atI_nat (k := 8) rfl) ?_
  decreasing_trivial
  refine ⟨rfl, rfl, v8, rfl, fun e8 d8 he8 hd8 hn8 => ?_⟩
  decreasing_trivial
  refine g_ixL (x := v9) (atI_nat (k := 9) rfl) ?_
  decreasing_trivial
  refine ⟨rfl, rfl, v9, rfl, fun e9 d9 he9 hd9 hn9 => ?_⟩
  decreasing_trivial
  refine g_addL (by simp; omega) ?_
  decreasing_trivial
  refine g_ixL (x := v10) (atI_nat (k := 10) rfl) ?_
  decreasing_trivial
  refine ⟨rfl, rfl, v10, rfl, fun e10 d10 he10 hd10 hn10 => ?_⟩
  decreasing_trivial
  refine g_ixL (x := v11) (atI_nat (k := 11) rfl) ?_
  decreasing_trivial
  refine ⟨rfl, rfl, v11, rfl, fun e11 d11 he11 hd11 hn11 => ?_⟩
  decreasing_trivial
  refine g_addL (by simp; omega) ?_
  decreasing_trivial
  exact q [e0, e1, e2, e3, e4, e5, e6, e7, e8, e9, e10, e11] _ rfl (((((((((((((Exs.nil C).snoc he0 hd0 hn0).snoc he1 hd1 hn1).snoc he2 hd2 hn2).snoc he3 hd3 hn3).snoc he4 hd4 hn4).snoc he5 hd5 hn5).snoc he6 hd6 hn6).snoc he7 hd7 hn7).snoc he8 hd8 hn8).snoc he9 hd9 hn9).snoc he10 hd10 hn10).snoc he11 hd11 hn11)⟩
/-! _law_kinds -/
theorem pure__law_kinds : PU m__law_kinds 2 1 sp__law_kinds := fun ds C PR PX ⟨e, B, dd, f, fs, k, ed, he, hd, hk, q⟩ => ⟨by rw [ed]; rfl, by
  subst ed
  change m__law_kinds _ _ [.shr (.cell e), .non] C
  unfold m__law_kinds
  have hz := sizeLine_eq
  have hk12 : k < 12 := (List.getElem?_eq_some_iff.mp hk).1
  have m0 : (B, decide (0 = k)) ∈ [(Cad.c_BadName, true), (Cad.c_BadCode, false), (Cad.c_BadLength, false), (Cad.c_BadCost, false), (Cad.c_BadClock, false), (Cad.c_BadText, false), (Cad.c_BadCommand, false), (Cad.c_UnknownName, false), (Cad.c_NameTaken, false), (Cad.c_NoCoding, false), (Cad.c_NothingToDo, false), (Cad.c_Stuck, false)] := by
    match k, hk12, hk with
    | 0, _, hk => cases hk; exact List.mem_of_getElem? (i := 0) rfl
    | 1, _, hk => cases hk; exact List.mem_of_getElem? (i := 1) rfl
    | 2, _, hk => cases hk; exact List.mem_of_getElem? (i := 2) rfl
    | 3, _, hk => cases hk; exact List.mem_of_getElem? (i := 3) rfl
    | 4, _, hk => cases hk; exact List.mem_of_getElem? (i := 5) rfl
    | 5, _, hk => cases hk; exact List.mem_of_getElem? (i := 6) rfl
    | 6, _, hk => cases hk; exact List.mem_of_getElem? (i := 7) rfl
    | 7, _, hk => cases hk; exact List.mem_of_getElem? (i := 8) rfl
    | 8, _, hk => cases hk; exact List.mem_of_getElem? (i := 9) rfl
    | 9, _, hk => cases hk; exact List.mem_of_getElem? (i := 10) rfl
    | 10, _, hk => cases hk; exact List.mem_of_getElem? (i := 4) rfl
    | 11, _, hk => cases hk; exact List.mem_of_getElem? (i := 11) rfl
  have m1 : (B, decide (1 = k)) ∈ [(Cad.c_BadName, false), (Cad.c_BadCode, true), (Cad.c_BadLength, false), (Cad.c_BadCost, false), (Cad.c_BadClock, false), (Cad.c_BadText, false), (Cad.c_BadCommand, false), (Cad.c_UnknownName, false), (Cad.c_NameTaken, false), (Cad.c_NoCoding, false), (Cad.c_NothingToDo, false), (Cad.c_Stuck, false)] := by
    match k, hk12, hk with
    | 0, _, hk => cases hk; exact List.mem_of_getElem? (i := 0) rfl
    | 1, _, hk => cases hk; exact List.mem_of_getElem? (i := 1) rfl
    | 2, _, hk => cases hk; exact List.mem_of_getElem? (i := 2) rfl
    | 3, _, hk => cases hk; exact List.mem_of_getElem? (i := 3) rfl
    | 4, _, hk => cases hk; exact List.mem_of_getElem? (i := 5) rfl
    | 5, _, hk => cases hk; exact List.mem_of_getElem? (i := 6) rfl
    | 6, _, hk => cases hk; exact List.mem_of_getElem? (i := 7) rfl
    | 7, _, hk => cases hk; exact List.mem_of_getElem? (i := 8) rfl
    | 8, _, hk => cases hk; exact List.mem_of_getElem? (i := 9) rfl
    | 9, _, hk => cases hk; exact List.mem_of_getElem? (i := 10) rfl
    | 10, _, hk => cases hk; exact List.mem_of_getElem? (i := 4) rfl
    | 11, _, hk => cases hk; exact List.mem_of_getElem? (i := 11) rfl
  have m2 : (B, decide (2 = k)) ∈ [(Cad.c_BadName, false), (Cad.c_BadCode, false), (Cad.c_BadLength, true), (Cad.c_BadCost, false), (Cad.c_BadClock, false), (Cad.c_BadText, false), (Cad.c_BadCommand, false), (Cad.c_UnknownName, false), (Cad.c_NameTaken, false), (Cad.c_NoCoding, false), (Cad.c_NothingToDo, false), (Cad.c_Stuck, false)] := by
    match k, hk12, hk with
    | 0, _, hk => cases hk; exact List.mem_of_getElem? (i := 0) rfl
    | 1, _, hk => cases hk; exact List.mem_of_getElem? (i := 1) rfl
    | 2, _, hk => cases hk; exact List.mem_of_getElem? (i := 2) rfl
    | 3, _, hk => cases hk; exact List.mem_of_getElem? (i := 3) rfl
    | 4, _, hk => cases hk; exact List.mem_of_getElem? (i := 5) rfl
    | 5, _, hk => cases hk; exact List.mem_of_getElem? (i := 6) rfl
    | 6, _, hk => cases hk; exact List.mem_of_getElem? (i := 7) rfl
    | 7, _, hk => cases hk; exact List.mem_of_getElem? (i := 8) rfl
    | 8, _, hk => cases hk; exact List.mem_of_getElem? (i := 9) rfl
    | 9, _, hk => cases hk; exact List.mem_of_getElem? (i := 10) rfl
    | 10, _, hk => cases hk; exact List.mem_of_getElem? (i := 4) rfl
    | 11, _, hk => cases hk; exact List.mem_of_getElem? (i := 11) rfl
  have m3 : (B, decide (3 = k)) ∈ [(Cad.c_BadName, false), (Cad.c_BadCode, false), (Cad.c_BadLength, false), (Cad.c_BadCost, true), (Cad.c_BadClock, false), (Cad.c_BadText, false), (Cad.c_BadCommand, false), (Cad.c_UnknownName, false), (Cad.c_NameTaken, false), (Cad.c_NoCoding, false), (Cad.c_NothingToDo, false), (Cad.c_Stuck, false)] := by
    match k, hk12, hk with
    | 0, _, hk => cases hk; exact List.mem_of_getElem? (i := 0) rfl
    | 1, _, hk => cases hk; exact List.mem_of_getElem? (i := 1) rfl
    | 2, _, hk => cases hk; exact List.mem_of_getElem? (i := 2) rfl
    | 3, _, hk => cases hk; exact List.mem_of_getElem? (i := 3) rfl
    | 4, _, hk => cases hk; exact List.mem_of_getElem? (i := 5) rfl
    | 5, _, hk => cases hk; exact List.mem_of_getElem? (i := 6) rfl
    | 6, _, hk => cases hk; exact List.mem_of_getElem? (i := 7) rfl
    | 7, _, hk => cases hk; exact List.mem_of_getElem? (i := 8) rfl
    | 8, _, hk => cases hk; exact List.mem_of_getElem? (i := 9) rfl
    | 9, _, hk => cases hk; exact List.mem_of_getElem? (i := 10) rfl
    | 10, _, hk => cases hk; exact List.mem_of_getElem? (i := 4) rfl
    | 11, _, hk => cases hk; exact List.mem_of_getElem? (i := 11) rfl
  have m4 : (B, decide (4 = k)) ∈ [(Cad.c_BadName, false), (Cad.c_BadCode, false), (Cad.c_BadLength, false), (Cad.c_BadCost, false), (Cad.c_BadClock, false), (Cad.c_BadText, true), (Cad.c_BadCommand, false), (Cad.c_UnknownName, false), (Cad.c_NameTaken, false), (Cad.c_NoCoding, false), (Cad.c_NothingToDo, false), (Cad.c_Stuck, false)] := by
    match k, hk12, hk with
    | 0, _, hk => cases hk; exact List.mem_of_getElem? (i := 0) rfl
    | 1, _, hk => cases hk; exact List.mem_of_getElem? (i := 1) rfl
    | 2, _, hk => cases hk; exact List.mem_of_getElem? (i := 2) rfl
    | 3, _, hk => cases hk; exact List.mem_of_getElem? (i := 3) rfl
    | 4, _, hk => cases hk; exact List.mem_of_getElem? (i := 5) rfl
    | 5, _, hk => cases hk; exact List.mem_of_getElem? (i := 6) rfl
    | 6, _, hk => cases hk; exact List.mem_of_getElem? (i := 7) rfl
    | 7, _, hk => cases hk; exact List.mem_of_getElem? (i := 8) rfl
    | 8, _, hk => cases hk; exact List.mem_of_getElem? (i := 9) rfl
    | 9, _, hk => cases hk; exact List.mem_of_getElem? (i := 10) rfl
    | 10, _, hk => cases hk; exact List.mem_of_getElem? (i := 4) rfl
    | 11, _, hk => cases hk; exact List.mem_of_getElem? (i := 11) rfl
  have m5 : (B, decide (5 = k)) ∈ [(Cad.c_BadName, false), (Cad.c_BadCode, false), (Cad.c_BadLength, false), (Cad.c_BadCost, false), (Cad.c_BadClock, false), (Cad.c_BadText, false), (Cad.c_BadCommand, true), (Cad.c_UnknownName, false), (Cad.c_NameTaken, false), (Cad.c_NoCoding, false), (Cad.c_NothingToDo, false), (Cad.c_Stuck, false)] := by
    match k, hk12, hk with
    | 0, _, hk => cases hk; exact List.mem_of_getElem? (i := 0) rfl
    | 1, _, hk => cases hk; exact List.mem_of_getElem? (i := 1) rfl
    | 2, _, hk => cases hk; exact List.mem_of_getElem? (i := 2) rfl
    | 3, _, hk => cases hk; exact List.mem_of_getElem? (i := 3) rfl
    | 4, _, hk => cases hk; exact List.mem_of_getElem? (i := 5) rfl
    | 5, _, hk => cases hk; exact List.mem_of_getElem? (i := 6) rfl
    | 6, _, hk => cases hk; exact List.mem_of_getElem? (i := 7) rfl
    | 7, _, hk => cases hk; exact List.mem_of_getElem? (i := 8) rfl
    | 8, _, hk => cases hk; exact List.mem_of_getElem? (i := 9) rfl
    | 9, _, hk => cases hk; exact List.mem_of_getElem? (i := 10) rfl
    | 10, _, hk => cases hk; exact List.mem_of_getElem? (i := 4) rfl
    | 11, _, hk => cases hk; exact List.mem_of_getElem? (i := 11) rfl
  have m6 : (B, decide (6 = k)) ∈ [(Cad.c_BadName, false), (Cad.c_BadCode, false), (Cad.c_BadLength, false), (Cad.c_BadCost, false), (Cad.c_BadClock, false), (Cad.c_BadText, false), (Cad.c_BadCommand, false), (Cad.c_UnknownName, true), (Cad.c_NameTaken, false), (Cad.c_NoCoding, false), (Cad.c_NothingToDo, false), (Cad.c_Stuck, false)] := by
    match k, hk12, hk with
    | 0, _, hk => cases hk; exact List.mem_of_getElem? (i := 0) rfl
    | 1, _, hk => cases hk; exact List.mem_of_getElem? (i := 1) rfl
    | 2, _, hk => cases hk; exact List.mem_of_getElem? (i := 2) rfl
    | 3, _, hk => cases hk; exact List.mem_of_getElem? (i := 3) rfl
    | 4, _, hk => cases hk; exact List.mem_of_getElem? (i := 5) rfl
    | 5, _, hk => cases hk; exact List.mem_of_getElem? (i := 6) rfl
    | 6, _, hk => cases hk; exact List.mem_of_getElem? (i := 7) rfl
    | 7, _, hk => cases hk; exact List.mem_of_getElem? (i := 8) rfl
    | 8, _, hk => cases hk; exact List.mem_of_getElem? (i := 9) rfl
    | 9, _, hk => cases hk; exact List.mem_of_getElem? (i := 10) rfl
    | 10, _, hk => cases hk; exact List.mem_of_getElem? (i := 4) rfl
    | 11, _, hk => cases hk; exact List.mem_of_getElem? (i := 11) rfl
  have m7 : (B, decide (7 = k)) ∈ [(Cad.c_BadName, false), (Cad.c_BadCode, false), (Cad.c_BadLength, false), (Cad.c_BadCost, false), (Cad.c_BadClock, false), (Cad.c_BadText, false), (Cad.c_BadCommand, false), (Cad.c_UnknownName, false), (Cad.c_NameTaken, true), (Cad.c_NoCoding, false), (Cad.c_NothingToDo, false), (Cad.c_Stuck, false)] := by
    match k, hk12, hk with
    | 0, _, hk => cases hk; exact List.mem_of_getElem? (i := 0) rfl
    | 1, _, hk => cases hk; exact List.mem_of_getElem? (i := 1) rfl
    | 2, _, hk => cases hk; exact List.mem_of_getElem? (i := 2) rfl
    | 3, _, hk => cases hk; exact List.mem_of_getElem? (i := 3) rfl
    | 4, _, hk => cases hk; exact List.mem_of_getElem? (i := 5) rfl
    | 5, _, hk => cases hk; exact List.mem_of_getElem? (i := 6) rfl
    | 6, _, hk => cases hk; exact List.mem_of_getElem? (i := 7) rfl
    | 7, _, hk => cases hk; exact List.mem_of_getElem? (i := 8) rfl
    | 8, _, hk => cases hk; exact List.mem_of_getElem? (i := 9) rfl
    | 9, _, hk => cases hk; exact List.mem_of_getElem? (i := 10) rfl
    | 10, _, hk => cases hk; exact List.mem_of_getElem? (i := 4) rfl
    | 11, _, hk => cases hk; exact List.mem_of_getElem? (i := 11) rfl
  have m8 : (B, decide (8 = k)) ∈ [(Cad.c_BadName, false), (Cad.c_BadCode, false), (Cad.c_BadLength, false), (Cad.c_BadCost, false), (Cad.c_BadClock, false), (Cad.c_BadText, false), (Cad.c_BadCommand, false), (Cad.c_UnknownName, false), (Cad.c_NameTaken, false), (Cad.c_NoCoding, true), (Cad.c_NothingToDo, false), (Cad.c_Stuck, false)] := by
    match k, hk12, hk with
    | 0, _, hk => cases hk; exact List.mem_of_getElem? (i := 0) rfl
    | 1, _, hk => cases hk; exact List.mem_of_getElem? (i := 1) rfl
    | 2, _, hk => cases hk; exact List.mem_of_getElem? (i := 2) rfl
    | 3, _, hk => cases hk; exact List.mem_of_getElem? (i := 3) rfl
    | 4, _, hk => cases hk; exact List.mem_of_getElem? (i := 5) rfl
    | 5, _, hk => cases hk; exact List.mem_of_getElem? (i := 6) rfl
    | 6, _, hk => cases hk; exact List.mem_of_getElem? (i := 7) rfl
    | 7, _, hk => cases hk; exact List.mem_of_getElem? (i := 8) rfl
    | 8, _, hk => cases hk; exact List.mem_of_getElem? (i := 9) rfl
    | 9, _, hk => cases hk; exact List.mem_of_getElem? (i := 10) rfl
    | 10, _, hk => cases hk; exact List.mem_of_getElem? (i := 4) rfl
    | 11, _, hk => cases hk; exact List.mem_of_getElem? (i := 11) rfl
  have m9 : (B, decide (9 = k)) ∈ [(Cad.c_BadName, false), (Cad.c_BadCode, false), (Cad.c_BadLength, false), (Cad.c_BadCost, false), (Cad.c_BadClock, false), (Cad.c_BadText, false), (Cad.c_BadCommand, false), (Cad.c_UnknownName, false), (Cad.c_NameTaken, false), (Cad.c_NoCoding, false), (Cad.c_NothingToDo, true), (Cad.c_Stuck, false)] := by
    match k, hk12, hk with
    | 0, _, hk => cases hk; exact List.mem_of_getElem? (i := 0) rfl
    | 1, _, hk => cases hk; exact List.mem_of_getElem? (i := 1) rfl
    | 2, _, hk => cases hk; exact List.mem_of_getElem? (i := 2) rfl
    | 3, _, hk => cases hk; exact List.mem_of_getElem? (i := 3) rfl
    | 4, _, hk => cases hk; exact List.mem_of_getElem? (i := 5) rfl
    | 5, _, hk => cases hk; exact List.mem_of_getElem? (i := 6) rfl
    | 6, _, hk => cases hk; exact List.mem_of_getElem? (i := 7) rfl
    | 7, _, hk => cases hk; exact List.mem_of_getElem? (i := 8) rfl
    | 8, _, hk => cases hk; exact List.mem_of_getElem? (i := 9) rfl
    | 9, _, hk => cases hk; exact List.mem_of_getElem? (i := 10) rfl
    | 10, _, hk => cases hk; exact List.mem_of_getElem? (i := 4) rfl
    | 11, _, hk => cases hk; exact List.mem_of_getElem? (i := 11) rfl
  have m10 : (B, decide (10 = k)) ∈ [(Cad.c_BadName, false), (Cad.c_BadCode, false), (Cad.c_BadLength, false), (Cad.c_BadCost, false), (Cad.c_BadClock, true), (Cad.c_BadText, false), (Cad.c_BadCommand, false), (Cad.c_UnknownName, false), (Cad.c_NameTaken, false), (Cad.c_NoCoding, false), (Cad.c_NothingToDo, false), (Cad.c_Stuck, false)] := by
    match k, hk12, hk with
    | 0, _, hk => cases hk; exact List.mem_of_getElem? (i := 0) rfl
    | 1, _, hk => cases hk; exact List.mem_of_getElem? (i := 1) rfl
    | 2, _, hk => cases hk; exact List.mem_of_getElem? (i := 2) rfl
    | 3, _, hk => cases hk; exact List.mem_of_getElem? (i := 3) rfl
    | 4, _, hk => cases hk; exact List.mem_of_getElem? (i := 5) rfl
    | 5, _, hk => cases hk; exact List.mem_of_getElem? (i := 6) rfl
    | 6, _, hk => cases hk; exact List.mem_of_getElem? (i := 7) rfl
    | 7, _, hk => cases hk; exact List.mem_of_getElem? (i := 8) rfl
    | 8, _, hk => cases hk; exact List.mem_of_getElem? (i := 9) rfl
    | 9, _, hk => cases hk; exact List.mem_of_getElem? (i := 10) rfl
    | 10, _, hk => cases hk; exact List.mem_of_getElem? (i := 4) rfl
    | 11, _, hk => cases hk; exact List.mem_of_getElem? (i := 11) rfl
  have m11 : (B, decide (11 = k)) ∈ [(Cad.c_BadName, false), (Cad.c_BadCode, false), (Cad.c_BadLength, false), (Cad.c_BadCost, false), (Cad.c_BadClock, false), (Cad.c_BadText, false), (Cad.c_BadCommand, false), (Cad.c_UnknownName, false), (Cad.c_NameTaken, false), (Cad.c_NoCoding, false), (Cad.c_NothingToDo, false), (Cad.c_Stuck, true)] := by
    match k, hk12, hk with
    | 0, _, hk => cases hk; exact List.mem_of_getElem? (i := 0) rfl
    | 1, _, hk => cases hk; exact List.mem_of_getElem? (i := 1) rfl
    | 2, _, hk => cases hk; exact List.mem_of_getElem? (i := 2) rfl
    | 3, _, hk => cases hk; exact List.mem_of_getElem? (i := 3) rfl
    | 4, _, hk => cases hk; exact List.mem_of_getElem? (i := 5) rfl
    | 5, _, hk => cases hk; exact List.mem_of_getElem? (i := 6) rfl
    | 6, _, hk => cases hk; exact List.mem_of_getElem? (i := 7) rfl
    | 7, _, hk => cases hk; exact List.mem_of_getElem? (i := 8) rfl
    | 8, _, hk => cases hk; exact List.mem_of_getElem? (i := 9) rfl
    | 9, _, hk => cases hk; exact List.mem_of_getElem? (i := 10) rfl
    | 10, _, hk => cases hk; exact List.mem_of_getElem? (i := 4) rfl
    | 11, _, hk => cases hk; exact List.mem_of_getElem? (i := 11) rfl
  decreasing_trivial
  refine ⟨e, B, dd, fs, _, rfl, he, hd, m0, ?_⟩
  decreasing_trivial
  refine ⟨e, B, dd, fs, _, rfl, he, hd, m1, ?_⟩
  decreasing_trivial
  refine ⟨e, B, dd, fs, _, rfl, he, hd, m2, ?_⟩
  decreasing_trivial
  refine ⟨e, B, dd, fs, _, rfl, he, hd, m3, ?_⟩
  decreasing_trivial
  refine ⟨e, B, dd, fs, _, rfl, he, hd, m4, ?_⟩
  decreasing_trivial
  refine ⟨e, B, dd, fs, _, rfl, he, hd, m5, ?_⟩
  decreasing_trivial
  refine g_addL (by simp; omega) ?_
  decreasing_trivial
  refine ⟨e, B, dd, fs, _, rfl, he, hd, m6, ?_⟩
  decreasing_trivial
  refine ⟨e, B, dd, fs, _, rfl, he, hd, m7, ?_⟩
  decreasing_trivial
  refine ⟨e, B, dd, fs, _, rfl, he, hd, m8, ?_⟩
  decreasing_trivial
  refine g_addL (by simp; omega) ?_
  decreasing_trivial
  refine ⟨e, B, dd, fs, _, rfl, he, hd, m9, ?_⟩
  decreasing_trivial
  refine ⟨e, B, dd, fs, _, rfl, he, hd, m10, ?_⟩
  decreasing_trivial
  refine ⟨e, B, dd, fs, _, rfl, he, hd, m11, ?_⟩
  decreasing_trivial
  refine g_addL (by simp; omega) ?_
  decreasing_trivial
  exact q⟩
/-! _law_of_one_kind -/
theorem kb04_ok (k : Nat) : okD (.lst (kb04 k)) = true := okD_flat fun d hd => by
  obtain ⟨j, _, rfl⟩ := List.mem_map.mp hd
  rfl
theorem pure__law_of_one_kind : PU m__law_of_one_kind 3 2 sp__law_of_one_kind := fun ds C PR PX ⟨e, B, dd, f, fs, k, ed, he, hd, hk, q⟩ => ⟨by rw [ed]; rfl, by
  subst ed
  change m__law_of_one_kind _ _ [.shr (.cell e), .shr (.int k), .non] C
  unfold m__law_of_one_kind
  have hz := sizeLine_eq
  have hk12 : k < 12 := (List.getElem?_eq_some_iff.mp hk).1
  have m : (B, true) ∈ [(Cad.c_BadName, true), (Cad.c_BadCode, true), (Cad.c_BadLength, true), (Cad.c_BadCost, true), (Cad.c_BadClock, true), (Cad.c_BadText, true), (Cad.c_BadCommand, true), (Cad.c_UnknownName, true), (Cad.c_NameTaken, true), (Cad.c_NoCoding, true), (Cad.c_NothingToDo, true), (Cad.c_Stuck, true)] := by
    match k, hk12, hk with
    | 0, _, hk => cases hk; exact List.mem_of_getElem? (i := 0) rfl
    | 1, _, hk => cases hk; exact List.mem_of_getElem? (i := 1) rfl
    | 2, _, hk => cases hk; exact List.mem_of_getElem? (i := 2) rfl
    | 3, _, hk => cases hk; exact List.mem_of_getElem? (i := 3) rfl
    | 4, _, hk => cases hk; exact List.mem_of_getElem? (i := 5) rfl
    | 5, _, hk => cases hk; exact List.mem_of_getElem? (i := 6) rfl
    | 6, _, hk => cases hk; exact List.mem_of_getElem? (i := 7) rfl
    | 7, _, hk => cases hk; exact List.mem_of_getElem? (i := 8) rfl
    | 8, _, hk => cases hk; exact List.mem_of_getElem? (i := 9) rfl
    | 9, _, hk => cases hk; exact List.mem_of_getElem? (i := 10) rfl
    | 10, _, hk => cases hk; exact List.mem_of_getElem? (i := 4) rfl
    | 11, _, hk => cases hk; exact List.mem_of_getElem? (i := 11) rfl
  decreasing_trivial
  refine ⟨e, B, dd, fs, true, rfl, he, hd, m, ?_⟩
  decreasing_trivial
  refine ⟨e, B, dd, fs, true, rfl, he, hd, m, ?_⟩
  decreasing_trivial
  refine ⟨e, B, dd, f, fs, k, rfl, he, hd, hk, ?_⟩
  decreasing_trivial
  refine r_rng1 (by decide) ?_
  rw [show intsFrom 0 (Int.toNat 12) = (List.range 12).map fun (i : Nat) => D.int i from rfl]
  refine ⟨rfl, compL_map (List.range 12) (fun (i : Nat) => D.int i) (fun i => .bl (decide (i = k))) (by show 12 ≤ sizeLine; omega) (fun i hi acc nxt h1 h2 => ?_) ?_⟩
  · decreasing_trivial
    refine ⟨rfl, rfl, ?_⟩
    decreasing_trivial
    rw [show decide ((i : Int) = (k : Int)) = decide (i = k) from decide_eq_decide.mpr (by omega)]
    exact ⟨rfl, h1, h2⟩
  decreasing_trivial
  refine g_eqD (d := .lst (kb04 k)) (e := .lst (kb04 k)) (kb04_ok k) (kb04_ok k) rfl rfl ?_
  rw [eqv_self (kb04_ok k)]
  exact q⟩
/-! law -/
/-- these exceptions stand there -/
structure ExsA (C : Cs) (es : List Addr) (l : List (Addr × Str × D)) : Prop where
  len : es.length = l.length
  at_ : ∀ (i : Nat) e p, es[i]? = some e → l[i]? = some p → ∃ dd, C e = some (exK e p.1 dd) ∧ C dd = some (xdK dd [(p.2.1, p.2.2)])
theorem ExsA.of {C C' : Cs} {es : List Addr} {l : List (Addr × Str × D)} (h : Exs C C' es l) : ExsA C' es l := ⟨h.len, h.at_⟩
theorem ExsA.grow {C C' : Cs} {es : List Addr} {l : List (Addr × Str × D)} (h : ExsA C es l) (g : GrwC C C') : ExsA C' es l := ⟨h.len, fun i e p h1 h2 => by
  obtain ⟨dd, a, b⟩ := h.at_ i e p h1 h2
  exact ⟨dd, g _ _ a, g _ _ b⟩⟩
theorem ExsA.wr {C : Cs} {es : List Addr} {l : List (Addr × Str × D)} {a : Addr} {xs : List D} {u : Cell} (h : ExsA C es l) (ha : C a = some (.lst xs)) : ExsA (cput C a u) es l := ⟨h.len, fun i e p h1 h2 => by
  obtain ⟨dd, x, y⟩ := h.at_ i e p h1 h2
  have n1 : e ≠ a := fun z => by rw [z, ha] at x; unfold exK at x; cases x
  have n2 : dd ≠ a := fun z => by rw [z, ha] at y; unfold xdK at y; cases y
  exact ⟨dd, by rw [cput_ne n1]; exact x, by rw [cput_ne n2]; exact y⟩⟩
theorem l04_get {vs : List D} (h : vs.length = 12) {i : Nat} (hi : i < 12) : ∃ B f d, kn04[i]? = some (B, f) ∧ (l04 vs)[i]? = some (B, f, d) := by
  have h1 : i < kn04.length := hi
  have h2 : i < vs.length := by omega
  refine ⟨kn04[i].1, kn04[i].2, vs[i], List.getElem?_eq_getElem h1, ?_⟩
  unfold l04
  rw [List.getElem?_map, show (kn04.zip vs)[i]? = some (kn04[i], vs[i]) from by rw [List.getElem?_zip_eq_some]; exact ⟨List.getElem?_eq_getElem h1, List.getElem?_eq_getElem h2⟩]
  rfl
theorem g_inF {C : Cs} {α : Type} {l : List α} {P : D → Prop} (q : P (.bl false)) : gIn false (dr C (.bl false)) (dr C (.lst (l.map fun _ => D.bl true))) P := by
  refine ⟨.inl ⟨rfl, ?_⟩, ?_⟩
  · rw [List.all_eq_true]
    intro d hd
    obtain ⟨_, _, rfl⟩ := List.mem_map.mp hd
    rfl
  · have : inD (.bl false) (l.map fun _ => D.bl true) = false := by
      unfold inD
      rw [List.any_eq_false]
      intro d hd
      obtain ⟨_, _, rfl⟩ := List.mem_map.mp hd
      decide
    show P (.bl (inD (.bl false) (l.map fun _ => D.bl true)))
    rw [this]
    exact q
theorem th04s {vs : List D} (h : ∀ d ∈ vs, Th04 d) (hl : vs.length = 12) : shOk (.lst vs) := by
  have a := Shws.lst (Shws.all (k := 6) (w := 400) h)
  rw [hl] at a
  exact a.ok (by decide) (by decide)
theorem twelveD {vs : List D} (h : vs.length = 12) : ∃ v0 v1 v2 v3 v4 v5 v6 v7 v8 v9 v10 v11, vs = [v0, v1, v2, v3, v4, v5, v6, v7, v8, v9, v10, v11] := by
  match vs, h with
  | [v0, v1, v2, v3, v4, v5, v6, v7, v8, v9, v10, v11], _ => exact ⟨_, _, _, _, _, _, _, _, _, _, _, _, rfl⟩
theorem twelveA {es : List Addr} (h : es.length = 12) : ∃ e0 e1 e2 e3 e4 e5 e6 e7 e8 e9 e10 e11, es = [e0, e1, e2, e3, e4, e5, e6, e7, e8, e9, e10, e11] := by
  match es, h with
  | [e0, e1, e2, e3, e4, e5, e6, e7, e8, e9, e10, e11], _ => exact ⟨_, _, _, _, _, _, _, _, _, _, _, _, rfl⟩
theorem pure_law : PU m_law 15 1 spLaw := fun ds C PR PX ⟨ns, e, hl, hb, q⟩ => ⟨by rw [e]; rfl, by
  subst e
  change m_law _ _ [.shr (.scr ns), .non, .non, .non, .non, .non, .non, .non, .non, .non, .non, .non, .non, .non, .non] C
  unfold m_law
  have hz := sizeLine_eq
  decreasing_trivial
  have hn : ∀ m : Nat, m ≤ 63 → (if (if (m : Int) < 4 then (m : Int) else 4) > 1 then (if (m : Int) < 4 then (m : Int) else 4) else 1 : Int) ≤ 4 := fun m hm => by split <;> split <;> omega
  generalize hj : (if (if (ns.length : Int) < 4 then (ns.length : Int) else 4) > 1 then (if (ns.length : Int) < 4 then (ns.length : Int) else 4) else 1 : Int) = j
  have hj4 : j ≤ 4 := by rw [← hj]; exact hn _ hl
  have hj2 : 1 ≤ j := by rw [← hj]; split <;> omega
  refine r_rng1 (by omega) ?_
  refine forL_inv (fun _ env _ => ∃ s1 s2 s3 s4 s5 s6 s7 s8 s9 s10 s11 s12 s13 s14, Ns s13 ∧ Ns s14 ∧ env = [.shr (.scr ns), s1, s2, s3, s4, s5, s6, s7, s8, s9, s10, s11, s12, s13, s14]) ⟨_, _, _, _, _, _, _, _, _, _, _, _, _, _, ns_non, ns_non, rfl⟩ ?_ ?_
  · rintro k d env C1 nx' hd ⟨s1, s2, s3, s4, s5, s6, s7, s8, s9, s10, s11, s12, s13, s14, n13, n14, rfl⟩ hx
    obtain ⟨rfl, hk⟩ := range_get hd
    decreasing_trivial
    refine ⟨ns, k, rfl, hl, by omega, hb, fun x y y0 y1 => ?_⟩
    refine ⟨true, asPur_vis y0 y1, fun st hst => ?_⟩
    have hc : cput C1 st (.pur true) st = some (.pur true) := cput_same
    generalize cput C1 st (.pur true) = C2 at hc ⊢
    decreasing_trivial
    refine r_rng1 (by decide) ?_
    refine forL_inv (fun i env C' => C' st = some (.pur true) ∧ ∃ s3 s4 s5 s6 s7 s8 s9 s10 s11 s12 s13 s14, Ns s13 ∧ Ns s14 ∧ env = [.shr (.scr ns), .shr (.int k), .shr (.cell st), s3, s4, s5, s6, s7, s8, s9, s10, s11, s12, s13, s14]) ⟨hc, _, _, _, _, _, _, _, _, _, _, _, _, n13, n14, rfl⟩ ?_ ?_
    · rintro i d env C3 nx2 hd ⟨hc, s3, s4, s5, s6, s7, s8, s9, s10, s11, s12, s13, s14, n13, n14, rfl⟩ hx2
      obtain ⟨rfl, hi4⟩ := range_get hd
      decreasing_trivial
      refine ⟨st, i, rfl, hc, by omega, fun v1 lv1 t1 => ?_⟩
      decreasing_trivial
      refine ⟨st, i, rfl, hc, by omega, fun v2 lv2 t2 => ?_⟩
      decreasing_trivial
      intro ow how
      have how : C3 ow = none := how
      have nso : st ≠ ow := fun z => by rw [z, how] at hc; cases hc
      have hc : cput C3 ow (.lst [.str [97]]) st = some (.pur true) := by rw [cput_ne nso]; exact hc
      have ho : cput C3 ow (.lst [.str [97]]) ow = some (.lst [.str [97]]) := cput_same
      generalize cput C3 ow (.lst [.str [97]]) = C4 at hc ho ⊢
      decreasing_trivial
      refine ⟨v1, rfl, lv1, fun e1 C5 le1 x1 => ?_⟩
      decreasing_trivial
      refine ⟨v2, rfl, lv2, fun e2 C6 le2 x2 => ?_⟩
      have X1 : ExsA C6 e1 (l04 v1) := (ExsA.of x1).grow x2.gr
      have X2 : ExsA C6 e2 (l04 v2) := ExsA.of x2
      have hc : C6 st = some (.pur true) := x2.gr _ _ (x1.gr _ _ hc)
      have ho : C6 ow = some (.lst [.str [97]]) := x2.gr _ _ (x1.gr _ _ ho)
      clear x1 x2
      decreasing_trivial
      refine ⟨rfl, rfl, .cell ow, rfl, fun a0 b0 ha0 hb0 hn0 => ?_⟩
      have g0 : GrwC C6 (cput (cput C6 b0 (xdK b0 [("value", .cell ow)])) a0 (exK a0 Cad.c_BadName b0)) := (GrwC.refl _).ex ha0 hb0 hn0
      refine ⟨a0, Cad.c_BadName, b0, _, .cell ow, rfl, cput_same, by rw [cput_ne (Ne.symm hn0)]; exact cput_same, List.mem_of_getElem? (i := 0) rfl, rfl, ?_⟩
      generalize cput (cput C6 b0 (xdK b0 [("value", .cell ow)])) a0 (exK a0 Cad.c_BadName b0) = C7 at g0 ⊢
      have X1 := X1.grow g0
      have X2 := X2.grow g0
      have hc := g0 _ _ hc
      have ho := g0 _ _ ho
      clear g0 ha0 hb0 hn0
      decreasing_trivial
      refine ⟨rfl, rfl, .cell ow, rfl, fun a1 b1 ha1 hb1 hn1 => ?_⟩
      have g1 : GrwC C7 (cput (cput C7 b1 (xdK b1 [("value", .cell ow)])) a1 (exK a1 Cad.c_BadCode b1)) := (GrwC.refl _).ex ha1 hb1 hn1
      refine ⟨a1, Cad.c_BadCode, b1, _, .cell ow, rfl, cput_same, by rw [cput_ne (Ne.symm hn1)]; exact cput_same, List.mem_of_getElem? (i := 1) rfl, rfl, ?_⟩
      generalize cput (cput C7 b1 (xdK b1 [("value", .cell ow)])) a1 (exK a1 Cad.c_BadCode b1) = C8 at g1 ⊢
      have X1 := X1.grow g1
      have X2 := X2.grow g1
      have hc := g1 _ _ hc
      have ho := g1 _ _ ho
      clear g1 ha1 hb1 hn1
      decreasing_trivial
      refine ⟨rfl, rfl, .cell ow, rfl, fun a2 b2 ha2 hb2 hn2 => ?_⟩
      have g2 : GrwC C8 (cput (cput C8 b2 (xdK b2 [("value", .cell ow)])) a2 (exK a2 Cad.c_BadLength b2)) := (GrwC.refl _).ex ha2 hb2 hn2
      refine ⟨a2, Cad.c_BadLength, b2, _, .cell ow, rfl, cput_same, by rw [cput_ne (Ne.symm hn2)]; exact cput_same, List.mem_of_getElem? (i := 2) rfl, rfl, ?_⟩
      generalize cput (cput C8 b2 (xdK b2 [("value", .cell ow)])) a2 (exK a2 Cad.c_BadLength b2) = C9 at g2 ⊢
      have X1 := X1.grow g2
      have X2 := X2.grow g2
      have hc := g2 _ _ hc
      have ho := g2 _ _ ho
      clear g2 ha2 hb2 hn2
      decreasing_trivial
      refine ⟨rfl, rfl, .cell ow, rfl, fun a3 b3 ha3 hb3 hn3 => ?_⟩
      have g3 : GrwC C9 (cput (cput C9 b3 (xdK b3 [("value", .cell ow)])) a3 (exK a3 Cad.c_BadText b3)) := (GrwC.refl _).ex ha3 hb3 hn3
      refine ⟨a3, Cad.c_BadText, b3, _, .cell ow, rfl, cput_same, by rw [cput_ne (Ne.symm hn3)]; exact cput_same, List.mem_of_getElem? (i := 5) rfl, rfl, ?_⟩
      generalize cput (cput C9 b3 (xdK b3 [("value", .cell ow)])) a3 (exK a3 Cad.c_BadText b3) = C10 at g3 ⊢
      have X1 := X1.grow g3
      have X2 := X2.grow g3
      have hc := g3 _ _ hc
      have ho := g3 _ _ ho
      clear g3 ha3 hb3 hn3
      decreasing_trivial
      refine ⟨rfl, rfl, .cell ow, rfl, fun a4 b4 ha4 hb4 hn4 => ?_⟩
      have g4 : GrwC C10 (cput (cput C10 b4 (xdK b4 [("command", .cell ow)])) a4 (exK a4 Cad.c_BadCommand b4)) := (GrwC.refl _).ex ha4 hb4 hn4
      refine ⟨a4, Cad.c_BadCommand, b4, _, .cell ow, rfl, cput_same, by rw [cput_ne (Ne.symm hn4)]; exact cput_same, List.mem_of_getElem? (i := 0) rfl, rfl, ?_⟩
      generalize cput (cput C10 b4 (xdK b4 [("command", .cell ow)])) a4 (exK a4 Cad.c_BadCommand b4) = C11 at g4 ⊢
      have X1 := X1.grow g4
      have X2 := X2.grow g4
      have hc := g4 _ _ hc
      have ho := g4 _ _ ho
      clear g4 ha4 hb4 hn4
      decreasing_trivial
      refine ⟨rfl, rfl, .cell ow, rfl, fun a5 b5 ha5 hb5 hn5 => ?_⟩
      have g5 : GrwC C11 (cput (cput C11 b5 (xdK b5 [("crowd", .cell ow)])) a5 (exK a5 Cad.c_NoCoding b5)) := (GrwC.refl _).ex ha5 hb5 hn5
      refine ⟨a5, Cad.c_NoCoding, b5, _, .cell ow, rfl, cput_same, by rw [cput_ne (Ne.symm hn5)]; exact cput_same, List.mem_of_getElem? (i := 0) rfl, rfl, ?_⟩
      generalize cput (cput C11 b5 (xdK b5 [("crowd", .cell ow)])) a5 (exK a5 Cad.c_NoCoding b5) = C12 at g5 ⊢
      have X1 := X1.grow g5
      have X2 := X2.grow g5
      have hc := g5 _ _ hc
      have ho := g5 _ _ ho
      clear g5 ha5 hb5 hn5
      decreasing_trivial
      refine ⟨rfl, rfl, .cell ow, rfl, fun a6 b6 ha6 hb6 hn6 => ?_⟩
      have g6 : GrwC C12 (cput (cput C12 b6 (xdK b6 [("value", .cell ow)])) a6 (exK a6 Cad.c_BadClock b6)) := (GrwC.refl _).ex ha6 hb6 hn6
      refine ⟨a6, Cad.c_BadClock, b6, _, .cell ow, rfl, cput_same, by rw [cput_ne (Ne.symm hn6)]; exact cput_same, List.mem_of_getElem? (i := 4) rfl, rfl, ?_⟩
      generalize cput (cput C12 b6 (xdK b6 [("value", .cell ow)])) a6 (exK a6 Cad.c_BadClock b6) = C13 at g6 ⊢
      have X1 := X1.grow g6
      have X2 := X2.grow g6
      have hc := g6 _ _ hc
      have ho := g6 _ _ ho
      clear g6 ha6 hb6 hn6
      decreasing_trivial
      refine g_addL (by show 3 + 4 ≤ sizeLine; omega) ?_
      decreasing_trivial
      refine ⟨ow, _, rfl, ho, ?_⟩
      decreasing_trivial
      refine ⟨_, ho, by show 1 < sizeLine; omega, ?_⟩
      have X1 := X1.wr (u := .lst ([.str [97]] ++ [.str [98]])) ho
      have X2 := X2.wr (u := .lst ([.str [97]] ++ [.str [98]])) ho
      have hc : cput C13 ow (.lst ([.str [97]] ++ [.str [98]])) st = some (.pur true) := by rw [cput_ne nso]; exact hc
      have ho : cput C13 ow (.lst ([.str [97]] ++ [.str [98]])) ow = some (.lst [.str [97], .str [98]]) := cput_same
      generalize cput C13 ow (.lst ([.str [97]] ++ [.str [98]])) = C14 at X1 X2 hc ho ⊢
      decreasing_trivial
      have rd : RdG C14 (.cell ow) (.lst [.str [97], .str [98]]) := .cel ho (RdGs.refl _)
      refine i_hidG _ (LaidG.set (i := 9) (d' := .lst [.lst [.str [97], .str [98]], .lst [.str [97], .str [98]], .lst [.str [97], .str [98]], .lst [.str [97], .str [98]], .lst [.str [97], .str [98]], .lst [.str [97], .str [98]], .lst [.str [97], .str [98]]]) rfl (.lst (.cons rd (.cons rd (.cons rd (.cons rd (.cons rd (.cons rd (.cons rd .nil))))))))) ?_
      decreasing_trivial
      have shk : shOk (.lst [.lst [.str [97], .str [98]], .lst [.str [97], .str [98]], .lst [.str [97], .str [98]], .lst [.str [97], .str [98]], .lst [.str [97], .str [98]], .lst [.str [97], .str [98]], .lst [.str [97], .str [98]]]) := by
        have a : Shw 1 20 (.lst (txs [[97], [98]])) := (Shws.lst (shws_txs (k := 0) (m := 2) (w := 1) (by decide) (by decide))).mono (Nat.le_refl _) (by decide)
        exact (Shws.lst (.cons a (.cons a (.cons a (.cons a (.cons a (.cons a (.cons a (Shws.nil (w := 0)))))))))).ok (by decide) (by decide)
      refine g_repr rfl shk ?_
      refine ⟨rfl, trivial, ?_⟩
      decreasing_trivial
      refine g_mulL ⟨by decide, by decide, by show 1 * 7 ≤ sizeLine; omega⟩ ?_
      decreasing_trivial
      refine g_repr (d := .lst [.lst [.str [97], .str [98]], .lst [.str [97], .str [98]], .lst [.str [97], .str [98]], .lst [.str [97], .str [98]], .lst [.str [97], .str [98]], .lst [.str [97], .str [98]], .lst [.str [97], .str [98]]]) rfl shk ?_
      decreasing_trivial
      refine i_ite (fun h => absurd h (by simp)) fun _ => ?_
      have facts : ∀ (es : List Addr) (vs : List D), es.length = 12 → vs.length = 12 → ExsA C14 es (l04 vs) → (∀ (i : Nat) e, es[i]? = some e → ∃ (B dd : Addr) (f : Str) (fs : List (Str × D)), C14 e = some (exK e B dd) ∧ C14 dd = some (xdK dd fs) ∧ kn04[i]? = some (B, f)) ∧ es.zipIdx.length = 12 ∧ enumD 0 (es.map D.cell) = es.zipIdx.map fun e => D.tup [.int e.2, .cell e.1] := fun es vs les lvs X => by
        refine ⟨fun i e he => ?_, by rw [List.length_zipIdx]; exact les, List.ext_getElem? fun i => ?_⟩
        · obtain ⟨B, f, d, h1, h2⟩ := l04_get lvs (i := i) (by have := (List.getElem?_eq_some_iff.mp he).1; omega)
          obtain ⟨dd, a, b⟩ := X.at_ i e _ he h2
          exact ⟨B, dd, f, _, a, b, h1⟩
        · rw [enumD_get, List.getElem?_map, List.getElem?_map, List.getElem?_zipIdx]
          cases es[i]? with
          | none => rfl
          | some c => simp
      obtain ⟨one1, lz1, eq1⟩ := facts e1 v1 le1 lv1 X1
      have shv1 := th04s t1 lv1
      obtain ⟨p1_0, p1_1, p1_2, p1_3, p1_4, p1_5, p1_6, p1_7, p1_8, p1_9, p1_10, p1_11, rfl⟩ := twelveA le1
      obtain ⟨w1_0, w1_1, w1_2, w1_3, w1_4, w1_5, w1_6, w1_7, w1_8, w1_9, w1_10, w1_11, rfl⟩ := twelveD lv1
      obtain ⟨d1_0, a1_0, b1_0⟩ := X1.at_ 0 _ _ rfl rfl
      obtain ⟨d1_1, a1_1, b1_1⟩ := X1.at_ 1 _ _ rfl rfl
      obtain ⟨d1_2, a1_2, b1_2⟩ := X1.at_ 2 _ _ rfl rfl
      obtain ⟨d1_3, a1_3, b1_3⟩ := X1.at_ 3 _ _ rfl rfl
      obtain ⟨d1_4, a1_4, b1_4⟩ := X1.at_ 4 _ _ rfl rfl
      obtain ⟨d1_5, a1_5, b1_5⟩ := X1.at_ 5 _ _ rfl rfl
      obtain ⟨d1_6, a1_6, b1_6⟩ := X1.at_ 6 _ _ rfl rfl
      obtain ⟨d1_7, a1_7, b1_7⟩ := X1.at_ 7 _ _ rfl rfl
      obtain ⟨d1_8, a1_8, b1_8⟩ := X1.at_ 8 _ _ rfl rfl
      obtain ⟨d1_9, a1_9, b1_9⟩ := X1.at_ 9 _ _ rfl rfl
      obtain ⟨d1_10, a1_10, b1_10⟩ := X1.at_ 10 _ _ rfl rfl
      obtain ⟨d1_11, a1_11, b1_11⟩ := X1.at_ 11 _ _ rfl rfl
      clear X1
      obtain ⟨one2, lz2, eq2⟩ := facts e2 v2 le2 lv2 X2
      have shv2 := th04s t2 lv2
      obtain ⟨p2_0, p2_1, p2_2, p2_3, p2_4, p2_5, p2_6, p2_7, p2_8, p2_9, p2_10, p2_11, rfl⟩ := twelveA le2
      obtain ⟨w2_0, w2_1, w2_2, w2_3, w2_4, w2_5, w2_6, w2_7, w2_8, w2_9, w2_10, w2_11, rfl⟩ := twelveD lv2
      obtain ⟨d2_0, a2_0, b2_0⟩ := X2.at_ 0 _ _ rfl rfl
      obtain ⟨d2_1, a2_1, b2_1⟩ := X2.at_ 1 _ _ rfl rfl
      obtain ⟨d2_2, a2_2, b2_2⟩ := X2.at_ 2 _ _ rfl rfl
      obtain ⟨d2_3, a2_3, b2_3⟩ := X2.at_ 3 _ _ rfl rfl
      obtain ⟨d2_4, a2_4, b2_4⟩ := X2.at_ 4 _ _ rfl rfl
      obtain ⟨d2_5, a2_5, b2_5⟩ := X2.at_ 5 _ _ rfl rfl
      obtain ⟨d2_6, a2_6, b2_6⟩ := X2.at_ 6 _ _ rfl rfl
      obtain ⟨d2_7, a2_7, b2_7⟩ := X2.at_ 7 _ _ rfl rfl
      obtain ⟨d2_8, a2_8, b2_8⟩ := X2.at_ 8 _ _ rfl rfl
      obtain ⟨d2_9, a2_9, b2_9⟩ := X2.at_ 9 _ _ rfl rfl
      obtain ⟨d2_10, a2_10, b2_10⟩ := X2.at_ 10 _ _ rfl rfl
      obtain ⟨d2_11, a2_11, b2_11⟩ := X2.at_ 11 _ _ rfl rfl
      clear X2
      decreasing_trivial
      refine g_ixL (x := .cell p1_0) (atI_nat (k := 0) rfl) ?_
      decreasing_trivial
      refine ⟨p1_0, _, d1_0, _, w1_0, rfl, a1_0, b1_0, List.mem_of_getElem? (i := 0) rfl, rfl, ?_⟩
      decreasing_trivial
      refine g_ixL (x := .cell p1_1) (atI_nat (k := 1) rfl) ?_
      decreasing_trivial
      refine ⟨p1_1, _, d1_1, _, w1_1, rfl, a1_1, b1_1, List.mem_of_getElem? (i := 1) rfl, rfl, ?_⟩
      decreasing_trivial
      refine g_ixL (x := .cell p1_2) (atI_nat (k := 2) rfl) ?_
      decreasing_trivial
      refine ⟨p1_2, _, d1_2, _, w1_2, rfl, a1_2, b1_2, List.mem_of_getElem? (i := 2) rfl, rfl, ?_⟩
      decreasing_trivial
      refine g_ixL (x := .cell p1_3) (atI_nat (k := 3) rfl) ?_
      decreasing_trivial
      refine ⟨p1_3, _, d1_3, _, w1_3, rfl, a1_3, b1_3, List.mem_of_getElem? (i := 3) rfl, rfl, ?_⟩
      decreasing_trivial
      refine g_ixL (x := .cell p1_4) (atI_nat (k := 4) rfl) ?_
      decreasing_trivial
      refine ⟨p1_4, _, d1_4, _, w1_4, rfl, a1_4, b1_4, List.mem_of_getElem? (i := 5) rfl, rfl, ?_⟩
      decreasing_trivial
      refine g_ixL (x := .cell p1_5) (atI_nat (k := 5) rfl) ?_
      decreasing_trivial
      refine ⟨p1_5, _, d1_5, _, w1_5, rfl, a1_5, b1_5, List.mem_of_getElem? (i := 0) rfl, rfl, ?_⟩
      decreasing_trivial
      refine g_ixL (x := .cell p1_6) (atI_nat (k := 6) rfl) ?_
      decreasing_trivial
      refine ⟨p1_6, _, d1_6, _, w1_6, rfl, a1_6, b1_6, List.mem_of_getElem? (i := 0) rfl, rfl, ?_⟩
      decreasing_trivial
      refine g_ixL (x := .cell p1_7) (atI_nat (k := 7) rfl) ?_
      decreasing_trivial
      refine ⟨p1_7, _, d1_7, _, w1_7, rfl, a1_7, b1_7, List.mem_of_getElem? (i := 1) rfl, rfl, ?_⟩
      decreasing_trivial
      refine g_ixL (x := .cell p1_8) (atI_nat (k := 8) rfl) ?_
      decreasing_trivial
      refine ⟨p1_8, _, d1_8, _, w1_8, rfl, a1_8, b1_8, List.mem_of_getElem? (i := 0) rfl, rfl, ?_⟩
      decreasing_trivial
      refine g_ixL (x := .cell p1_9) (atI_nat (k := 9) rfl) ?_
      decreasing_trivial
      refine ⟨p1_9, _, d1_9, _, w1_9, rfl, a1_9, b1_9, List.mem_of_getElem? (i := 0) rfl, rfl, ?_⟩
      decreasing_trivial
      refine g_addL (by show 5 + 5 ≤ sizeLine; omega) ?_
      decreasing_trivial
      refine g_ixL (x := .cell p1_10) (atI_nat (k := 10) rfl) ?_
      decreasing_trivial
      refine ⟨p1_10, _, d1_10, _, w1_10, rfl, a1_10, b1_10, List.mem_of_getElem? (i := 4) rfl, rfl, ?_⟩
      decreasing_trivial
      refine g_ixL (x := .cell p1_11) (atI_nat (k := 11) rfl) ?_
      decreasing_trivial
      refine ⟨p1_11, _, d1_11, _, w1_11, rfl, a1_11, b1_11, List.mem_of_getElem? (i := 0) rfl, rfl, ?_⟩
      decreasing_trivial
      refine g_addL (by show 10 + 2 ≤ sizeLine; omega) ?_
      decreasing_trivial
      refine g_repr rfl shv1 ?_
      decreasing_trivial
      refine g_repr rfl shv1 ?_
      decreasing_trivial
      refine i_ite (fun h => absurd h (by simp)) fun _ => ?_
      decreasing_trivial
      unfold mEnum
      decreasing_trivial
      rw [eq1]
      refine ⟨by rcases n13 with rfl | ⟨_, rfl⟩ <;> rcases n14 with rfl | ⟨_, rfl⟩ <;> rfl, compL_map ([p1_0, p1_1, p1_2, p1_3, p1_4, p1_5, p1_6, p1_7, p1_8, p1_9, p1_10, p1_11].zipIdx) (fun e => .tup [.int e.2, .cell e.1]) (fun _ => .bl true) (by omega) (fun e he acc nxt h1 h2 => ?_) ?_⟩
      · decreasing_trivial
        refine ⟨by rcases n13 with rfl | ⟨_, rfl⟩ <;> rcases n14 with rfl | ⟨_, rfl⟩ <;> rfl, rfl, ?_⟩
        obtain ⟨B, dd, f, fs, x, y, z⟩ := one1 e.2 e.1 (List.mk_mem_zipIdx_iff_getElem?.mp he)
        decreasing_trivial
        refine ⟨e.1, B, dd, f, fs, e.2, rfl, x, y, z, ?_⟩
        decreasing_trivial
        exact ⟨rfl, h1, h2⟩
      decreasing_trivial
      refine g_inF ?_
      refine ⟨_, rfl, i_ite (fun h => absurd h (by decide)) fun _ => ?_⟩
      decreasing_trivial
      refine g_ixL (x := .cell p2_0) (atI_nat (k := 0) rfl) ?_
      decreasing_trivial
      refine ⟨p2_0, _, d2_0, _, w2_0, rfl, a2_0, b2_0, List.mem_of_getElem? (i := 0) rfl, rfl, ?_⟩
      decreasing_trivial
      refine g_ixL (x := .cell p2_1) (atI_nat (k := 1) rfl) ?_
      decreasing_trivial
      refine ⟨p2_1, _, d2_1, _, w2_1, rfl, a2_1, b2_1, List.mem_of_getElem? (i := 1) rfl, rfl, ?_⟩
      decreasing_trivial
      refine g_ixL (x := .cell p2_2) (atI_nat (k := 2) rfl) ?_
      decreasing_trivial
      refine ⟨p2_2, _, d2_2, _, w2_2, rfl, a2_2, b2_2, List.mem_of_getElem? (i := 2) rfl, rfl, ?_⟩
      decreasing_trivial
      refine g_ixL (x := .cell p2_3) (atI_nat (k := 3) rfl) ?_
      decreasing_trivial
      refine ⟨p2_3, _, d2_3, _, w2_3, rfl, a2_3, b2_3, List.mem_of_getElem? (i := 3) rfl, rfl, ?_⟩
      decreasing_trivial
      refine g_ixL (x := .cell p2_4) (atI_nat (k := 4) rfl) ?_
      decreasing_trivial
      refine ⟨p2_4, _, d2_4, _, w2_4, rfl, a2_4, b2_4, List.mem_of_getElem? (i := 5) rfl, rfl, ?_⟩
      decreasing_trivial
      refine g_ixL (x := .cell p2_5) (atI_nat (k := 5) rfl) ?_
      decreasing_trivial
      refine ⟨p2_5, _, d2_5, _, w2_5, rfl, a2_5, b2_5, List.mem_of_getElem? (i := 0) rfl, rfl, ?_⟩
      decreasing_trivial
      refine g_ixL (x := .cell p2_6) (atI_nat (k := 6) rfl) ?_
      decreasing_trivial
      refine ⟨p2_6, _, d2_6, _, w2_6, rfl, a2_6, b2_6, List.mem_of_getElem? (i := 0) rfl, rfl, ?_⟩
      decreasing_trivial
      refine g_ixL (x := .cell p2_7) (atI_nat (k := 7) rfl) ?_
      decreasing_trivial
      refine ⟨p2_7, _, d2_7, _, w2_7, rfl, a2_7, b2_7, List.mem_of_getElem? (i := 1) rfl, rfl, ?_⟩
      decreasing_trivial
      refine g_ixL (x := .cell p2_8) (atI_nat (k := 8) rfl) ?_
      decreasing_trivial
      refine ⟨p2_8, _, d2_8, _, w2_8, rfl, a2_8, b2_8, List.mem_of_getElem? (i := 0) rfl, rfl, ?_⟩
      decreasing_trivial
      refine g_ixL (x := .cell p2_9) (atI_nat (k := 9) rfl) ?_
      decreasing_trivial
      refine ⟨p2_9, _, d2_9, _, w2_9, rfl, a2_9, b2_9, List.mem_of_getElem? (i := 0) rfl, rfl, ?_⟩
      decreasing_trivial
      refine g_addL (by show 5 + 5 ≤ sizeLine; omega) ?_
      decreasing_trivial
      refine g_ixL (x := .cell p2_10) (atI_nat (k := 10) rfl) ?_
      decreasing_trivial
      refine ⟨p2_10, _, d2_10, _, w2_10, rfl, a2_10, b2_10, List.mem_of_getElem? (i := 4) rfl, rfl, ?_⟩
      decreasing_trivial
      refine g_ixL (x := .cell p2_11) (atI_nat (k := 11) rfl) ?_
      decreasing_trivial
      refine ⟨p2_11, _, d2_11, _, w2_11, rfl, a2_11, b2_11, List.mem_of_getElem? (i := 0) rfl, rfl, ?_⟩
      decreasing_trivial
      refine g_addL (by show 10 + 2 ≤ sizeLine; omega) ?_
      decreasing_trivial
      refine g_repr rfl shv2 ?_
      decreasing_trivial
      refine g_repr rfl shv2 ?_
      decreasing_trivial
      refine i_ite (fun h => absurd h (by simp)) fun _ => ?_
      decreasing_trivial
      rw [eq2]
      refine ⟨by rcases n13 with rfl | ⟨_, rfl⟩ <;> rcases n14 with rfl | ⟨_, rfl⟩ <;> rfl, compL_map ([p2_0, p2_1, p2_2, p2_3, p2_4, p2_5, p2_6, p2_7, p2_8, p2_9, p2_10, p2_11].zipIdx) (fun e => .tup [.int e.2, .cell e.1]) (fun _ => .bl true) (by omega) (fun e he acc nxt h1 h2 => ?_) ?_⟩
      · decreasing_trivial
        refine ⟨by rcases n13 with rfl | ⟨_, rfl⟩ <;> rcases n14 with rfl | ⟨_, rfl⟩ <;> rfl, rfl, ?_⟩
        obtain ⟨B, dd, f, fs, x, y, z⟩ := one2 e.2 e.1 (List.mk_mem_zipIdx_iff_getElem?.mp he)
        decreasing_trivial
        refine ⟨e.1, B, dd, f, fs, e.2, rfl, x, y, z, ?_⟩
        decreasing_trivial
        exact ⟨rfl, h1, h2⟩
      decreasing_trivial
      refine g_inF ?_
      refine ⟨_, rfl, i_ite (fun h => absurd h (by decide)) fun _ => ?_⟩
      decreasing_trivial
      refine g_ixL (x := .cell p1_0) (atI_nat (k := 0) rfl) ?_
      decreasing_trivial
      refine ⟨p1_0, _, d1_0, _, w1_0, rfl, a1_0, b1_0, List.mem_of_getElem? (i := 0) rfl, rfl, ?_⟩
      decreasing_trivial
      refine g_ixL (x := .cell p1_1) (atI_nat (k := 1) rfl) ?_
      decreasing_trivial
      refine ⟨p1_1, _, d1_1, _, w1_1, rfl, a1_1, b1_1, List.mem_of_getElem? (i := 1) rfl, rfl, ?_⟩
      decreasing_trivial
      refine g_ixL (x := .cell p1_2) (atI_nat (k := 2) rfl) ?_
      decreasing_trivial
      refine ⟨p1_2, _, d1_2, _, w1_2, rfl, a1_2, b1_2, List.mem_of_getElem? (i := 2) rfl, rfl, ?_⟩
      decreasing_trivial
      refine g_ixL (x := .cell p1_3) (atI_nat (k := 3) rfl) ?_
      decreasing_trivial
      refine ⟨p1_3, _, d1_3, _, w1_3, rfl, a1_3, b1_3, List.mem_of_getElem? (i := 3) rfl, rfl, ?_⟩
      decreasing_trivial
      refine g_ixL (x := .cell p1_4) (atI_nat (k := 4) rfl) ?_
      decreasing_trivial
      refine ⟨p1_4, _, d1_4, _, w1_4, rfl, a1_4, b1_4, List.mem_of_getElem? (i := 5) rfl, rfl, ?_⟩
      decreasing_trivial
      refine g_ixL (x := .cell p1_5) (atI_nat (k := 5) rfl) ?_
      decreasing_trivial
      refine ⟨p1_5, _, d1_5, _, w1_5, rfl, a1_5, b1_5, List.mem_of_getElem? (i := 0) rfl, rfl, ?_⟩
      decreasing_trivial
      refine g_ixL (x := .cell p1_6) (atI_nat (k := 6) rfl) ?_
      decreasing_trivial
      refine ⟨p1_6, _, d1_6, _, w1_6, rfl, a1_6, b1_6, List.mem_of_getElem? (i := 0) rfl, rfl, ?_⟩
      decreasing_trivial
      refine g_ixL (x := .cell p1_7) (atI_nat (k := 7) rfl) ?_
      decreasing_trivial
      refine ⟨p1_7, _, d1_7, _, w1_7, rfl, a1_7, b1_7, List.mem_of_getElem? (i := 1) rfl, rfl, ?_⟩
      decreasing_trivial
      refine g_ixL (x := .cell p1_8) (atI_nat (k := 8) rfl) ?_
      decreasing_trivial
      refine ⟨p1_8, _, d1_8, _, w1_8, rfl, a1_8, b1_8, List.mem_of_getElem? (i := 0) rfl, rfl, ?_⟩
      decreasing_trivial
      refine g_ixL (x := .cell p1_9) (atI_nat (k := 9) rfl) ?_
      decreasing_trivial
      refine ⟨p1_9, _, d1_9, _, w1_9, rfl, a1_9, b1_9, List.mem_of_getElem? (i := 0) rfl, rfl, ?_⟩
      decreasing_trivial
      refine g_addL (by show 5 + 5 ≤ sizeLine; omega) ?_
      decreasing_trivial
      refine g_ixL (x := .cell p1_10) (atI_nat (k := 10) rfl) ?_
      decreasing_trivial
      refine ⟨p1_10, _, d1_10, _, w1_10, rfl, a1_10, b1_10, List.mem_of_getElem? (i := 4) rfl, rfl, ?_⟩
      decreasing_trivial
      refine g_ixL (x := .cell p1_11) (atI_nat (k := 11) rfl) ?_
      decreasing_trivial
      refine ⟨p1_11, _, d1_11, _, w1_11, rfl, a1_11, b1_11, List.mem_of_getElem? (i := 0) rfl, rfl, ?_⟩
      decreasing_trivial
      refine g_addL (by show 10 + 2 ≤ sizeLine; omega) ?_
      decreasing_trivial
      refine g_repr rfl shv1 ?_
      decreasing_trivial
      refine g_repr rfl shv1 ?_
      decreasing_trivial
      refine i_ite (fun h => absurd h (by simp)) fun _ => ?_
      decreasing_trivial
      rw [eq1]
      refine ⟨by rcases n13 with rfl | ⟨_, rfl⟩ <;> rcases n14 with rfl | ⟨_, rfl⟩ <;> rfl, compL_map ([p1_0, p1_1, p1_2, p1_3, p1_4, p1_5, p1_6, p1_7, p1_8, p1_9, p1_10, p1_11].zipIdx) (fun e => .tup [.int e.2, .cell e.1]) (fun _ => .bl true) (by omega) (fun e he acc nxt h1 h2 => ?_) ?_⟩
      · decreasing_trivial
        refine ⟨by rcases n13 with rfl | ⟨_, rfl⟩ <;> rcases n14 with rfl | ⟨_, rfl⟩ <;> rfl, rfl, ?_⟩
        obtain ⟨B, dd, f, fs, x, y, z⟩ := one1 e.2 e.1 (List.mk_mem_zipIdx_iff_getElem?.mp he)
        decreasing_trivial
        refine ⟨e.1, B, dd, f, fs, e.2, rfl, x, y, z, ?_⟩
        decreasing_trivial
        exact ⟨rfl, h1, h2⟩
      decreasing_trivial
      refine g_inF ?_
      refine ⟨_, rfl, i_ite (fun h => absurd h (by decide)) fun _ => ?_⟩
      decreasing_trivial
      exact hx2 _ _ ⟨hc, _, _, _, _, _, _, _, _, _, _, _, _, n13, n14, rfl⟩
    · rintro env C' ⟨hc, s3, s4, s5, s6, s7, s8, s9, s10, s11, s12, s13, s14, n13, n14, rfl⟩
      exact hx _ _ ⟨_, _, _, _, _, _, _, _, _, _, _, _, _, _, n13, n14, rfl⟩
  · rintro env C' ⟨s1, s2, s3, s4, s5, s6, s7, s8, s9, s10, s11, s12, s13, s14, n13, n14, rfl⟩
    decreasing_trivial
    exact q _⟩
end
theorem law_me (ns : List Int) (h : ns.length ≤ 63) (hb : ∀ z ∈ ns, Builtin.Int.intBits z ≤ 1048576) : LawSp spLaw ns := ⟨ns, rfl, h, hb, fun _ => rfl⟩
end L2.DL
namespace L2.DL
open PySem PySem.Spec PyProof.Rows
section
variable [Cad] {P : Program} {w : World} {K : PySem.W.Frag} {mg : Str → Option Value} {base : Heap}
theorem ok__law_purse {f : Addr} {fd : FuncData} (F : Fun K "_law_purse" "_law_purse" st__law_purse f fd) (T : Gls K mg) (hbase : ∃ o, base.get? sysModules = some o)  : DFn P w K mg base 1 f fd ["_law_script", "_law_start"] sp__law_purse :=
  dfn_ok F sc__law_purse (fun cdv A fr s H E gd hr => b__law_purse T hbase  gd hr) (by decide) pure__law_purse
theorem ok__law_draw {f : Addr} {fd : FuncData} (F : Fun K "_law_draw" "_law_draw" st__law_draw f fd) (T : Gls K mg) (hbase : ∃ o, base.get? sysModules = some o) : DFn P w K mg base 1 f fd ["_law_purse_here", "_law_size"] sp__law_draw :=
  dfn_draw F sc__law_draw (fun cdv A fr s H E gd hr => b__law_draw T hbase gd hr) (by decide) pure__law_draw
theorem ok__law_choose {f : Addr} {fd : FuncData} (F : Fun K "_law_choose" "_law_choose" st__law_choose f fd) (T : Gls K mg) (hbase : ∃ o, base.get? sysModules = some o) (c__law_draw : Cle P w K mg base 1 "_law_draw" sp__law_draw) : DFn P w K mg base 2 f fd ["_law_purse_here", "_law_things"] sp__law_choose :=
  dfn_ok F sc__law_choose (fun cdv A fr s H E gd hr => b__law_choose T hbase c__law_draw gd hr) (by decide) pure__law_choose
theorem ok__law_values {f : Addr} {fd : FuncData} (F : Fun K "_law_values" "_law_values" st__law_values f fd) (T : Gls K mg) (hbase : ∃ o, base.get? sysModules = some o) (c__law_choose : Cle P w K mg base 2 "_law_choose" sp__law_choose) (c__law_draw : Cle P w K mg base 1 "_law_draw" sp__law_draw) : DFn P w K mg base 3 f fd ["_law_purse_here", "_law_turn"] sp__law_values :=
  dfn_ok F sc__law_values (fun cdv A fr s H E gd hr => b__law_values T hbase c__law_choose c__law_draw gd hr) (by decide) pure__law_values
theorem ok__law_made {f : Addr} {fd : FuncData} (F : Fun K "_law_made" "_law_made" st__law_made f fd) (T : Gls K mg) (hbase : ∃ o, base.get? sysModules = some o) (x_BadName : QRa P w K mg base 1 "BadName" Cad.c_BadName "value") (ex_BadName : QNm P w K mg base 2 "BadName" [] (spExP Cad.c_BadName "value" 1 0)) (x_BadCode : QRa P w K mg base 1 "BadCode" Cad.c_BadCode "value") (ex_BadCode : QNm P w K mg base 2 "BadCode" [] (spExP Cad.c_BadCode "value" 1 0)) (x_BadLength : QRa P w K mg base 1 "BadLength" Cad.c_BadLength "value") (ex_BadLength : QNm P w K mg base 2 "BadLength" [] (spExP Cad.c_BadLength "value" 1 0)) (x_BadCost : QRa P w K mg base 1 "BadCost" Cad.c_BadCost "value") (ex_BadCost : QNm P w K mg base 2 "BadCost" [] (spExP Cad.c_BadCost "value" 1 0)) (x_BadText : QRa P w K mg base 1 "BadText" Cad.c_BadText "value") (ex_BadText : QNm P w K mg base 2 "BadText" [] (spExP Cad.c_BadText "value" 1 0)) (x_BadCommand : QRa P w K mg base 1 "BadCommand" Cad.c_BadCommand "command") (ex_BadCommand : QNm P w K mg base 2 "BadCommand" [] (spExP Cad.c_BadCommand "command" 1 0)) (x_UnknownName : QRa P w K mg base 1 "UnknownName" Cad.c_UnknownName "name") (ex_UnknownName : QNm P w K mg base 2 "UnknownName" [] (spExP Cad.c_UnknownName "name" 1 0)) (x_NameTaken : QRa P w K mg base 1 "NameTaken" Cad.c_NameTaken "name") (ex_NameTaken : QNm P w K mg base 2 "NameTaken" [] (spExP Cad.c_NameTaken "name" 1 0)) (x_NoCoding : QRa P w K mg base 1 "NoCoding" Cad.c_NoCoding "crowd") (ex_NoCoding : QNm P w K mg base 2 "NoCoding" [] (spExP Cad.c_NoCoding "crowd" 1 0)) (x_NothingToDo : QRa P w K mg base 1 "NothingToDo" Cad.c_NothingToDo "action") (ex_NothingToDo : QNm P w K mg base 2 "NothingToDo" [] (spExP Cad.c_NothingToDo "action" 1 0)) (x_BadClock : QRa P w K mg base 1 "BadClock" Cad.c_BadClock "value") (ex_BadClock : QNm P w K mg base 2 "BadClock" [] (spExP Cad.c_BadClock "value" 1 0)) (x_Stuck : QRa P w K mg base 1 "Stuck" Cad.c_Stuck "circles") (ex_Stuck : QNm P w K mg base 2 "Stuck" [] (spExP Cad.c_Stuck "circles" 1 0)) : DFn P w K mg base 3 f fd ["_law_one"] sp__law_made :=
  dfn_ok F sc__law_made (fun cdv A fr s H E gd hr => b__law_made T hbase x_BadName ex_BadName x_BadCode ex_BadCode x_BadLength ex_BadLength x_BadCost ex_BadCost x_BadText ex_BadText x_BadCommand ex_BadCommand x_UnknownName ex_UnknownName x_NameTaken ex_NameTaken x_NoCoding ex_NoCoding x_NothingToDo ex_NothingToDo x_BadClock ex_BadClock x_Stuck ex_Stuck gd hr) (by decide) pure__law_made
theorem ok__law_named {f : Addr} {fd : FuncData} (F : Fun K "_law_named" "_law_named" st__law_named f fd) (T : Gls K mg) (hbase : ∃ o, base.get? sysModules = some o) (x_BadName : QRa P w K mg base 1 "BadName" Cad.c_BadName "value") (exk_BadName : QNm P w K mg base 2 "BadName" ["value"] (spExP Cad.c_BadName "value" 0 1)) (x_BadCode : QRa P w K mg base 1 "BadCode" Cad.c_BadCode "value") (exk_BadCode : QNm P w K mg base 2 "BadCode" ["value"] (spExP Cad.c_BadCode "value" 0 1)) (x_BadLength : QRa P w K mg base 1 "BadLength" Cad.c_BadLength "value") (exk_BadLength : QNm P w K mg base 2 "BadLength" ["value"] (spExP Cad.c_BadLength "value" 0 1)) (x_BadCost : QRa P w K mg base 1 "BadCost" Cad.c_BadCost "value") (exk_BadCost : QNm P w K mg base 2 "BadCost" ["value"] (spExP Cad.c_BadCost "value" 0 1)) (x_BadText : QRa P w K mg base 1 "BadText" Cad.c_BadText "value") (exk_BadText : QNm P w K mg base 2 "BadText" ["value"] (spExP Cad.c_BadText "value" 0 1)) (x_BadCommand : QRa P w K mg base 1 "BadCommand" Cad.c_BadCommand "command") (exk_BadCommand : QNm P w K mg base 2 "BadCommand" ["command"] (spExP Cad.c_BadCommand "command" 0 1)) (x_UnknownName : QRa P w K mg base 1 "UnknownName" Cad.c_UnknownName "name") (exk_UnknownName : QNm P w K mg base 2 "UnknownName" ["name"] (spExP Cad.c_UnknownName "name" 0 1)) (x_NameTaken : QRa P w K mg base 1 "NameTaken" Cad.c_NameTaken "name") (exk_NameTaken : QNm P w K mg base 2 "NameTaken" ["name"] (spExP Cad.c_NameTaken "name" 0 1)) (x_NoCoding : QRa P w K mg base 1 "NoCoding" Cad.c_NoCoding "crowd") (exk_NoCoding : QNm P w K mg base 2 "NoCoding" ["crowd"] (spExP Cad.c_NoCoding "crowd" 0 1)) (x_NothingToDo : QRa P w K mg base 1 "NothingToDo" Cad.c_NothingToDo "action") (exk_NothingToDo : QNm P w K mg base 2 "NothingToDo" ["action"] (spExP Cad.c_NothingToDo "action" 0 1)) (x_BadClock : QRa P w K mg base 1 "BadClock" Cad.c_BadClock "value") (exk_BadClock : QNm P w K mg base 2 "BadClock" ["value"] (spExP Cad.c_BadClock "value" 0 1)) (x_Stuck : QRa P w K mg base 1 "Stuck" Cad.c_Stuck "circles") (exk_Stuck : QNm P w K mg base 2 "Stuck" ["circles"] (spExP Cad.c_Stuck "circles" 0 1)) : DFn P w K mg base 3 f fd ["_law_one"] sp__law_named :=
  dfn_ok F sc__law_named (fun cdv A fr s H E gd hr => b__law_named T hbase x_BadName exk_BadName x_BadCode exk_BadCode x_BadLength exk_BadLength x_BadCost exk_BadCost x_BadText exk_BadText x_BadCommand exk_BadCommand x_UnknownName exk_UnknownName x_NameTaken exk_NameTaken x_NoCoding exk_NoCoding x_NothingToDo exk_NothingToDo x_BadClock exk_BadClock x_Stuck exk_Stuck gd hr) (by decide) pure__law_named
theorem ok__law_kinds {f : Addr} {fd : FuncData} (F : Fun K "_law_kinds" "_law_kinds" st__law_kinds f fd) (T : Gls K mg) (hbase : ∃ o, base.get? sysModules = some o)  : DFn P w K mg base 1 f fd ["_law_error"] sp__law_kinds :=
  dfn_ok F sc__law_kinds (fun cdv A fr s H E gd hr => b__law_kinds T hbase  gd hr) (by decide) pure__law_kinds
theorem ok__law_of_one_kind {f : Addr} {fd : FuncData} (F : Fun K "_law_of_one_kind" "_law_of_one_kind" st__law_of_one_kind f fd) (T : Gls K mg) (hbase : ∃ o, base.get? sysModules = some o) (c__law_kinds : Cle P w K mg base 1 "_law_kinds" sp__law_kinds) : DFn P w K mg base 2 f fd ["_law_error", "_law_at"] sp__law_of_one_kind :=
  dfn_ok F sc__law_of_one_kind (fun cdv A fr s H E gd hr => b__law_of_one_kind T hbase c__law_kinds gd hr) (by decide) pure__law_of_one_kind
theorem ok_law {f : Addr} {fd : FuncData} (F : Fun K "law" "law" st_law f fd) (T : Gls K mg) (hbase : ∃ o, base.get? sysModules = some o) (c__law_purse : Cle P w K mg base 1 "_law_purse" sp__law_purse) (c__law_values : Cle P w K mg base 3 "_law_values" sp__law_values) (c__law_made : Cle P w K mg base 3 "_law_made" sp__law_made) (c__law_named : Cle P w K mg base 3 "_law_named" sp__law_named) (x_BadName : QRa P w K mg base 1 "BadName" Cad.c_BadName "value") (ex_BadName : QNm P w K mg base 2 "BadName" [] (spExP Cad.c_BadName "value" 1 0)) (x_BadCode : QRa P w K mg base 1 "BadCode" Cad.c_BadCode "value") (ex_BadCode : QNm P w K mg base 2 "BadCode" [] (spExP Cad.c_BadCode "value" 1 0)) (x_BadLength : QRa P w K mg base 1 "BadLength" Cad.c_BadLength "value") (ex_BadLength : QNm P w K mg base 2 "BadLength" [] (spExP Cad.c_BadLength "value" 1 0)) (x_BadText : QRa P w K mg base 1 "BadText" Cad.c_BadText "value") (ex_BadText : QNm P w K mg base 2 "BadText" [] (spExP Cad.c_BadText "value" 1 0)) (x_BadCommand : QRa P w K mg base 1 "BadCommand" Cad.c_BadCommand "command") (ex_BadCommand : QNm P w K mg base 2 "BadCommand" [] (spExP Cad.c_BadCommand "command" 1 0)) (x_NoCoding : QRa P w K mg base 1 "NoCoding" Cad.c_NoCoding "crowd") (ex_NoCoding : QNm P w K mg base 2 "NoCoding" [] (spExP Cad.c_NoCoding "crowd" 1 0)) (x_BadClock : QRa P w K mg base 1 "BadClock" Cad.c_BadClock "value") (ex_BadClock : QNm P w K mg base 2 "BadClock" [] (spExP Cad.c_BadClock "value" 1 0)) (c__law_of_one_kind : Cle P w K mg base 2 "_law_of_one_kind" sp__law_of_one_kind) : DFn P w K mg base 4 f fd ["_law_script"] spLaw :=
  dfn_ok F sc_law (fun cdv A fr s H E gd hr => b_law T hbase c__law_purse c__law_values c__law_made c__law_named x_BadName ex_BadName x_BadCode ex_BadCode x_BadLength ex_BadLength x_BadText ex_BadText x_BadCommand ex_BadCommand x_NoCoding ex_NoCoding x_BadClock ex_BadClock c__law_of_one_kind gd hr) (by decide) pure_law
end
end L2.DL
namespace L2.DL
open PySem PySem.Spec PyProof.Rows
theorem all_mk {l : PySem.W.OpenLaw} {w : World} {K : PySem.W.Frag} {h : Heap} {mg : Str → Option Value} {fa : Addr} {q1 q2 q3 q4 q5 q6 q7 q8 q9 q10 q11 q12 q13 f1 f2 f3 f4 f10 f11 f12 f13 f14 f15 f16 f17 f18 f19 f20 f21 f5 f6 f7 f8 f9 : Addr} (KX : K.In h) (G : h.Ns mainGlobals mg) (hfa : mg "law" = some (.ref fa))
    {od1 an1 od2 an2 od3 an3 od4 an4 od10 an10 od11 an11 od12 an12 od13 an13 od14 an14 od15 an15 od16 an16 od17 an17 od18 an18 od19 an19 od20 an20 od21 an21 od5 an5 od6 an6 od7 an7 od8 an8 od9 an9 : Option Addr} {sl1 sl2 sl3 sl4 sl10 sl11 sl12 sl13 sl14 sl15 sl16 sl17 sl18 sl19 sl20 sl21 sl5 sl6 sl7 sl8 sl9 : Array (Option Value)} {oc1 kV1 dc1 pm1 cd1 ct1 oc2 kV2 dc2 pm2 cd2 ct2 oc3 kV3 dc3 pm3 cd3 ct3 oc4 kV4 dc4 pm4 cd4 ct4 oc10 kV10 dc10 pm10 cd10 ct10 oc11 kV11 dc11 pm11 cd11 ct11 oc12 kV12 dc12 pm12 cd12 ct12 oc13 kV13 dc13 pm13 cd13 ct13 oc14 kV14 dc14 pm14 cd14 ct14 oc15 kV15 dc15 pm15 cd15 ct15 oc16 kV16 dc16 pm16 cd16 ct16 oc17 kV17 dc17 pm17 cd17 ct17 oc18 kV18 dc18 pm18 cd18 ct18 oc19 kV19 dc19 pm19 cd19 ct19 oc20 kV20 dc20 pm20 cd20 ct20 oc21 kV21 dc21 pm21 cd21 ct21 oc5 kV5 dc5 pm5 cd5 ct5 oc6 kV6 dc6 pm6 cd6 ct6 oc7 kV7 dc7 pm7 cd7 ct7 oc8 kV8 dc8 pm8 cd8 ct8 oc9 kV9 dc9 pm9 cd9 ct9 : Value} 
    {nm1 qn1 : Str} {N1 : Addr} {bs1 bm1 : List Value} {sn1 : List Str} {sub1 : List Value} {ab1 : Bool} {col1 : Option Bool} {dd1 : Option Addr} {x01 x11 x21 x31 x51 : Option Value}
    {nm3 qn3 : Str} {N3 : Addr} {bs3 bm3 : List Value} {sn3 : List Str} {sub3 : List Value} {ab3 : Bool} {col3 : Option Bool} {dd3 : Option Addr} {x03 x13 x23 x33 x53 : Option Value}
    {nm4 qn4 : Str} {N4 : Addr} {bs4 bm4 : List Value} {sn4 : List Str} {sub4 : List Value} {ab4 : Bool} {col4 : Option Bool} {dd4 : Option Addr} {x04 x14 x24 x34 x54 : Option Value}
    {nm5 qn5 : Str} {N5 : Addr} {bs5 bm5 : List Value} {sn5 : List Str} {sub5 : List Value} {ab5 : Bool} {col5 : Option Bool} {dd5 : Option Addr} {x05 x15 x25 x35 x55 : Option Value}
    {nm6 qn6 : Str} {N6 : Addr} {bs6 bm6 : List Value} {sn6 : List Str} {sub6 : List Value} {ab6 : Bool} {col6 : Option Bool} {dd6 : Option Addr} {x06 x16 x26 x36 x56 : Option Value}
    {nm7 qn7 : Str} {N7 : Addr} {bs7 bm7 : List Value} {sn7 : List Str} {sub7 : List Value} {ab7 : Bool} {col7 : Option Bool} {dd7 : Option Addr} {x07 x17 x27 x37 x57 : Option Value}
    {nm8 qn8 : Str} {N8 : Addr} {bs8 bm8 : List Value} {sn8 : List Str} {sub8 : List Value} {ab8 : Bool} {col8 : Option Bool} {dd8 : Option Addr} {x08 x18 x28 x38 x58 : Option Value}
    {nm9 qn9 : Str} {N9 : Addr} {bs9 bm9 : List Value} {sn9 : List Str} {sub9 : List Value} {ab9 : Bool} {col9 : Option Bool} {dd9 : Option Addr} {x09 x19 x29 x39 x59 : Option Value}
    {nm10 qn10 : Str} {N10 : Addr} {bs10 bm10 : List Value} {sn10 : List Str} {sub10 : List Value} {ab10 : Bool} {col10 : Option Bool} {dd10 : Option Addr} {x010 x110 x210 x310 x510 : Option Value}
    {nm11 qn11 : Str} {N11 : Addr} {bs11 bm11 : List Value} {sn11 : List Str} {sub11 : List Value} {ab11 : Bool} {col11 : Option Bool} {dd11 : Option Addr} {x011 x111 x211 x311 x511 : Option Value}
    {nm12 qn12 : Str} {N12 : Addr} {bs12 bm12 : List Value} {sn12 : List Str} {sub12 : List Value} {ab12 : Bool} {col12 : Option Bool} {dd12 : Option Addr} {x012 x112 x212 x312 x512 : Option Value}
    {nm13 qn13 : Str} {N13 : Addr} {bs13 bm13 : List Value} {sn13 : List Str} {sub13 : List Value} {ab13 : Bool} {col13 : Option Bool} {dd13 : Option Addr} {x013 x113 x213 x313 x513 : Option Value}
    (gC1 : PySem.W.nsIn K mainGlobals "BadName" = some (some (.ref q1)))
    (gC2 : PySem.W.nsIn K mainGlobals "CodeError" = some (some (.ref q2)))
    (gC3 : PySem.W.nsIn K mainGlobals "BadCode" = some (some (.ref q3)))
    (gC4 : PySem.W.nsIn K mainGlobals "BadLength" = some (some (.ref q4)))
    (gC5 : PySem.W.nsIn K mainGlobals "BadCost" = some (some (.ref q5)))
    (gC6 : PySem.W.nsIn K mainGlobals "BadText" = some (some (.ref q6)))
    (gC7 : PySem.W.nsIn K mainGlobals "BadCommand" = some (some (.ref q7)))
    (gC8 : PySem.W.nsIn K mainGlobals "UnknownName" = some (some (.ref q8)))
    (gC9 : PySem.W.nsIn K mainGlobals "NameTaken" = some (some (.ref q9)))
    (gC10 : PySem.W.nsIn K mainGlobals "NoCoding" = some (some (.ref q10)))
    (gC11 : PySem.W.nsIn K mainGlobals "NothingToDo" = some (some (.ref q11)))
    (gC12 : PySem.W.nsIn K mainGlobals "BadClock" = some (some (.ref q12)))
    (gC13 : PySem.W.nsIn K mainGlobals "Stuck" = some (some (.ref q13)))
    (ga1 : PySem.W.findIn K (.ref q1) "__getattribute__" = some (some (.builtin "BaseException.__getattribute__")))
    (gg1 : PySem.W.findIn K (.ref q1) "__getattr__" = some none)
    (hd1 : PySem.W.hasDictIn K q1 = true)
    (bx1 : PySem.W.subIn K (.ref q1) (.type "BaseException") = some true)
    (nf1_value : PySem.W.findIn K (.ref q1) "value" = some none)
    (ga3 : PySem.W.findIn K (.ref q3) "__getattribute__" = some (some (.builtin "BaseException.__getattribute__")))
    (gg3 : PySem.W.findIn K (.ref q3) "__getattr__" = some none)
    (hd3 : PySem.W.hasDictIn K q3 = true)
    (bx3 : PySem.W.subIn K (.ref q3) (.type "BaseException") = some true)
    (nf3_value : PySem.W.findIn K (.ref q3) "value" = some none)
    (ga4 : PySem.W.findIn K (.ref q4) "__getattribute__" = some (some (.builtin "BaseException.__getattribute__")))
    (gg4 : PySem.W.findIn K (.ref q4) "__getattr__" = some none)
    (hd4 : PySem.W.hasDictIn K q4 = true)
    (bx4 : PySem.W.subIn K (.ref q4) (.type "BaseException") = some true)
    (nf4_value : PySem.W.findIn K (.ref q4) "value" = some none)
    (ga5 : PySem.W.findIn K (.ref q5) "__getattribute__" = some (some (.builtin "BaseException.__getattribute__")))
    (gg5 : PySem.W.findIn K (.ref q5) "__getattr__" = some none)
    (hd5 : PySem.W.hasDictIn K q5 = true)
    (bx5 : PySem.W.subIn K (.ref q5) (.type "BaseException") = some true)
    (nf5_value : PySem.W.findIn K (.ref q5) "value" = some none)
    (ga12 : PySem.W.findIn K (.ref q12) "__getattribute__" = some (some (.builtin "BaseException.__getattribute__")))
    (gg12 : PySem.W.findIn K (.ref q12) "__getattr__" = some none)
    (hd12 : PySem.W.hasDictIn K q12 = true)
    (bx12 : PySem.W.subIn K (.ref q12) (.type "BaseException") = some true)
    (nf12_value : PySem.W.findIn K (.ref q12) "value" = some none)
    (ga6 : PySem.W.findIn K (.ref q6) "__getattribute__" = some (some (.builtin "BaseException.__getattribute__")))
    (gg6 : PySem.W.findIn K (.ref q6) "__getattr__" = some none)
    (hd6 : PySem.W.hasDictIn K q6 = true)
    (bx6 : PySem.W.subIn K (.ref q6) (.type "BaseException") = some true)
    (nf6_value : PySem.W.findIn K (.ref q6) "value" = some none)
    (ga7 : PySem.W.findIn K (.ref q7) "__getattribute__" = some (some (.builtin "BaseException.__getattribute__")))
    (gg7 : PySem.W.findIn K (.ref q7) "__getattr__" = some none)
    (hd7 : PySem.W.hasDictIn K q7 = true)
    (bx7 : PySem.W.subIn K (.ref q7) (.type "BaseException") = some true)
    (nf7_command : PySem.W.findIn K (.ref q7) "command" = some none)
    (ga10 : PySem.W.findIn K (.ref q10) "__getattribute__" = some (some (.builtin "BaseException.__getattribute__")))
    (gg10 : PySem.W.findIn K (.ref q10) "__getattr__" = some none)
    (hd10 : PySem.W.hasDictIn K q10 = true)
    (bx10 : PySem.W.subIn K (.ref q10) (.type "BaseException") = some true)
    (nf10_crowd : PySem.W.findIn K (.ref q10) "crowd" = some none)
    (ga8 : PySem.W.findIn K (.ref q8) "__getattribute__" = some (some (.builtin "BaseException.__getattribute__")))
    (gg8 : PySem.W.findIn K (.ref q8) "__getattr__" = some none)
    (hd8 : PySem.W.hasDictIn K q8 = true)
    (bx8 : PySem.W.subIn K (.ref q8) (.type "BaseException") = some true)
    (nf8_name : PySem.W.findIn K (.ref q8) "name" = some none)
    (ga9 : PySem.W.findIn K (.ref q9) "__getattribute__" = some (some (.builtin "BaseException.__getattribute__")))
    (gg9 : PySem.W.findIn K (.ref q9) "__getattr__" = some none)
    (hd9 : PySem.W.hasDictIn K q9 = true)
    (bx9 : PySem.W.subIn K (.ref q9) (.type "BaseException") = some true)
    (nf9_name : PySem.W.findIn K (.ref q9) "name" = some none)
    (ga11 : PySem.W.findIn K (.ref q11) "__getattribute__" = some (some (.builtin "BaseException.__getattribute__")))
    (gg11 : PySem.W.findIn K (.ref q11) "__getattr__" = some none)
    (hd11 : PySem.W.hasDictIn K q11 = true)
    (bx11 : PySem.W.subIn K (.ref q11) (.type "BaseException") = some true)
    (nf11_action : PySem.W.findIn K (.ref q11) "action" = some none)
    (ga13 : PySem.W.findIn K (.ref q13) "__getattribute__" = some (some (.builtin "BaseException.__getattribute__")))
    (gg13 : PySem.W.findIn K (.ref q13) "__getattr__" = some none)
    (hd13 : PySem.W.hasDictIn K q13 = true)
    (bx13 : PySem.W.subIn K (.ref q13) (.type "BaseException") = some true)
    (nf13_circles : PySem.W.findIn K (.ref q13) "circles" = some none)
    (no2_NoneType : PySem.W.subIn K (.type "NoneType") (.ref q2) = some false)
    (no2_bool : PySem.W.subIn K (.type "bool") (.ref q2) = some false)
    (no2_int : PySem.W.subIn K (.type "int") (.ref q2) = some false)
    (no2_str : PySem.W.subIn K (.type "str") (.ref q2) = some false)
    (no2_tuple : PySem.W.subIn K (.type "tuple") (.ref q2) = some false)
    (no2_list : PySem.W.subIn K (.type "list") (.ref q2) = some false)
    (no2_dict : PySem.W.subIn K (.type "dict") (.ref q2) = some false)
    (ic2 : PySem.W.isClsIn K q2 = true)
    (tc2 : PySem.W.typeIn K (.ref q2) = some (.type "type"))
    (ca13 : PySem.W.findIn K (.ref q13) "__class__" = some (some (.builtin "object.__class__")))
    (ocg : PySem.W.specialIn K (.builtin "object.__class__") "__get__" = some (some (.builtin "getset_descriptor.__get__")))
    (oct : PySem.W.takesIn K (.builtin "object.__class__") = some true)
    (cm13 : PySem.W.mroIn K q13 (.type "object") = some true)
    (sb13_2 : PySem.W.subIn K (.ref q13) (.ref q2) = some true)
    (ca11 : PySem.W.findIn K (.ref q11) "__class__" = some (some (.builtin "object.__class__")))
    (cm11 : PySem.W.mroIn K q11 (.type "object") = some true)
    (sb11_2 : PySem.W.subIn K (.ref q11) (.ref q2) = some true)
    (ca10 : PySem.W.findIn K (.ref q10) "__class__" = some (some (.builtin "object.__class__")))
    (cm10 : PySem.W.mroIn K q10 (.type "object") = some true)
    (sb10_2 : PySem.W.subIn K (.ref q10) (.ref q2) = some true)
    (ca9 : PySem.W.findIn K (.ref q9) "__class__" = some (some (.builtin "object.__class__")))
    (cm9 : PySem.W.mroIn K q9 (.type "object") = some true)
    (sb9_2 : PySem.W.subIn K (.ref q9) (.ref q2) = some true)
    (ca8 : PySem.W.findIn K (.ref q8) "__class__" = some (some (.builtin "object.__class__")))
    (cm8 : PySem.W.mroIn K q8 (.type "object") = some true)
    (sb8_2 : PySem.W.subIn K (.ref q8) (.ref q2) = some true)
    (ca7 : PySem.W.findIn K (.ref q7) "__class__" = some (some (.builtin "object.__class__")))
    (cm7 : PySem.W.mroIn K q7 (.type "object") = some true)
    (sb7_2 : PySem.W.subIn K (.ref q7) (.ref q2) = some true)
    (ca6 : PySem.W.findIn K (.ref q6) "__class__" = some (some (.builtin "object.__class__")))
    (cm6 : PySem.W.mroIn K q6 (.type "object") = some true)
    (sb6_2 : PySem.W.subIn K (.ref q6) (.ref q2) = some true)
    (ca12 : PySem.W.findIn K (.ref q12) "__class__" = some (some (.builtin "object.__class__")))
    (cm12 : PySem.W.mroIn K q12 (.type "object") = some true)
    (sb12_2 : PySem.W.subIn K (.ref q12) (.ref q2) = some true)
    (ca5 : PySem.W.findIn K (.ref q5) "__class__" = some (some (.builtin "object.__class__")))
    (cm5 : PySem.W.mroIn K q5 (.type "object") = some true)
    (sb5_2 : PySem.W.subIn K (.ref q5) (.ref q2) = some true)
    (ca4 : PySem.W.findIn K (.ref q4) "__class__" = some (some (.builtin "object.__class__")))
    (cm4 : PySem.W.mroIn K q4 (.type "object") = some true)
    (sb4_2 : PySem.W.subIn K (.ref q4) (.ref q2) = some true)
    (ca3 : PySem.W.findIn K (.ref q3) "__class__" = some (some (.builtin "object.__class__")))
    (cm3 : PySem.W.mroIn K q3 (.type "object") = some true)
    (sb3_2 : PySem.W.subIn K (.ref q3) (.ref q2) = some true)
    (ca1 : PySem.W.findIn K (.ref q1) "__class__" = some (some (.builtin "object.__class__")))
    (cm1 : PySem.W.mroIn K q1 (.type "object") = some true)
    (sb1_2 : PySem.W.subIn K (.ref q1) (.ref q2) = some true)
    (sv13 : PySem.W.subIn K (.ref q13) (.type "ValueError") = some true)
    (sv11 : PySem.W.subIn K (.ref q11) (.type "ValueError") = some true)
    (sv10 : PySem.W.subIn K (.ref q10) (.type "ValueError") = some true)
    (sv9 : PySem.W.subIn K (.ref q9) (.type "ValueError") = some true)
    (sv8 : PySem.W.subIn K (.ref q8) (.type "ValueError") = some true)
    (sv7 : PySem.W.subIn K (.ref q7) (.type "ValueError") = some true)
    (sv6 : PySem.W.subIn K (.ref q6) (.type "ValueError") = some true)
    (sv12 : PySem.W.subIn K (.ref q12) (.type "ValueError") = some true)
    (sv5 : PySem.W.subIn K (.ref q5) (.type "ValueError") = some true)
    (sv4 : PySem.W.subIn K (.ref q4) (.type "ValueError") = some true)
    (sv3 : PySem.W.subIn K (.ref q3) (.type "ValueError") = some true)
    (sv1 : PySem.W.subIn K (.ref q1) (.type "ValueError") = some true)
    (no1_NoneType : PySem.W.subIn K (.type "NoneType") (.ref q1) = some false)
    (no1_bool : PySem.W.subIn K (.type "bool") (.ref q1) = some false)
    (no1_int : PySem.W.subIn K (.type "int") (.ref q1) = some false)
    (no1_str : PySem.W.subIn K (.type "str") (.ref q1) = some false)
    (no1_tuple : PySem.W.subIn K (.type "tuple") (.ref q1) = some false)
    (no1_list : PySem.W.subIn K (.type "list") (.ref q1) = some false)
    (no1_dict : PySem.W.subIn K (.type "dict") (.ref q1) = some false)
    (ic1 : PySem.W.isClsIn K q1 = true)
    (tc1 : PySem.W.typeIn K (.ref q1) = some (.type "type"))
    (sb13_1 : PySem.W.subIn K (.ref q13) (.ref q1) = some false)
    (sb1_1 : PySem.W.subIn K (.ref q1) (.ref q1) = some true)
    (sb11_1 : PySem.W.subIn K (.ref q11) (.ref q1) = some false)
    (sb10_1 : PySem.W.subIn K (.ref q10) (.ref q1) = some false)
    (sb9_1 : PySem.W.subIn K (.ref q9) (.ref q1) = some false)
    (sb8_1 : PySem.W.subIn K (.ref q8) (.ref q1) = some false)
    (sb7_1 : PySem.W.subIn K (.ref q7) (.ref q1) = some false)
    (sb6_1 : PySem.W.subIn K (.ref q6) (.ref q1) = some false)
    (sb12_1 : PySem.W.subIn K (.ref q12) (.ref q1) = some false)
    (sb5_1 : PySem.W.subIn K (.ref q5) (.ref q1) = some false)
    (sb4_1 : PySem.W.subIn K (.ref q4) (.ref q1) = some false)
    (sb3_1 : PySem.W.subIn K (.ref q3) (.ref q1) = some false)
    (no3_NoneType : PySem.W.subIn K (.type "NoneType") (.ref q3) = some false)
    (no3_bool : PySem.W.subIn K (.type "bool") (.ref q3) = some false)
    (no3_int : PySem.W.subIn K (.type "int") (.ref q3) = some false)
    (no3_str : PySem.W.subIn K (.type "str") (.ref q3) = some false)
    (no3_tuple : PySem.W.subIn K (.type "tuple") (.ref q3) = some false)
    (no3_list : PySem.W.subIn K (.type "list") (.ref q3) = some false)
    (no3_dict : PySem.W.subIn K (.type "dict") (.ref q3) = some false)
    (ic3 : PySem.W.isClsIn K q3 = true)
    (tc3 : PySem.W.typeIn K (.ref q3) = some (.type "type"))
    (sb13_3 : PySem.W.subIn K (.ref q13) (.ref q3) = some false)
    (sb3_3 : PySem.W.subIn K (.ref q3) (.ref q3) = some true)
    (sb11_3 : PySem.W.subIn K (.ref q11) (.ref q3) = some false)
    (sb10_3 : PySem.W.subIn K (.ref q10) (.ref q3) = some false)
    (sb9_3 : PySem.W.subIn K (.ref q9) (.ref q3) = some false)
    (sb8_3 : PySem.W.subIn K (.ref q8) (.ref q3) = some false)
    (sb7_3 : PySem.W.subIn K (.ref q7) (.ref q3) = some false)
    (sb6_3 : PySem.W.subIn K (.ref q6) (.ref q3) = some false)
    (sb12_3 : PySem.W.subIn K (.ref q12) (.ref q3) = some false)
    (sb5_3 : PySem.W.subIn K (.ref q5) (.ref q3) = some false)
    (sb4_3 : PySem.W.subIn K (.ref q4) (.ref q3) = some false)
    (sb1_3 : PySem.W.subIn K (.ref q1) (.ref q3) = some false)
    (no4_NoneType : PySem.W.subIn K (.type "NoneType") (.ref q4) = some false)
    (no4_bool : PySem.W.subIn K (.type "bool") (.ref q4) = some false)
    (no4_int : PySem.W.subIn K (.type "int") (.ref q4) = some false)
    (no4_str : PySem.W.subIn K (.type "str") (.ref q4) = some false)
    (no4_tuple : PySem.W.subIn K (.type "tuple") (.ref q4) = some false)
    (no4_list : PySem.W.subIn K (.type "list") (.ref q4) = some false)
    (no4_dict : PySem.W.subIn K (.type "dict") (.ref q4) = some false)
    (ic4 : PySem.W.isClsIn K q4 = true)
    (tc4 : PySem.W.typeIn K (.ref q4) = some (.type "type"))
    (sb13_4 : PySem.W.subIn K (.ref q13) (.ref q4) = some false)
    (sb4_4 : PySem.W.subIn K (.ref q4) (.ref q4) = some true)
    (sb11_4 : PySem.W.subIn K (.ref q11) (.ref q4) = some false)
    (sb10_4 : PySem.W.subIn K (.ref q10) (.ref q4) = some false)
    (sb9_4 : PySem.W.subIn K (.ref q9) (.ref q4) = some false)
    (sb8_4 : PySem.W.subIn K (.ref q8) (.ref q4) = some false)
    (sb7_4 : PySem.W.subIn K (.ref q7) (.ref q4) = some false)
    (sb6_4 : PySem.W.subIn K (.ref q6) (.ref q4) = some false)
    (sb12_4 : PySem.W.subIn K (.ref q12) (.ref q4) = some false)
    (sb5_4 : PySem.W.subIn K (.ref q5) (.ref q4) = some false)
    (sb3_4 : PySem.W.subIn K (.ref q3) (.ref q4) = some false)
    (sb1_4 : PySem.W.subIn K (.ref q1) (.ref q4) = some false)
    (no5_NoneType : PySem.W.subIn K (.type "NoneType") (.ref q5) = some false)
    (no5_bool : PySem.W.subIn K (.type "bool") (.ref q5) = some false)
    (no5_int : PySem.W.subIn K (.type "int") (.ref q5) = some false)
    (no5_str : PySem.W.subIn K (.type "str") (.ref q5) = some false)
    (no5_tuple : PySem.W.subIn K (.type "tuple") (.ref q5) = some false)
    (no5_list : PySem.W.subIn K (.type "list") (.ref q5) = some false)
    (no5_dict : PySem.W.subIn K (.type "dict") (.ref q5) = some false)
    (ic5 : PySem.W.isClsIn K q5 = true)
    (tc5 : PySem.W.typeIn K (.ref q5) = some (.type "type"))
    (sb13_5 : PySem.W.subIn K (.ref q13) (.ref q5) = some false)
    (sb5_5 : PySem.W.subIn K (.ref q5) (.ref q5) = some true)
    (sb11_5 : PySem.W.subIn K (.ref q11) (.ref q5) = some false)
    (sb10_5 : PySem.W.subIn K (.ref q10) (.ref q5) = some false)
    (sb9_5 : PySem.W.subIn K (.ref q9) (.ref q5) = some false)
    (sb8_5 : PySem.W.subIn K (.ref q8) (.ref q5) = some false)
    (sb7_5 : PySem.W.subIn K (.ref q7) (.ref q5) = some false)
    (sb6_5 : PySem.W.subIn K (.ref q6) (.ref q5) = some false)
    (sb12_5 : PySem.W.subIn K (.ref q12) (.ref q5) = some false)
    (sb4_5 : PySem.W.subIn K (.ref q4) (.ref q5) = some false)
    (sb3_5 : PySem.W.subIn K (.ref q3) (.ref q5) = some false)
    (sb1_5 : PySem.W.subIn K (.ref q1) (.ref q5) = some false)
    (no6_NoneType : PySem.W.subIn K (.type "NoneType") (.ref q6) = some false)
    (no6_bool : PySem.W.subIn K (.type "bool") (.ref q6) = some false)
    (no6_int : PySem.W.subIn K (.type "int") (.ref q6) = some false)
    (no6_str : PySem.W.subIn K (.type "str") (.ref q6) = some false)
    (no6_tuple : PySem.W.subIn K (.type "tuple") (.ref q6) = some false)
    (no6_list : PySem.W.subIn K (.type "list") (.ref q6) = some false)
    (no6_dict : PySem.W.subIn K (.type "dict") (.ref q6) = some false)
    (ic6 : PySem.W.isClsIn K q6 = true)
    (tc6 : PySem.W.typeIn K (.ref q6) = some (.type "type"))
    (sb13_6 : PySem.W.subIn K (.ref q13) (.ref q6) = some false)
    (sb6_6 : PySem.W.subIn K (.ref q6) (.ref q6) = some true)
    (sb11_6 : PySem.W.subIn K (.ref q11) (.ref q6) = some false)
    (sb10_6 : PySem.W.subIn K (.ref q10) (.ref q6) = some false)
    (sb9_6 : PySem.W.subIn K (.ref q9) (.ref q6) = some false)
    (sb8_6 : PySem.W.subIn K (.ref q8) (.ref q6) = some false)
    (sb7_6 : PySem.W.subIn K (.ref q7) (.ref q6) = some false)
    (sb12_6 : PySem.W.subIn K (.ref q12) (.ref q6) = some false)
    (sb5_6 : PySem.W.subIn K (.ref q5) (.ref q6) = some false)
    (sb4_6 : PySem.W.subIn K (.ref q4) (.ref q6) = some false)
    (sb3_6 : PySem.W.subIn K (.ref q3) (.ref q6) = some false)
    (sb1_6 : PySem.W.subIn K (.ref q1) (.ref q6) = some false)
    (no7_NoneType : PySem.W.subIn K (.type "NoneType") (.ref q7) = some false)
    (no7_bool : PySem.W.subIn K (.type "bool") (.ref q7) = some false)
    (no7_int : PySem.W.subIn K (.type "int") (.ref q7) = some false)
    (no7_str : PySem.W.subIn K (.type "str") (.ref q7) = some false)
    (no7_tuple : PySem.W.subIn K (.type "tuple") (.ref q7) = some false)
    (no7_list : PySem.W.subIn K (.type "list") (.ref q7) = some false)
    (no7_dict : PySem.W.subIn K (.type "dict") (.ref q7) = some false)
    (ic7 : PySem.W.isClsIn K q7 = true)
    (tc7 : PySem.W.typeIn K (.ref q7) = some (.type "type"))
    (sb13_7 : PySem.W.subIn K (.ref q13) (.ref q7) = some false)
    (sb7_7 : PySem.W.subIn K (.ref q7) (.ref q7) = some true)
    (sb11_7 : PySem.W.subIn K (.ref q11) (.ref q7) = some false)
    (sb10_7 : PySem.W.subIn K (.ref q10) (.ref q7) = some false)
    (sb9_7 : PySem.W.subIn K (.ref q9) (.ref q7) = some false)
    (sb8_7 : PySem.W.subIn K (.ref q8) (.ref q7) = some false)
    (sb6_7 : PySem.W.subIn K (.ref q6) (.ref q7) = some false)
    (sb12_7 : PySem.W.subIn K (.ref q12) (.ref q7) = some false)
    (sb5_7 : PySem.W.subIn K (.ref q5) (.ref q7) = some false)
    (sb4_7 : PySem.W.subIn K (.ref q4) (.ref q7) = some false)
    (sb3_7 : PySem.W.subIn K (.ref q3) (.ref q7) = some false)
    (sb1_7 : PySem.W.subIn K (.ref q1) (.ref q7) = some false)
    (no8_NoneType : PySem.W.subIn K (.type "NoneType") (.ref q8) = some false)
    (no8_bool : PySem.W.subIn K (.type "bool") (.ref q8) = some false)
    (no8_int : PySem.W.subIn K (.type "int") (.ref q8) = some false)
    (no8_str : PySem.W.subIn K (.type "str") (.ref q8) = some false)
    (no8_tuple : PySem.W.subIn K (.type "tuple") (.ref q8) = some false)
    (no8_list : PySem.W.subIn K (.type "list") (.ref q8) = some false)
    (no8_dict : PySem.W.subIn K (.type "dict") (.ref q8) = some false)
    (ic8 : PySem.W.isClsIn K q8 = true)
    (tc8 : PySem.W.typeIn K (.ref q8) = some (.type "type"))
    (sb13_8 : PySem.W.subIn K (.ref q13) (.ref q8) = some false)
    (sb8_8 : PySem.W.subIn K (.ref q8) (.ref q8) = some true)
    (sb11_8 : PySem.W.subIn K (.ref q11) (.ref q8) = some false)
    (sb10_8 : PySem.W.subIn K (.ref q10) (.ref q8) = some false)
    (sb9_8 : PySem.W.subIn K (.ref q9) (.ref q8) = some false)
    (sb7_8 : PySem.W.subIn K (.ref q7) (.ref q8) = some false)
    (sb6_8 : PySem.W.subIn K (.ref q6) (.ref q8) = some false)
    (sb12_8 : PySem.W.subIn K (.ref q12) (.ref q8) = some false)
    (sb5_8 : PySem.W.subIn K (.ref q5) (.ref q8) = some false)
    (sb4_8 : PySem.W.subIn K (.ref q4) (.ref q8) = some false)
    (sb3_8 : PySem.W.subIn K (.ref q3) (.ref q8) = some false)
    (sb1_8 : PySem.W.subIn K (.ref q1) (.ref q8) = some false)
    (no9_NoneType : PySem.W.subIn K (.type "NoneType") (.ref q9) = some false)
    (no9_bool : PySem.W.subIn K (.type "bool") (.ref q9) = some false)
    (no9_int : PySem.W.subIn K (.type "int") (.ref q9) = some false)
    (no9_str : PySem.W.subIn K (.type "str") (.ref q9) = some false)
    (no9_tuple : PySem.W.subIn K (.type "tuple") (.ref q9) = some false)
    (no9_list : PySem.W.subIn K (.type "list") (.ref q9) = some false)
    (no9_dict : PySem.W.subIn K (.type "dict") (.ref q9) = some false)
    (ic9 : PySem.W.isClsIn K q9 = true)
    (tc9 : PySem.W.typeIn K (.ref q9) = some (.type "type"))
    (sb13_9 : PySem.W.subIn K (.ref q13) (.ref q9) = some false)
    (sb9_9 : PySem.W.subIn K (.ref q9) (.ref q9) = some true)
    (sb11_9 : PySem.W.subIn K (.ref q11) (.ref q9) = some false)
    (sb10_9 : PySem.W.subIn K (.ref q10) (.ref q9) = some false)
    (sb8_9 : PySem.W.subIn K (.ref q8) (.ref q9) = some false)
    (sb7_9 : PySem.W.subIn K (.ref q7) (.ref q9) = some false)
    (sb6_9 : PySem.W.subIn K (.ref q6) (.ref q9) = some false)
    (sb12_9 : PySem.W.subIn K (.ref q12) (.ref q9) = some false)
    (sb5_9 : PySem.W.subIn K (.ref q5) (.ref q9) = some false)
    (sb4_9 : PySem.W.subIn K (.ref q4) (.ref q9) = some false)
    (sb3_9 : PySem.W.subIn K (.ref q3) (.ref q9) = some false)
    (sb1_9 : PySem.W.subIn K (.ref q1) (.ref q9) = some false)
    (no10_NoneType : PySem.W.subIn K (.type "NoneType") (.ref q10) = some false)
    (no10_bool : PySem.W.subIn K (.type "bool") (.ref q10) = some false)
    (no10_int : PySem.W.subIn K (.type "int") (.ref q10) = some false)
    (no10_str : PySem.W.subIn K (.type "str") (.ref q10) = some false)
    (no10_tuple : PySem.W.subIn K (.type "tuple") (.ref q10) = some false)
    (no10_list : PySem.W.subIn K (.type "list") (.ref q10) = some false)
    (no10_dict : PySem.W.subIn K (.type "dict") (.ref q10) = some false)
    (ic10 : PySem.W.isClsIn K q10 = true)
    (tc10 : PySem.W.typeIn K (.ref q10) = some (.type "type"))
    (sb13_10 : PySem.W.subIn K (.ref q13) (.ref q10) = some false)
    (sb10_10 : PySem.W.subIn K (.ref q10) (.ref q10) = some true)
    (sb11_10 : PySem.W.subIn K (.ref q11) (.ref q10) = some false)
    (sb9_10 : PySem.W.subIn K (.ref q9) (.ref q10) = some false)
    (sb8_10 : PySem.W.subIn K (.ref q8) (.ref q10) = some false)
    (sb7_10 : PySem.W.subIn K (.ref q7) (.ref q10) = some false)
    (sb6_10 : PySem.W.subIn K (.ref q6) (.ref q10) = some false)
    (sb12_10 : PySem.W.subIn K (.ref q12) (.ref q10) = some false)
    (sb5_10 : PySem.W.subIn K (.ref q5) (.ref q10) = some false)
    (sb4_10 : PySem.W.subIn K (.ref q4) (.ref q10) = some false)
    (sb3_10 : PySem.W.subIn K (.ref q3) (.ref q10) = some false)
    (sb1_10 : PySem.W.subIn K (.ref q1) (.ref q10) = some false)
    (no11_NoneType : PySem.W.subIn K (.type "NoneType") (.ref q11) = some false)
    (no11_bool : PySem.W.subIn K (.type "bool") (.ref q11) = some false)
    (no11_int : PySem.W.subIn K (.type "int") (.ref q11) = some false)
    (no11_str : PySem.W.subIn K (.type "str") (.ref q11) = some false)
    (no11_tuple : PySem.W.subIn K (.type "tuple") (.ref q11) = some false)
    (no11_list : PySem.W.subIn K (.type "list") (.ref q11) = some false)
    (no11_dict : PySem.W.subIn K (.type "dict") (.ref q11) = some false)
    (ic11 : PySem.W.isClsIn K q11 = true)
    (tc11 : PySem.W.typeIn K (.ref q11) = some (.type "type"))
    (sb13_11 : PySem.W.subIn K (.ref q13) (.ref q11) = some false)
    (sb11_11 : PySem.W.subIn K (.ref q11) (.ref q11) = some true)
    (sb10_11 : PySem.W.subIn K (.ref q10) (.ref q11) = some false)
    (sb9_11 : PySem.W.subIn K (.ref q9) (.ref q11) = some false)
    (sb8_11 : PySem.W.subIn K (.ref q8) (.ref q11) = some false)
    (sb7_11 : PySem.W.subIn K (.ref q7) (.ref q11) = some false)
    (sb6_11 : PySem.W.subIn K (.ref q6) (.ref q11) = some false)
    (sb12_11 : PySem.W.subIn K (.ref q12) (.ref q11) = some false)
    (sb5_11 : PySem.W.subIn K (.ref q5) (.ref q11) = some false)
    (sb4_11 : PySem.W.subIn K (.ref q4) (.ref q11) = some false)
    (sb3_11 : PySem.W.subIn K (.ref q3) (.ref q11) = some false)
    (sb1_11 : PySem.W.subIn K (.ref q1) (.ref q11) = some false)
    (no12_NoneType : PySem.W.subIn K (.type "NoneType") (.ref q12) = some false)
    (no12_bool : PySem.W.subIn K (.type "bool") (.ref q12) = some false)
    (no12_int : PySem.W.subIn K (.type "int") (.ref q12) = some false)
    (no12_str : PySem.W.subIn K (.type "str") (.ref q12) = some false)
    (no12_tuple : PySem.W.subIn K (.type "tuple") (.ref q12) = some false)
    (no12_list : PySem.W.subIn K (.type "list") (.ref q12) = some false)
    (no12_dict : PySem.W.subIn K (.type "dict") (.ref q12) = some false)
    (ic12 : PySem.W.isClsIn K q12 = true)
    (tc12 : PySem.W.typeIn K (.ref q12) = some (.type "type"))
    (sb13_12 : PySem.W.subIn K (.ref q13) (.ref q12) = some false)
    (sb12_12 : PySem.W.subIn K (.ref q12) (.ref q12) = some true)
    (sb11_12 : PySem.W.subIn K (.ref q11) (.ref q12) = some false)
    (sb10_12 : PySem.W.subIn K (.ref q10) (.ref q12) = some false)
    (sb9_12 : PySem.W.subIn K (.ref q9) (.ref q12) = some false)
    (sb8_12 : PySem.W.subIn K (.ref q8) (.ref q12) = some false)
    (sb7_12 : PySem.W.subIn K (.ref q7) (.ref q12) = some false)
    (sb6_12 : PySem.W.subIn K (.ref q6) (.ref q12) = some false)
    (sb5_12 : PySem.W.subIn K (.ref q5) (.ref q12) = some false)
    (sb4_12 : PySem.W.subIn K (.ref q4) (.ref q12) = some false)
    (sb3_12 : PySem.W.subIn K (.ref q3) (.ref q12) = some false)
    (sb1_12 : PySem.W.subIn K (.ref q1) (.ref q12) = some false)
    (no13_NoneType : PySem.W.subIn K (.type "NoneType") (.ref q13) = some false)
    (no13_bool : PySem.W.subIn K (.type "bool") (.ref q13) = some false)
    (no13_int : PySem.W.subIn K (.type "int") (.ref q13) = some false)
    (no13_str : PySem.W.subIn K (.type "str") (.ref q13) = some false)
    (no13_tuple : PySem.W.subIn K (.type "tuple") (.ref q13) = some false)
    (no13_list : PySem.W.subIn K (.type "list") (.ref q13) = some false)
    (no13_dict : PySem.W.subIn K (.type "dict") (.ref q13) = some false)
    (ic13 : PySem.W.isClsIn K q13 = true)
    (tc13 : PySem.W.typeIn K (.ref q13) = some (.type "type"))
    (sb11_13 : PySem.W.subIn K (.ref q11) (.ref q13) = some false)
    (sb13_13 : PySem.W.subIn K (.ref q13) (.ref q13) = some true)
    (sb10_13 : PySem.W.subIn K (.ref q10) (.ref q13) = some false)
    (sb9_13 : PySem.W.subIn K (.ref q9) (.ref q13) = some false)
    (sb8_13 : PySem.W.subIn K (.ref q8) (.ref q13) = some false)
    (sb7_13 : PySem.W.subIn K (.ref q7) (.ref q13) = some false)
    (sb6_13 : PySem.W.subIn K (.ref q6) (.ref q13) = some false)
    (sb12_13 : PySem.W.subIn K (.ref q12) (.ref q13) = some false)
    (sb5_13 : PySem.W.subIn K (.ref q5) (.ref q13) = some false)
    (sb4_13 : PySem.W.subIn K (.ref q4) (.ref q13) = some false)
    (sb3_13 : PySem.W.subIn K (.ref q3) (.ref q13) = some false)
    (sb1_13 : PySem.W.subIn K (.ref q1) (.ref q13) = some false)
    (a1 : PySem.W.nsIn K mainGlobals "_law_purse" = some (some (.ref f1)))
    (l1 : K.lookup f1 = some ⟨oc1, od1, .func (PySem.W.fnOf "_law_purse" "_law_purse" (defArgs st__law_purse) (defBody st__law_purse) (defScope st__law_purse) .none kV1 dc1 pm1 an1 cd1 ct1), sl1⟩)
    (d1 : PySem.W.codeIn K cd1 "_law_purse" = true)
    (k1 : PySem.W.keepIn K (.ref f1) = true)
    (a2 : PySem.W.nsIn K mainGlobals "_law_draw" = some (some (.ref f2)))
    (l2 : K.lookup f2 = some ⟨oc2, od2, .func (PySem.W.fnOf "_law_draw" "_law_draw" (defArgs st__law_draw) (defBody st__law_draw) (defScope st__law_draw) .none kV2 dc2 pm2 an2 cd2 ct2), sl2⟩)
    (d2 : PySem.W.codeIn K cd2 "_law_draw" = true)
    (k2 : PySem.W.keepIn K (.ref f2) = true)
    (a3 : PySem.W.nsIn K mainGlobals "_law_choose" = some (some (.ref f3)))
    (l3 : K.lookup f3 = some ⟨oc3, od3, .func (PySem.W.fnOf "_law_choose" "_law_choose" (defArgs st__law_choose) (defBody st__law_choose) (defScope st__law_choose) .none kV3 dc3 pm3 an3 cd3 ct3), sl3⟩)
    (d3 : PySem.W.codeIn K cd3 "_law_choose" = true)
    (k3 : PySem.W.keepIn K (.ref f3) = true)
    (a4 : PySem.W.nsIn K mainGlobals "_law_values" = some (some (.ref f4)))
    (l4 : K.lookup f4 = some ⟨oc4, od4, .func (PySem.W.fnOf "_law_values" "_law_values" (defArgs st__law_values) (defBody st__law_values) (defScope st__law_values) .none kV4 dc4 pm4 an4 cd4 ct4), sl4⟩)
    (d4 : PySem.W.codeIn K cd4 "_law_values" = true)
    (k4 : PySem.W.keepIn K (.ref f4) = true)
    (a10 : PySem.W.findIn K (.ref q1) "__init__" = some (some (.ref f10)))
    (l10 : K.lookup f10 = some ⟨oc10, od10, .func (PySem.W.fnOf "__init__" "BadName.__init__" (defArgs (inClass (top 2) 0)) (defBody (inClass (top 2) 0)) (defScope (inClass (top 2) 0)) .none kV10 dc10 pm10 an10 cd10 ct10), sl10⟩)
    (d10 : PySem.W.codeIn K cd10 "BadName.__init__" = true)
    (k10 : PySem.W.keepIn K (.ref f10) = true)
    (t10 : PySem.W.typeIn K (.ref f10) = some (.type "function"))
    (br2 : PySem.W.readsIn K q2 (.type "type") = true)
    (bg2 : PySem.W.specialIn K (.ref q2) "__getattribute__" = some (some (.builtin "type.__getattribute__")))
    (bi2 : PySem.W.findCls K (.ref q2) (.type "type") "__init__" = some (.val (.builtin "ValueError.__init__")))
    (xl1 : K.lookup q1 = some (excClassObj nm1 qn1 q1 N1 bs1 bm1 true sn1 sub1 ab1 col1 dd1 x01 x11 x21 x31 x51 "ValueError.__new__"))
    (xb1 : PySem.HandSPX.refsVE bm1 = true)
    (sa1 : PySem.W.findIn K (.ref q1) "__setattr__" = some (some (.builtin "object.__setattr__")))
    (kc1 : PySem.W.keepIn K (.ref q1) = true)
    (a11 : PySem.W.findIn K (.ref q3) "__init__" = some (some (.ref f11)))
    (l11 : K.lookup f11 = some ⟨oc11, od11, .func (PySem.W.fnOf "__init__" "BadCode.__init__" (defArgs (inClass (top 3) 0)) (defBody (inClass (top 3) 0)) (defScope (inClass (top 3) 0)) .none kV11 dc11 pm11 an11 cd11 ct11), sl11⟩)
    (d11 : PySem.W.codeIn K cd11 "BadCode.__init__" = true)
    (k11 : PySem.W.keepIn K (.ref f11) = true)
    (t11 : PySem.W.typeIn K (.ref f11) = some (.type "function"))
    (xl3 : K.lookup q3 = some (excClassObj nm3 qn3 q3 N3 bs3 bm3 true sn3 sub3 ab3 col3 dd3 x03 x13 x23 x33 x53 "ValueError.__new__"))
    (xb3 : PySem.HandSPX.refsVE bm3 = true)
    (sa3 : PySem.W.findIn K (.ref q3) "__setattr__" = some (some (.builtin "object.__setattr__")))
    (kc3 : PySem.W.keepIn K (.ref q3) = true)
    (a12 : PySem.W.findIn K (.ref q4) "__init__" = some (some (.ref f12)))
    (l12 : K.lookup f12 = some ⟨oc12, od12, .func (PySem.W.fnOf "__init__" "BadLength.__init__" (defArgs (inClass (top 4) 0)) (defBody (inClass (top 4) 0)) (defScope (inClass (top 4) 0)) .none kV12 dc12 pm12 an12 cd12 ct12), sl12⟩)
    (d12 : PySem.W.codeIn K cd12 "BadLength.__init__" = true)
    (k12 : PySem.W.keepIn K (.ref f12) = true)
    (t12 : PySem.W.typeIn K (.ref f12) = some (.type "function"))
    (xl4 : K.lookup q4 = some (excClassObj nm4 qn4 q4 N4 bs4 bm4 true sn4 sub4 ab4 col4 dd4 x04 x14 x24 x34 x54 "ValueError.__new__"))
    (xb4 : PySem.HandSPX.refsVE bm4 = true)
    (sa4 : PySem.W.findIn K (.ref q4) "__setattr__" = some (some (.builtin "object.__setattr__")))
    (kc4 : PySem.W.keepIn K (.ref q4) = true)
    (a13 : PySem.W.findIn K (.ref q5) "__init__" = some (some (.ref f13)))
    (l13 : K.lookup f13 = some ⟨oc13, od13, .func (PySem.W.fnOf "__init__" "BadCost.__init__" (defArgs (inClass (top 5) 0)) (defBody (inClass (top 5) 0)) (defScope (inClass (top 5) 0)) .none kV13 dc13 pm13 an13 cd13 ct13), sl13⟩)
    (d13 : PySem.W.codeIn K cd13 "BadCost.__init__" = true)
    (k13 : PySem.W.keepIn K (.ref f13) = true)
    (t13 : PySem.W.typeIn K (.ref f13) = some (.type "function"))
    (xl5 : K.lookup q5 = some (excClassObj nm5 qn5 q5 N5 bs5 bm5 true sn5 sub5 ab5 col5 dd5 x05 x15 x25 x35 x55 "ValueError.__new__"))
    (xb5 : PySem.HandSPX.refsVE bm5 = true)
    (sa5 : PySem.W.findIn K (.ref q5) "__setattr__" = some (some (.builtin "object.__setattr__")))
    (kc5 : PySem.W.keepIn K (.ref q5) = true)
    (a14 : PySem.W.findIn K (.ref q6) "__init__" = some (some (.ref f14)))
    (l14 : K.lookup f14 = some ⟨oc14, od14, .func (PySem.W.fnOf "__init__" "BadText.__init__" (defArgs (inClass (top 7) 0)) (defBody (inClass (top 7) 0)) (defScope (inClass (top 7) 0)) .none kV14 dc14 pm14 an14 cd14 ct14), sl14⟩)
    (d14 : PySem.W.codeIn K cd14 "BadText.__init__" = true)
    (k14 : PySem.W.keepIn K (.ref f14) = true)
    (t14 : PySem.W.typeIn K (.ref f14) = some (.type "function"))
    (xl6 : K.lookup q6 = some (excClassObj nm6 qn6 q6 N6 bs6 bm6 true sn6 sub6 ab6 col6 dd6 x06 x16 x26 x36 x56 "ValueError.__new__"))
    (xb6 : PySem.HandSPX.refsVE bm6 = true)
    (sa6 : PySem.W.findIn K (.ref q6) "__setattr__" = some (some (.builtin "object.__setattr__")))
    (kc6 : PySem.W.keepIn K (.ref q6) = true)
    (a15 : PySem.W.findIn K (.ref q7) "__init__" = some (some (.ref f15)))
    (l15 : K.lookup f15 = some ⟨oc15, od15, .func (PySem.W.fnOf "__init__" "BadCommand.__init__" (defArgs (inClass (top 8) 0)) (defBody (inClass (top 8) 0)) (defScope (inClass (top 8) 0)) .none kV15 dc15 pm15 an15 cd15 ct15), sl15⟩)
    (d15 : PySem.W.codeIn K cd15 "BadCommand.__init__" = true)
    (k15 : PySem.W.keepIn K (.ref f15) = true)
    (t15 : PySem.W.typeIn K (.ref f15) = some (.type "function"))
    (xl7 : K.lookup q7 = some (excClassObj nm7 qn7 q7 N7 bs7 bm7 true sn7 sub7 ab7 col7 dd7 x07 x17 x27 x37 x57 "ValueError.__new__"))
    (xb7 : PySem.HandSPX.refsVE bm7 = true)
    (sa7 : PySem.W.findIn K (.ref q7) "__setattr__" = some (some (.builtin "object.__setattr__")))
    (kc7 : PySem.W.keepIn K (.ref q7) = true)
    (a16 : PySem.W.findIn K (.ref q8) "__init__" = some (some (.ref f16)))
    (l16 : K.lookup f16 = some ⟨oc16, od16, .func (PySem.W.fnOf "__init__" "UnknownName.__init__" (defArgs (inClass (top 9) 0)) (defBody (inClass (top 9) 0)) (defScope (inClass (top 9) 0)) .none kV16 dc16 pm16 an16 cd16 ct16), sl16⟩)
    (d16 : PySem.W.codeIn K cd16 "UnknownName.__init__" = true)
    (k16 : PySem.W.keepIn K (.ref f16) = true)
    (t16 : PySem.W.typeIn K (.ref f16) = some (.type "function"))
    (xl8 : K.lookup q8 = some (excClassObj nm8 qn8 q8 N8 bs8 bm8 true sn8 sub8 ab8 col8 dd8 x08 x18 x28 x38 x58 "ValueError.__new__"))
    (xb8 : PySem.HandSPX.refsVE bm8 = true)
    (sa8 : PySem.W.findIn K (.ref q8) "__setattr__" = some (some (.builtin "object.__setattr__")))
    (kc8 : PySem.W.keepIn K (.ref q8) = true)
    (a17 : PySem.W.findIn K (.ref q9) "__init__" = some (some (.ref f17)))
    (l17 : K.lookup f17 = some ⟨oc17, od17, .func (PySem.W.fnOf "__init__" "NameTaken.__init__" (defArgs (inClass (top 10) 0)) (defBody (inClass (top 10) 0)) (defScope (inClass (top 10) 0)) .none kV17 dc17 pm17 an17 cd17 ct17), sl17⟩)
    (d17 : PySem.W.codeIn K cd17 "NameTaken.__init__" = true)
    (k17 : PySem.W.keepIn K (.ref f17) = true)
    (t17 : PySem.W.typeIn K (.ref f17) = some (.type "function"))
    (xl9 : K.lookup q9 = some (excClassObj nm9 qn9 q9 N9 bs9 bm9 true sn9 sub9 ab9 col9 dd9 x09 x19 x29 x39 x59 "ValueError.__new__"))
    (xb9 : PySem.HandSPX.refsVE bm9 = true)
    (sa9 : PySem.W.findIn K (.ref q9) "__setattr__" = some (some (.builtin "object.__setattr__")))
    (kc9 : PySem.W.keepIn K (.ref q9) = true)
    (a18 : PySem.W.findIn K (.ref q10) "__init__" = some (some (.ref f18)))
    (l18 : K.lookup f18 = some ⟨oc18, od18, .func (PySem.W.fnOf "__init__" "NoCoding.__init__" (defArgs (inClass (top 11) 0)) (defBody (inClass (top 11) 0)) (defScope (inClass (top 11) 0)) .none kV18 dc18 pm18 an18 cd18 ct18), sl18⟩)
    (d18 : PySem.W.codeIn K cd18 "NoCoding.__init__" = true)
    (k18 : PySem.W.keepIn K (.ref f18) = true)
    (t18 : PySem.W.typeIn K (.ref f18) = some (.type "function"))
    (xl10 : K.lookup q10 = some (excClassObj nm10 qn10 q10 N10 bs10 bm10 true sn10 sub10 ab10 col10 dd10 x010 x110 x210 x310 x510 "ValueError.__new__"))
    (xb10 : PySem.HandSPX.refsVE bm10 = true)
    (sa10 : PySem.W.findIn K (.ref q10) "__setattr__" = some (some (.builtin "object.__setattr__")))
    (kc10 : PySem.W.keepIn K (.ref q10) = true)
    (a19 : PySem.W.findIn K (.ref q11) "__init__" = some (some (.ref f19)))
    (l19 : K.lookup f19 = some ⟨oc19, od19, .func (PySem.W.fnOf "__init__" "NothingToDo.__init__" (defArgs (inClass (top 12) 0)) (defBody (inClass (top 12) 0)) (defScope (inClass (top 12) 0)) .none kV19 dc19 pm19 an19 cd19 ct19), sl19⟩)
    (d19 : PySem.W.codeIn K cd19 "NothingToDo.__init__" = true)
    (k19 : PySem.W.keepIn K (.ref f19) = true)
    (t19 : PySem.W.typeIn K (.ref f19) = some (.type "function"))
    (xl11 : K.lookup q11 = some (excClassObj nm11 qn11 q11 N11 bs11 bm11 true sn11 sub11 ab11 col11 dd11 x011 x111 x211 x311 x511 "ValueError.__new__"))
    (xb11 : PySem.HandSPX.refsVE bm11 = true)
    (sa11 : PySem.W.findIn K (.ref q11) "__setattr__" = some (some (.builtin "object.__setattr__")))
    (kc11 : PySem.W.keepIn K (.ref q11) = true)
    (a20 : PySem.W.findIn K (.ref q12) "__init__" = some (some (.ref f20)))
    (l20 : K.lookup f20 = some ⟨oc20, od20, .func (PySem.W.fnOf "__init__" "BadClock.__init__" (defArgs (inClass (top 6) 0)) (defBody (inClass (top 6) 0)) (defScope (inClass (top 6) 0)) .none kV20 dc20 pm20 an20 cd20 ct20), sl20⟩)
    (d20 : PySem.W.codeIn K cd20 "BadClock.__init__" = true)
    (k20 : PySem.W.keepIn K (.ref f20) = true)
    (t20 : PySem.W.typeIn K (.ref f20) = some (.type "function"))
    (xl12 : K.lookup q12 = some (excClassObj nm12 qn12 q12 N12 bs12 bm12 true sn12 sub12 ab12 col12 dd12 x012 x112 x212 x312 x512 "ValueError.__new__"))
    (xb12 : PySem.HandSPX.refsVE bm12 = true)
    (sa12 : PySem.W.findIn K (.ref q12) "__setattr__" = some (some (.builtin "object.__setattr__")))
    (kc12 : PySem.W.keepIn K (.ref q12) = true)
    (a21 : PySem.W.findIn K (.ref q13) "__init__" = some (some (.ref f21)))
    (l21 : K.lookup f21 = some ⟨oc21, od21, .func (PySem.W.fnOf "__init__" "Stuck.__init__" (defArgs (inClass (top 13) 0)) (defBody (inClass (top 13) 0)) (defScope (inClass (top 13) 0)) .none kV21 dc21 pm21 an21 cd21 ct21), sl21⟩)
    (d21 : PySem.W.codeIn K cd21 "Stuck.__init__" = true)
    (k21 : PySem.W.keepIn K (.ref f21) = true)
    (t21 : PySem.W.typeIn K (.ref f21) = some (.type "function"))
    (xl13 : K.lookup q13 = some (excClassObj nm13 qn13 q13 N13 bs13 bm13 true sn13 sub13 ab13 col13 dd13 x013 x113 x213 x313 x513 "ValueError.__new__"))
    (xb13 : PySem.HandSPX.refsVE bm13 = true)
    (sa13 : PySem.W.findIn K (.ref q13) "__setattr__" = some (some (.builtin "object.__setattr__")))
    (kc13 : PySem.W.keepIn K (.ref q13) = true)
    (a5 : PySem.W.nsIn K mainGlobals "_law_made" = some (some (.ref f5)))
    (l5 : K.lookup f5 = some ⟨oc5, od5, .func (PySem.W.fnOf "_law_made" "_law_made" (defArgs st__law_made) (defBody st__law_made) (defScope st__law_made) .none kV5 dc5 pm5 an5 cd5 ct5), sl5⟩)
    (d5 : PySem.W.codeIn K cd5 "_law_made" = true)
    (k5 : PySem.W.keepIn K (.ref f5) = true)
    (a6 : PySem.W.nsIn K mainGlobals "_law_named" = some (some (.ref f6)))
    (l6 : K.lookup f6 = some ⟨oc6, od6, .func (PySem.W.fnOf "_law_named" "_law_named" (defArgs st__law_named) (defBody st__law_named) (defScope st__law_named) .none kV6 dc6 pm6 an6 cd6 ct6), sl6⟩)
    (d6 : PySem.W.codeIn K cd6 "_law_named" = true)
    (k6 : PySem.W.keepIn K (.ref f6) = true)
    (a7 : PySem.W.nsIn K mainGlobals "_law_kinds" = some (some (.ref f7)))
    (l7 : K.lookup f7 = some ⟨oc7, od7, .func (PySem.W.fnOf "_law_kinds" "_law_kinds" (defArgs st__law_kinds) (defBody st__law_kinds) (defScope st__law_kinds) .none kV7 dc7 pm7 an7 cd7 ct7), sl7⟩)
    (d7 : PySem.W.codeIn K cd7 "_law_kinds" = true)
    (k7 : PySem.W.keepIn K (.ref f7) = true)
    (a8 : PySem.W.nsIn K mainGlobals "_law_of_one_kind" = some (some (.ref f8)))
    (l8 : K.lookup f8 = some ⟨oc8, od8, .func (PySem.W.fnOf "_law_of_one_kind" "_law_of_one_kind" (defArgs st__law_of_one_kind) (defBody st__law_of_one_kind) (defScope st__law_of_one_kind) .none kV8 dc8 pm8 an8 cd8 ct8), sl8⟩)
    (d8 : PySem.W.codeIn K cd8 "_law_of_one_kind" = true)
    (k8 : PySem.W.keepIn K (.ref f8) = true)
    (a9 : PySem.W.nsIn K mainGlobals "law" = some (some (.ref f9)))
    (l9 : K.lookup f9 = some ⟨oc9, od9, .func (PySem.W.fnOf "law" "law" (defArgs st_law) (defBody st_law) (defScope st_law) .none kV9 dc9 pm9 an9 cd9 ct9), sl9⟩)
    (d9 : PySem.W.codeIn K cd9 "law" = true)
    (k9 : PySem.W.keepIn K (.ref f9) = true)
    (z1 : PySem.W.nsIn K mainGlobals "ValueError" = some none)
    (z2 : PySem.W.nsIn K mainGlobals "enumerate" = some none)
    (z3 : PySem.W.nsIn K mainGlobals "isinstance" = some none)
    (z4 : PySem.W.nsIn K mainGlobals "len" = some none)
    (z5 : PySem.W.nsIn K mainGlobals "max" = some none)
    (z6 : PySem.W.nsIn K mainGlobals "min" = some none)
    (z7 : PySem.W.nsIn K mainGlobals "range" = some none)
    (z8 : PySem.W.nsIn K mainGlobals "repr" = some none) :
    ∃ fd : FuncData, (∀ (s : Shared) (v : Value), BindsTo s fd ⟨[v], []⟩ [("_law_script", v)]) ∧ ∀ base : Heap, K.In base → base.Ns mainGlobals mg → (∃ o, base.get? sysModules = some o) → DFn l.prog w K mg base 4 fa fd ["_law_script"] spLaw := by
  have e := hfa.symm.trans (PySem.W.mg_of KX G a9)
  cases e
  letI : Cad := ⟨q1, q2, q3, q4, q5, q6, q7, q8, q9, q10, q11, q12, q13⟩
  have T : Gls K mg := ⟨PySem.W.mg_none_of KX G z1, PySem.W.mg_none_of KX G z2, PySem.W.mg_none_of KX G z3, PySem.W.mg_none_of KX G z4, PySem.W.mg_none_of KX G z5, PySem.W.mg_none_of KX G z6, PySem.W.mg_none_of KX G z7, PySem.W.mg_none_of KX G z8, PySem.W.mg_of KX G gC1, PySem.W.mg_of KX G gC3, PySem.W.mg_of KX G gC4, PySem.W.mg_of KX G gC5, PySem.W.mg_of KX G gC6, PySem.W.mg_of KX G gC7, PySem.W.mg_of KX G gC8, PySem.W.mg_of KX G gC9, PySem.W.mg_of KX G gC10, PySem.W.mg_of KX G gC11, PySem.W.mg_of KX G gC12, PySem.W.mg_of KX G gC13, ⟨⟨ga1, gg1, bx1, hd1⟩, nf1_value⟩, ⟨⟨ga3, gg3, bx3, hd3⟩, nf3_value⟩, ⟨⟨ga4, gg4, bx4, hd4⟩, nf4_value⟩, ⟨⟨ga5, gg5, bx5, hd5⟩, nf5_value⟩, ⟨⟨ga12, gg12, bx12, hd12⟩, nf12_value⟩, ⟨⟨ga6, gg6, bx6, hd6⟩, nf6_value⟩, ⟨⟨ga7, gg7, bx7, hd7⟩, nf7_command⟩, ⟨⟨ga10, gg10, bx10, hd10⟩, nf10_crowd⟩, ⟨⟨ga8, gg8, bx8, hd8⟩, nf8_name⟩, ⟨⟨ga9, gg9, bx9, hd9⟩, nf9_name⟩, ⟨⟨ga11, gg11, bx11, hd11⟩, nf11_action⟩, ⟨⟨ga13, gg13, bx13, hd13⟩, nf13_circles⟩, PySem.W.mg_of KX G gC2, ⟨ic2, tc2, no2_NoneType, no2_bool, no2_int, no2_str, no2_tuple, no2_list, no2_dict⟩, ⟨⟨ga13, gg13, bx13, hd13, ca13, ocg, oct, cm13⟩, kit_yes ⟨ic2, tc2, no2_NoneType, no2_bool, no2_int, no2_str, no2_tuple, no2_list, no2_dict⟩ sb13_2⟩, ⟨⟨ga11, gg11, bx11, hd11, ca11, ocg, oct, cm11⟩, kit_yes ⟨ic2, tc2, no2_NoneType, no2_bool, no2_int, no2_str, no2_tuple, no2_list, no2_dict⟩ sb11_2⟩, ⟨⟨ga10, gg10, bx10, hd10, ca10, ocg, oct, cm10⟩, kit_yes ⟨ic2, tc2, no2_NoneType, no2_bool, no2_int, no2_str, no2_tuple, no2_list, no2_dict⟩ sb10_2⟩, ⟨⟨ga9, gg9, bx9, hd9, ca9, ocg, oct, cm9⟩, kit_yes ⟨ic2, tc2, no2_NoneType, no2_bool, no2_int, no2_str, no2_tuple, no2_list, no2_dict⟩ sb9_2⟩, ⟨⟨ga8, gg8, bx8, hd8, ca8, ocg, oct, cm8⟩, kit_yes ⟨ic2, tc2, no2_NoneType, no2_bool, no2_int, no2_str, no2_tuple, no2_list, no2_dict⟩ sb8_2⟩, ⟨⟨ga7, gg7, bx7, hd7, ca7, ocg, oct, cm7⟩, kit_yes ⟨ic2, tc2, no2_NoneType, no2_bool, no2_int, no2_str, no2_tuple, no2_list, no2_dict⟩ sb7_2⟩, ⟨⟨ga6, gg6, bx6, hd6, ca6, ocg, oct, cm6⟩, kit_yes ⟨ic2, tc2, no2_NoneType, no2_bool, no2_int, no2_str, no2_tuple, no2_list, no2_dict⟩ sb6_2⟩, ⟨⟨ga12, gg12, bx12, hd12, ca12, ocg, oct, cm12⟩, kit_yes ⟨ic2, tc2, no2_NoneType, no2_bool, no2_int, no2_str, no2_tuple, no2_list, no2_dict⟩ sb12_2⟩, ⟨⟨ga5, gg5, bx5, hd5, ca5, ocg, oct, cm5⟩, kit_yes ⟨ic2, tc2, no2_NoneType, no2_bool, no2_int, no2_str, no2_tuple, no2_list, no2_dict⟩ sb5_2⟩, ⟨⟨ga4, gg4, bx4, hd4, ca4, ocg, oct, cm4⟩, kit_yes ⟨ic2, tc2, no2_NoneType, no2_bool, no2_int, no2_str, no2_tuple, no2_list, no2_dict⟩ sb4_2⟩, ⟨⟨ga3, gg3, bx3, hd3, ca3, ocg, oct, cm3⟩, kit_yes ⟨ic2, tc2, no2_NoneType, no2_bool, no2_int, no2_str, no2_tuple, no2_list, no2_dict⟩ sb3_2⟩, ⟨⟨ga1, gg1, bx1, hd1, ca1, ocg, oct, cm1⟩, kit_yes ⟨ic2, tc2, no2_NoneType, no2_bool, no2_int, no2_str, no2_tuple, no2_list, no2_dict⟩ sb1_2⟩, ⟨⟨ga13, gg13, bx13, hd13, ca13, ocg, oct, cm13⟩, kit_ve sv13⟩, ⟨⟨ga11, gg11, bx11, hd11, ca11, ocg, oct, cm11⟩, kit_ve sv11⟩, ⟨⟨ga10, gg10, bx10, hd10, ca10, ocg, oct, cm10⟩, kit_ve sv10⟩, ⟨⟨ga9, gg9, bx9, hd9, ca9, ocg, oct, cm9⟩, kit_ve sv9⟩, ⟨⟨ga8, gg8, bx8, hd8, ca8, ocg, oct, cm8⟩, kit_ve sv8⟩, ⟨⟨ga7, gg7, bx7, hd7, ca7, ocg, oct, cm7⟩, kit_ve sv7⟩, ⟨⟨ga6, gg6, bx6, hd6, ca6, ocg, oct, cm6⟩, kit_ve sv6⟩, ⟨⟨ga12, gg12, bx12, hd12, ca12, ocg, oct, cm12⟩, kit_ve sv12⟩, ⟨⟨ga5, gg5, bx5, hd5, ca5, ocg, oct, cm5⟩, kit_ve sv5⟩, ⟨⟨ga4, gg4, bx4, hd4, ca4, ocg, oct, cm4⟩, kit_ve sv4⟩, ⟨⟨ga3, gg3, bx3, hd3, ca3, ocg, oct, cm3⟩, kit_ve sv3⟩, ⟨⟨ga1, gg1, bx1, hd1, ca1, ocg, oct, cm1⟩, kit_ve sv1⟩, ⟨ic1, tc1, no1_NoneType, no1_bool, no1_int, no1_str, no1_tuple, no1_list, no1_dict⟩, ⟨⟨ga13, gg13, bx13, hd13, ca13, ocg, oct, cm13⟩, kit_no ⟨ic1, tc1, no1_NoneType, no1_bool, no1_int, no1_str, no1_tuple, no1_list, no1_dict⟩ sb13_1 sb1_1⟩, ⟨⟨ga11, gg11, bx11, hd11, ca11, ocg, oct, cm11⟩, kit_no ⟨ic1, tc1, no1_NoneType, no1_bool, no1_int, no1_str, no1_tuple, no1_list, no1_dict⟩ sb11_1 sb1_1⟩, ⟨⟨ga10, gg10, bx10, hd10, ca10, ocg, oct, cm10⟩, kit_no ⟨ic1, tc1, no1_NoneType, no1_bool, no1_int, no1_str, no1_tuple, no1_list, no1_dict⟩ sb10_1 sb1_1⟩, ⟨⟨ga9, gg9, bx9, hd9, ca9, ocg, oct, cm9⟩, kit_no ⟨ic1, tc1, no1_NoneType, no1_bool, no1_int, no1_str, no1_tuple, no1_list, no1_dict⟩ sb9_1 sb1_1⟩, ⟨⟨ga8, gg8, bx8, hd8, ca8, ocg, oct, cm8⟩, kit_no ⟨ic1, tc1, no1_NoneType, no1_bool, no1_int, no1_str, no1_tuple, no1_list, no1_dict⟩ sb8_1 sb1_1⟩, ⟨⟨ga7, gg7, bx7, hd7, ca7, ocg, oct, cm7⟩, kit_no ⟨ic1, tc1, no1_NoneType, no1_bool, no1_int, no1_str, no1_tuple, no1_list, no1_dict⟩ sb7_1 sb1_1⟩, ⟨⟨ga6, gg6, bx6, hd6, ca6, ocg, oct, cm6⟩, kit_no ⟨ic1, tc1, no1_NoneType, no1_bool, no1_int, no1_str, no1_tuple, no1_list, no1_dict⟩ sb6_1 sb1_1⟩, ⟨⟨ga12, gg12, bx12, hd12, ca12, ocg, oct, cm12⟩, kit_no ⟨ic1, tc1, no1_NoneType, no1_bool, no1_int, no1_str, no1_tuple, no1_list, no1_dict⟩ sb12_1 sb1_1⟩, ⟨⟨ga5, gg5, bx5, hd5, ca5, ocg, oct, cm5⟩, kit_no ⟨ic1, tc1, no1_NoneType, no1_bool, no1_int, no1_str, no1_tuple, no1_list, no1_dict⟩ sb5_1 sb1_1⟩, ⟨⟨ga4, gg4, bx4, hd4, ca4, ocg, oct, cm4⟩, kit_no ⟨ic1, tc1, no1_NoneType, no1_bool, no1_int, no1_str, no1_tuple, no1_list, no1_dict⟩ sb4_1 sb1_1⟩, ⟨⟨ga3, gg3, bx3, hd3, ca3, ocg, oct, cm3⟩, kit_no ⟨ic1, tc1, no1_NoneType, no1_bool, no1_int, no1_str, no1_tuple, no1_list, no1_dict⟩ sb3_1 sb1_1⟩, ⟨⟨ga1, gg1, bx1, hd1, ca1, ocg, oct, cm1⟩, isi_self⟩, ⟨ic3, tc3, no3_NoneType, no3_bool, no3_int, no3_str, no3_tuple, no3_list, no3_dict⟩, ⟨⟨ga13, gg13, bx13, hd13, ca13, ocg, oct, cm13⟩, kit_no ⟨ic3, tc3, no3_NoneType, no3_bool, no3_int, no3_str, no3_tuple, no3_list, no3_dict⟩ sb13_3 sb3_3⟩, ⟨⟨ga11, gg11, bx11, hd11, ca11, ocg, oct, cm11⟩, kit_no ⟨ic3, tc3, no3_NoneType, no3_bool, no3_int, no3_str, no3_tuple, no3_list, no3_dict⟩ sb11_3 sb3_3⟩, ⟨⟨ga10, gg10, bx10, hd10, ca10, ocg, oct, cm10⟩, kit_no ⟨ic3, tc3, no3_NoneType, no3_bool, no3_int, no3_str, no3_tuple, no3_list, no3_dict⟩ sb10_3 sb3_3⟩, ⟨⟨ga9, gg9, bx9, hd9, ca9, ocg, oct, cm9⟩, kit_no ⟨ic3, tc3, no3_NoneType, no3_bool, no3_int, no3_str, no3_tuple, no3_list, no3_dict⟩ sb9_3 sb3_3⟩, ⟨⟨ga8, gg8, bx8, hd8, ca8, ocg, oct, cm8⟩, kit_no ⟨ic3, tc3, no3_NoneType, no3_bool, no3_int, no3_str, no3_tuple, no3_list, no3_dict⟩ sb8_3 sb3_3⟩, ⟨⟨ga7, gg7, bx7, hd7, ca7, ocg, oct, cm7⟩, kit_no ⟨ic3, tc3, no3_NoneType, no3_bool, no3_int, no3_str, no3_tuple, no3_list, no3_dict⟩ sb7_3 sb3_3⟩, ⟨⟨ga6, gg6, bx6, hd6, ca6, ocg, oct, cm6⟩, kit_no ⟨ic3, tc3, no3_NoneType, no3_bool, no3_int, no3_str, no3_tuple, no3_list, no3_dict⟩ sb6_3 sb3_3⟩, ⟨⟨ga12, gg12, bx12, hd12, ca12, ocg, oct, cm12⟩, kit_no ⟨ic3, tc3, no3_NoneType, no3_bool, no3_int, no3_str, no3_tuple, no3_list, no3_dict⟩ sb12_3 sb3_3⟩, ⟨⟨ga5, gg5, bx5, hd5, ca5, ocg, oct, cm5⟩, kit_no ⟨ic3, tc3, no3_NoneType, no3_bool, no3_int, no3_str, no3_tuple, no3_list, no3_dict⟩ sb5_3 sb3_3⟩, ⟨⟨ga4, gg4, bx4, hd4, ca4, ocg, oct, cm4⟩, kit_no ⟨ic3, tc3, no3_NoneType, no3_bool, no3_int, no3_str, no3_tuple, no3_list, no3_dict⟩ sb4_3 sb3_3⟩, ⟨⟨ga3, gg3, bx3, hd3, ca3, ocg, oct, cm3⟩, isi_self⟩, ⟨⟨ga1, gg1, bx1, hd1, ca1, ocg, oct, cm1⟩, kit_no ⟨ic3, tc3, no3_NoneType, no3_bool, no3_int, no3_str, no3_tuple, no3_list, no3_dict⟩ sb1_3 sb3_3⟩, ⟨ic4, tc4, no4_NoneType, no4_bool, no4_int, no4_str, no4_tuple, no4_list, no4_dict⟩, ⟨⟨ga13, gg13, bx13, hd13, ca13, ocg, oct, cm13⟩, kit_no ⟨ic4, tc4, no4_NoneType, no4_bool, no4_int, no4_str, no4_tuple, no4_list, no4_dict⟩ sb13_4 sb4_4⟩, ⟨⟨ga11, gg11, bx11, hd11, ca11, ocg, oct, cm11⟩, kit_no ⟨ic4, tc4, no4_NoneType, no4_bool, no4_int, no4_str, no4_tuple, no4_list, no4_dict⟩ sb11_4 sb4_4⟩, ⟨⟨ga10, gg10, bx10, hd10, ca10, ocg, oct, cm10⟩, kit_no ⟨ic4, tc4, no4_NoneType, no4_bool, no4_int, no4_str, no4_tuple, no4_list, no4_dict⟩ sb10_4 sb4_4⟩, ⟨⟨ga9, gg9, bx9, hd9, ca9, ocg, oct, cm9⟩, kit_no ⟨ic4, tc4, no4_NoneType, no4_bool, no4_int, no4_str, no4_tuple, no4_list, no4_dict⟩ sb9_4 sb4_4⟩, ⟨⟨ga8, gg8, bx8, hd8, ca8, ocg, oct, cm8⟩, kit_no ⟨ic4, tc4, no4_NoneType, no4_bool, no4_int, no4_str, no4_tuple, no4_list, no4_dict⟩ sb8_4 sb4_4⟩, ⟨⟨ga7, gg7, bx7, hd7, ca7, ocg, oct, cm7⟩, kit_no ⟨ic4, tc4, no4_NoneType, no4_bool, no4_int, no4_str, no4_tuple, no4_list, no4_dict⟩ sb7_4 sb4_4⟩, ⟨⟨ga6, gg6, bx6, hd6, ca6, ocg, oct, cm6⟩, kit_no ⟨ic4, tc4, no4_NoneType, no4_bool, no4_int, no4_str, no4_tuple, no4_list, no4_dict⟩ sb6_4 sb4_4⟩, ⟨⟨ga12, gg12, bx12, hd12, ca12, ocg, oct, cm12⟩, kit_no ⟨ic4, tc4, no4_NoneType, no4_bool, no4_int, no4_str, no4_tuple, no4_list, no4_dict⟩ sb12_4 sb4_4⟩, ⟨⟨ga5, gg5, bx5, hd5, ca5, ocg, oct, cm5⟩, kit_no ⟨ic4, tc4, no4_NoneType, no4_bool, no4_int, no4_str, no4_tuple, no4_list, no4_dict⟩ sb5_4 sb4_4⟩, ⟨⟨ga4, gg4, bx4, hd4, ca4, ocg, oct, cm4⟩, isi_self⟩, ⟨⟨ga3, gg3, bx3, hd3, ca3, ocg, oct, cm3⟩, kit_no ⟨ic4, tc4, no4_NoneType, no4_bool, no4_int, no4_str, no4_tuple, no4_list, no4_dict⟩ sb3_4 sb4_4⟩, ⟨⟨ga1, gg1, bx1, hd1, ca1, ocg, oct, cm1⟩, kit_no ⟨ic4, tc4, no4_NoneType, no4_bool, no4_int, no4_str, no4_tuple, no4_list, no4_dict⟩ sb1_4 sb4_4⟩, ⟨ic5, tc5, no5_NoneType, no5_bool, no5_int, no5_str, no5_tuple, no5_list, no5_dict⟩, ⟨⟨ga13, gg13, bx13, hd13, ca13, ocg, oct, cm13⟩, kit_no ⟨ic5, tc5, no5_NoneType, no5_bool, no5_int, no5_str, no5_tuple, no5_list, no5_dict⟩ sb13_5 sb5_5⟩, ⟨⟨ga11, gg11, bx11, hd11, ca11, ocg, oct, cm11⟩, kit_no ⟨ic5, tc5, no5_NoneType, no5_bool, no5_int, no5_str, no5_tuple, no5_list, no5_dict⟩ sb11_5 sb5_5⟩, ⟨⟨ga10, gg10, bx10, hd10, ca10, ocg, oct, cm10⟩, kit_no ⟨ic5, tc5, no5_NoneType, no5_bool, no5_int, no5_str, no5_tuple, no5_list, no5_dict⟩ sb10_5 sb5_5⟩, ⟨⟨ga9, gg9, bx9, hd9, ca9, ocg, oct, cm9⟩, kit_no ⟨ic5, tc5, no5_NoneType, no5_bool, no5_int, no5_str, no5_tuple, no5_list, no5_dict⟩ sb9_5 sb5_5⟩, ⟨⟨ga8, gg8, bx8, hd8, ca8, ocg, oct, cm8⟩, kit_no ⟨ic5, tc5, no5_NoneType, no5_bool, no5_int, no5_str, no5_tuple, no5_list, no5_dict⟩ sb8_5 sb5_5⟩, ⟨⟨ga7, gg7, bx7, hd7, ca7, ocg, oct, cm7⟩, kit_no ⟨ic5, tc5, no5_NoneType, no5_bool, no5_int, no5_str, no5_tuple, no5_list, no5_dict⟩ sb7_5 sb5_5⟩, ⟨⟨ga6, gg6, bx6, hd6, ca6, ocg, oct, cm6⟩, kit_no ⟨ic5, tc5, no5_NoneType, no5_bool, no5_int, no5_str, no5_tuple, no5_list, no5_dict⟩ sb6_5 sb5_5⟩, ⟨⟨ga12, gg12, bx12, hd12, ca12, ocg, oct, cm12⟩, kit_no ⟨ic5, tc5, no5_NoneType, no5_bool, no5_int, no5_str, no5_tuple, no5_list, no5_dict⟩ sb12_5 sb5_5⟩, ⟨⟨ga5, gg5, bx5, hd5, ca5, ocg, oct, cm5⟩, isi_self⟩, ⟨⟨ga4, gg4, bx4, hd4, ca4, ocg, oct, cm4⟩, kit_no ⟨ic5, tc5, no5_NoneType, no5_bool, no5_int, no5_str, no5_tuple, no5_list, no5_dict⟩ sb4_5 sb5_5⟩, ⟨⟨ga3, gg3, bx3, hd3, ca3, ocg, oct, cm3⟩, kit_no ⟨ic5, tc5, no5_NoneType, no5_bool, no5_int, no5_str, no5_tuple, no5_list, no5_dict⟩ sb3_5 sb5_5⟩, ⟨⟨ga1, gg1, bx1, hd1, ca1, ocg, oct, cm1⟩, kit_no ⟨ic5, tc5, no5_NoneType, no5_bool, no5_int, no5_str, no5_tuple, no5_list, no5_dict⟩ sb1_5 sb5_5⟩, ⟨ic6, tc6, no6_NoneType, no6_bool, no6_int, no6_str, no6_tuple, no6_list, no6_dict⟩, ⟨⟨ga13, gg13, bx13, hd13, ca13, ocg, oct, cm13⟩, kit_no ⟨ic6, tc6, no6_NoneType, no6_bool, no6_int, no6_str, no6_tuple, no6_list, no6_dict⟩ sb13_6 sb6_6⟩, ⟨⟨ga11, gg11, bx11, hd11, ca11, ocg, oct, cm11⟩, kit_no ⟨ic6, tc6, no6_NoneType, no6_bool, no6_int, no6_str, no6_tuple, no6_list, no6_dict⟩ sb11_6 sb6_6⟩, ⟨⟨ga10, gg10, bx10, hd10, ca10, ocg, oct, cm10⟩, kit_no ⟨ic6, tc6, no6_NoneType, no6_bool, no6_int, no6_str, no6_tuple, no6_list, no6_dict⟩ sb10_6 sb6_6⟩, ⟨⟨ga9, gg9, bx9, hd9, ca9, ocg, oct, cm9⟩, kit_no ⟨ic6, tc6, no6_NoneType, no6_bool, no6_int, no6_str, no6_tuple, no6_list, no6_dict⟩ sb9_6 sb6_6⟩, ⟨⟨ga8, gg8, bx8, hd8, ca8, ocg, oct, cm8⟩, kit_no ⟨ic6, tc6, no6_NoneType, no6_bool, no6_int, no6_str, no6_tuple, no6_list, no6_dict⟩ sb8_6 sb6_6⟩, ⟨⟨ga7, gg7, bx7, hd7, ca7, ocg, oct, cm7⟩, kit_no ⟨ic6, tc6, no6_NoneType, no6_bool, no6_int, no6_str, no6_tuple, no6_list, no6_dict⟩ sb7_6 sb6_6⟩, ⟨⟨ga6, gg6, bx6, hd6, ca6, ocg, oct, cm6⟩, isi_self⟩, ⟨⟨ga12, gg12, bx12, hd12, ca12, ocg, oct, cm12⟩, kit_no ⟨ic6, tc6, no6_NoneType, no6_bool, no6_int, no6_str, no6_tuple, no6_list, no6_dict⟩ sb12_6 sb6_6⟩, ⟨⟨ga5, gg5, bx5, hd5, ca5, ocg, oct, cm5⟩, kit_no ⟨ic6, tc6, no6_NoneType, no6_bool, no6_int, no6_str, no6_tuple, no6_list, no6_dict⟩ sb5_6 sb6_6⟩, ⟨⟨ga4, gg4, bx4, hd4, ca4, ocg, oct, cm4⟩, kit_no ⟨ic6, tc6, no6_NoneType, no6_bool, no6_int, no6_str, no6_tuple, no6_list, no6_dict⟩ sb4_6 sb6_6⟩, ⟨⟨ga3, gg3, bx3, hd3, ca3, ocg, oct, cm3⟩, kit_no ⟨ic6, tc6, no6_NoneType, no6_bool, no6_int, no6_str, no6_tuple, no6_list, no6_dict⟩ sb3_6 sb6_6⟩, ⟨⟨ga1, gg1, bx1, hd1, ca1, ocg, oct, cm1⟩, kit_no ⟨ic6, tc6, no6_NoneType, no6_bool, no6_int, no6_str, no6_tuple, no6_list, no6_dict⟩ sb1_6 sb6_6⟩, ⟨ic7, tc7, no7_NoneType, no7_bool, no7_int, no7_str, no7_tuple, no7_list, no7_dict⟩, ⟨⟨ga13, gg13, bx13, hd13, ca13, ocg, oct, cm13⟩, kit_no ⟨ic7, tc7, no7_NoneType, no7_bool, no7_int, no7_str, no7_tuple, no7_list, no7_dict⟩ sb13_7 sb7_7⟩, ⟨⟨ga11, gg11, bx11, hd11, ca11, ocg, oct, cm11⟩, kit_no ⟨ic7, tc7, no7_NoneType, no7_bool, no7_int, no7_str, no7_tuple, no7_list, no7_dict⟩ sb11_7 sb7_7⟩, ⟨⟨ga10, gg10, bx10, hd10, ca10, ocg, oct, cm10⟩, kit_no ⟨ic7, tc7, no7_NoneType, no7_bool, no7_int, no7_str, no7_tuple, no7_list, no7_dict⟩ sb10_7 sb7_7⟩, ⟨⟨ga9, gg9, bx9, hd9, ca9, ocg, oct, cm9⟩, kit_no ⟨ic7, tc7, no7_NoneType, no7_bool, no7_int, no7_str, no7_tuple, no7_list, no7_dict⟩ sb9_7 sb7_7⟩, ⟨⟨ga8, gg8, bx8, hd8, ca8, ocg, oct, cm8⟩, kit_no ⟨ic7, tc7, no7_NoneType, no7_bool, no7_int, no7_str, no7_tuple, no7_list, no7_dict⟩ sb8_7 sb7_7⟩, ⟨⟨ga7, gg7, bx7, hd7, ca7, ocg, oct, cm7⟩, isi_self⟩, ⟨⟨ga6, gg6, bx6, hd6, ca6, ocg, oct, cm6⟩, kit_no ⟨ic7, tc7, no7_NoneType, no7_bool, no7_int, no7_str, no7_tuple, no7_list, no7_dict⟩ sb6_7 sb7_7⟩, ⟨⟨ga12, gg12, bx12, hd12, ca12, ocg, oct, cm12⟩, kit_no ⟨ic7, tc7, no7_NoneType, no7_bool, no7_int, no7_str, no7_tuple, no7_list, no7_dict⟩ sb12_7 sb7_7⟩, ⟨⟨ga5, gg5, bx5, hd5, ca5, ocg, oct, cm5⟩, kit_no ⟨ic7, tc7, no7_NoneType, no7_bool, no7_int, no7_str, no7_tuple, no7_list, no7_dict⟩ sb5_7 sb7_7⟩, ⟨⟨ga4, gg4, bx4, hd4, ca4, ocg, oct, cm4⟩, kit_no ⟨ic7, tc7, no7_NoneType, no7_bool, no7_int, no7_str, no7_tuple, no7_list, no7_dict⟩ sb4_7 sb7_7⟩, ⟨⟨ga3, gg3, bx3, hd3, ca3, ocg, oct, cm3⟩, kit_no ⟨ic7, tc7, no7_NoneType, no7_bool, no7_int, no7_str, no7_tuple, no7_list, no7_dict⟩ sb3_7 sb7_7⟩, ⟨⟨ga1, gg1, bx1, hd1, ca1, ocg, oct, cm1⟩, kit_no ⟨ic7, tc7, no7_NoneType, no7_bool, no7_int, no7_str, no7_tuple, no7_list, no7_dict⟩ sb1_7 sb7_7⟩, ⟨ic8, tc8, no8_NoneType, no8_bool, no8_int, no8_str, no8_tuple, no8_list, no8_dict⟩, ⟨⟨ga13, gg13, bx13, hd13, ca13, ocg, oct, cm13⟩, kit_no ⟨ic8, tc8, no8_NoneType, no8_bool, no8_int, no8_str, no8_tuple, no8_list, no8_dict⟩ sb13_8 sb8_8⟩, ⟨⟨ga11, gg11, bx11, hd11, ca11, ocg, oct, cm11⟩, kit_no ⟨ic8, tc8, no8_NoneType, no8_bool, no8_int, no8_str, no8_tuple, no8_list, no8_dict⟩ sb11_8 sb8_8⟩, ⟨⟨ga10, gg10, bx10, hd10, ca10, ocg, oct, cm10⟩, kit_no ⟨ic8, tc8, no8_NoneType, no8_bool, no8_int, no8_str, no8_tuple, no8_list, no8_dict⟩ sb10_8 sb8_8⟩, ⟨⟨ga9, gg9, bx9, hd9, ca9, ocg, oct, cm9⟩, kit_no ⟨ic8, tc8, no8_NoneType, no8_bool, no8_int, no8_str, no8_tuple, no8_list, no8_dict⟩ sb9_8 sb8_8⟩, ⟨⟨ga8, gg8, bx8, hd8, ca8, ocg, oct, cm8⟩, isi_self⟩, ⟨⟨ga7, gg7, bx7, hd7, ca7, ocg, oct, cm7⟩, kit_no ⟨ic8, tc8, no8_NoneType, no8_bool, no8_int, no8_str, no8_tuple, no8_list, no8_dict⟩ sb7_8 sb8_8⟩, ⟨⟨ga6, gg6, bx6, hd6, ca6, ocg, oct, cm6⟩, kit_no ⟨ic8, tc8, no8_NoneType, no8_bool, no8_int, no8_str, no8_tuple, no8_list, no8_dict⟩ sb6_8 sb8_8⟩, ⟨⟨ga12, gg12, bx12, hd12, ca12, ocg, oct, cm12⟩, kit_no ⟨ic8, tc8, no8_NoneType, no8_bool, no8_int, no8_str, no8_tuple, no8_list, no8_dict⟩ sb12_8 sb8_8⟩, ⟨⟨ga5, gg5, bx5, hd5, ca5, ocg, oct, cm5⟩, kit_no ⟨ic8, tc8, no8_NoneType, no8_bool, no8_int, no8_str, no8_tuple, no8_list, no8_dict⟩ sb5_8 sb8_8⟩, ⟨⟨ga4, gg4, bx4, hd4, ca4, ocg, oct, cm4⟩, kit_no ⟨ic8, tc8, no8_NoneType, no8_bool, no8_int, no8_str, no8_tuple, no8_list, no8_dict⟩ sb4_8 sb8_8⟩, ⟨⟨ga3, gg3, bx3, hd3, ca3, ocg, oct, cm3⟩, kit_no ⟨ic8, tc8, no8_NoneType, no8_bool, no8_int, no8_str, no8_tuple, no8_list, no8_dict⟩ sb3_8 sb8_8⟩, ⟨⟨ga1, gg1, bx1, hd1, ca1, ocg, oct, cm1⟩, kit_no ⟨ic8, tc8, no8_NoneType, no8_bool, no8_int, no8_str, no8_tuple, no8_list, no8_dict⟩ sb1_8 sb8_8⟩, ⟨ic9, tc9, no9_NoneType, no9_bool, no9_int, no9_str, no9_tuple, no9_list, no9_dict⟩, ⟨⟨ga13, gg13, bx13, hd13, ca13, ocg, oct, cm13⟩, kit_no ⟨ic9, tc9, no9_NoneType, no9_bool, no9_int, no9_str, no9_tuple, no9_list, no9_dict⟩ sb13_9 sb9_9⟩, ⟨⟨ga11, gg11, bx11, hd11, ca11, ocg, oct, cm11⟩, kit_no ⟨ic9, tc9, no9_NoneType, no9_bool, no9_int, no9_str, no9_tuple, no9_list, no9_dict⟩ sb11_9 sb9_9⟩, ⟨⟨ga10, gg10, bx10, hd10, ca10, ocg, oct, cm10⟩, kit_no ⟨ic9, tc9, no9_NoneType, no9_bool, no9_int, no9_str, no9_tuple, no9_list, no9_dict⟩ sb10_9 sb9_9⟩, ⟨⟨ga9, gg9, bx9, hd9, ca9, ocg, oct, cm9⟩, isi_self⟩, ⟨⟨ga8, gg8, bx8, hd8, ca8, ocg, oct, cm8⟩, kit_no ⟨ic9, tc9, no9_NoneType, no9_bool, no9_int, no9_str, no9_tuple, no9_list, no9_dict⟩ sb8_9 sb9_9⟩, ⟨⟨ga7, gg7, bx7, hd7, ca7, ocg, oct, cm7⟩, kit_no ⟨ic9, tc9, no9_NoneType, no9_bool, no9_int, no9_str, no9_tuple, no9_list, no9_dict⟩ sb7_9 sb9_9⟩, ⟨⟨ga6, gg6, bx6, hd6, ca6, ocg, oct, cm6⟩, kit_no ⟨ic9, tc9, no9_NoneType, no9_bool, no9_int, no9_str, no9_tuple, no9_list, no9_dict⟩ sb6_9 sb9_9⟩, ⟨⟨ga12, gg12, bx12, hd12, ca12, ocg, oct, cm12⟩, kit_no ⟨ic9, tc9, no9_NoneType, no9_bool, no9_int, no9_str, no9_tuple, no9_list, no9_dict⟩ sb12_9 sb9_9⟩, ⟨⟨ga5, gg5, bx5, hd5, ca5, ocg, oct, cm5⟩, kit_no ⟨ic9, tc9, no9_NoneType, no9_bool, no9_int, no9_str, no9_tuple, no9_list, no9_dict⟩ sb5_9 sb9_9⟩, ⟨⟨ga4, gg4, bx4, hd4, ca4, ocg, oct, cm4⟩, kit_no ⟨ic9, tc9, no9_NoneType, no9_bool, no9_int, no9_str, no9_tuple, no9_list, no9_dict⟩ sb4_9 sb9_9⟩, ⟨⟨ga3, gg3, bx3, hd3, ca3, ocg, oct, cm3⟩, kit_no ⟨ic9, tc9, no9_NoneType, no9_bool, no9_int, no9_str, no9_tuple, no9_list, no9_dict⟩ sb3_9 sb9_9⟩, ⟨⟨ga1, gg1, bx1, hd1, ca1, ocg, oct, cm1⟩, kit_no ⟨ic9, tc9, no9_NoneType, no9_bool, no9_int, no9_str, no9_tuple, no9_list, no9_dict⟩ sb1_9 sb9_9⟩, ⟨ic10, tc10, no10_NoneType, no10_bool, no10_int, no10_str, no10_tuple, no10_list, no10_dict⟩, ⟨⟨ga13, gg13, bx13, hd13, ca13, ocg, oct, cm13⟩, kit_no ⟨ic10, tc10, no10_NoneType, no10_bool, no10_int, no10_str, no10_tuple, no10_list, no10_dict⟩ sb13_10 sb10_10⟩, ⟨⟨ga11, gg11, bx11, hd11, ca11, ocg, oct, cm11⟩, kit_no ⟨ic10, tc10, no10_NoneType, no10_bool, no10_int, no10_str, no10_tuple, no10_list, no10_dict⟩ sb11_10 sb10_10⟩, ⟨⟨ga10, gg10, bx10, hd10, ca10, ocg, oct, cm10⟩, isi_self⟩, ⟨⟨ga9, gg9, bx9, hd9, ca9, ocg, oct, cm9⟩, kit_no ⟨ic10, tc10, no10_NoneType, no10_bool, no10_int, no10_str, no10_tuple, no10_list, no10_dict⟩ sb9_10 sb10_10⟩, ⟨⟨ga8, gg8, bx8, hd8, ca8, ocg, oct, cm8⟩, kit_no ⟨ic10, tc10, no10_NoneType, no10_bool, no10_int, no10_str, no10_tuple, no10_list, no10_dict⟩ sb8_10 sb10_10⟩, ⟨⟨ga7, gg7, bx7, hd7, ca7, ocg, oct, cm7⟩, kit_no ⟨ic10, tc10, no10_NoneType, no10_bool, no10_int, no10_str, no10_tuple, no10_list, no10_dict⟩ sb7_10 sb10_10⟩, ⟨⟨ga6, gg6, bx6, hd6, ca6, ocg, oct, cm6⟩, kit_no ⟨ic10, tc10, no10_NoneType, no10_bool, no10_int, no10_str, no10_tuple, no10_list, no10_dict⟩ sb6_10 sb10_10⟩, ⟨⟨ga12, gg12, bx12, hd12, ca12, ocg, oct, cm12⟩, kit_no ⟨ic10, tc10, no10_NoneType, no10_bool, no10_int, no10_str, no10_tuple, no10_list, no10_dict⟩ sb12_10 sb10_10⟩, ⟨⟨ga5, gg5, bx5, hd5, ca5, ocg, oct, cm5⟩, kit_no ⟨ic10, tc10, no10_NoneType, no10_bool, no10_int, no10_str, no10_tuple, no10_list, no10_dict⟩ sb5_10 sb10_10⟩, ⟨⟨ga4, gg4, bx4, hd4, ca4, ocg, oct, cm4⟩, kit_no ⟨ic10, tc10, no10_NoneType, no10_bool, no10_int, no10_str, no10_tuple, no10_list, no10_dict⟩ sb4_10 sb10_10⟩, ⟨⟨ga3, gg3, bx3, hd3, ca3, ocg, oct, cm3⟩, kit_no ⟨ic10, tc10, no10_NoneType, no10_bool, no10_int, no10_str, no10_tuple, no10_list, no10_dict⟩ sb3_10 sb10_10⟩, ⟨⟨ga1, gg1, bx1, hd1, ca1, ocg, oct, cm1⟩, kit_no ⟨ic10, tc10, no10_NoneType, no10_bool, no10_int, no10_str, no10_tuple, no10_list, no10_dict⟩ sb1_10 sb10_10⟩, ⟨ic11, tc11, no11_NoneType, no11_bool, no11_int, no11_str, no11_tuple, no11_list, no11_dict⟩, ⟨⟨ga13, gg13, bx13, hd13, ca13, ocg, oct, cm13⟩, kit_no ⟨ic11, tc11, no11_NoneType, no11_bool, no11_int, no11_str, no11_tuple, no11_list, no11_dict⟩ sb13_11 sb11_11⟩, ⟨⟨ga11, gg11, bx11, hd11, ca11, ocg, oct, cm11⟩, isi_self⟩, ⟨⟨ga10, gg10, bx10, hd10, ca10, ocg, oct, cm10⟩, kit_no ⟨ic11, tc11, no11_NoneType, no11_bool, no11_int, no11_str, no11_tuple, no11_list, no11_dict⟩ sb10_11 sb11_11⟩, ⟨⟨ga9, gg9, bx9, hd9, ca9, ocg, oct, cm9⟩, kit_no ⟨ic11, tc11, no11_NoneType, no11_bool, no11_int, no11_str, no11_tuple, no11_list, no11_dict⟩ sb9_11 sb11_11⟩, ⟨⟨ga8, gg8, bx8, hd8, ca8, ocg, oct, cm8⟩, kit_no ⟨ic11, tc11, no11_NoneType, no11_bool, no11_int, no11_str, no11_tuple, no11_list, no11_dict⟩ sb8_11 sb11_11⟩, ⟨⟨ga7, gg7, bx7, hd7, ca7, ocg, oct, cm7⟩, kit_no ⟨ic11, tc11, no11_NoneType, no11_bool, no11_int, no11_str, no11_tuple, no11_list, no11_dict⟩ sb7_11 sb11_11⟩, ⟨⟨ga6, gg6, bx6, hd6, ca6, ocg, oct, cm6⟩, kit_no ⟨ic11, tc11, no11_NoneType, no11_bool, no11_int, no11_str, no11_tuple, no11_list, no11_dict⟩ sb6_11 sb11_11⟩, ⟨⟨ga12, gg12, bx12, hd12, ca12, ocg, oct, cm12⟩, kit_no ⟨ic11, tc11, no11_NoneType, no11_bool, no11_int, no11_str, no11_tuple, no11_list, no11_dict⟩ sb12_11 sb11_11⟩, ⟨⟨ga5, gg5, bx5, hd5, ca5, ocg, oct, cm5⟩, kit_no ⟨ic11, tc11, no11_NoneType, no11_bool, no11_int, no11_str, no11_tuple, no11_list, no11_dict⟩ sb5_11 sb11_11⟩, ⟨⟨ga4, gg4, bx4, hd4, ca4, ocg, oct, cm4⟩, kit_no ⟨ic11, tc11, no11_NoneType, no11_bool, no11_int, no11_str, no11_tuple, no11_list, no11_dict⟩ sb4_11 sb11_11⟩, ⟨⟨ga3, gg3, bx3, hd3, ca3, ocg, oct, cm3⟩, kit_no ⟨ic11, tc11, no11_NoneType, no11_bool, no11_int, no11_str, no11_tuple, no11_list, no11_dict⟩ sb3_11 sb11_11⟩, ⟨⟨ga1, gg1, bx1, hd1, ca1, ocg, oct, cm1⟩, kit_no ⟨ic11, tc11, no11_NoneType, no11_bool, no11_int, no11_str, no11_tuple, no11_list, no11_dict⟩ sb1_11 sb11_11⟩, ⟨ic12, tc12, no12_NoneType, no12_bool, no12_int, no12_str, no12_tuple, no12_list, no12_dict⟩, ⟨⟨ga13, gg13, bx13, hd13, ca13, ocg, oct, cm13⟩, kit_no ⟨ic12, tc12, no12_NoneType, no12_bool, no12_int, no12_str, no12_tuple, no12_list, no12_dict⟩ sb13_12 sb12_12⟩, ⟨⟨ga11, gg11, bx11, hd11, ca11, ocg, oct, cm11⟩, kit_no ⟨ic12, tc12, no12_NoneType, no12_bool, no12_int, no12_str, no12_tuple, no12_list, no12_dict⟩ sb11_12 sb12_12⟩, ⟨⟨ga10, gg10, bx10, hd10, ca10, ocg, oct, cm10⟩, kit_no ⟨ic12, tc12, no12_NoneType, no12_bool, no12_int, no12_str, no12_tuple, no12_list, no12_dict⟩ sb10_12 sb12_12⟩, ⟨⟨ga9, gg9, bx9, hd9, ca9, ocg, oct, cm9⟩, kit_no ⟨ic12, tc12, no12_NoneType, no12_bool, no12_int, no12_str, no12_tuple, no12_list, no12_dict⟩ sb9_12 sb12_12⟩, ⟨⟨ga8, gg8, bx8, hd8, ca8, ocg, oct, cm8⟩, kit_no ⟨ic12, tc12, no12_NoneType, no12_bool, no12_int, no12_str, no12_tuple, no12_list, no12_dict⟩ sb8_12 sb12_12⟩, ⟨⟨ga7, gg7, bx7, hd7, ca7, ocg, oct, cm7⟩, kit_no ⟨ic12, tc12, no12_NoneType, no12_bool, no12_int, no12_str, no12_tuple, no12_list, no12_dict⟩ sb7_12 sb12_12⟩, ⟨⟨ga6, gg6, bx6, hd6, ca6, ocg, oct, cm6⟩, kit_no ⟨ic12, tc12, no12_NoneType, no12_bool, no12_int, no12_str, no12_tuple, no12_list, no12_dict⟩ sb6_12 sb12_12⟩, ⟨⟨ga12, gg12, bx12, hd12, ca12, ocg, oct, cm12⟩, isi_self⟩, ⟨⟨ga5, gg5, bx5, hd5, ca5, ocg, oct, cm5⟩, kit_no ⟨ic12, tc12, no12_NoneType, no12_bool, no12_int, no12_str, no12_tuple, no12_list, no12_dict⟩ sb5_12 sb12_12⟩, ⟨⟨ga4, gg4, bx4, hd4, ca4, ocg, oct, cm4⟩, kit_no ⟨ic12, tc12, no12_NoneType, no12_bool, no12_int, no12_str, no12_tuple, no12_list, no12_dict⟩ sb4_12 sb12_12⟩, ⟨⟨ga3, gg3, bx3, hd3, ca3, ocg, oct, cm3⟩, kit_no ⟨ic12, tc12, no12_NoneType, no12_bool, no12_int, no12_str, no12_tuple, no12_list, no12_dict⟩ sb3_12 sb12_12⟩, ⟨⟨ga1, gg1, bx1, hd1, ca1, ocg, oct, cm1⟩, kit_no ⟨ic12, tc12, no12_NoneType, no12_bool, no12_int, no12_str, no12_tuple, no12_list, no12_dict⟩ sb1_12 sb12_12⟩, ⟨ic13, tc13, no13_NoneType, no13_bool, no13_int, no13_str, no13_tuple, no13_list, no13_dict⟩, ⟨⟨ga13, gg13, bx13, hd13, ca13, ocg, oct, cm13⟩, isi_self⟩, ⟨⟨ga11, gg11, bx11, hd11, ca11, ocg, oct, cm11⟩, kit_no ⟨ic13, tc13, no13_NoneType, no13_bool, no13_int, no13_str, no13_tuple, no13_list, no13_dict⟩ sb11_13 sb13_13⟩, ⟨⟨ga10, gg10, bx10, hd10, ca10, ocg, oct, cm10⟩, kit_no ⟨ic13, tc13, no13_NoneType, no13_bool, no13_int, no13_str, no13_tuple, no13_list, no13_dict⟩ sb10_13 sb13_13⟩, ⟨⟨ga9, gg9, bx9, hd9, ca9, ocg, oct, cm9⟩, kit_no ⟨ic13, tc13, no13_NoneType, no13_bool, no13_int, no13_str, no13_tuple, no13_list, no13_dict⟩ sb9_13 sb13_13⟩, ⟨⟨ga8, gg8, bx8, hd8, ca8, ocg, oct, cm8⟩, kit_no ⟨ic13, tc13, no13_NoneType, no13_bool, no13_int, no13_str, no13_tuple, no13_list, no13_dict⟩ sb8_13 sb13_13⟩, ⟨⟨ga7, gg7, bx7, hd7, ca7, ocg, oct, cm7⟩, kit_no ⟨ic13, tc13, no13_NoneType, no13_bool, no13_int, no13_str, no13_tuple, no13_list, no13_dict⟩ sb7_13 sb13_13⟩, ⟨⟨ga6, gg6, bx6, hd6, ca6, ocg, oct, cm6⟩, kit_no ⟨ic13, tc13, no13_NoneType, no13_bool, no13_int, no13_str, no13_tuple, no13_list, no13_dict⟩ sb6_13 sb13_13⟩, ⟨⟨ga12, gg12, bx12, hd12, ca12, ocg, oct, cm12⟩, kit_no ⟨ic13, tc13, no13_NoneType, no13_bool, no13_int, no13_str, no13_tuple, no13_list, no13_dict⟩ sb12_13 sb13_13⟩, ⟨⟨ga5, gg5, bx5, hd5, ca5, ocg, oct, cm5⟩, kit_no ⟨ic13, tc13, no13_NoneType, no13_bool, no13_int, no13_str, no13_tuple, no13_list, no13_dict⟩ sb5_13 sb13_13⟩, ⟨⟨ga4, gg4, bx4, hd4, ca4, ocg, oct, cm4⟩, kit_no ⟨ic13, tc13, no13_NoneType, no13_bool, no13_int, no13_str, no13_tuple, no13_list, no13_dict⟩ sb4_13 sb13_13⟩, ⟨⟨ga3, gg3, bx3, hd3, ca3, ocg, oct, cm3⟩, kit_no ⟨ic13, tc13, no13_NoneType, no13_bool, no13_int, no13_str, no13_tuple, no13_list, no13_dict⟩ sb3_13 sb13_13⟩, ⟨⟨ga1, gg1, bx1, hd1, ca1, ocg, oct, cm1⟩, kit_no ⟨ic13, tc13, no13_NoneType, no13_bool, no13_int, no13_str, no13_tuple, no13_list, no13_dict⟩ sb1_13 sb13_13⟩⟩
  refine ⟨PySem.W.fnOf "law" "law" (defArgs st_law) (defBody st_law) (defScope st_law) .none kV9 dc9 pm9 an9 cd9 ct9, fun s v => .of_eq rfl, fun base _ _ hbs => ?_⟩
  have F1 := fun_mk (st := st__law_purse) l1 d1 k1
  have b1 := F1.binds (ps := ["_law_script", "_law_start"]) fun _ _ _ _ _ _ us hl => match us, hl with | [_, _], _ => rfl
  have d1_ := ok__law_purse (P := l.prog) (w := w) (base := base) F1 T hbs 
  have F2 := fun_mk (st := st__law_draw) l2 d2 k2
  have b2 := F2.binds (ps := ["_law_purse_here", "_law_size"]) fun _ _ _ _ _ _ us hl => match us, hl with | [_, _], _ => rfl
  have d2_ := ok__law_draw (P := l.prog) (w := w) (base := base) F2 T hbs 
  have c__law_draw : Cle l.prog w K mg base 1 "_law_draw" sp__law_draw := ⟨_, _, _, d2_, PySem.W.mg_of KX G a2, k2, b2⟩
  have F3 := fun_mk (st := st__law_choose) l3 d3 k3
  have b3 := F3.binds (ps := ["_law_purse_here", "_law_things"]) fun _ _ _ _ _ _ us hl => match us, hl with | [_, _], _ => rfl
  have d3_ := ok__law_choose (P := l.prog) (w := w) (base := base) F3 T hbs c__law_draw
  have c__law_choose : Cle l.prog w K mg base 2 "_law_choose" sp__law_choose := ⟨_, _, _, d3_, PySem.W.mg_of KX G a3, k3, b3⟩
  have F4 := fun_mk (st := st__law_values) l4 d4 k4
  have b4 := F4.binds (ps := ["_law_purse_here", "_law_turn"]) fun _ _ _ _ _ _ us hl => match us, hl with | [_, _], _ => rfl
  have d4_ := ok__law_values (P := l.prog) (w := w) (base := base) F4 T hbs c__law_choose c__law_draw
  have F10 := fun_mk (st := (inClass (top 2) 0)) l10 d10 k10
  have b10 := F10.binds (ps := ["self", "value"]) fun _ _ _ _ _ _ us hl => match us, hl with | [_, _], _ => rfl
  have X10 : XcT K q1 f10 "value" := ⟨⟨⟨_, _, _, _, _, _, _, _, _, _, _, _, _, _, _, xl1, xb1⟩, sa1, bx1, tc1, kc1⟩, ⟨ga1, gg1, bx1, hd1⟩, nf1_value, a10, t10⟩
  have B10 : BaseT K q2 (.type "type") := ⟨br2, bg2, bi2⟩
  have x_BadName : QRa l.prog w K mg base 1 "BadName" Cad.c_BadName "value" := ⟨_, _, _, X10, xc_ok (P := l.prog) (w := w) (mg := mg) (base := base) (x := "value") (u := .str "invalid name") F10 ⟨rfl, rfl, rfl, by decide +kernel, rfl, by decide +kernel, by decide +kernel⟩ X10 (fun cdv A outer s H E => pss_cons (ps_expr (pe_ceinit (by rfl) (PySem.W.mg_of KX G gC2) (by decide) B10 (pa_cons (pv 0) (pa_cons pe_str pa_nil)) rfl rfl rfl) rfl) (pss_one (ps_ost (pv 0) (pv 1) rfl))), b10, T.g_BadName⟩
  have ex_BadName : QNm l.prog w K mg base 2 "BadName" [] (spExP Cad.c_BadName "value" 1 0) := ⟨_, dcal_ex (n := 1) (ks := []) X10.oex X10.ini X10.tI (xc_ok (P := l.prog) (w := w) (mg := mg) (base := base) (x := "value") (u := .str "invalid name") F10 ⟨rfl, rfl, rfl, by decide +kernel, rfl, by decide +kernel, by decide +kernel⟩ X10 (fun cdv A outer s H E => pss_cons (ps_expr (pe_ceinit (by rfl) (PySem.W.mg_of KX G gC2) (by decide) B10 (pa_cons (pv 0) (pa_cons pe_str pa_nil)) rfl rfl rfl) rfl) (pss_one (ps_ost (pv 0) (pv 1) rfl)))) (fun s us ws _ h1 h2 => match us, ws, h1, h2 with | [_, _], [], _, _ => .of_eq rfl) rfl, T.g_BadName, X10.oex.kC⟩
  have F11 := fun_mk (st := (inClass (top 3) 0)) l11 d11 k11
  have b11 := F11.binds (ps := ["self", "value"]) fun _ _ _ _ _ _ us hl => match us, hl with | [_, _], _ => rfl
  have X11 : XcT K q3 f11 "value" := ⟨⟨⟨_, _, _, _, _, _, _, _, _, _, _, _, _, _, _, xl3, xb3⟩, sa3, bx3, tc3, kc3⟩, ⟨ga3, gg3, bx3, hd3⟩, nf3_value, a11, t11⟩
  have B11 : BaseT K q2 (.type "type") := ⟨br2, bg2, bi2⟩
  have x_BadCode : QRa l.prog w K mg base 1 "BadCode" Cad.c_BadCode "value" := ⟨_, _, _, X11, xc_ok (P := l.prog) (w := w) (mg := mg) (base := base) (x := "value") (u := .str "invalid code") F11 ⟨rfl, rfl, rfl, by decide +kernel, rfl, by decide +kernel, by decide +kernel⟩ X11 (fun cdv A outer s H E => pss_cons (ps_expr (pe_ceinit (by rfl) (PySem.W.mg_of KX G gC2) (by decide) B11 (pa_cons (pv 0) (pa_cons pe_str pa_nil)) rfl rfl rfl) rfl) (pss_one (ps_ost (pv 0) (pv 1) rfl))), b11, T.g_BadCode⟩
  have ex_BadCode : QNm l.prog w K mg base 2 "BadCode" [] (spExP Cad.c_BadCode "value" 1 0) := ⟨_, dcal_ex (n := 1) (ks := []) X11.oex X11.ini X11.tI (xc_ok (P := l.prog) (w := w) (mg := mg) (base := base) (x := "value") (u := .str "invalid code") F11 ⟨rfl, rfl, rfl, by decide +kernel, rfl, by decide +kernel, by decide +kernel⟩ X11 (fun cdv A outer s H E => pss_cons (ps_expr (pe_ceinit (by rfl) (PySem.W.mg_of KX G gC2) (by decide) B11 (pa_cons (pv 0) (pa_cons pe_str pa_nil)) rfl rfl rfl) rfl) (pss_one (ps_ost (pv 0) (pv 1) rfl)))) (fun s us ws _ h1 h2 => match us, ws, h1, h2 with | [_, _], [], _, _ => .of_eq rfl) rfl, T.g_BadCode, X11.oex.kC⟩
  have F12 := fun_mk (st := (inClass (top 4) 0)) l12 d12 k12
  have b12 := F12.binds (ps := ["self", "value"]) fun _ _ _ _ _ _ us hl => match us, hl with | [_, _], _ => rfl
  have X12 : XcT K q4 f12 "value" := ⟨⟨⟨_, _, _, _, _, _, _, _, _, _, _, _, _, _, _, xl4, xb4⟩, sa4, bx4, tc4, kc4⟩, ⟨ga4, gg4, bx4, hd4⟩, nf4_value, a12, t12⟩
  have B12 : BaseT K q2 (.type "type") := ⟨br2, bg2, bi2⟩
  have x_BadLength : QRa l.prog w K mg base 1 "BadLength" Cad.c_BadLength "value" := ⟨_, _, _, X12, xc_ok (P := l.prog) (w := w) (mg := mg) (base := base) (x := "value") (u := .str "invalid length") F12 ⟨rfl, rfl, rfl, by decide +kernel, rfl, by decide +kernel, by decide +kernel⟩ X12 (fun cdv A outer s H E => pss_cons (ps_expr (pe_ceinit (by rfl) (PySem.W.mg_of KX G gC2) (by decide) B12 (pa_cons (pv 0) (pa_cons pe_str pa_nil)) rfl rfl rfl) rfl) (pss_one (ps_ost (pv 0) (pv 1) rfl))), b12, T.g_BadLength⟩
  have ex_BadLength : QNm l.prog w K mg base 2 "BadLength" [] (spExP Cad.c_BadLength "value" 1 0) := ⟨_, dcal_ex (n := 1) (ks := []) X12.oex X12.ini X12.tI (xc_ok (P := l.prog) (w := w) (mg := mg) (base := base) (x := "value") (u := .str "invalid length") F12 ⟨rfl, rfl, rfl, by decide +kernel, rfl, by decide +kernel, by decide +kernel⟩ X12 (fun cdv A outer s H E => pss_cons (ps_expr (pe_ceinit (by rfl) (PySem.W.mg_of KX G gC2) (by decide) B12 (pa_cons (pv 0) (pa_cons pe_str pa_nil)) rfl rfl rfl) rfl) (pss_one (ps_ost (pv 0) (pv 1) rfl)))) (fun s us ws _ h1 h2 => match us, ws, h1, h2 with | [_, _], [], _, _ => .of_eq rfl) rfl, T.g_BadLength, X12.oex.kC⟩
  have F13 := fun_mk (st := (inClass (top 5) 0)) l13 d13 k13
  have b13 := F13.binds (ps := ["self", "value"]) fun _ _ _ _ _ _ us hl => match us, hl with | [_, _], _ => rfl
  have X13 : XcT K q5 f13 "value" := ⟨⟨⟨_, _, _, _, _, _, _, _, _, _, _, _, _, _, _, xl5, xb5⟩, sa5, bx5, tc5, kc5⟩, ⟨ga5, gg5, bx5, hd5⟩, nf5_value, a13, t13⟩
  have B13 : BaseT K q2 (.type "type") := ⟨br2, bg2, bi2⟩
  have x_BadCost : QRa l.prog w K mg base 1 "BadCost" Cad.c_BadCost "value" := ⟨_, _, _, X13, xc_ok (P := l.prog) (w := w) (mg := mg) (base := base) (x := "value") (u := .str "invalid cost") F13 ⟨rfl, rfl, rfl, by decide +kernel, rfl, by decide +kernel, by decide +kernel⟩ X13 (fun cdv A outer s H E => pss_cons (ps_expr (pe_ceinit (by rfl) (PySem.W.mg_of KX G gC2) (by decide) B13 (pa_cons (pv 0) (pa_cons pe_str pa_nil)) rfl rfl rfl) rfl) (pss_one (ps_ost (pv 0) (pv 1) rfl))), b13, T.g_BadCost⟩
  have ex_BadCost : QNm l.prog w K mg base 2 "BadCost" [] (spExP Cad.c_BadCost "value" 1 0) := ⟨_, dcal_ex (n := 1) (ks := []) X13.oex X13.ini X13.tI (xc_ok (P := l.prog) (w := w) (mg := mg) (base := base) (x := "value") (u := .str "invalid cost") F13 ⟨rfl, rfl, rfl, by decide +kernel, rfl, by decide +kernel, by decide +kernel⟩ X13 (fun cdv A outer s H E => pss_cons (ps_expr (pe_ceinit (by rfl) (PySem.W.mg_of KX G gC2) (by decide) B13 (pa_cons (pv 0) (pa_cons pe_str pa_nil)) rfl rfl rfl) rfl) (pss_one (ps_ost (pv 0) (pv 1) rfl)))) (fun s us ws _ h1 h2 => match us, ws, h1, h2 with | [_, _], [], _, _ => .of_eq rfl) rfl, T.g_BadCost, X13.oex.kC⟩
  have F14 := fun_mk (st := (inClass (top 7) 0)) l14 d14 k14
  have b14 := F14.binds (ps := ["self", "value"]) fun _ _ _ _ _ _ us hl => match us, hl with | [_, _], _ => rfl
  have X14 : XcT K q6 f14 "value" := ⟨⟨⟨_, _, _, _, _, _, _, _, _, _, _, _, _, _, _, xl6, xb6⟩, sa6, bx6, tc6, kc6⟩, ⟨ga6, gg6, bx6, hd6⟩, nf6_value, a14, t14⟩
  have B14 : BaseT K q2 (.type "type") := ⟨br2, bg2, bi2⟩
  have x_BadText : QRa l.prog w K mg base 1 "BadText" Cad.c_BadText "value" := ⟨_, _, _, X14, xc_ok (P := l.prog) (w := w) (mg := mg) (base := base) (x := "value") (u := .str "invalid text") F14 ⟨rfl, rfl, rfl, by decide +kernel, rfl, by decide +kernel, by decide +kernel⟩ X14 (fun cdv A outer s H E => pss_cons (ps_expr (pe_ceinit (by rfl) (PySem.W.mg_of KX G gC2) (by decide) B14 (pa_cons (pv 0) (pa_cons pe_str pa_nil)) rfl rfl rfl) rfl) (pss_one (ps_ost (pv 0) (pv 1) rfl))), b14, T.g_BadText⟩
  have ex_BadText : QNm l.prog w K mg base 2 "BadText" [] (spExP Cad.c_BadText "value" 1 0) := ⟨_, dcal_ex (n := 1) (ks := []) X14.oex X14.ini X14.tI (xc_ok (P := l.prog) (w := w) (mg := mg) (base := base) (x := "value") (u := .str "invalid text") F14 ⟨rfl, rfl, rfl, by decide +kernel, rfl, by decide +kernel, by decide +kernel⟩ X14 (fun cdv A outer s H E => pss_cons (ps_expr (pe_ceinit (by rfl) (PySem.W.mg_of KX G gC2) (by decide) B14 (pa_cons (pv 0) (pa_cons pe_str pa_nil)) rfl rfl rfl) rfl) (pss_one (ps_ost (pv 0) (pv 1) rfl)))) (fun s us ws _ h1 h2 => match us, ws, h1, h2 with | [_, _], [], _, _ => .of_eq rfl) rfl, T.g_BadText, X14.oex.kC⟩
  have F15 := fun_mk (st := (inClass (top 8) 0)) l15 d15 k15
  have b15 := F15.binds (ps := ["self", "command"]) fun _ _ _ _ _ _ us hl => match us, hl with | [_, _], _ => rfl
  have X15 : XcT K q7 f15 "command" := ⟨⟨⟨_, _, _, _, _, _, _, _, _, _, _, _, _, _, _, xl7, xb7⟩, sa7, bx7, tc7, kc7⟩, ⟨ga7, gg7, bx7, hd7⟩, nf7_command, a15, t15⟩
  have B15 : BaseT K q2 (.type "type") := ⟨br2, bg2, bi2⟩
  have x_BadCommand : QRa l.prog w K mg base 1 "BadCommand" Cad.c_BadCommand "command" := ⟨_, _, _, X15, xc_ok (P := l.prog) (w := w) (mg := mg) (base := base) (x := "command") (u := .str "invalid command") F15 ⟨rfl, rfl, rfl, by decide +kernel, rfl, by decide +kernel, by decide +kernel⟩ X15 (fun cdv A outer s H E => pss_cons (ps_expr (pe_ceinit (by rfl) (PySem.W.mg_of KX G gC2) (by decide) B15 (pa_cons (pv 0) (pa_cons pe_str pa_nil)) rfl rfl rfl) rfl) (pss_one (ps_ost (pv 0) (pv 1) rfl))), b15, T.g_BadCommand⟩
  have ex_BadCommand : QNm l.prog w K mg base 2 "BadCommand" [] (spExP Cad.c_BadCommand "command" 1 0) := ⟨_, dcal_ex (n := 1) (ks := []) X15.oex X15.ini X15.tI (xc_ok (P := l.prog) (w := w) (mg := mg) (base := base) (x := "command") (u := .str "invalid command") F15 ⟨rfl, rfl, rfl, by decide +kernel, rfl, by decide +kernel, by decide +kernel⟩ X15 (fun cdv A outer s H E => pss_cons (ps_expr (pe_ceinit (by rfl) (PySem.W.mg_of KX G gC2) (by decide) B15 (pa_cons (pv 0) (pa_cons pe_str pa_nil)) rfl rfl rfl) rfl) (pss_one (ps_ost (pv 0) (pv 1) rfl)))) (fun s us ws _ h1 h2 => match us, ws, h1, h2 with | [_, _], [], _, _ => .of_eq rfl) rfl, T.g_BadCommand, X15.oex.kC⟩
  have F16 := fun_mk (st := (inClass (top 9) 0)) l16 d16 k16
  have b16 := F16.binds (ps := ["self", "name"]) fun _ _ _ _ _ _ us hl => match us, hl with | [_, _], _ => rfl
  have X16 : XcT K q8 f16 "name" := ⟨⟨⟨_, _, _, _, _, _, _, _, _, _, _, _, _, _, _, xl8, xb8⟩, sa8, bx8, tc8, kc8⟩, ⟨ga8, gg8, bx8, hd8⟩, nf8_name, a16, t16⟩
  have B16 : BaseT K q2 (.type "type") := ⟨br2, bg2, bi2⟩
  have x_UnknownName : QRa l.prog w K mg base 1 "UnknownName" Cad.c_UnknownName "name" := ⟨_, _, _, X16, xc_ok (P := l.prog) (w := w) (mg := mg) (base := base) (x := "name") (u := .str "unknown name") F16 ⟨rfl, rfl, rfl, by decide +kernel, rfl, by decide +kernel, by decide +kernel⟩ X16 (fun cdv A outer s H E => pss_cons (ps_expr (pe_ceinit (by rfl) (PySem.W.mg_of KX G gC2) (by decide) B16 (pa_cons (pv 0) (pa_cons pe_str pa_nil)) rfl rfl rfl) rfl) (pss_one (ps_ost (pv 0) (pv 1) rfl))), b16, T.g_UnknownName⟩
  have ex_UnknownName : QNm l.prog w K mg base 2 "UnknownName" [] (spExP Cad.c_UnknownName "name" 1 0) := ⟨_, dcal_ex (n := 1) (ks := []) X16.oex X16.ini X16.tI (xc_ok (P := l.prog) (w := w) (mg := mg) (base := base) (x := "name") (u := .str "unknown name") F16 ⟨rfl, rfl, rfl, by decide +kernel, rfl, by decide +kernel, by decide +kernel⟩ X16 (fun cdv A outer s H E => pss_cons (ps_expr (pe_ceinit (by rfl) (PySem.W.mg_of KX G gC2) (by decide) B16 (pa_cons (pv 0) (pa_cons pe_str pa_nil)) rfl rfl rfl) rfl) (pss_one (ps_ost (pv 0) (pv 1) rfl)))) (fun s us ws _ h1 h2 => match us, ws, h1, h2 with | [_, _], [], _, _ => .of_eq rfl) rfl, T.g_UnknownName, X16.oex.kC⟩
  have F17 := fun_mk (st := (inClass (top 10) 0)) l17 d17 k17
  have b17 := F17.binds (ps := ["self", "name"]) fun _ _ _ _ _ _ us hl => match us, hl with | [_, _], _ => rfl
  have X17 : XcT K q9 f17 "name" := ⟨⟨⟨_, _, _, _, _, _, _, _, _, _, _, _, _, _, _, xl9, xb9⟩, sa9, bx9, tc9, kc9⟩, ⟨ga9, gg9, bx9, hd9⟩, nf9_name, a17, t17⟩
  have B17 : BaseT K q2 (.type "type") := ⟨br2, bg2, bi2⟩
  have x_NameTaken : QRa l.prog w K mg base 1 "NameTaken" Cad.c_NameTaken "name" := ⟨_, _, _, X17, xc_ok (P := l.prog) (w := w) (mg := mg) (base := base) (x := "name") (u := .str "name is taken") F17 ⟨rfl, rfl, rfl, by decide +kernel, rfl, by decide +kernel, by decide +kernel⟩ X17 (fun cdv A outer s H E => pss_cons (ps_expr (pe_ceinit (by rfl) (PySem.W.mg_of KX G gC2) (by decide) B17 (pa_cons (pv 0) (pa_cons pe_str pa_nil)) rfl rfl rfl) rfl) (pss_one (ps_ost (pv 0) (pv 1) rfl))), b17, T.g_NameTaken⟩
  have ex_NameTaken : QNm l.prog w K mg base 2 "NameTaken" [] (spExP Cad.c_NameTaken "name" 1 0) := ⟨_, dcal_ex (n := 1) (ks := []) X17.oex X17.ini X17.tI (xc_ok (P := l.prog) (w := w) (mg := mg) (base := base) (x := "name") (u := .str "name is taken") F17 ⟨rfl, rfl, rfl, by decide +kernel, rfl, by decide +kernel, by decide +kernel⟩ X17 (fun cdv A outer s H E => pss_cons (ps_expr (pe_ceinit (by rfl) (PySem.W.mg_of KX G gC2) (by decide) B17 (pa_cons (pv 0) (pa_cons pe_str pa_nil)) rfl rfl rfl) rfl) (pss_one (ps_ost (pv 0) (pv 1) rfl)))) (fun s us ws _ h1 h2 => match us, ws, h1, h2 with | [_, _], [], _, _ => .of_eq rfl) rfl, T.g_NameTaken, X17.oex.kC⟩
  have F18 := fun_mk (st := (inClass (top 11) 0)) l18 d18 k18
  have b18 := F18.binds (ps := ["self", "crowd"]) fun _ _ _ _ _ _ us hl => match us, hl with | [_, _], _ => rfl
  have X18 : XcT K q10 f18 "crowd" := ⟨⟨⟨_, _, _, _, _, _, _, _, _, _, _, _, _, _, _, xl10, xb10⟩, sa10, bx10, tc10, kc10⟩, ⟨ga10, gg10, bx10, hd10⟩, nf10_crowd, a18, t18⟩
  have B18 : BaseT K q2 (.type "type") := ⟨br2, bg2, bi2⟩
  have x_NoCoding : QRa l.prog w K mg base 1 "NoCoding" Cad.c_NoCoding "crowd" := ⟨_, _, _, X18, xc_ok (P := l.prog) (w := w) (mg := mg) (base := base) (x := "crowd") (u := .str "no coding") F18 ⟨rfl, rfl, rfl, by decide +kernel, rfl, by decide +kernel, by decide +kernel⟩ X18 (fun cdv A outer s H E => pss_cons (ps_expr (pe_ceinit (by rfl) (PySem.W.mg_of KX G gC2) (by decide) B18 (pa_cons (pv 0) (pa_cons pe_str pa_nil)) rfl rfl rfl) rfl) (pss_one (ps_ost (pv 0) (pv 1) rfl))), b18, T.g_NoCoding⟩
  have ex_NoCoding : QNm l.prog w K mg base 2 "NoCoding" [] (spExP Cad.c_NoCoding "crowd" 1 0) := ⟨_, dcal_ex (n := 1) (ks := []) X18.oex X18.ini X18.tI (xc_ok (P := l.prog) (w := w) (mg := mg) (base := base) (x := "crowd") (u := .str "no coding") F18 ⟨rfl, rfl, rfl, by decide +kernel, rfl, by decide +kernel, by decide +kernel⟩ X18 (fun cdv A outer s H E => pss_cons (ps_expr (pe_ceinit (by rfl) (PySem.W.mg_of KX G gC2) (by decide) B18 (pa_cons (pv 0) (pa_cons pe_str pa_nil)) rfl rfl rfl) rfl) (pss_one (ps_ost (pv 0) (pv 1) rfl)))) (fun s us ws _ h1 h2 => match us, ws, h1, h2 with | [_, _], [], _, _ => .of_eq rfl) rfl, T.g_NoCoding, X18.oex.kC⟩
  have F19 := fun_mk (st := (inClass (top 12) 0)) l19 d19 k19
  have b19 := F19.binds (ps := ["self", "action"]) fun _ _ _ _ _ _ us hl => match us, hl with | [_, _], _ => rfl
  have X19 : XcT K q11 f19 "action" := ⟨⟨⟨_, _, _, _, _, _, _, _, _, _, _, _, _, _, _, xl11, xb11⟩, sa11, bx11, tc11, kc11⟩, ⟨ga11, gg11, bx11, hd11⟩, nf11_action, a19, t19⟩
  have B19 : BaseT K q2 (.type "type") := ⟨br2, bg2, bi2⟩
  have x_NothingToDo : QRa l.prog w K mg base 1 "NothingToDo" Cad.c_NothingToDo "action" := ⟨_, _, _, X19, xc_ok (P := l.prog) (w := w) (mg := mg) (base := base) (x := "action") (u := .str "nothing to do") F19 ⟨rfl, rfl, rfl, by decide +kernel, rfl, by decide +kernel, by decide +kernel⟩ X19 (fun cdv A outer s H E => pss_cons (ps_expr (pe_ceinit (by rfl) (PySem.W.mg_of KX G gC2) (by decide) B19 (pa_cons (pv 0) (pa_cons pe_str pa_nil)) rfl rfl rfl) rfl) (pss_one (ps_ost (pv 0) (pv 1) rfl))), b19, T.g_NothingToDo⟩
  have ex_NothingToDo : QNm l.prog w K mg base 2 "NothingToDo" [] (spExP Cad.c_NothingToDo "action" 1 0) := ⟨_, dcal_ex (n := 1) (ks := []) X19.oex X19.ini X19.tI (xc_ok (P := l.prog) (w := w) (mg := mg) (base := base) (x := "action") (u := .str "nothing to do") F19 ⟨rfl, rfl, rfl, by decide +kernel, rfl, by decide +kernel, by decide +kernel⟩ X19 (fun cdv A outer s H E => pss_cons (ps_expr (pe_ceinit (by rfl) (PySem.W.mg_of KX G gC2) (by decide) B19 (pa_cons (pv 0) (pa_cons pe_str pa_nil)) rfl rfl rfl) rfl) (pss_one (ps_ost (pv 0) (pv 1) rfl)))) (fun s us ws _ h1 h2 => match us, ws, h1, h2 with | [_, _], [], _, _ => .of_eq rfl) rfl, T.g_NothingToDo, X19.oex.kC⟩
  have F20 := fun_mk (st := (inClass (top 6) 0)) l20 d20 k20
  have b20 := F20.binds (ps := ["self", "value"]) fun _ _ _ _ _ _ us hl => match us, hl with | [_, _], _ => rfl
  have X20 : XcT K q12 f20 "value" := ⟨⟨⟨_, _, _, _, _, _, _, _, _, _, _, _, _, _, _, xl12, xb12⟩, sa12, bx12, tc12, kc12⟩, ⟨ga12, gg12, bx12, hd12⟩, nf12_value, a20, t20⟩
  have B20 : BaseT K q2 (.type "type") := ⟨br2, bg2, bi2⟩
  have x_BadClock : QRa l.prog w K mg base 1 "BadClock" Cad.c_BadClock "value" := ⟨_, _, _, X20, xc_ok (P := l.prog) (w := w) (mg := mg) (base := base) (x := "value") (u := .str "invalid clock") F20 ⟨rfl, rfl, rfl, by decide +kernel, rfl, by decide +kernel, by decide +kernel⟩ X20 (fun cdv A outer s H E => pss_cons (ps_expr (pe_ceinit (by rfl) (PySem.W.mg_of KX G gC2) (by decide) B20 (pa_cons (pv 0) (pa_cons pe_str pa_nil)) rfl rfl rfl) rfl) (pss_one (ps_ost (pv 0) (pv 1) rfl))), b20, T.g_BadClock⟩
  have ex_BadClock : QNm l.prog w K mg base 2 "BadClock" [] (spExP Cad.c_BadClock "value" 1 0) := ⟨_, dcal_ex (n := 1) (ks := []) X20.oex X20.ini X20.tI (xc_ok (P := l.prog) (w := w) (mg := mg) (base := base) (x := "value") (u := .str "invalid clock") F20 ⟨rfl, rfl, rfl, by decide +kernel, rfl, by decide +kernel, by decide +kernel⟩ X20 (fun cdv A outer s H E => pss_cons (ps_expr (pe_ceinit (by rfl) (PySem.W.mg_of KX G gC2) (by decide) B20 (pa_cons (pv 0) (pa_cons pe_str pa_nil)) rfl rfl rfl) rfl) (pss_one (ps_ost (pv 0) (pv 1) rfl)))) (fun s us ws _ h1 h2 => match us, ws, h1, h2 with | [_, _], [], _, _ => .of_eq rfl) rfl, T.g_BadClock, X20.oex.kC⟩
  have F21 := fun_mk (st := (inClass (top 13) 0)) l21 d21 k21
  have b21 := F21.binds (ps := ["self", "circles"]) fun _ _ _ _ _ _ us hl => match us, hl with | [_, _], _ => rfl
  have X21 : XcT K q13 f21 "circles" := ⟨⟨⟨_, _, _, _, _, _, _, _, _, _, _, _, _, _, _, xl13, xb13⟩, sa13, bx13, tc13, kc13⟩, ⟨ga13, gg13, bx13, hd13⟩, nf13_circles, a21, t21⟩
  have B21 : BaseT K q2 (.type "type") := ⟨br2, bg2, bi2⟩
  have x_Stuck : QRa l.prog w K mg base 1 "Stuck" Cad.c_Stuck "circles" := ⟨_, _, _, X21, xc_ok (P := l.prog) (w := w) (mg := mg) (base := base) (x := "circles") (u := .str "stuck circles") F21 ⟨rfl, rfl, rfl, by decide +kernel, rfl, by decide +kernel, by decide +kernel⟩ X21 (fun cdv A outer s H E => pss_cons (ps_expr (pe_ceinit (by rfl) (PySem.W.mg_of KX G gC2) (by decide) B21 (pa_cons (pv 0) (pa_cons pe_str pa_nil)) rfl rfl rfl) rfl) (pss_one (ps_ost (pv 0) (pv 1) rfl))), b21, T.g_Stuck⟩
  have ex_Stuck : QNm l.prog w K mg base 2 "Stuck" [] (spExP Cad.c_Stuck "circles" 1 0) := ⟨_, dcal_ex (n := 1) (ks := []) X21.oex X21.ini X21.tI (xc_ok (P := l.prog) (w := w) (mg := mg) (base := base) (x := "circles") (u := .str "stuck circles") F21 ⟨rfl, rfl, rfl, by decide +kernel, rfl, by decide +kernel, by decide +kernel⟩ X21 (fun cdv A outer s H E => pss_cons (ps_expr (pe_ceinit (by rfl) (PySem.W.mg_of KX G gC2) (by decide) B21 (pa_cons (pv 0) (pa_cons pe_str pa_nil)) rfl rfl rfl) rfl) (pss_one (ps_ost (pv 0) (pv 1) rfl)))) (fun s us ws _ h1 h2 => match us, ws, h1, h2 with | [_, _], [], _, _ => .of_eq rfl) rfl, T.g_Stuck, X21.oex.kC⟩
  have F5 := fun_mk (st := st__law_made) l5 d5 k5
  have b5 := F5.binds (ps := ["_law_one"]) fun _ _ _ _ _ _ us hl => match us, hl with | [_], _ => rfl
  have d5_ := ok__law_made (P := l.prog) (w := w) (base := base) F5 T hbs x_BadName ex_BadName x_BadCode ex_BadCode x_BadLength ex_BadLength x_BadCost ex_BadCost x_BadText ex_BadText x_BadCommand ex_BadCommand x_UnknownName ex_UnknownName x_NameTaken ex_NameTaken x_NoCoding ex_NoCoding x_NothingToDo ex_NothingToDo x_BadClock ex_BadClock x_Stuck ex_Stuck
  have exk_BadName : QNm l.prog w K mg base 2 "BadName" ["value"] (spExP Cad.c_BadName "value" 0 1) := ⟨_, dcal_ex (n := 0) (ks := ["value"]) X10.oex X10.ini X10.tI (xc_ok (P := l.prog) (w := w) (mg := mg) (base := base) (x := "value") (u := .str "invalid name") F10 ⟨rfl, rfl, rfl, by decide +kernel, rfl, by decide +kernel, by decide +kernel⟩ X10 (fun cdv A outer s H E => pss_cons (ps_expr (pe_ceinit (by rfl) (PySem.W.mg_of KX G gC2) (by decide) B10 (pa_cons (pv 0) (pa_cons pe_str pa_nil)) rfl rfl rfl) rfl) (pss_one (ps_ost (pv 0) (pv 1) rfl)))) (fun s us ws _ h1 h2 => match us, ws, h1, h2 with | [_], [_], _, _ => .of_eq rfl) rfl, T.g_BadName, X10.oex.kC⟩
  have exk_BadCode : QNm l.prog w K mg base 2 "BadCode" ["value"] (spExP Cad.c_BadCode "value" 0 1) := ⟨_, dcal_ex (n := 0) (ks := ["value"]) X11.oex X11.ini X11.tI (xc_ok (P := l.prog) (w := w) (mg := mg) (base := base) (x := "value") (u := .str "invalid code") F11 ⟨rfl, rfl, rfl, by decide +kernel, rfl, by decide +kernel, by decide +kernel⟩ X11 (fun cdv A outer s H E => pss_cons (ps_expr (pe_ceinit (by rfl) (PySem.W.mg_of KX G gC2) (by decide) B11 (pa_cons (pv 0) (pa_cons pe_str pa_nil)) rfl rfl rfl) rfl) (pss_one (ps_ost (pv 0) (pv 1) rfl)))) (fun s us ws _ h1 h2 => match us, ws, h1, h2 with | [_], [_], _, _ => .of_eq rfl) rfl, T.g_BadCode, X11.oex.kC⟩
  have exk_BadLength : QNm l.prog w K mg base 2 "BadLength" ["value"] (spExP Cad.c_BadLength "value" 0 1) := ⟨_, dcal_ex (n := 0) (ks := ["value"]) X12.oex X12.ini X12.tI (xc_ok (P := l.prog) (w := w) (mg := mg) (base := base) (x := "value") (u := .str "invalid length") F12 ⟨rfl, rfl, rfl, by decide +kernel, rfl, by decide +kernel, by decide +kernel⟩ X12 (fun cdv A outer s H E => pss_cons (ps_expr (pe_ceinit (by rfl) (PySem.W.mg_of KX G gC2) (by decide) B12 (pa_cons (pv 0) (pa_cons pe_str pa_nil)) rfl rfl rfl) rfl) (pss_one (ps_ost (pv 0) (pv 1) rfl)))) (fun s us ws _ h1 h2 => match us, ws, h1, h2 with | [_], [_], _, _ => .of_eq rfl) rfl, T.g_BadLength, X12.oex.kC⟩
  have exk_BadCost : QNm l.prog w K mg base 2 "BadCost" ["value"] (spExP Cad.c_BadCost "value" 0 1) := ⟨_, dcal_ex (n := 0) (ks := ["value"]) X13.oex X13.ini X13.tI (xc_ok (P := l.prog) (w := w) (mg := mg) (base := base) (x := "value") (u := .str "invalid cost") F13 ⟨rfl, rfl, rfl, by decide +kernel, rfl, by decide +kernel, by decide +kernel⟩ X13 (fun cdv A outer s H E => pss_cons (ps_expr (pe_ceinit (by rfl) (PySem.W.mg_of KX G gC2) (by decide) B13 (pa_cons (pv 0) (pa_cons pe_str pa_nil)) rfl rfl rfl) rfl) (pss_one (ps_ost (pv 0) (pv 1) rfl)))) (fun s us ws _ h1 h2 => match us, ws, h1, h2 with | [_], [_], _, _ => .of_eq rfl) rfl, T.g_BadCost, X13.oex.kC⟩
  have exk_BadText : QNm l.prog w K mg base 2 "BadText" ["value"] (spExP Cad.c_BadText "value" 0 1) := ⟨_, dcal_ex (n := 0) (ks := ["value"]) X14.oex X14.ini X14.tI (xc_ok (P := l.prog) (w := w) (mg := mg) (base := base) (x := "value") (u := .str "invalid text") F14 ⟨rfl, rfl, rfl, by decide +kernel, rfl, by decide +kernel, by decide +kernel⟩ X14 (fun cdv A outer s H E => pss_cons (ps_expr (pe_ceinit (by rfl) (PySem.W.mg_of KX G gC2) (by decide) B14 (pa_cons (pv 0) (pa_cons pe_str pa_nil)) rfl rfl rfl) rfl) (pss_one (ps_ost (pv 0) (pv 1) rfl)))) (fun s us ws _ h1 h2 => match us, ws, h1, h2 with | [_], [_], _, _ => .of_eq rfl) rfl, T.g_BadText, X14.oex.kC⟩
  have exk_BadCommand : QNm l.prog w K mg base 2 "BadCommand" ["command"] (spExP Cad.c_BadCommand "command" 0 1) := ⟨_, dcal_ex (n := 0) (ks := ["command"]) X15.oex X15.ini X15.tI (xc_ok (P := l.prog) (w := w) (mg := mg) (base := base) (x := "command") (u := .str "invalid command") F15 ⟨rfl, rfl, rfl, by decide +kernel, rfl, by decide +kernel, by decide +kernel⟩ X15 (fun cdv A outer s H E => pss_cons (ps_expr (pe_ceinit (by rfl) (PySem.W.mg_of KX G gC2) (by decide) B15 (pa_cons (pv 0) (pa_cons pe_str pa_nil)) rfl rfl rfl) rfl) (pss_one (ps_ost (pv 0) (pv 1) rfl)))) (fun s us ws _ h1 h2 => match us, ws, h1, h2 with | [_], [_], _, _ => .of_eq rfl) rfl, T.g_BadCommand, X15.oex.kC⟩
  have exk_UnknownName : QNm l.prog w K mg base 2 "UnknownName" ["name"] (spExP Cad.c_UnknownName "name" 0 1) := ⟨_, dcal_ex (n := 0) (ks := ["name"]) X16.oex X16.ini X16.tI (xc_ok (P := l.prog) (w := w) (mg := mg) (base := base) (x := "name") (u := .str "unknown name") F16 ⟨rfl, rfl, rfl, by decide +kernel, rfl, by decide +kernel, by decide +kernel⟩ X16 (fun cdv A outer s H E => pss_cons (ps_expr (pe_ceinit (by rfl) (PySem.W.mg_of KX G gC2) (by decide) B16 (pa_cons (pv 0) (pa_cons pe_str pa_nil)) rfl rfl rfl) rfl) (pss_one (ps_ost (pv 0) (pv 1) rfl)))) (fun s us ws _ h1 h2 => match us, ws, h1, h2 with | [_], [_], _, _ => .of_eq rfl) rfl, T.g_UnknownName, X16.oex.kC⟩
  have exk_NameTaken : QNm l.prog w K mg base 2 "NameTaken" ["name"] (spExP Cad.c_NameTaken "name" 0 1) := ⟨_, dcal_ex (n := 0) (ks := ["name"]) X17.oex X17.ini X17.tI (xc_ok (P := l.prog) (w := w) (mg := mg) (base := base) (x := "name") (u := .str "name is taken") F17 ⟨rfl, rfl, rfl, by decide +kernel, rfl, by decide +kernel, by decide +kernel⟩ X17 (fun cdv A outer s H E => pss_cons (ps_expr (pe_ceinit (by rfl) (PySem.W.mg_of KX G gC2) (by decide) B17 (pa_cons (pv 0) (pa_cons pe_str pa_nil)) rfl rfl rfl) rfl) (pss_one (ps_ost (pv 0) (pv 1) rfl)))) (fun s us ws _ h1 h2 => match us, ws, h1, h2 with | [_], [_], _, _ => .of_eq rfl) rfl, T.g_NameTaken, X17.oex.kC⟩
  have exk_NoCoding : QNm l.prog w K mg base 2 "NoCoding" ["crowd"] (spExP Cad.c_NoCoding "crowd" 0 1) := ⟨_, dcal_ex (n := 0) (ks := ["crowd"]) X18.oex X18.ini X18.tI (xc_ok (P := l.prog) (w := w) (mg := mg) (base := base) (x := "crowd") (u := .str "no coding") F18 ⟨rfl, rfl, rfl, by decide +kernel, rfl, by decide +kernel, by decide +kernel⟩ X18 (fun cdv A outer s H E => pss_cons (ps_expr (pe_ceinit (by rfl) (PySem.W.mg_of KX G gC2) (by decide) B18 (pa_cons (pv 0) (pa_cons pe_str pa_nil)) rfl rfl rfl) rfl) (pss_one (ps_ost (pv 0) (pv 1) rfl)))) (fun s us ws _ h1 h2 => match us, ws, h1, h2 with | [_], [_], _, _ => .of_eq rfl) rfl, T.g_NoCoding, X18.oex.kC⟩
  have exk_NothingToDo : QNm l.prog w K mg base 2 "NothingToDo" ["action"] (spExP Cad.c_NothingToDo "action" 0 1) := ⟨_, dcal_ex (n := 0) (ks := ["action"]) X19.oex X19.ini X19.tI (xc_ok (P := l.prog) (w := w) (mg := mg) (base := base) (x := "action") (u := .str "nothing to do") F19 ⟨rfl, rfl, rfl, by decide +kernel, rfl, by decide +kernel, by decide +kernel⟩ X19 (fun cdv A outer s H E => pss_cons (ps_expr (pe_ceinit (by rfl) (PySem.W.mg_of KX G gC2) (by decide) B19 (pa_cons (pv 0) (pa_cons pe_str pa_nil)) rfl rfl rfl) rfl) (pss_one (ps_ost (pv 0) (pv 1) rfl)))) (fun s us ws _ h1 h2 => match us, ws, h1, h2 with | [_], [_], _, _ => .of_eq rfl) rfl, T.g_NothingToDo, X19.oex.kC⟩
  have exk_BadClock : QNm l.prog w K mg base 2 "BadClock" ["value"] (spExP Cad.c_BadClock "value" 0 1) := ⟨_, dcal_ex (n := 0) (ks := ["value"]) X20.oex X20.ini X20.tI (xc_ok (P := l.prog) (w := w) (mg := mg) (base := base) (x := "value") (u := .str "invalid clock") F20 ⟨rfl, rfl, rfl, by decide +kernel, rfl, by decide +kernel, by decide +kernel⟩ X20 (fun cdv A outer s H E => pss_cons (ps_expr (pe_ceinit (by rfl) (PySem.W.mg_of KX G gC2) (by decide) B20 (pa_cons (pv 0) (pa_cons pe_str pa_nil)) rfl rfl rfl) rfl) (pss_one (ps_ost (pv 0) (pv 1) rfl)))) (fun s us ws _ h1 h2 => match us, ws, h1, h2 with | [_], [_], _, _ => .of_eq rfl) rfl, T.g_BadClock, X20.oex.kC⟩
  have exk_Stuck : QNm l.prog w K mg base 2 "Stuck" ["circles"] (spExP Cad.c_Stuck "circles" 0 1) := ⟨_, dcal_ex (n := 0) (ks := ["circles"]) X21.oex X21.ini X21.tI (xc_ok (P := l.prog) (w := w) (mg := mg) (base := base) (x := "circles") (u := .str "stuck circles") F21 ⟨rfl, rfl, rfl, by decide +kernel, rfl, by decide +kernel, by decide +kernel⟩ X21 (fun cdv A outer s H E => pss_cons (ps_expr (pe_ceinit (by rfl) (PySem.W.mg_of KX G gC2) (by decide) B21 (pa_cons (pv 0) (pa_cons pe_str pa_nil)) rfl rfl rfl) rfl) (pss_one (ps_ost (pv 0) (pv 1) rfl)))) (fun s us ws _ h1 h2 => match us, ws, h1, h2 with | [_], [_], _, _ => .of_eq rfl) rfl, T.g_Stuck, X21.oex.kC⟩
  have F6 := fun_mk (st := st__law_named) l6 d6 k6
  have b6 := F6.binds (ps := ["_law_one"]) fun _ _ _ _ _ _ us hl => match us, hl with | [_], _ => rfl
  have d6_ := ok__law_named (P := l.prog) (w := w) (base := base) F6 T hbs x_BadName exk_BadName x_BadCode exk_BadCode x_BadLength exk_BadLength x_BadCost exk_BadCost x_BadText exk_BadText x_BadCommand exk_BadCommand x_UnknownName exk_UnknownName x_NameTaken exk_NameTaken x_NoCoding exk_NoCoding x_NothingToDo exk_NothingToDo x_BadClock exk_BadClock x_Stuck exk_Stuck
  have F7 := fun_mk (st := st__law_kinds) l7 d7 k7
  have b7 := F7.binds (ps := ["_law_error"]) fun _ _ _ _ _ _ us hl => match us, hl with | [_], _ => rfl
  have d7_ := ok__law_kinds (P := l.prog) (w := w) (base := base) F7 T hbs 
  have c__law_kinds : Cle l.prog w K mg base 1 "_law_kinds" sp__law_kinds := ⟨_, _, _, d7_, PySem.W.mg_of KX G a7, k7, b7⟩
  have F8 := fun_mk (st := st__law_of_one_kind) l8 d8 k8
  have b8 := F8.binds (ps := ["_law_error", "_law_at"]) fun _ _ _ _ _ _ us hl => match us, hl with | [_, _], _ => rfl
  have d8_ := ok__law_of_one_kind (P := l.prog) (w := w) (base := base) F8 T hbs c__law_kinds
  have c__law_purse : Cle l.prog w K mg base 1 "_law_purse" sp__law_purse := ⟨_, _, _, d1_, PySem.W.mg_of KX G a1, k1, b1⟩
  have c__law_values : Cle l.prog w K mg base 3 "_law_values" sp__law_values := ⟨_, _, _, d4_, PySem.W.mg_of KX G a4, k4, b4⟩
  have c__law_made : Cle l.prog w K mg base 3 "_law_made" sp__law_made := ⟨_, _, _, d5_, PySem.W.mg_of KX G a5, k5, b5⟩
  have c__law_named : Cle l.prog w K mg base 3 "_law_named" sp__law_named := ⟨_, _, _, d6_, PySem.W.mg_of KX G a6, k6, b6⟩
  have c__law_of_one_kind : Cle l.prog w K mg base 2 "_law_of_one_kind" sp__law_of_one_kind := ⟨_, _, _, d8_, PySem.W.mg_of KX G a8, k8, b8⟩
  have F9 := fun_mk (st := st_law) l9 d9 k9
  exact ok_law F9 T hbs c__law_purse c__law_values c__law_made c__law_named x_BadName ex_BadName x_BadCode ex_BadCode x_BadLength ex_BadLength x_BadText ex_BadText x_BadCommand ex_BadCommand x_NoCoding ex_NoCoding x_BadClock ex_BadClock c__law_of_one_kind
theorem walk {l : PySem.W.OpenLaw} {q : Program} {loose : List Str} {XP : (Str → Option Value) → Heap → Prop} {YP : World → Heap → Prop} {d : DefRec} {K : Params → PySem.W.Frag} (hn : l.most = some 63) (hdf : d.params.defaults = []) (imp : importsNone q = true) (hY : ∀ (w : World) (h : Heap), YP w h → (K w.params).In h)
    (F : ∀ (w : World) (mg : Str → Option Value) (fa : Addr) (h : Heap), (K w.params).In h → h.Ns mainGlobals mg → mg d.name = some (.ref fa) → ∃ fd : FuncData, (∀ (s : Shared) (u : Value), BindsTo s fd ⟨[u], []⟩ [("_law_script", u)]) ∧ ∀ base : Heap, (K w.params).In base → base.Ns mainGlobals mg → (∃ o, base.get? sysModules = some o) → DFn l.prog w (K w.params) mg base 4 fa fd ["_law_script"] spLaw) :
    PySem.W.WalkO q loose XP YP l.row.toRowW d [] (fun f vs => PySem.call f vs) :=
  walkG hn hdf ⟨rfl, by decide, by decide⟩ imp hY F law_me
end L2.DL
open PySem PySem.W PyProof.Rows in
set_option maxHeartbeats 0 in
theorem PySem.Challenge.cw_ownletters_k04_errors_made_holds : PySem.Challenge.rw_ownletters_k04_errors_made.Holds := by
  refine L2.DL.head ?_
  k_fill
  refine L2.DL.walk (l := PySem.Challenge.rw_ownletters_k04_errors_made) rfl rfl (by decide +kernel) (fun w h Y => PySem.W.kIn_of Y) ?F
  case F =>
    intro w mg fa h KX G hmg
    exact L2.DL.all_mk KX G hmg (by k_is) (by k_is) (by k_is) (by k_is) (by k_is) (by k_is) (by k_is) (by k_is) (by k_is) (by k_is) (by k_is) (by k_is) (by k_is) (by k_is) (by k_is) (by k_is) (by k_is) (by k_is) (by k_is) (by k_is) (by k_is) (by k_is) (by k_is) (by k_is) (by k_is) (by k_is) (by k_is) (by k_is) (by k_is) (by k_is) (by k_is) (by k_is) (by k_is) (by k_is) (by k_is) (by k_is) (by k_is) (by k_is) (by k_is) (by k_is) (by k_is) (by k_is) (by k_is) (by k_is) (by k_is) (by k_is) (by k_is) (by k_is) (by k_is) (by k_is) (by k_is) (by k_is) (by k_is) (by k_is) (by k_is) (by k_is) (by k_is) (by k_is) (by k_is) (by k_is) (by k_is) (by k_is) (by k_is) (by k_is) (by k_is) (by k_is) (by k_is) (by k_is) (by k_is) (by k_is) (by k_is) (by k_is) (by k_is) (by k_is) (by k_is) (by k_is) (by k_is) (by k_is) (by k_is) (by k_is) (by k_is) (by k_is) (by k_is) (by k_is) (by k_is) (by k_is) (by first | rfl | k_is) (by k_is) (by k_is) (by first | rfl | k_is) (by k_is) (by k_is) (by first | rfl | k_is) (by k_is) (by k_is) (by first | rfl | k_is) (by k_is) (by k_is) (by first | rfl | k_is) (by k_is) (by k_is) (by first | rfl | k_is) (by k_is) (by k_is) (by first | rfl | k_is) (by k_is) (by k_is) (by first | rfl | k_is) (by k_is) (by k_is) (by first | rfl | k_is) (by k_is) (by k_is) (by first | rfl | k_is) (by k_is) (by k_is) (by first | rfl | k_is) (by k_is) (by k_is) (by first | rfl | k_is) (by first | rfl | k_is) (by first | rfl | k_is) (by first | rfl | k_is) (by first | rfl | k_is) (by first | rfl | k_is) (by first | rfl | k_is) (by first | rfl | k_is) (by first | rfl | k_is) (by first | rfl | k_is) (by first | rfl | k_is) (by first | rfl | k_is) (by first | rfl | k_is) (by k_is) (by k_is) (by k_is) (by k_is) (by k_is) (by k_is) (by k_is) (by k_is) (by k_is) (by first | rfl | k_is) (by first | rfl | k_is) (by first | rfl | k_is) (by first | rfl | k_is) (by first | rfl | k_is) (by first | rfl | k_is) (by first | rfl | k_is) (by first | rfl | k_is) (by first | rfl | k_is) (by first | rfl | k_is) (by first | rfl | k_is) (by first | rfl | k_is) (by k_is) (by k_is) (by k_is) (by k_is) (by k_is) (by k_is) (by k_is) (by k_is) (by k_is) (by first | rfl | k_is) (by first | rfl | k_is) (by first | rfl | k_is) (by first | rfl | k_is) (by first | rfl | k_is) (by first | rfl | k_is) (by first | rfl | k_is) (by first | rfl | k_is) (by first | rfl | k_is) (by first | rfl | k_is) (by first | rfl | k_is) (by first | rfl | k_is) (by k_is) (by k_is) (by k_is) (by k_is) (by k_is) (by k_is) (by k_is) (by k_is) (by k_is) (by first | rfl | k_is) (by first | rfl | k_is) (by first | rfl | k_is) (by first | rfl | k_is) (by first | rfl | k_is) (by first | rfl | k_is) (by first | rfl | k_is) (by first | rfl | k_is) (by first | rfl | k_is) (by first | rfl | k_is) (by first | rfl | k_is) (by first | rfl | k_is) (by k_is) (by k_is) (by k_is) (by k_is) (by k_is) (by k_is) (by k_is) (by k_is) (by k_is) (by first | rfl | k_is) (by first | rfl | k_is) (by first | rfl | k_is) (by first | rfl | k_is) (by first | rfl | k_is) (by first | rfl | k_is) (by first | rfl | k_is) (by first | rfl | k_is) (by first | rfl | k_is) (by first | rfl | k_is) (by first | rfl | k_is) (by first | rfl | k_is) (by k_is) (by k_is) (by k_is) (by k_is) (by k_is) (by k_is) (by k_is) (by k_is) (by k_is) (by first | rfl | k_is) (by first | rfl | k_is) (by first | rfl | k_is) (by first | rfl | k_is) (by first | rfl | k_is) (by first | rfl | k_is) (by first | rfl | k_is) (by first | rfl | k_is) (by first | rfl | k_is) (by first | rfl | k_is) (by first | rfl | k_is) (by first | rfl | k_is) (by k_is) (by k_is) (by k_is) (by k_is) (by k_is) (by k_is) (by k_is) (by k_is) (by k_is) (by first | rfl | k_is) (by first | rfl | k_is) (by first | rfl | k_is) (by first | rfl | k_is) (by first | rfl | k_is) (by first | rfl | k_is) (by first | rfl | k_is) (by first | rfl | k_is) (by first | rfl | k_is) (by first | rfl | k_is) (by first | rfl | k_is) (by first | rfl | k_is) (by k_is) (by k_is) (by k_is) (by k_is) (by k_is) (by k_is) (by k_is) (by k_is) (by k_is) (by first | rfl | k_is) (by first | rfl | k_is) (by first | rfl | k_is) (by first | rfl | k_is) (by first | rfl | k_is) (by first | rfl | k_is) (by first | rfl | k_is) (by first | rfl | k_is) (by first | rfl | k_is) (by first | rfl | k_is) (by first | rfl | k_is) (by first | rfl | k_is) (by k_is) (by k_is) (by k_is) (by k_is) (by k_is) (by k_is) (by k_is) (by k_is) (by k_is) (by first | rfl | k_is) (by first | rfl | k_is) (by first | rfl | k_is) (by first | rfl | k_is) (by first | rfl | k_is) (by first | rfl | k_is) (by first | rfl | k_is) (by first | rfl | k_is) (by first | rfl | k_is) (by first | rfl | k_is) (by first | rfl | k_is) (by first | rfl | k_is) (by k_is) (by k_is) (by k_is) (by k_is) (by k_is) (by k_is) (by k_is) (by k_is) (by k_is) (by first | rfl | k_is) (by first | rfl | k_is) (by first | rfl | k_is) (by first | rfl | k_is) (by first | rfl | k_is) (by first | rfl | k_is) (by first | rfl | k_is) (by first | rfl | k_is) (by first | rfl | k_is) (by first | rfl | k_is) (by first | rfl | k_is) (by first | rfl | k_is) (by k_is) (by k_is) (by k_is) (by k_is) (by k_is) (by k_is) (by k_is) (by k_is) (by k_is) (by first | rfl | k_is) (by first | rfl | k_is) (by first | rfl | k_is) (by first | rfl | k_is) (by first | rfl | k_is) (by first | rfl | k_is) (by first | rfl | k_is) (by first | rfl | k_is) (by first | rfl | k_is) (by first | rfl | k_is) (by first | rfl | k_is) (by first | rfl | k_is) (by k_is) (by k_is) (by k_is) (by k_is) (by k_is) (by k_is) (by k_is) (by k_is) (by k_is) (by first | rfl | k_is) (by first | rfl | k_is) (by first | rfl | k_is) (by first | rfl | k_is) (by first | rfl | k_is) (by first | rfl | k_is) (by first | rfl | k_is) (by first | rfl | k_is) (by first | rfl | k_is) (by first | rfl | k_is) (by first | rfl | k_is) (by first | rfl | k_is) (by k_is) (by k_is) (by k_is) (by k_is) (by k_is) (by k_is) (by k_is) (by k_is) (by k_is) (by first | rfl | k_is) (by first | rfl | k_is) (by first | rfl | k_is) (by first | rfl | k_is) (by first | rfl | k_is) (by first | rfl | k_is) (by first | rfl | k_is) (by first | rfl | k_is) (by first | rfl | k_is) (by first | rfl | k_is) (by first | rfl | k_is) (by first | rfl | k_is) (by k_is) (by k_is) (by k_is) (by k_is) (by k_is) (by k_is) (by k_is) (by k_is) (by k_is) (by k_is) (by k_is) (by k_is) (by k_is) (by k_is) (by k_is) (by k_is) (by k_is) (by k_is) (by k_is) (by k_is) (by k_is) (by k_is) (by k_is) (by k_is) (by k_is) (by first | rfl | decide +kernel | k_is) (by k_is) (by k_is) (by k_is) (by k_is) (by k_is) (by k_is) (by k_is) (by k_is) (by first | rfl | decide +kernel | k_is) (by k_is) (by k_is) (by k_is) (by k_is) (by k_is) (by k_is) (by k_is) (by k_is) (by first | rfl | decide +kernel | k_is) (by k_is) (by k_is) (by k_is) (by k_is) (by k_is) (by k_is) (by k_is) (by k_is) (by first | rfl | decide +kernel | k_is) (by k_is) (by k_is) (by k_is) (by k_is) (by k_is) (by k_is) (by k_is) (by k_is) (by first | rfl | decide +kernel | k_is) (by k_is) (by k_is) (by k_is) (by k_is) (by k_is) (by k_is) (by k_is) (by k_is) (by first | rfl | decide +kernel | k_is) (by k_is) (by k_is) (by k_is) (by k_is) (by k_is) (by k_is) (by k_is) (by k_is) (by first | rfl | decide +kernel | k_is) (by k_is) (by k_is) (by k_is) (by k_is) (by k_is) (by k_is) (by k_is) (by k_is) (by first | rfl | decide +kernel | k_is) (by k_is) (by k_is) (by k_is) (by k_is) (by k_is) (by k_is) (by k_is) (by k_is) (by first | rfl | decide +kernel | k_is) (by k_is) (by k_is) (by k_is) (by k_is) (by k_is) (by k_is) (by k_is) (by k_is) (by first | rfl | decide +kernel | k_is) (by k_is) (by k_is) (by k_is) (by k_is) (by k_is) (by k_is) (by k_is) (by k_is) (by first | rfl | decide +kernel | k_is) (by k_is) (by k_is) (by k_is) (by k_is) (by k_is) (by k_is) (by k_is) (by k_is) (by first | rfl | decide +kernel | k_is) (by k_is) (by k_is) (by k_is) (by k_is) (by k_is) (by k_is) (by k_is) (by k_is) (by k_is) (by k_is) (by k_is) (by k_is) (by k_is) (by k_is) (by k_is) (by k_is) (by k_is) (by k_is) (by k_is) (by k_is) (by k_is) (by k_is) (by k_is) (by k_is) (by k_is) (by k_is) (by k_is) (by k_is) (by k_is) (by k_is)
#print axioms PySem.Challenge.cw_ownletters_k04_errors_made_holds
