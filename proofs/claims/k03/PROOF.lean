import PyProof.Rows.All
import Wide.All
import OpenK.AllK
import Wide.FinOn
import KE.OsRunLaw
import PySem.Challenge.RW_ownletters_k03_spellers
import HandS.ForMost
import HandS.Exc
import HandS.TupAny
import HandS.WideBits
import HandS.TupLe
import HandS.Deep
import HandS.IsInst
import HandS.RaiseMore
import HandS.WordsExc
import HandS.CallSlots
import HandS.EndBits
import HandS.Conv
import HandS.More
import HandS.Text
import PyProof.ListStr
import HandS.TupMul
import HandS.Small
import HandS.Words
import HandS.Codes
import PyProof.ReprLen
import HandS.StrMore
import HandS.Style
import PyProof.SliceStr2
import PyProof.StrLawsIn
import HandS.Star
import HandS.Property
import HandS.ClsMeth
import HandS.ExcInit
import HandS.ExcField
import HandS.TryOnly
import HandS.Zip
import HandS.NoneIn
import HandS.SetFor
import HandS.Strs
import HandS.Flow
import HandS.DictComp
import HandS.ListItems
import KE.KOpsOwn
import KE.KDictList
import HandS.Finally
import KE.KDictZip
import KE.KTurns
import HandS.Set
import HandS.List
import PyProof.Rows.SortShellAny
import HandS.GenCall
import HandS.GenList
import KE.LtSeq
import KE.GoesMore
import HandS.Iter
import HandS.Defaults
import OpenK.KMeth
import PyProof.TupleOfStr
import HandS.TryMany
import PyProof.RulesMatchSeq
import PyProof.RulesMatchSingle
import PyProof.Rows.MatchSeqLen
import KE.KUnpack
import HandS.HotCalls
import HandS.ExcIs
import KE.KExcIs
import HandS.SortRule
import KE.KSortTupAny
import HandS.SetKeys
set_option Elab.async false
set_option linter.all false
set_option maxRecDepth 100000
set_option maxHeartbeats 4000000
namespace L2.DL
section
local macro_rules | `(tactic| k_head) => `(tactic| k_headL)
open PySem PySem.W PyProof.Rows in
set_option maxHeartbeats 0 in
open_top head for PySem.Challenge.rw_ownletters_k03_spellers
end
end L2.DL
/-! DLa: data trees over the hand layer: trees, what stands for them, the state relation. -/
namespace L2.DL
open PySem PySem.Spec PyProof.Rows
abbrev Txt := List Nat
def sV (s : Txt) : Str := ⟨s.toArray⟩
theorem sV_inj {s t : Txt} (h : sV s = sV t) : s = t := by
  unfold sV at h
  have : s.toArray = t.toArray := congrArg Str.cps h
  simpa using congrArg Array.toList this
theorem sV_cps (s : Txt) : (sV s).cps.toList = s := by simp [sV]
theorem sV_len (s : Txt) : (sV s).length = s.length := by simp [sV, Str.length]
theorem sV_of (x : Str) : sV x.cps.toList = x := by cases x; simp [sV]
abbrev DK := Sum Int Txt
def kOf : DK → Key
  | .inl i => .inl i
  | .inr s => .inr (sV s)
theorem kOf_inj {a b : DK} (h : kOf a = kOf b) : a = b := by
  cases a <;> cases b <;> simp [kOf] at h
  · rw [h]
  · rw [sV_inj h]
/-- data trees -/
inductive D where
  | non | bl (b : Bool) | int (i : Int) | str (s : Txt)
  | tup (xs : List D) | lst (xs : List D) | dct (kvs : List (DK × D))
  | obj (C : Addr) (fs : List (Str × D))
  | cell (a : Addr) | ty (n : String) | scr (ns : List Int)
  | exc (a C dd : Addr) (fs : List (Str × D))
  | tupT (ts : List Txt)
  | kt
  deriving Inhabited
/-- a tuple: as it was laid, or its object told -/
def TupA (H : Hp) (a : Addr) (vs : List V) : Prop := H a = some (.tup vs) ∨ ∃ o : Obj, o.dict = none ∧ H a = some (.frz o (.tup vs))
theorem TupA.same {H H' : Hp} {a : Addr} {vs : List V} (s : Same H H') (h : TupA H a vs) : TupA H' a vs := by
  rcases h with h | ⟨o, d, h⟩
  · exact .inl (s _ _ h)
  · exact .inr ⟨o, d, s _ _ h⟩
/-- the empty tuple that stands in the text (a default) -/
def KT0 (K : PySem.W.Frag) (a : Addr) : Prop := ∃ (o : Obj) (n : Nat), K.lookup a = some o ∧ o.cls = .type "tuple" ∧ o.data = .seq #[] n
theorem KT0.sq {K : PySem.W.Frag} {H : Hp} {a : Addr} (h : KT0 K a) : SqT K H a [] := by
  obtain ⟨o, n, h1, h2, h3⟩ := h
  exact .inr ⟨o, #[], n, h1, h2, h3, Nat.zero_le _, .nil⟩
theorem TupA.sq {K : PySem.W.Frag} {H H' : Hp} {a : Addr} {vs : List V} (s : Same H H') (h : TupA H a vs) : SqT K H' a vs := by
  rcases h with h | ⟨o, d, h⟩
  · exact .inl (.inl (s _ _ h))
  · exact .inl (.inr ⟨o, s _ _ h⟩)
mutual
/-- in the part H of the heap that stays, v is the tree d -/
inductive Rep (K : PySem.W.Frag) (H : Hp) : D → V → Prop
  | non : Rep K H .non .non
  | bl (b : Bool) : Rep K H (.bl b) (.bl b)
  | int (i : Int) : Rep K H (.int i) (.int i)
  | str (s : Txt) : Rep K H (.str s) (.str (sV s))
  | tup {xs : List D} {a : Addr} {vs : List V} : TupA H a vs → RepL K H xs vs → Rep K H (.tup xs) (.ref a)
  | lst {xs : List D} {a : Addr} {vs : List V} : H a = some (.lst vs) → RepL K H xs vs → Rep K H (.lst xs) (.ref a)
  | dct {kvs : List (DK × D)} {a : Addr} {ws : List (Key × V)} : Rd H a (.dK ws) → RepKV K H kvs ws → Rep K H (.dct kvs) (.ref a)
  | obj {C a dx : Addr} {fs : List (Str × D)} {ws : List (Str × V)} : H a = some (.ins C dx ws) → RepF K H fs ws → Rep K H (.obj C fs) (.ref a)
  | cell (a : Addr) : Rep K H (.cell a) (.ref a)
  | ty (n : String) : Rep K H (.ty n) (.ty n)
  | scr {ns : List Int} {a : Addr} : SqL K H a (ns.map V.int) → Rep K H (.scr ns) (.ref a)
  | exc {a C dd : Addr} {fs : List (Str × D)} {ws : List (Str × V)} : H dd = some (.xd ws) → RepF K H fs ws → Rep K H (.exc a C dd fs) (.ref a)
  | tupT {ts : List Txt} {a : Addr} {o : Obj} : o.dict = none → H a = some (.frz o (.tup ((ts.map sV).map V.str))) → Rep K H (.tupT ts) (.ref a)
  | kt {a : Addr} : KT0 K a → Rep K H .kt (.ref a)
inductive RepL (K : PySem.W.Frag) (H : Hp) : List D → List V → Prop
  | nil : RepL K H [] []
  | cons {d : D} {v : V} {ds : List D} {vs : List V} : Rep K H d v → RepL K H ds vs → RepL K H (d :: ds) (v :: vs)
inductive RepKV (K : PySem.W.Frag) (H : Hp) : List (DK × D) → List (Key × V) → Prop
  | nil : RepKV K H [] []
  | cons {k : DK} {d : D} {v : V} {ds : List (DK × D)} {vs : List (Key × V)} : Rep K H d v → RepKV K H ds vs → RepKV K H ((k, d) :: ds) ((kOf k, v) :: vs)
inductive RepF (K : PySem.W.Frag) (H : Hp) : List (Str × D) → List (Str × V) → Prop
  | nil : RepF K H [] []
  | cons {k : Str} {d : D} {v : V} {ds : List (Str × D)} {vs : List (Str × V)} : Rep K H d v → RepF K H ds vs → RepF K H ((k, d) :: ds) ((k, v) :: vs)
end
/-- one part of the heap reads as another does -/
structure Le (K : PySem.W.Frag) (H H' : Hp) : Prop where
  tup : ∀ a vs, TupA H a vs → TupA H' a vs
  lst : ∀ a vs, H a = some (.lst vs) → H' a = some (.lst vs)
  dct : ∀ a ws, Rd H a (.dK ws) → Rd H' a (.dK ws)
  obj : ∀ a C dx ws, H a = some (.ins C dx ws) → H' a = some (.ins C dx ws)
  scr : ∀ a vs, SqL K H a vs → SqL K H' a vs
  xd : ∀ a ws, H a = some (.xd ws) → H' a = some (.xd ws)
  tx : ∀ a o vs, H a = some (.frz o (.tup vs)) → H' a = some (.frz o (.tup vs))
theorem Same.rd {H H' : Hp} {a : Addr} {u : HO} (s : Same H H') (h : Rd H a u) : Rd H' a u := by
  rcases h with h | ⟨o, h⟩
  · exact .inl (s _ _ h)
  · exact .inr ⟨o, s _ _ h⟩
theorem Le.of {K : PySem.W.Frag} {H H' : Hp} (s : Same H H') : Le K H H' :=
  ⟨fun _ _ h => TupA.same s h, fun _ _ h => s _ _ h, fun _ _ h => Same.rd s h, fun _ _ _ _ h => s _ _ h, fun _ _ h => s.seq h, fun _ _ h => s _ _ h, fun _ _ _ h => s _ _ h⟩
section
variable {K : PySem.W.Frag} {H H' : Hp}
mutual
theorem Rep.le (l : Le K H H') : ∀ {d : D} {v : V}, Rep K H d v → Rep K H' d v
  | _, _, .non => .non
  | _, _, .bl b => .bl b
  | _, _, .int i => .int i
  | _, _, .str s => .str s
  | _, _, .tup h r => .tup (l.tup _ _ h) (RepL.le l r)
  | _, _, .lst h r => .lst (l.lst _ _ h) (RepL.le l r)
  | _, _, .dct h r => .dct (l.dct _ _ h) (RepKV.le l r)
  | _, _, .obj h r => .obj (l.obj _ _ _ _ h) (RepF.le l r)
  | _, _, .cell a => .cell a
  | _, _, .ty n => .ty n
  | _, _, .scr h => .scr (l.scr _ _ h)
  | _, _, .exc h r => .exc (l.xd _ _ h) (RepF.le l r)
  | _, _, .tupT d h => .tupT d (l.tx _ _ _ h)
  | _, _, .kt h => .kt h
theorem RepL.le (l : Le K H H') : ∀ {d : List D} {v : List V}, RepL K H d v → RepL K H' d v
  | _, _, .nil => .nil
  | _, _, .cons h r => .cons (Rep.le l h) (RepL.le l r)
theorem RepKV.le (l : Le K H H') : ∀ {d : List (DK × D)} {v : List (Key × V)}, RepKV K H d v → RepKV K H' d v
  | _, _, .nil => .nil
  | _, _, .cons h r => .cons (Rep.le l h) (RepKV.le l r)
theorem RepF.le (l : Le K H H') : ∀ {d : List (Str × D)} {v : List (Str × V)}, RepF K H d v → RepF K H' d v
  | _, _, .nil => .nil
  | _, _, .cons h r => .cons (Rep.le l h) (RepF.le l r)
end
theorem Rep.same {d : D} {v : V} (r : Rep K H d v) (s : Same H H') : Rep K H' d v := r.le (Le.of s)
theorem RepL.same {d : List D} {v : List V} (r : RepL K H d v) (s : Same H H') : RepL K H' d v := r.le (Le.of s)
theorem RepKV.same {d : List (DK × D)} {v : List (Key × V)} (r : RepKV K H d v) (s : Same H H') : RepKV K H' d v := r.le (Le.of s)
theorem RepF.same {d : List (Str × D)} {v : List (Str × V)} (r : RepF K H d v) (s : Same H H') : RepF K H' d v := r.le (Le.of s)
theorem RepL.length : ∀ {d : List D} {v : List V}, RepL K H d v → d.length = v.length
  | _, _, .nil => rfl
  | _, _, .cons _ r => by simp [RepL.length r]
theorem RepL.get : ∀ {ds : List D} {vs : List V} {i : Nat} {v : V}, RepL K H ds vs → vs[i]? = some v → ∃ d, ds[i]? = some d ∧ Rep K H d v
  | _, _, _, _, .nil, e => by simp at e
  | _, _, 0, _, .cons h _, e => by simp at e; subst e; exact ⟨_, rfl, h⟩
  | _, _, i + 1, _, .cons _ r, e => by
    obtain ⟨d, h1, h2⟩ := RepL.get (i := i) r (by simpa using e)
    exact ⟨d, by simpa using h1, h2⟩
theorem RepL.get' : ∀ {ds : List D} {vs : List V} {i : Nat} {d : D}, RepL K H ds vs → ds[i]? = some d → ∃ v, vs[i]? = some v ∧ Rep K H d v
  | _, _, _, _, .nil, e => by simp at e
  | _, _, 0, _, .cons h _, e => by simp at e; subst e; exact ⟨_, rfl, h⟩
  | _, _, i + 1, _, .cons _ r, e => by
    obtain ⟨d, h1, h2⟩ := RepL.get' (i := i) r (by simpa using e)
    exact ⟨d, by simpa using h1, h2⟩
theorem RepL.append : ∀ {ds es : List D} {vs ws : List V}, RepL K H ds vs → RepL K H es ws → RepL K H (ds ++ es) (vs ++ ws)
  | _, _, _, _, .nil, s => s
  | _, _, _, _, .cons h r, s => .cons h (RepL.append r s)
theorem RepL.take : ∀ {ds : List D} {vs : List V} (n : Nat), RepL K H ds vs → RepL K H (ds.take n) (vs.take n)
  | _, _, 0, _ => by simp; exact .nil
  | _, _, _ + 1, .nil => .nil
  | _, _, n + 1, .cons h r => .cons h (RepL.take n r)
theorem RepL.drop : ∀ {ds : List D} {vs : List V} (n : Nat), RepL K H ds vs → RepL K H (ds.drop n) (vs.drop n)
  | _, _, 0, r => r
  | _, _, _ + 1, .nil => .nil
  | _, _, n + 1, .cons _ r => RepL.drop n r
theorem RepL.set : ∀ {ds : List D} {vs : List V} (n : Nat) {d : D} {v : V}, RepL K H ds vs → Rep K H d v → RepL K H (ds.set n d) (vs.set n v)
  | _, _, _, _, _, .nil, _ => .nil
  | _, _, 0, _, _, .cons _ r, q => .cons q r
  | _, _, n + 1, _, _, .cons h r, q => .cons h (RepL.set n r q)
theorem RepL.eraseIdx : ∀ {ds : List D} {vs : List V} (n : Nat), RepL K H ds vs → RepL K H (ds.eraseIdx n) (vs.eraseIdx n)
  | _, _, _, .nil => .nil
  | _, _, 0, .cons _ r => r
  | _, _, n + 1, .cons h r => .cons h (RepL.eraseIdx n r)
theorem RepL.dropLast : ∀ {ds : List D} {vs : List V}, RepL K H ds vs → RepL K H ds.dropLast vs.dropLast
  | _, _, .nil => .nil
  | _, _, .cons _ .nil => .nil
  | _, _, .cons h (.cons h' r) => .cons h (RepL.dropLast (.cons h' r))
theorem RepL.reverse : ∀ {ds : List D} {vs : List V}, RepL K H ds vs → RepL K H ds.reverse vs.reverse
  | _, _, .nil => .nil
  | _, _, .cons h r => by
    rw [List.reverse_cons, List.reverse_cons]
    exact RepL.append (RepL.reverse r) (.cons h .nil)
end
/-! ### cells, own slots -/
inductive Cell where
  | pur (tab : Bool) | lst (xs : List D) | dct (kvs : List (DK × D)) | obj (C : Addr) (fs : List (Str × D))
  /-- a table that is walked: it is read alone meanwhile -/
  | lck (o : Obj) (ws : List (Key × V)) (kvs : List (DK × D))
abbrev Cs := Addr → Option Cell
def cput (C : Cs) (a : Addr) (c : Cell) : Cs := fun b => if b = a then some c else C b
theorem cput_same {C : Cs} {a : Addr} {c : Cell} : cput C a c a = some c := by unfold cput; rw [if_pos rfl]
theorem cput_ne {C : Cs} {a b : Addr} {c : Cell} (h : b ≠ a) : cput C a c b = C b := by unfold cput; rw [if_neg h]
/-- a source of draws, a table or a list: what it holds is not told -/
def PurO : Bool → HO → Prop
  | true, o => ∃ i j : Int, 0 ≤ j ∧ j < 4294967296 ∧ o = .dK [(.inr (sV [100, 105, 103, 105, 116, 115]), .int i), (.inr (sV [109, 105, 120, 101, 100]), .int j)]
  | false, o => ∃ i j : Int, 0 ≤ j ∧ j < 4294967296 ∧ o = .lst [.int i, .int j]
inductive Cont where
  | lst (xs : List D) | dct (kvs : List (DK × D)) | obj (C : Addr) (fs : List (Str × D))
@[reducible] def Cont.d : Cont → D
  | .lst xs => .lst xs
  | .dct kvs => .dct kvs
  | .obj C fs => .obj C fs
def RepC (K : PySem.W.Frag) (Hs : Hp) : Cell → HO → Prop
  | .pur b, o => PurO b o
  | .lst xs, o => ∃ vs, o = .lst vs ∧ RepL K Hs xs vs
  | .dct kvs, o => ∃ ws, o = .dK ws ∧ RepKV K Hs kvs ws
  | .obj C fs, o => ∃ dx ws, o = .ins C dx ws ∧ RepF K Hs fs ws
  | .lck od ws kvs, o => o = .frz od (.dK ws) ∧ RepKV K Hs kvs ws
def RepO (K : PySem.W.Frag) (Hs : Hp) : Cont → HO → Prop
  | .lst xs, o => ∃ vs, o = .lst vs ∧ RepL K Hs xs vs
  | .dct kvs, o => ∃ ws, o = .dK ws ∧ RepKV K Hs kvs ws
  | .obj C fs, o => ∃ dx ws, o = .ins C dx ws ∧ RepF K Hs fs ws
theorem RepC.same {K : PySem.W.Frag} {H H' : Hp} {c : Cell} {o : HO} (r : RepC K H c o) (s : Same H H') : RepC K H' c o := by
  cases c with
  | pur b => exact r
  | lst xs => obtain ⟨vs, e, r⟩ := r; exact ⟨vs, e, r.same s⟩
  | dct kvs => obtain ⟨vs, e, r⟩ := r; exact ⟨vs, e, r.same s⟩
  | obj C fs => obtain ⟨dx, vs, e, r⟩ := r; exact ⟨dx, vs, e, r.same s⟩
  | lck od ws kvs => exact ⟨r.1, r.2.same s⟩
theorem RepO.same {K : PySem.W.Frag} {H H' : Hp} {c : Cont} {o : HO} (r : RepO K H c o) (s : Same H H') : RepO K H' c o := by
  cases c with
  | lst xs => obtain ⟨vs, e, r⟩ := r; exact ⟨vs, e, r.same s⟩
  | dct kvs => obtain ⟨vs, e, r⟩ := r; exact ⟨vs, e, r.same s⟩
  | obj C fs => obtain ⟨dx, vs, e, r⟩ := r; exact ⟨dx, vs, e, r.same s⟩
theorem RepO.rep {K : PySem.W.Frag} {H : Hp} {c : Cont} {o : HO} {p : Addr} (r : RepO K H c o) (h : H p = some o) : Rep K H c.d (.ref p) := by
  cases c with
  | lst xs => obtain ⟨vs, e, r⟩ := r; subst e; exact .lst h r
  | dct kvs => obtain ⟨vs, e, r⟩ := r; subst e; exact .dct (.inl h) r
  | obj C fs => obtain ⟨dx, vs, e, r⟩ := r; subst e; exact .obj h r
inductive Slot where
  | non | shr (d : D) | own (c : Cont)
abbrev Env := List Slot
structure Fits (K : PySem.W.Frag) (Hs H : Hp) (C : Cs) : Prop where
  sub : Same Hs H
  cel : ∀ a c, C a = some c → Hs a = none ∧ ∃ o, H a = some o ∧ RepC K Hs c o
/-- the entry: what stays, the heap, the cells; the floor: what stays at least -/
structure Z0 where
  Hs : Hp
  H : Hp
  C : Cs
  F : Hp
structure Bas (Z : Z0) (Hs H : Hp) (C : Cs) : Prop where
  fl : Same Z.F Hs
  kp : ∀ a o, Z.H a = some o → Z.C a = none → H a = some o ∧ C a = none ∧ (Z.Hs a = none → Hs a = none)
  th : ∀ a o, Z.H a = some o → ∃ o', H a = some o'
structure Slots (K : PySem.W.Frag) (Z : Z0) (σ : St) (Hs H : Hp) (env : Env) (C : Cs) : Prop where
  len : env.length = σ.length
  shr : ∀ (i : Nat) (d : D), env[i]? = some (Slot.shr d) → ∃ v, σ[i]? = some (some v) ∧ Rep K Hs d v
  own : ∀ (i : Nat) (c : Cont), env[i]? = some (Slot.own c) → ∃ p o, σ[i]? = some (some (V.ref p)) ∧ H p = some o ∧ RepO K Hs c o ∧ Hs p = none ∧ C p = none ∧ Z.H p = none
  sep : ∀ (i j : Nat) (c c' : Cont) (p : Addr), i ≠ j → env[i]? = some (Slot.own c) → env[j]? = some (Slot.own c') → σ[i]? = some (some (V.ref p)) → σ[j]? ≠ some (some (V.ref p))
structure SR (K : PySem.W.Frag) (Z : Z0) (σ : St) (Hs H : Hp) (env : Env) (C : Cs) : Prop where
  fit : Fits K Hs H C
  bas : Bas Z Hs H C
  slt : Slots K Z σ Hs H env C
/-- a step of an expression -/
structure Tr (Hs H : Hp) (C : Cs) (Hs' H' : Hp) (C' : Cs) : Prop where
  fr : Same Hs Hs'
  kp : ∀ a o, H a = some o → C a = none → H' a = some o ∧ C' a = none
theorem Tr.refl {Hs H : Hp} {C : Cs} : Tr Hs H C Hs H C := ⟨Same.refl _, fun _ _ h c => ⟨h, c⟩⟩
theorem Tr.trans {Hs H Hs1 H1 Hs2 H2 : Hp} {C C1 C2 : Cs} (a : Tr Hs H C Hs1 H1 C1) (b : Tr Hs1 H1 C1 Hs2 H2 C2) : Tr Hs H C Hs2 H2 C2 :=
  ⟨a.fr.trans b.fr, fun x o h c => let ⟨h1, c1⟩ := a.kp x o h c; b.kp x o h1 c1⟩
/-! ### results -/
abbrev RR (α : Type) := PySem.W.Frag → Z0 → St → Hp → Hp → Env → Cs → α → V → Prop
def RShr : RR D := fun K _ _ Hs _ _ _ d v => Rep K Hs d v
/-- shared, or a container of nobody else's whose items are shared -/
def RPk : RR D := fun K _ _ Hs H _ C d v => Rep K Hs d v ∨ ∃ c p o, d = c.d ∧ v = .ref p ∧ H p = some o ∧ RepO K Hs c o ∧ C p = none
/-- a new container -/
def RFr : RR Cont := fun K Z σ Hs H env C c v => ∃ p o, v = .ref p ∧ H p = some o ∧ RepO K Hs c o ∧ Hs p = none ∧ C p = none ∧ Z.H p = none ∧
  ∀ (i : Nat) (c' : Cont), env[i]? = some (Slot.own c') → σ[i]? ≠ some (some (V.ref p))
inductive XD where
  | own (C : Addr) (fs : List (Str × D)) | blt (n : String)
abbrev DM (α : Type) := Env → Cs → (α → Env → Cs → Prop) → Prop
abbrev EX := XD → Env → Cs → Prop
abbrev EM (α : Type) := EX → DM α
def RX (K : PySem.W.Frag) (Hs H : Hp) : XD → Value → Option Addr → Prop
  | .own C fs, cls, dx => cls = .ref C ∧ ∃ x ws, dx = some x ∧ Hs x = some (.xd ws) ∧ RepF K Hs fs ws
  | .blt n, cls, _ => cls = .type n
def LG (K : PySem.W.Frag) {α : Type} (R : RR α) (Z : Z0) (m : DM α) : TE := fun σ H Q => ∃ Hs env C P, SR K Z σ Hs H env C ∧ m env C P ∧
  ∀ d env' C' v Hs' H', P d env' C' → Tr Hs H C Hs' H' C' → SR K Z σ Hs' H' env' C' → R K Z σ Hs' H' env' C' d v → Q v H'
def LT (K : PySem.W.Frag) (Z : Z0) (m : DM Bool) : TT := fun σ H Q => ∃ Hs env C P, SR K Z σ Hs H env C ∧ m env C P ∧
  ∀ b env' C' Hs' H', P b env' C' → Tr Hs H C Hs' H' C' → SR K Z σ Hs' H' env' C' → Q b H'
/-- several results -/
inductive RAll (K : PySem.W.Frag) (R : RR D) (Z : Z0) (σ : St) (Hs H : Hp) (env : Env) (C : Cs) : List D → List V → Prop
  | nil : RAll K R Z σ Hs H env C [] []
  | cons {d : D} {v : V} {ds : List D} {vs : List V} : R K Z σ Hs H env C d v → RAll K R Z σ Hs H env C ds vs → RAll K R Z σ Hs H env C (d :: ds) (v :: vs)
def LA (K : PySem.W.Frag) (R : RR D) (Z : Z0) (m : DM (List D)) : TA := fun σ H Q => ∃ Hs env C P, SR K Z σ Hs H env C ∧ m env C P ∧
  ∀ ds env' C' vs Hs' H', P ds env' C' → Tr Hs H C Hs' H' C' → SR K Z σ Hs' H' env' C' → RAll K R Z σ Hs' H' env' C' ds vs → Q vs H'
/-- what is wished of exceptions is taken -/
def DXw (K : PySem.W.Frag) (Z : Z0) (E : EX) : WX := fun cls dx σ H => ∃ Hs env C x, SR K Z σ Hs H env C ∧ RX K Hs H x cls dx ∧ E x env C
def DX (X : Cx) (Z : Z0) (E : EX) : Prop := Takes X (DXw X.K Z E)
def DE (X : Cx) {α : Type} (R : RR α) (e : Expr) (m : EM α) : Prop := ∀ Z E, DX X Z E → PE X e (LG X.K R Z (m E))
def DT (X : Cx) (e : Expr) (m : EM Bool) : Prop := ∀ Z E, DX X Z E → PT X e (LT X.K Z (m E))
def DA (X : Cx) (R : RR D) (es : List Expr) (m : EM (List D)) : Prop := ∀ Z E, DX X Z E → PA X es (LA X.K R Z (m E))
/-! ### statements -/
inductive Ret where
  | shr (d : D) | frs (c : Cont)
def RRet (K : PySem.W.Frag) (Z : Z0) (Hs H : Hp) (C : Cs) : Ret → V → Prop
  | .shr d, v => Rep K Hs d v
  | .frs c, v => ∃ p o, v = .ref p ∧ H p = some o ∧ RepO K Hs c o ∧ Hs p = none ∧ C p = none ∧ Z.H p = none
structure DEnds where
  nx : Env → Cs → Prop
  rt : Ret → Cs → Prop
  bk : Env → Cs → Prop := fun _ _ => False
  ct : Env → Cs → Prop := fun _ _ => False
abbrev SM := EX → DEnds → Env → Cs → Prop
def EndsOk (K : PySem.W.Frag) (Z : Z0) (dE : DEnds) (D : Ends) : Prop :=
  (∀ σ Hs H env C, SR K Z σ Hs H env C → dE.nx env C → D.nx σ H) ∧
  (∀ r v Hs H C, Fits K Hs H C → Bas Z Hs H C → RRet K Z Hs H C r v → dE.rt r C → D.rt v H) ∧
  (∀ σ Hs H env C, SR K Z σ Hs H env C → dE.bk env C → D.bk σ H) ∧
  (∀ σ Hs H env C, SR K Z σ Hs H env C → dE.ct env C → D.ct σ H)
def LS (K : PySem.W.Frag) (Z : Z0) (m : DEnds → Env → Cs → Prop) : TS := fun D σ H => ∃ Hs env C dE, SR K Z σ Hs H env C ∧ EndsOk K Z dE D ∧ m dE env C
def DS (X : Cx) (st : Stmt) (m : SM) : Prop := ∀ Z E, DX X Z E → PS X st (LS X.K Z (m E))
def DSs (X : Cx) (sts : List Stmt) (m : SM) : Prop := ∀ Z E, DX X Z E → PSs X sts (LS X.K Z (m E))
end L2.DL
/-! DLb: steps of the state; operators, names, constants, tests. -/
namespace L2.DL
open PySem PySem.Spec PyProof.Rows
section
variable {K : PySem.W.Frag} {Z : Z0} {σ : St} {Hs H Hs' H' : Hp} {env : DL.Env} {C C' : Cs} {p : Addr} {o : HO} {d : D} {v : V} {c : Cont}
theorem same_upd {H : Hp} {p : Addr} {o : HO} (h : H p = none) : Same H (upd H p o) := fun b u e => by
  rw [upd_ne (ne_of_none e h)]; exact e
theorem Fits.nothing (f : Fits K Hs H C) (h : H p = none) : Hs p = none ∧ C p = none := by
  constructor
  · cases e : Hs p with
    | none => rfl
    | some u => rw [f.sub _ _ e] at h; cases h
  · cases e : C p with
    | none => rfl
    | some u => obtain ⟨_, o, e1, _⟩ := f.cel _ _ e; rw [e1] at h; cases h
theorem Fits.lay (f : Fits K Hs H C) (h : H p = none) : Fits K (upd Hs p o) (upd H p o) C := by
  obtain ⟨h1, h2⟩ := f.nothing h
  refine ⟨fun b u e => ?_, fun a c e => ?_⟩
  · by_cases hb : b = p
    · subst hb; rw [upd_same] at e ⊢; exact e
    · rw [upd_ne hb] at e ⊢; exact f.sub _ _ e
  · have ha : a ≠ p := fun q => by rw [q, h2] at e; cases e
    obtain ⟨q, u, e1, r⟩ := f.cel _ _ e
    exact ⟨by rw [upd_ne ha]; exact q, u, by rw [upd_ne ha]; exact e1, r.same (same_upd h1)⟩
theorem Fits.layP (f : Fits K Hs H C) (h : H p = none) : Fits K Hs (upd H p o) C := by
  refine ⟨fun b u e => ?_, fun a c e => ?_⟩
  · rw [upd_ne (ne_of_none (f.sub _ _ e) h)]; exact f.sub _ _ e
  · obtain ⟨q, u, e1, r⟩ := f.cel _ _ e
    exact ⟨q, u, by rw [upd_ne (ne_of_none e1 h)]; exact e1, r⟩
theorem Fits.frz (f : Fits K Hs H C) (h : H p = some o) (h1 : Hs p = Option.none) (h2 : C p = Option.none) : Fits K (upd Hs p o) H C := by
  refine ⟨fun b u e => ?_, fun a c e => ?_⟩
  · by_cases hb : b = p
    · subst hb; rw [upd_same] at e; cases e; exact h
    · rw [upd_ne hb] at e; exact f.sub _ _ e
  · have ha : a ≠ p := fun q => by rw [q, h2] at e; cases e
    obtain ⟨q, u, e1, r⟩ := f.cel _ _ e
    exact ⟨by rw [upd_ne ha]; exact q, u, e1, r.same (same_upd h1)⟩
theorem Bas.lay (b : Bas Z Hs H C) (f : Fits K Hs H C) (h : H p = none) : Bas Z (upd Hs p o) (upd H p o) C := by
  obtain ⟨h1, h2⟩ := f.nothing h
  refine ⟨fun x u e => same_upd h1 _ _ (b.fl _ _ e), fun a u e c => ?_, fun a u e => ?_⟩
  · obtain ⟨e1, e2, e3⟩ := b.kp a u e c
    have ha : a ≠ p := ne_of_none e1 h
    exact ⟨by rw [upd_ne ha]; exact e1, e2, fun q => by rw [upd_ne ha]; exact e3 q⟩
  · obtain ⟨o', e1⟩ := b.th a u e
    exact ⟨o', by rw [upd_ne (ne_of_none e1 h)]; exact e1⟩
theorem Bas.layP (b : Bas Z Hs H C) (h : H p = none) : Bas Z Hs (upd H p o) C := by
  refine ⟨b.fl, fun a u e c => ?_, fun a u e => ?_⟩
  · obtain ⟨e1, e2, e3⟩ := b.kp a u e c
    exact ⟨by rw [upd_ne (ne_of_none e1 h)]; exact e1, e2, e3⟩
  · obtain ⟨o', e1⟩ := b.th a u e
    exact ⟨o', by rw [upd_ne (ne_of_none e1 h)]; exact e1⟩
theorem Bas.frz (b : Bas Z Hs H C) (h1 : Hs p = none) (hz : Z.H p = none) : Bas Z (upd Hs p o) H C := by
  refine ⟨fun x u e => same_upd h1 _ _ (b.fl _ _ e), fun a u e c => ?_, b.th⟩
  obtain ⟨e1, e2, e3⟩ := b.kp a u e c
  have ha : a ≠ p := ne_of_none e hz
  exact ⟨e1, e2, fun q => by rw [upd_ne ha]; exact e3 q⟩
theorem Bas.zfree (b : Bas Z Hs H C) (h : H p = none) : Z.H p = none := by
  cases e : Z.H p with
  | none => rfl
  | some u =>
    obtain ⟨o', e1⟩ := b.th _ _ e
    rw [e1] at h
    cases h
theorem th_upd {o' : HO} (t : ∀ a o, Z.H a = some o → ∃ o', H a = some o') : ∀ a o, Z.H a = some o → ∃ u, upd H p o' a = some u := fun a u e => by
  by_cases ha : a = p
  · subst ha
    exact ⟨o', upd_same⟩
  · rw [upd_ne ha]
    exact t a u e
/-- a new object that stays -/
theorem SR.lay (r : SR K Z σ Hs H env C) (h : H p = none) (o : HO) : SR K Z σ (upd Hs p o) (upd H p o) env C := by
  obtain ⟨h1, h2⟩ := r.fit.nothing h
  refine ⟨r.fit.lay h, r.bas.lay r.fit h, r.slt.len, fun i d e => ?_, fun i c e => ?_, r.slt.sep⟩
  · obtain ⟨v, e1, q⟩ := r.slt.shr i d e
    exact ⟨v, e1, q.same (same_upd h1)⟩
  · obtain ⟨q, u, e1, e2, r1, n1, n2, n3⟩ := r.slt.own i c e
    have hq : q ≠ p := ne_of_none e2 h
    exact ⟨q, u, e1, by rw [upd_ne hq]; exact e2, r1.same (same_upd h1), by rw [upd_ne hq]; exact n1, n2, n3⟩
theorem Tr.lay (f : Fits K Hs H C) (h : H p = none) (o : HO) : Tr Hs H C (upd Hs p o) (upd H p o) C :=
  ⟨same_upd (f.nothing h).1, fun a u e c => ⟨by rw [upd_ne (ne_of_none e h)]; exact e, c⟩⟩
/-- a new object of nobody's -/
theorem SR.layP (r : SR K Z σ Hs H env C) (h : H p = none) (o : HO) : SR K Z σ Hs (upd H p o) env C := by
  refine ⟨r.fit.layP h, r.bas.layP h, r.slt.len, r.slt.shr, fun i c e => ?_, r.slt.sep⟩
  obtain ⟨q, u, e1, e2, r1, n1, n2, n3⟩ := r.slt.own i c e
  exact ⟨q, u, e1, by rw [upd_ne (ne_of_none e2 h)]; exact e2, r1, n1, n2, n3⟩
theorem Tr.layP (h : H p = none) (o : HO) : Tr Hs H C Hs (upd H p o) C :=
  ⟨Same.refl _, fun a u e c => ⟨by rw [upd_ne (ne_of_none e h)]; exact e, c⟩⟩
/-- a thing of nobody's stays from now on -/
theorem SR.frz (r : SR K Z σ Hs H env C) (h : H p = some o) (h1 : Hs p = none) (h2 : C p = none) (hz : Z.H p = none)
    (no : ∀ (i : Nat) (c' : Cont), env[i]? = some (Slot.own c') → σ[i]? ≠ some (some (V.ref p))) : SR K Z σ (upd Hs p o) H env C := by
  refine ⟨r.fit.frz h h1 h2, r.bas.frz h1 hz, r.slt.len, fun i d e => ?_, fun i c e => ?_, r.slt.sep⟩
  · obtain ⟨v, e1, q⟩ := r.slt.shr i d e
    exact ⟨v, e1, q.same (same_upd h1)⟩
  · obtain ⟨q, u, e1, e2, r1, n1, n2, n3⟩ := r.slt.own i c e
    have hq : q ≠ p := fun z => no i c e (by rw [← z]; exact e1)
    exact ⟨q, u, e1, e2, r1.same (same_upd h1), by rw [upd_ne hq]; exact n1, n2, n3⟩
theorem Tr.frz (h1 : Hs p = none) : Tr Hs H C (upd Hs p o) H C := ⟨same_upd h1, fun _ _ e c => ⟨e, c⟩⟩
/-- a slot's container stays from now on -/
theorem SR.frzS {i : Nat} (r : SR K Z σ Hs H env C) (hi : env[i]? = some (Slot.own c)) :
    ∃ p o, σ[i]? = some (some (V.ref p)) ∧ H p = some o ∧ Hs p = none ∧ RepO K Hs c o ∧ SR K Z σ (upd Hs p o) H (env.set i (.shr c.d)) C := by
  obtain ⟨p, o, e1, e2, r1, n1, n2, n3⟩ := r.slt.own i c hi
  refine ⟨p, o, e1, e2, n1, r1, r.fit.frz e2 n1 n2, r.bas.frz n1 n3, by rw [List.length_set]; exact r.slt.len, fun j d e => ?_, fun j c' e => ?_, fun j k c' c'' q ne e f => ?_⟩
  · by_cases hj : i = j
    · subst hj
      rw [List.getElem?_set_self (List.getElem?_eq_some_iff.mp hi).1] at e
      cases e
      exact ⟨_, e1, (r1.same (same_upd n1)).rep upd_same⟩
    · rw [List.getElem?_set_ne hj] at e
      obtain ⟨v, e1, q⟩ := r.slt.shr j d e
      exact ⟨v, e1, q.same (same_upd n1)⟩
  · by_cases hj : i = j
    · subst hj
      rw [List.getElem?_set_self (List.getElem?_eq_some_iff.mp hi).1] at e
      cases e
    · rw [List.getElem?_set_ne hj] at e
      obtain ⟨q, u, f1, f2, r2, m1, m2, m3⟩ := r.slt.own j c' e
      have hq : q ≠ p := fun z => r.slt.sep i j c c' p hj hi e e1 (by rw [← z]; exact f1)
      exact ⟨q, u, f1, f2, r2.same (same_upd n1), by rw [upd_ne hq]; exact m1, m2, m3⟩
  · by_cases hj : i = j
    · subst hj
      rw [List.getElem?_set_self (List.getElem?_eq_some_iff.mp hi).1] at e
      cases e
    · by_cases hk : i = k
      · subst hk
        rw [List.getElem?_set_self (List.getElem?_eq_some_iff.mp hi).1] at f
        cases f
      · rw [List.getElem?_set_ne hj] at e
        rw [List.getElem?_set_ne hk] at f
        exact r.slt.sep j k c' c'' q ne e f
/-- a slot is stored, shared -/
theorem SR.setS {i : Nat} (r : SR K Z σ Hs H env C) (hv : Rep K Hs d v) : SR K Z (σ.set i (some v)) Hs H (env.set i (.shr d)) C := by
  refine ⟨r.fit, r.bas, by rw [List.length_set, List.length_set]; exact r.slt.len, fun j d' e => ?_, fun j c' e => ?_, fun j k c' c'' q ne e f => ?_⟩
  · by_cases hj : i = j
    · subst hj
      have hl : i < env.length := by
        have := (List.getElem?_eq_some_iff.mp e).1
        simpa using this
      rw [List.getElem?_set_self hl] at e
      cases e
      exact ⟨v, List.getElem?_set_self (by rw [← r.slt.len]; exact hl), hv⟩
    · rw [List.getElem?_set_ne hj] at e ⊢
      exact r.slt.shr j d' e
  · by_cases hj : i = j
    · subst hj
      have hl : i < env.length := by
        have := (List.getElem?_eq_some_iff.mp e).1
        simpa using this
      rw [List.getElem?_set_self hl] at e
      cases e
    · rw [List.getElem?_set_ne hj] at e ⊢
      exact r.slt.own j c' e
  · by_cases hj : i = j
    · subst hj
      have hl : i < env.length := by
        have := (List.getElem?_eq_some_iff.mp e).1
        simpa using this
      rw [List.getElem?_set_self hl] at e
      cases e
    · by_cases hk : i = k
      · subst hk
        have hl : i < env.length := by
          have := (List.getElem?_eq_some_iff.mp f).1
          simpa using this
        rw [List.getElem?_set_self hl] at f
        cases f
      · rw [List.getElem?_set_ne hj] at e ⊢
        rw [List.getElem?_set_ne hk] at f ⊢
        exact r.slt.sep j k c' c'' q ne e f
/-- a slot takes a new container -/
theorem SR.setO {i : Nat} (r : SR K Z σ Hs H env C) (h : RFr K Z σ Hs H env C c v) : SR K Z (σ.set i (some v)) Hs H (env.set i (.own c)) C := by
  obtain ⟨p, o, rfl, e2, r1, n1, n2, n3, no⟩ := h
  have lt : ∀ {x : Slot}, (env.set i x)[i]? = some x → i < env.length := fun e => by
    have := (List.getElem?_eq_some_iff.mp e).1
    simpa using this
  refine ⟨r.fit, r.bas, by rw [List.length_set, List.length_set]; exact r.slt.len, fun j d' e => ?_, fun j c' e => ?_, fun j k c' c'' q ne e f g => ?_⟩
  · by_cases hj : i = j
    · subst hj
      have hl : i < env.length := by
        have := (List.getElem?_eq_some_iff.mp e).1
        simpa using this
      rw [List.getElem?_set_self hl] at e
      cases e
    · rw [List.getElem?_set_ne hj] at e ⊢
      exact r.slt.shr j d' e
  · by_cases hj : i = j
    · subst hj
      have hl : i < env.length := by
        have := (List.getElem?_eq_some_iff.mp e).1
        simpa using this
      rw [List.getElem?_set_self hl] at e
      cases e
      exact ⟨p, o, List.getElem?_set_self (by rw [← r.slt.len]; exact hl), e2, r1, n1, n2, n3⟩
    · rw [List.getElem?_set_ne hj] at e ⊢
      exact r.slt.own j c' e
  · by_cases hj : i = j
    · subst hj
      have hl : i < env.length := by
        have := (List.getElem?_eq_some_iff.mp e).1
        simpa using this
      rw [List.getElem?_set_self (by rw [← r.slt.len]; exact hl)] at g
      cases g
      rw [List.getElem?_set_ne ne] at f ⊢
      exact no k c'' f
    · by_cases hk : i = k
      · subst hk
        have hl : i < env.length := by
          have := (List.getElem?_eq_some_iff.mp f).1
          simpa using this
        rw [List.getElem?_set_self (by rw [← r.slt.len]; exact hl)]
        rw [List.getElem?_set_ne hj] at e g
        intro z
        cases z
        exact no j c' e g
      · rw [List.getElem?_set_ne hj] at e g
        rw [List.getElem?_set_ne hk] at f ⊢
        exact r.slt.sep j k c' c'' q ne e f g
/-- a slot's container is written -/
theorem SR.wrO {i : Nat} {c' : Cont} {o' : HO} (r : SR K Z σ Hs H env C) (hi : env[i]? = some (Slot.own c)) (hp : σ[i]? = some (some (V.ref p))) (h : RepO K Hs c' o') :
    SR K Z σ Hs (upd H p o') (env.set i (.own c')) C := by
  obtain ⟨p', o, e1, e2, r1, n1, n2, n3⟩ := r.slt.own i c hi
  rw [hp] at e1
  cases e1
  have il := (List.getElem?_eq_some_iff.mp hi).1
  refine ⟨⟨fun b u e => ?_, fun a c e => ?_⟩, ⟨r.bas.fl, fun a u e c => ?_, th_upd r.bas.th⟩, by rw [List.length_set]; exact r.slt.len, fun j d' e => ?_, fun j c2 e => ?_, fun j k c2 c3 q ne e f => ?_⟩
  · rw [upd_ne (ne_of_none e n1)]; exact r.fit.sub _ _ e
  · obtain ⟨q, u, e1, r2⟩ := r.fit.cel _ _ e
    have ha : a ≠ p := fun z => by rw [z, n2] at e; cases e
    exact ⟨q, u, by rw [upd_ne ha]; exact e1, r2⟩
  · obtain ⟨q1, q2, q3⟩ := r.bas.kp a u e c
    exact ⟨by rw [upd_ne (ne_of_none e n3)]; exact q1, q2, q3⟩
  · by_cases hj : i = j
    · subst hj
      rw [List.getElem?_set_self il] at e
      cases e
    · rw [List.getElem?_set_ne hj] at e
      exact r.slt.shr j d' e
  · by_cases hj : i = j
    · subst hj
      rw [List.getElem?_set_self il] at e
      cases e
      exact ⟨p, o', hp, upd_same, h, n1, n2, n3⟩
    · rw [List.getElem?_set_ne hj] at e
      obtain ⟨q, u, f1, f2, r2, m1, m2, m3⟩ := r.slt.own j c2 e
      have hq : q ≠ p := fun z => r.slt.sep i j c c2 p hj hi e hp (by rw [← z]; exact f1)
      exact ⟨q, u, f1, by rw [upd_ne hq]; exact f2, r2, m1, m2, m3⟩
  · by_cases hj : i = j
    · subst hj
      by_cases hk : i = k
      · exact absurd hk ne
      · rw [List.getElem?_set_ne hk] at f
        exact r.slt.sep i k c c3 q ne hi f
    · rw [List.getElem?_set_ne hj] at e
      by_cases hk : i = k
      · subst hk
        exact r.slt.sep j i c2 c q ne e hi
      · rw [List.getElem?_set_ne hk] at f
        exact r.slt.sep j k c2 c3 q ne e f
/-- a cell is written -/
theorem SR.wrC {a : Addr} {cl cl' : Cell} {o' : HO} (r : SR K Z σ Hs H env C) (ha : C a = some cl) (h : RepC K Hs cl' o') : SR K Z σ Hs (upd H a o') env (cput C a cl') := by
  obtain ⟨q, u, e1, r1⟩ := r.fit.cel _ _ ha
  refine ⟨⟨fun b u e => ?_, fun b c e => ?_⟩, ⟨r.bas.fl, fun b u e c => ?_, th_upd r.bas.th⟩, r.slt.len, r.slt.shr, fun j c2 e => ?_, r.slt.sep⟩
  · rw [upd_ne (ne_of_none e q)]; exact r.fit.sub _ _ e
  · by_cases hb : b = a
    · subst hb
      rw [cput_same] at e
      cases e
      exact ⟨q, o', upd_same, h⟩
    · rw [cput_ne hb] at e
      obtain ⟨q, u, e1, r2⟩ := r.fit.cel _ _ e
      exact ⟨q, u, by rw [upd_ne hb]; exact e1, r2⟩
  · obtain ⟨q1, q2, q3⟩ := r.bas.kp b u e c
    have hb : b ≠ a := fun z => by rw [z, ha] at q2; cases q2
    exact ⟨by rw [upd_ne hb]; exact q1, by rw [cput_ne hb]; exact q2, q3⟩
  · obtain ⟨q, u, f1, f2, r2, m1, m2, m3⟩ := r.slt.own j c2 e
    have hq : q ≠ a := fun z => by rw [z, ha] at m2; cases m2
    exact ⟨q, u, f1, by rw [upd_ne hq]; exact f2, r2, m1, by rw [cput_ne hq]; exact m2, m3⟩
/-! ### reading a result -/
theorem RPk.tr (h : RPk K Z σ Hs H env C d v) (t : Tr Hs H C Hs' H' C') {Z' : Z0} {σ' : St} {env' : DL.Env} : RPk K Z' σ' Hs' H' env' C' d v := by
  rcases h with h | ⟨c, p, o, e1, e2, e3, e4, e5⟩
  · exact .inl (h.same t.fr)
  · obtain ⟨q1, q2⟩ := t.kp _ _ e3 e5
    exact .inr ⟨c, p, o, e1, e2, q1, e4.same t.fr, q2⟩
/-- read through a cell -/
def dr (C : Cs) : D → D
  | .cell a => match C a with
    | some (.lst xs) => .lst xs
    | some (.dct kvs) => .dct kvs
    | some (.obj c fs) => .obj c fs
    | some (.lck _ _ kvs) => .dct kvs
    | _ => .cell a
  | .tupT ts => .tup (ts.map .str)
  | d => d
theorem repl_strs {K : PySem.W.Frag} {Hs : Hp} : ∀ ts : List Txt, RepL K Hs (ts.map .str) ((ts.map sV).map V.str)
  | [] => .nil
  | t :: r => .cons (.str t) (repl_strs r)
/-- what v is now -/
inductive RNow (K : PySem.W.Frag) (Hs H : Hp) : D → V → Prop
  | non : RNow K Hs H .non .non
  | bl (b : Bool) : RNow K Hs H (.bl b) (.bl b)
  | int (i : Int) : RNow K Hs H (.int i) (.int i)
  | str (s : Txt) : RNow K Hs H (.str s) (.str (sV s))
  | tup {xs : List D} {a : Addr} {vs : List V} : TupA Hs a vs → RepL K Hs xs vs → RNow K Hs H (.tup xs) (.ref a)
  | lst {xs : List D} {a : Addr} {vs : List V} : H a = some (.lst vs) → RepL K Hs xs vs → RNow K Hs H (.lst xs) (.ref a)
  | dct {kvs : List (DK × D)} {a : Addr} {ws : List (Key × V)} : Rd H a (.dK ws) → RepKV K Hs kvs ws → RNow K Hs H (.dct kvs) (.ref a)
  | obj {C a dx : Addr} {fs : List (Str × D)} {ws : List (Str × V)} : H a = some (.ins C dx ws) → RepF K Hs fs ws → RNow K Hs H (.obj C fs) (.ref a)
  | cell (a : Addr) : RNow K Hs H (.cell a) (.ref a)
  | ty (n : String) : RNow K Hs H (.ty n) (.ty n)
  | scr {ns : List Int} {a : Addr} : SqL K H a (ns.map V.int) → RNow K Hs H (.scr ns) (.ref a)
  | exc {a C dd : Addr} {fs : List (Str × D)} {ws : List (Str × V)} : Hs dd = some (.xd ws) → RepF K Hs fs ws → RNow K Hs H (.exc a C dd fs) (.ref a)
  | tupT {ts : List Txt} {a : Addr} {o : Obj} : o.dict = none → Hs a = some (.frz o (.tup ((ts.map sV).map V.str))) → RNow K Hs H (.tupT ts) (.ref a)
  | kt {a : Addr} : KT0 K a → RNow K Hs H .kt (.ref a)
theorem Rep.now (f : Fits K Hs H C) (h : Rep K Hs d v) : RNow K Hs H d v := by
  cases h with
  | non => exact .non
  | bl b => exact .bl b
  | int i => exact .int i
  | str s => exact .str s
  | tup e r => exact .tup e r
  | lst e r => exact .lst (f.sub _ _ e) r
  | dct e r => exact .dct (Same.rd f.sub e) r
  | obj e r => exact .obj (f.sub _ _ e) r
  | cell a => exact .cell a
  | ty n => exact .ty n
  | scr e => exact .scr (f.sub.seq e)
  | exc e r => exact .exc e r
  | tupT d e => exact .tupT d e
  | kt h => exact .kt h
theorem RPk.now (f : Fits K Hs H C) (h : RPk K Z σ Hs H env C d v) : RNow K Hs H (dr C d) v := by
  rcases h with h | ⟨c, p, o, e1, e2, e3, e4, e5⟩
  · have h' := h.now f
    cases h' with
    | cell a =>
      show RNow K Hs H (match C a with
        | some (.lst xs) => D.lst xs
        | some (.dct kvs) => D.dct kvs
        | some (.obj c fs) => D.obj c fs
        | some (.lck _ _ kvs) => D.dct kvs
        | _ => D.cell a) (.ref a)
      cases e : C a with
      | none => exact .cell a
      | some cl =>
        obtain ⟨_, o, e1, r⟩ := f.cel _ _ e
        cases cl with
        | pur => exact .cell a
        | lst xs => obtain ⟨vs, rfl, r⟩ := r; exact .lst e1 r
        | dct xs => obtain ⟨vs, rfl, r⟩ := r; exact .dct (.inl e1) r
        | lck od ws xs => obtain ⟨rfl, r⟩ := r; exact .dct (.inr ⟨_, e1⟩) r
        | obj C fs => obtain ⟨dx, vs, rfl, r⟩ := r; exact .obj e1 r
    | non => exact .non
    | bl b => exact .bl b
    | int i => exact .int i
    | str s => exact .str s
    | tup e r => exact .tup e r
    | lst e r => exact .lst e r
    | dct e r => exact .dct e r
    | obj e r => exact .obj e r
    | ty n => exact .ty n
    | scr e => exact .scr e
    | exc e r => exact .exc e r
    | tupT d e => exact .tup (.inr ⟨_, d, e⟩) (repl_strs _)
    | kt e => exact .kt e
  · subst e1 e2
    cases c with
    | lst xs => obtain ⟨vs, rfl, r⟩ := e4; exact .lst e3 r
    | dct kvs => obtain ⟨vs, rfl, r⟩ := e4; exact .dct (.inl e3) r
    | obj C fs => obtain ⟨dx, vs, rfl, r⟩ := e4; exact .obj e3 r
@[simp] theorem dr_non {C : Cs} : dr C .non = .non := rfl
@[simp] theorem dr_bl {C : Cs} {b} : dr C (.bl b) = .bl b := rfl
@[simp] theorem dr_int {C : Cs} {b} : dr C (.int b) = .int b := rfl
@[simp] theorem dr_str {C : Cs} {b} : dr C (.str b) = .str b := rfl
@[simp] theorem dr_tup {C : Cs} {b} : dr C (.tup b) = .tup b := rfl
@[simp] theorem dr_lst {C : Cs} {b} : dr C (.lst b) = .lst b := rfl
@[simp] theorem dr_dct {C : Cs} {b} : dr C (.dct b) = .dct b := rfl
@[simp] theorem dr_obj {C : Cs} {b c} : dr C (.obj b c) = .obj b c := rfl
@[simp] theorem dr_ty {C : Cs} {b} : dr C (.ty b) = .ty b := rfl
@[simp] theorem dr_scr {C : Cs} {b} : dr C (.scr b) = .scr b := rfl
theorem dr_cell {C : Cs} {a : Addr} : dr C (.cell a) = match C a with
    | some (.lst xs) => .lst xs
    | some (.dct kvs) => .dct kvs
    | some (.obj c fs) => .obj c fs
    | some (.lck _ _ kvs) => .dct kvs
    | _ => .cell a := rfl
end
/-! ### a result stands for another kind of result -/
section
variable {X : Cx} {e : Expr}
/-- the mapping of a result -/
def mMap {α β : Type} (f : α → β) (m : EM α) : EM β := fun E env C Q => m E env C fun a env' C' => Q (f a) env' C'
theorem DE.pk {m : EM D} (h : DE X RShr e m) : DE X RPk e m := fun Z E hE => ⟨fun pins s σ H Q I ⟨Hs, env, C, P, r, q, k⟩ =>
  (h Z E hE).run pins s σ H Q I ⟨Hs, env, C, P, r, q, fun d env' C' v Hs' H' p t s rr => k d env' C' v Hs' H' p t s (.inl rr)⟩⟩
/-- a new container, read as a tree -/
theorem DE.frz {m : EM Cont} (h : DE X RFr e m) : DE X RShr e (mMap Cont.d m) := fun Z E hE => ⟨fun pins s σ H Q I ⟨Hs, env, C, P, r, q, k⟩ =>
  (h Z E hE).run pins s σ H Q I ⟨Hs, env, C, fun c env' C' => P c.d env' C', r, q, fun c env' C' v Hs' H' p t s ⟨p', o, e1, e2, r1, n1, n2, n3, no⟩ => by
    subst e1
    exact k c.d env' C' _ (upd Hs' p' o) H' p (t.trans (Tr.frz n1)) (s.frz e2 n1 n2 n3 no) ((r1.same (same_upd n1)).rep upd_same)⟩⟩
theorem DE.frP {m : EM Cont} (h : DE X RFr e m) : DE X RPk e (mMap Cont.d m) := (DE.frz h).pk
end
end L2.DL
/-! DLc: expressions: names, constants, operators, comparisons, tests. -/
namespace L2.DL
open PySem PySem.Spec PyProof.Rows
section
variable {X : Cx} {e a b : Expr} {pos : Pos}
/-! ### names, constants -/
def mC {α : Type} (d : α) : EM α := fun _ env C Q => Q d env C
def mVar (i : Nat) : EM D := fun _ env C Q => match env[i]? with
  | some (.shr d) => Q d env C
  | some (.own c) => Q c.d (env.set i (.shr c.d)) C
  | _ => False
def mPeek (i : Nat) : EM D := fun _ env C Q => match env[i]? with
  | some (.shr d) => Q d env C
  | some (.own c) => Q c.d env C
  | _ => False
theorem d_var {i : Nat} (h : PE X e (tVar i)) : DE X RShr e (mVar i) := fun Z E hE => ⟨fun pins s σ H Q I ⟨Hs, env, C, P, r, q, k⟩ => by
  refine h.run pins s σ H Q I ?_
  unfold mVar at q
  split at q
  · rename_i d he
    obtain ⟨v, e1, rv⟩ := r.slt.shr i d he
    exact ⟨v, e1, k _ _ _ v Hs H q Tr.refl r rv⟩
  · rename_i c he
    obtain ⟨p, o, e1, e2, n1, rc, r'⟩ := r.frzS he
    exact ⟨_, e1, k _ _ _ _ _ H q (Tr.frz n1) r' ((rc.same (same_upd n1)).rep upd_same)⟩
  · exact q.elim⟩
theorem d_peek {i : Nat} (h : PE X e (tVar i)) : DE X RPk e (mPeek i) := fun Z E hE => ⟨fun pins s σ H Q I ⟨Hs, env, C, P, r, q, k⟩ => by
  refine h.run pins s σ H Q I ?_
  unfold mPeek at q
  split at q
  · rename_i d he
    obtain ⟨v, e1, rv⟩ := r.slt.shr i d he
    exact ⟨v, e1, k _ _ _ v Hs H q Tr.refl r (.inl rv)⟩
  · rename_i c he
    obtain ⟨p, o, e1, e2, rc, n1, n2, n3⟩ := r.slt.own i c he
    exact ⟨_, e1, k _ _ _ _ Hs H q Tr.refl r (.inr ⟨c, p, o, rfl, rfl, e2, rc, n2⟩)⟩
  · exact q.elim⟩
/-- a value that leans on no heap -/
theorem d_const {v : V} {d : D} (h : PE X e (tC v)) (r : ∀ Hs, Rep X.K Hs d v) : DE X RShr e (mC d) := fun Z E hE => ⟨fun pins s σ H Q I ⟨Hs, env, C, P, sr, q, k⟩ =>
  h.run pins s σ H Q I (k _ _ _ v Hs H q Tr.refl sr (r Hs))⟩
theorem d_int {i : Int} {j pos} : DE X RShr (.Constant (.int i) j pos) (mC (.int i)) := d_const pe_int fun _ => .int i
theorem d_bl {i : Bool} {j pos} : DE X RShr (.Constant (.bool i) j pos) (mC (.bl i)) := d_const pe_bl fun _ => .bl i
theorem d_non {j pos} : DE X RShr (.Constant .none j pos) (mC .non) := d_const pe_non fun _ => .non
theorem d_str {x : Str} {j pos} : DE X RShr (.Constant (.str x) j pos) (mC (.str x.cps.toList)) := d_const pe_str fun _ => by
  have := @Rep.str X.K (fun _ => none) x.cps.toList
  rename_i Hs
  have h := @Rep.str X.K Hs x.cps.toList
  rw [sV_of] at h
  exact h
/-! ### operators by values -/
structure OpD (X : Cx) (f : Value → Value → Sem Value) {α : Type} (R : RR α) (g : D → D → (α → Prop) → Prop) : Prop where
  ex : ∃ r : R2, OpR X f r ∧ ∀ Z σ Hs H env C d e v u (P : α → Prop) Q, SR X.K Z σ Hs H env C → RNow X.K Hs H d v → RNow X.K Hs H e u → g d e P →
    (∀ a w Hs' H', P a → Tr Hs H C Hs' H' C → SR X.K Z σ Hs' H' env C → R X.K Z σ Hs' H' env C a w → Q w H') → r v u H Q
def mOp {α : Type} (g : D → D → (α → Prop) → Prop) (ma mb : EM D) : EM α := fun E env C Q => ma E env C fun d env1 C1 => mb E env1 C1 fun e env2 C2 => g (dr C2 d) (dr C2 e) fun x => Q x env2 C2
theorem opd_run {f : Value → Value → Sem Value} {α : Type} {R : RR α} {g : D → D → (α → Prop) → Prop} (o : OpD X f R g) {ma mb : EM D} (ha : DE X RPk a ma) (hb : DE X RPk b mb) :
    ∃ r : R2, OpR X f r ∧ ∀ Z E, DX X Z E → ∀ σ H Q, LG X.K R Z (mOp g ma mb E) σ H Q → tOp r (LG X.K RPk Z (ma E)) (LG X.K RPk Z (mb E)) σ H Q := by
  obtain ⟨r, hr, hg⟩ := o.ex
  refine ⟨r, hr, fun Z E hE σ H Q ⟨Hs, env, C, P, sr, q, k⟩ => ?_⟩
  refine ⟨Hs, env, C, _, sr, q, fun d env1 C1 v Hs1 H1 q1 t1 s1 r1 => ?_⟩
  refine ⟨Hs1, env1, C1, _, s1, q1, fun e env2 C2 u Hs2 H2 q2 t2 s2 r2 => ?_⟩
  exact hg Z σ Hs2 H2 env2 C2 _ _ v u _ Q s2 ((r1.tr t2 (Z' := Z) (σ' := σ) (env' := env2)).now s2.fit) (r2.now s2.fit) q2 fun x w Hs' H' p t s rr => k _ _ _ w Hs' H' p ((t1.trans t2).trans t) s rr
theorem d_op {op : Operator} {α : Type} {R : RR α} {g : D → D → (α → Prop) → Prop} (o : OpD X (binaryOp op) R g) {ma mb : EM D} (ha : DE X RPk a ma) (hb : DE X RPk b mb) : DE X R (.BinOp a op b pos) (mOp g ma mb) := fun Z E hE => by
  obtain ⟨r, hr, i⟩ := opd_run o ha hb
  exact ⟨fun pins s σ H Q I q => (pe_op hr (ha Z E hE) (hb Z E hE)).run pins s σ H Q I (i Z E hE σ H Q q)⟩
theorem d_cmp {op : CmpOp} {g : D → D → (D → Prop) → Prop} (o : OpD X (compareOp op) RShr g) {ma mb : EM D} (ha : DE X RPk a ma) (hb : DE X RPk b mb) (hm : behindInMarks op b = false) : DE X RShr (.Compare a [op] [b] pos) (mOp g ma mb) := fun Z E hE => by
  obtain ⟨r, hr, i⟩ := opd_run o ha hb
  exact ⟨fun pins s σ H Q I q => (pe_cmpR hr (ha Z E hE) (hb Z E hE) hm).run pins s σ H Q I (i Z E hE σ H Q q)⟩
/-- a value as a test -/
def mTst (m : EM D) : EM Bool := fun E env C Q => m E env C fun d env1 C1 => ∃ k, d = .bl k ∧ Q k env1 C1
theorem dt_cmp {op : CmpOp} {g : D → D → (D → Prop) → Prop} (o : OpD X (compareOp op) RShr g) {ma mb : EM D} (ha : DE X RPk a ma) (hb : DE X RPk b mb) (hm : behindInMarks op b = false) : DT X (.Compare a [op] [b] pos) (mTst (mOp g ma mb)) := fun Z E hE => by
  obtain ⟨r, hr, i⟩ := opd_run o ha hb
  refine ⟨fun pins s σ H Q I ⟨Hs, env, C, P, sr, q, k⟩ => (pt_cmpR hr (ha Z E hE) (hb Z E hE) hm).run pins s σ H Q I ?_⟩
  refine i Z E hE σ H _ ⟨Hs, env, C, _, sr, q, fun d env' C' v Hs' H' p t s rr => ?_⟩
  obtain ⟨b, rfl, p⟩ := p
  cases rr
  exact ⟨b, rfl, k _ _ _ Hs' H' p t s⟩
/-! ### chains a < b < c -/
def mChain (g g' : D → D → (D → Prop) → Prop) (ma mb mc : EM D) : EM D := fun E env C Q => ma E env C fun d env1 C1 => mb E env1 C1 fun e env2 C2 => g (dr C2 d) (dr C2 e) fun x => ∃ k, x = .bl k ∧
  (if k = true then mc E env2 C2 fun f env3 C3 => g' (dr C3 e) (dr C3 f) fun y => Q y env3 C3 else Q (.bl false) env2 C2)
theorem chain_run {c : Expr} {f f' : Value → Value → Sem Value} {g g' : D → D → (D → Prop) → Prop} (o : OpD X f RShr g) (o' : OpD X f' RShr g') {ma mb mc : EM D} (ha : DE X RPk a ma) (hb : DE X RPk b mb) (hc : DE X RPk c mc) :
    ∃ r r' : R2, OpR X f r ∧ OpR X f' r' ∧ ∀ Z E, DX X Z E → ∀ σ H Q, LG X.K RShr Z (mChain g g' ma mb mc E) σ H Q → tChain r r' (LG X.K RPk Z (ma E)) (LG X.K RPk Z (mb E)) (LG X.K RPk Z (mc E)) σ H Q := by
  obtain ⟨r, hr, hg⟩ := o.ex
  obtain ⟨r', hr', hg'⟩ := o'.ex
  refine ⟨r, r', hr, hr', fun Z E hE σ H Q ⟨Hs, env, C, P, sr, q, k⟩ => ?_⟩
  refine ⟨Hs, env, C, _, sr, q, fun d env1 C1 v Hs1 H1 q1 t1 s1 r1 => ?_⟩
  refine ⟨Hs1, env1, C1, _, s1, q1, fun e env2 C2 u Hs2 H2 q2 t2 s2 r2 => ?_⟩
  refine hg Z σ Hs2 H2 env2 C2 _ _ v u _ _ s2 ((r1.tr t2 (Z' := Z) (σ' := σ) (env' := env2)).now s2.fit) (r2.now s2.fit) q2 fun x w Hs' H' p t s rr => ?_
  obtain ⟨kk, rfl, p⟩ := p
  cases rr
  refine ⟨kk, rfl, ?_⟩
  cases kk with
  | true =>
    rw [if_pos rfl] at p ⊢
    refine ⟨Hs', env2, C2, _, s, p, fun f env3 C3 u3 Hs3 H3 q3 t3 s3 r3 => ?_⟩
    exact hg' Z σ Hs3 H3 env3 C3 _ _ u u3 _ Q s3 ((r2.tr (t.trans t3) (Z' := Z) (σ' := σ) (env' := env3)).now s3.fit) (r3.now s3.fit) q3 fun x w Hs' H' p t' s rr => k _ _ _ w Hs' H' p ((((t1.trans t2).trans t).trans t3).trans t') s rr
  | false =>
    rw [if_neg Bool.false_ne_true] at p ⊢
    exact k _ _ _ _ Hs' H' p ((t1.trans t2).trans t) s (.bl false)
theorem d_chain {c : Expr} {op op' : CmpOp} {g g' : D → D → (D → Prop) → Prop} (o : OpD X (compareOp op) RShr g) (o' : OpD X (compareOp op') RShr g') {ma mb mc : EM D} (ha : DE X RPk a ma) (hb : DE X RPk b mb) (hc : DE X RPk c mc) (hm : lastMarks [op, op'] [b, c] = false) :
    DE X RShr (.Compare a [op, op'] [b, c] pos) (mChain g g' ma mb mc) := fun Z E hE => by
  obtain ⟨r, r', hr, hr', i⟩ := chain_run o o' ha hb hc
  exact ⟨fun pins s σ H Q I q => (pe_chain hr hr' (ha Z E hE) (hb Z E hE) (hc Z E hE) hm).run pins s σ H Q I (i Z E hE σ H Q q)⟩
theorem dt_chain {c : Expr} {op op' : CmpOp} {g g' : D → D → (D → Prop) → Prop} (o : OpD X (compareOp op) RShr g) (o' : OpD X (compareOp op') RShr g') {ma mb mc : EM D} (ha : DE X RPk a ma) (hb : DE X RPk b mb) (hc : DE X RPk c mc) (hm : lastMarks [op, op'] [b, c] = false) :
    DT X (.Compare a [op, op'] [b, c] pos) (mTst (mChain g g' ma mb mc)) := fun Z E hE => by
  obtain ⟨r, r', hr, hr', i⟩ := chain_run o o' ha hb hc
  refine ⟨fun pins s σ H Q I ⟨Hs, env, C, P, sr, q, k⟩ => (pt_chain hr hr' (ha Z E hE) (hb Z E hE) (hc Z E hE) hm).run pins s σ H Q I ?_⟩
  refine i Z E hE σ H _ ⟨Hs, env, C, _, sr, q, fun d env' C' v Hs' H' p t s rr => ?_⟩
  obtain ⟨b, rfl, p⟩ := p
  cases rr
  exact ⟨b, rfl, k _ _ _ Hs' H' p t s⟩
/-! ### and, or, not, if as values and tests -/
/-- a plain expression as a test: its truth -/
def truD : D → Option Bool
  | .non => some false
  | .bl b => some b
  | .int i => some (i != 0)
  | .str s => if s.length ≤ sizeLine then some (!s.isEmpty) else none
  | .tup xs => some (!xs.isEmpty)
  | .lst xs => some (!xs.isEmpty)
  | .dct kvs => none
  | _ => none
def mTru (m : EM D) : EM Bool := fun E env C Q => m E env C fun d env1 C1 => match truD (dr C1 d) with
  | some k => Q k env1 C1
  | none => False
theorem isEmpty_rep {K : PySem.W.Frag} {H : Hp} {ds : List D} {vs : List V} (r : RepL K H ds vs) : ds.isEmpty = vs.isEmpty := by
  cases r <;> rfl
theorem tru_now {K : PySem.W.Frag} {Hs H : Hp} {d : D} {v : V} {k : Bool} (sub : Same Hs H) (r : RNow K Hs H d v) (h : truD d = some k) : TruV K v H k := by
  cases r with
  | non => simpa [truD, TruV] using h.symm
  | bl b => simpa [truD, TruV] using h.symm
  | int i => simpa [truD, TruV] using h.symm
  | str s =>
    have h' : (if s.length ≤ sizeLine then some (!s.isEmpty) else none) = some k := h
    split at h'
    · rename_i hs
      refine ⟨by rw [sV_len]; exact hs, ?_⟩
      have e : k = !s.isEmpty := (Option.some.inj h').symm
      rw [e, sV_len]
      cases s with
      | nil => rfl
      | cons x r =>
        show true = (((r.length + 1 : Nat) : Int) != 0)
        symm
        rw [bne_iff_ne]
        omega
    · cases h'
  | tup e r =>
    refine .inr (.inl ⟨_, TupA.sq sub e, ?_⟩)
    rw [← isEmpty_rep r]
    exact (Option.some.inj h).symm
  | lst e r =>
    refine .inl ⟨_, SqL.of e, ?_⟩
    rw [← isEmpty_rep r]
    exact (Option.some.inj h).symm
  | dct e r => cases h
  | obj e r => cases h
  | cell a => cases h
  | ty n => cases h
  | scr e => cases h
  | exc e r => cases h
  | tupT d e => cases h
  | kt e => cases h
theorem dt_tru {ma : EM D} (ha : DE X RPk a ma) (he : ∀ whole, isTrue a X.env whole = (do let v ← whole; standAt a.pos; holding [v] (truthy v))) : DT X a (mTru ma) := fun Z E hE => by
  refine ⟨fun pins s σ H Q I ⟨Hs, env, C, P, sr, q, k⟩ => (pt_truth (ha Z E hE) he).run pins s σ H Q I ?_⟩
  refine ⟨Hs, env, C, _, sr, q, fun d env1 C1 v Hs1 H1 q1 t1 s1 r1 => ?_⟩
  have n := r1.now s1.fit
  cases e : truD (dr C1 d) with
  | none => simp only [e] at q1
  | some b =>
    simp only [e] at q1
    exact ⟨b, tru_now s1.fit.sub n e, k _ _ _ Hs1 H1 q1 t1 s1⟩
def mAndT (m m' : EM Bool) : EM Bool := fun E env C Q => m E env C fun k env1 C1 => if k = true then m' E env1 C1 Q else Q false env1 C1
def mOrT (m m' : EM Bool) : EM Bool := fun E env C Q => m E env C fun k env1 C1 => if k = true then Q true env1 C1 else m' E env1 C1 Q
def mNotT (m : EM Bool) : EM Bool := fun E env C Q => m E env C fun k env1 C1 => Q (!k) env1 C1
def DW (X : Cx) (e : Expr) (m : EM Bool) : Prop := ∀ Z E, DX X Z E → PW X e (LT X.K Z (m E))
theorem DW.pt {m : EM Bool} (h : DW X e m) : DT X e m := fun Z E hE => (h Z E hE).pt
variable {rest : List Expr} {mA mB : EM Bool}
theorem dw_and1 (ha : DT X a mA) : DW X (.BoolOp .And [a] pos) mA := fun Z E hE => pw_and1 (ha Z E hE)
theorem dw_or1 (ha : DT X a mA) : DW X (.BoolOp .Or [a] pos) mA := fun Z E hE => pw_or1 (ha Z E hE)
theorem dw_and (ha : DT X a mA) (hb : DW X (.BoolOp .And (b :: rest) pos) mB) : DW X (.BoolOp .And (a :: b :: rest) pos) (mAndT mA mB) := fun Z E hE => by
  refine ⟨fun wh pins s σ H Q I ⟨Hs, env, C, P, sr, q, k⟩ => (pw_and (ha Z E hE) (hb Z E hE)).run wh pins s σ H Q I ?_⟩
  refine ⟨Hs, env, C, _, sr, q, fun b env1 C1 Hs1 H1 q1 t1 s1 => ?_⟩
  cases b with
  | true =>
    rw [if_pos rfl] at q1 ⊢
    exact ⟨Hs1, env1, C1, P, s1, q1, fun b env2 C2 Hs2 H2 q2 t2 s2 => k _ _ _ _ _ q2 (t1.trans t2) s2⟩
  | false =>
    rw [if_neg Bool.false_ne_true] at q1 ⊢
    exact k _ _ _ _ _ q1 t1 s1
theorem dw_or (ha : DT X a mA) (hb : DW X (.BoolOp .Or (b :: rest) pos) mB) : DW X (.BoolOp .Or (a :: b :: rest) pos) (mOrT mA mB) := fun Z E hE => by
  refine ⟨fun wh pins s σ H Q I ⟨Hs, env, C, P, sr, q, k⟩ => (pw_or (ha Z E hE) (hb Z E hE)).run wh pins s σ H Q I ?_⟩
  refine ⟨Hs, env, C, _, sr, q, fun b env1 C1 Hs1 H1 q1 t1 s1 => ?_⟩
  cases b with
  | true =>
    rw [if_pos rfl] at q1 ⊢
    exact k _ _ _ _ _ q1 t1 s1
  | false =>
    rw [if_neg Bool.false_ne_true] at q1 ⊢
    exact ⟨Hs1, env1, C1, P, s1, q1, fun b env2 C2 Hs2 H2 q2 t2 s2 => k _ _ _ _ _ q2 (t1.trans t2) s2⟩
theorem dt_not (ha : DT X a mA) : DT X (.UnaryOp .Not a pos) (mNotT mA) := fun Z E hE => by
  refine ⟨fun pins s σ H Q I ⟨Hs, env, C, P, sr, q, k⟩ => (pt_not (ha Z E hE)).run pins s σ H Q I ?_⟩
  exact ⟨Hs, env, C, _, sr, q, fun b env1 C1 Hs1 H1 q1 t1 s1 => k _ _ _ _ _ q1 t1 s1⟩
/-- as values: all but the last True or False -/
def mAndV (m m' : EM D) : EM D := fun E env C Q => m E env C fun x env1 C1 => ∃ k, x = .bl k ∧ if k = true then m' E env1 C1 Q else Q (.bl false) env1 C1
def mOrV (m m' : EM D) : EM D := fun E env C Q => m E env C fun x env1 C1 => ∃ k, x = .bl k ∧ if k = true then Q (.bl true) env1 C1 else m' E env1 C1 Q
def mNotV (m : EM D) : EM D := fun E env C Q => m E env C fun x env1 C1 => ∃ k, x = .bl k ∧ Q (.bl (!k)) env1 C1
theorem d_one {op} {ma : EM D} (ha : DE X RShr a ma) : DE X RShr (.BoolOp op [a] pos) ma := fun Z E hE => pe_one (ha Z E hE)
theorem d_and {ma mb : EM D} (ha : DE X RShr a ma) (hb : DE X RShr (.BoolOp .And (b :: rest) pos) mb) : DE X RShr (.BoolOp .And (a :: b :: rest) pos) (mAndV ma mb) := fun Z E hE => by
  refine ⟨fun pins s σ H Q I ⟨Hs, env, C, P, sr, q, k⟩ => (pe_and (ha Z E hE) (hb Z E hE)).run pins s σ H Q I ?_⟩
  refine ⟨Hs, env, C, _, sr, q, fun d env1 C1 v Hs1 H1 q1 t1 s1 r1 => ?_⟩
  obtain ⟨c, rfl, q1⟩ := q1
  cases r1
  refine ⟨c, rfl, ?_⟩
  cases c with
  | true =>
    rw [if_pos rfl] at q1 ⊢
    exact ⟨Hs1, env1, C1, P, s1, q1, fun d env2 C2 v Hs2 H2 q2 t2 s2 r2 => k _ _ _ _ _ _ q2 (t1.trans t2) s2 r2⟩
  | false =>
    rw [if_neg Bool.false_ne_true] at q1 ⊢
    exact k _ _ _ _ _ _ q1 t1 s1 (.bl false)
theorem d_not {ma : EM D} (ha : DE X RShr a ma) : DE X RShr (.UnaryOp .Not a pos) (mNotV ma) := fun Z E hE => by
  refine ⟨fun pins s σ H Q I ⟨Hs, env, C, P, sr, q, k⟩ => (pe_not (ha Z E hE)).run pins s σ H Q I ?_⟩
  refine ⟨Hs, env, C, _, sr, q, fun d env1 C1 v Hs1 H1 q1 t1 s1 r1 => ?_⟩
  obtain ⟨c, rfl, q1⟩ := q1
  cases r1
  exact ⟨c, rfl, k _ _ _ _ _ _ q1 t1 s1 (.bl _)⟩
def mIf {α : Type} (t : EM Bool) (ma mb : EM α) : EM α := fun E env C Q => t E env C fun k env1 C1 => if k = true then ma E env1 C1 Q else mb E env1 C1 Q
theorem d_if {α : Type} {R : RR α} {c : Expr} {mc : EM Bool} {ma mb : EM α} (hc : DT X c mc) (ha : DE X R a ma) (hb : DE X R b mb) : DE X R (.IfExp c a b pos) (mIf mc ma mb) := fun Z E hE => by
  refine ⟨fun pins s σ H Q I ⟨Hs, env, C, P, sr, q, k⟩ => (pe_ifExp (hc Z E hE) (ha Z E hE) (hb Z E hE)).run pins s σ H Q I ?_⟩
  refine ⟨Hs, env, C, _, sr, q, fun c env1 C1 Hs1 H1 q1 t1 s1 => ?_⟩
  cases c with
  | true =>
    rw [if_pos rfl] at q1 ⊢
    exact ⟨Hs1, env1, C1, P, s1, q1, fun d env2 C2 v Hs2 H2 q2 t2 s2 r2 => k _ _ _ _ _ _ q2 (t1.trans t2) s2 r2⟩
  | false =>
    rw [if_neg Bool.false_ne_true] at q1 ⊢
    exact ⟨Hs1, env1, C1, P, s1, q1, fun d env2 C2 v Hs2 H2 q2 t2 s2 r2 => k _ _ _ _ _ _ q2 (t1.trans t2) s2 r2⟩
/-- - a -/
def gNeg (d : D) (P : D → Prop) : Prop := match d with
  | .int i => P (.int (-i))
  | _ => False
def mUn (g : D → (D → Prop) → Prop) (ma : EM D) : EM D := fun E env C Q => ma E env C fun d env1 C1 => g (dr C1 d) fun x => Q x env1 C1
theorem d_neg {ma : EM D} (ha : DE X RPk a ma) : DE X RShr (.UnaryOp .USub a pos) (mUn gNeg ma) := fun Z E hE => by
  refine ⟨fun pins s σ H Q I ⟨Hs, env, C, P, sr, q, k⟩ => (pe_un un_neg (ha Z E hE)).run pins s σ H Q I ?_⟩
  refine ⟨Hs, env, C, _, sr, q, fun d env1 C1 v Hs1 H1 q1 t1 s1 r1 => ?_⟩
  have n := r1.now s1.fit
  generalize dr C1 d = x at n q1
  cases n with
  | int i => exact ⟨i, rfl, k _ _ _ _ _ _ q1 t1 s1 (.int _)⟩
  | _ => exact False.elim q1
end
end L2.DL
/-! DLd: the operators over trees. -/
namespace L2.DL
open PySem PySem.Spec PyProof.Rows
theorem sV_app (s t : Txt) : sV s ++ sV t = sV (s ++ t) := by
  show Str.append _ _ = _
  unfold Str.append sV
  simp
def keyP : DK → PyData
  | .inl i => .int i
  | .inr s => .str (sV s)
/-! trees that are data -/
mutual
def toP : D → PyData
  | .non => .none
  | .bl b => .bool b
  | .int i => .int i
  | .str s => .str (sV s)
  | .tup xs => .tuple (toPs xs)
  | .lst xs => .list (toPs xs)
  | .dct kvs => .dict (toPkv kvs)
  | .tupT ts => .tuple (ts.map fun t => .str (sV t))
  | _ => .none
def toPs : List D → List PyData
  | [] => []
  | d :: r => toP d :: toPs r
def toPkv : List (DK × D) → List (PyData × PyData)
  | [] => []
  | (k, d) :: r => (keyP k, toP d) :: toPkv r
end
mutual
/-- plain data: no dicts, no objects -/
def isP : D → Bool
  | .non => true
  | .bl _ => true
  | .int _ => true
  | .str _ => true
  | .tup xs => isPs xs
  | .lst xs => isPs xs
  | .tupT _ => true
  | _ => false
def isPs : List D → Bool
  | [] => true
  | d :: r => isP d && isPs r
end
section
variable {K : PySem.W.Frag} {Hs H : Hp}
theorem dp_strs : ∀ ts : List Txt, DpAll K H ((ts.map sV).map V.str) (ts.map fun t => PyData.str (sV t))
  | [] => .nil
  | t :: r => .cons (.str _) (dp_strs r)
mutual
theorem Rep.dp (s : Same Hs H) : ∀ {d : D} {v : V}, Rep K Hs d v → isP d = true → Dp K H v (toP d)
  | _, _, .non, _ => .non
  | _, _, .bl b, _ => .bl b
  | _, _, .int i, _ => .int i
  | _, _, .str x, _ => .str _
  | _, _, .tup h r, p => .tup (TupA.sq s h) (RepL.dp s r p)
  | _, _, .lst h r, p => .lst (SqL.of (s _ _ h)) (RepL.dp s r p)
  | _, _, .dct h r, p => by cases p
  | _, _, .obj h r, p => by cases p
  | _, _, .cell a, p => by cases p
  | _, _, .ty n, p => by cases p
  | _, _, .scr h, p => by cases p
  | _, _, .exc h r, p => by cases p
  | _, _, .tupT d h, _ => .tup (TupA.sq s (.inr ⟨_, d, h⟩)) (dp_strs _)
  | _, _, .kt h, p => by cases p
theorem RepL.dp (s : Same Hs H) : ∀ {d : List D} {v : List V}, RepL K Hs d v → isPs d = true → DpAll K H v (toPs d)
  | _, _, .nil, _ => .nil
  | _, _, .cons h r, p => by
    have p' := Bool.and_eq_true_iff.mp p
    exact .cons (Rep.dp s h p'.1) (RepL.dp s r p'.2)
end
theorem RNow.dp (s : Same Hs H) {d : D} {v : V} (n : RNow K Hs H d v) (p : isP d = true) : Dp K H v (toP d) := by
  cases n with
  | non => exact .non
  | bl b => exact .bl b
  | int i => exact .int i
  | str x => exact .str _
  | tup h r => exact .tup (TupA.sq s h) (RepL.dp s r p)
  | lst h r => exact .lst (SqL.of h) (RepL.dp s r p)
  | dct h r => cases p
  | obj h r => cases p
  | cell a => cases p
  | ty n => cases p
  | scr h => cases p
  | exc h r => cases p
  | tupT d h => exact .tup (TupA.sq s (.inr ⟨_, d, h⟩)) (dp_strs _)
  | kt h => cases p
end
/-- may be compared as data -/
def okD (d : D) : Bool := isP d && SeqAt.shaped (toP d)
/-- == of data -/
def eqv (d e : D) : Bool := PyData.eqv (toP d) (toP e)
section
variable {X : Cx}
/-! ### + -/
def gAdd (d e : D) (P : D → Prop) : Prop := match d, e with
  | .int i, .int j => P (.int (i + j))
  | .str s, .str t => s.length + t.length ≤ sizeLine ∧ P (.str (s ++ t))
  | .tup xs, .tup ys => xs.length + ys.length ≤ sizeLine ∧ P (.tup (xs ++ ys))
  | .lst xs, .lst ys => xs.length + ys.length ≤ sizeLine ∧ P (.lst (xs ++ ys))
  | _, _ => False
theorem opd_add : OpD X (binaryOp .Add) RShr gAdd := by
  refine ⟨_, op_add.or (op_add_str.or (op_catA.or op_cat)), ?_⟩
  intro Z σ Hs H env C d e v u P Q sr n n' g k
  cases n with
  | int i => cases n' with
    | int j => exact .inl ⟨i, j, rfl, rfl, k _ _ Hs H g Tr.refl sr (.int _)⟩
    | _ => exact False.elim g
  | str s => cases n' with
    | str t =>
      refine .inr (.inl ⟨_, _, rfl, rfl, by rw [sV_len, sV_len]; exact g.1, ?_⟩)
      rw [sV_app]
      exact k _ _ Hs H g.2 Tr.refl sr (.str _)
    | _ => exact False.elim g
  | tup h r => cases n' with
    | tup h' r' =>
      have l1 := r.length
      have l2 := r'.length
      refine .inr (.inr (.inl ⟨_, _, _, _, rfl, rfl, TupA.sq sr.fit.sub h, TupA.sq sr.fit.sub h', by rw [← l1, ← l2]; exact g.1, fun e => ?_, fun ne e => ?_, fun ne ne' p hp => ?_⟩))
      · subst e
        cases r
        exact k _ _ Hs H g.2 Tr.refl sr (.tup h' r')
      · subst e
        cases r'
        have g2 := g.2
        rw [List.append_nil] at g2
        exact k _ _ Hs H g2 Tr.refl sr (.tup h r)
      · exact k _ _ _ _ g.2 (Tr.lay sr.fit hp _) (sr.lay hp _) (.tup (.inl upd_same) ((r.same (same_upd (sr.fit.nothing hp).1)).append (r'.same (same_upd (sr.fit.nothing hp).1))))
    | _ => exact False.elim g
  | lst h r => cases n' with
    | lst h' r' =>
      have l1 := r.length
      have l2 := r'.length
      refine .inr (.inr (.inr ⟨_, _, _, _, rfl, rfl, h, h', by rw [← l1, ← l2]; exact g.1, fun p hp => ?_⟩))
      exact k _ _ _ _ g.2 (Tr.lay sr.fit hp _) (sr.lay hp _) (.lst upd_same ((r.same (same_upd (sr.fit.nothing hp).1)).append (r'.same (same_upd (sr.fit.nothing hp).1))))
    | _ => exact False.elim g
  | _ => exact False.elim g
/-- an int operator under a condition -/
def gI (C : Int → Int → Prop) (f : Int → Int → Int) (d e : D) (P : D → Prop) : Prop := match d, e with
  | .int i, .int j => C i j ∧ P (.int (f i j))
  | _, _ => False
theorem opd_I {f : Value → Value → Sem Value} {C : Int → Int → Prop} {h : Int → Int → Int} (o : OpR X f (rI C fun i j => .int (h i j))) : OpD X f RShr (gI C h) := by
  refine ⟨_, o, ?_⟩
  intro Z σ Hs H env C d e v u P Q sr n n' g k
  cases n with
  | int i => cases n' with
    | int j => exact ⟨i, j, rfl, rfl, g.1, k _ _ Hs H g.2 Tr.refl sr (.int _)⟩
    | _ => exact False.elim g
  | _ => exact False.elim g
def gI0 (f : Int → Int → Int) (d e : D) (P : D → Prop) : Prop := match d, e with
  | .int i, .int j => P (.int (f i j))
  | _, _ => False
theorem opd_I0 {f : Value → Value → Sem Value} {h : Int → Int → Int} (o : OpR X f (rI0 fun i j => .int (h i j))) : OpD X f RShr (gI0 h) := by
  refine ⟨_, o, ?_⟩
  intro Z σ Hs H env C d e v u P Q sr n n' g k
  cases n with
  | int i => cases n' with
    | int j => exact ⟨i, j, rfl, rfl, k _ _ Hs H g Tr.refl sr (.int _)⟩
    | _ => exact False.elim g
  | _ => exact False.elim g
theorem opd_sub : OpD X (binaryOp .Sub) RShr (gI0 fun i j => i - j) := opd_I0 op_sub
def MulOk (i j : Int) : Prop := CMulX i j
def DivOk (i j : Int) : Prop := CDivW i j
theorem opd_div : OpD X (binaryOp .FloorDiv) RShr (gI DivOk fun i j => i / j) := opd_I op_fdivW
theorem opd_mod : OpD X (binaryOp .Mod) RShr (gI (fun _ j => 0 < j) fun i j => i % j) := opd_I op_mod
def PowOk (i j : Int) : Prop := 0 ≤ j ∧ (Builtin.Int.intBits i : Int) * j ≤ 2 ^ 27
theorem op_powW : OpR X (binaryOp .Pow) (rI PowOk fun i j => .int (i ^ j.toNat)) := opI fun _ _ _ _ _ _ _ hc q => pow_int hc.1 hc.2 q
theorem opd_pow : OpD X (binaryOp .Pow) RShr (gI PowOk fun i j => i ^ j.toNat) := opd_I op_powW
/-! ### ==, != -/
def scD : D → D → Bool
  | .non, .non => true | .non, .int _ => true | .int _, .non => true | .non, .bl _ => true | .bl _, .non => true | .non, .str _ => true | .str _, .non => true
  | .int _, .int _ => true | .bl _, .bl _ => true | .str _, .str _ => true
  | .int _, .str _ => true | .str _, .int _ => true | .bl _, .str _ => true | .str _, .bl _ => true
  | _, _ => false
theorem scal_of {K : PySem.W.Frag} {Hs H : Hp} {d e : D} {v u : V} (n : RNow K Hs H d v) (n' : RNow K Hs H e u) (h : scD d e = true) : scal v u = true ∧ decide (v = u) = eqv d e := by
  cases n <;> cases n' <;> first
    | (cases h; done)
    | exact ⟨rfl, rfl⟩
    | (refine ⟨rfl, ?_⟩; simp [eqv, toP, PyData.eqv]; done)
    | (refine ⟨rfl, ?_⟩; simp only [eqv, toP, PyData.eqv, V.int.injEq, V.bl.injEq, V.str.injEq]; rw [Bool.beq_eq_decide_eq]; done)
def gEq (neg : Bool) (d e : D) (P : D → Prop) : Prop := (scD d e = true ∨ (okD d = true ∧ okD e = true)) ∧ P (.bl (if neg then !eqv d e else eqv d e))
theorem opd_eq (hu : X.A.units + 64 < cLine) : OpD X (compareOp .Eq) RShr (gEq false) := by
  refine ⟨_, op_eq.or (op_eqD hu), ?_⟩
  intro Z σ Hs H env C d e v u P Q sr n n' g k
  obtain ⟨h | ⟨h1, h2⟩, p⟩ := g
  · obtain ⟨s1, s2⟩ := scal_of n n' h
    refine .inl ⟨s1, ?_⟩
    rw [s2]
    exact k _ _ Hs H p Tr.refl sr (.bl _)
  · have a1 := Bool.and_eq_true_iff.mp h1
    have a2 := Bool.and_eq_true_iff.mp h2
    exact .inr ⟨_, _, n.dp sr.fit.sub a1.1, n'.dp sr.fit.sub a2.1, a1.2, a2.2, k _ _ Hs H p Tr.refl sr (.bl _)⟩
theorem opd_ne (hu : X.A.units + 64 < cLine) : OpD X (compareOp .NotEq) RShr (gEq true) := by
  refine ⟨_, op_ne.or (op_neD hu), ?_⟩
  intro Z σ Hs H env C d e v u P Q sr n n' g k
  obtain ⟨h | ⟨h1, h2⟩, p⟩ := g
  · obtain ⟨s1, s2⟩ := scal_of n n' h
    refine .inl ⟨s1, ?_⟩
    rw [s2]
    exact k _ _ Hs H p Tr.refl sr (.bl _)
  · have a1 := Bool.and_eq_true_iff.mp h1
    have a2 := Bool.and_eq_true_iff.mp h2
    exact .inr ⟨_, _, n.dp sr.fit.sub a1.1, n'.dp sr.fit.sub a2.1, a1.2, a2.2, k _ _ Hs H p Tr.refl sr (.bl _)⟩
/-! ### order -/
def gOrd (fi : Int → Int → Bool) (fs : Txt → Txt → Bool) (d e : D) (P : D → Prop) : Prop := match d, e with
  | .int i, .int j => P (.bl (fi i j))
  | .str s, .str t => P (.bl (fs s t))
  | _, _ => False
theorem opd_lt : OpD X (compareOp .Lt) RShr (gOrd (fun i j => decide (i < j)) fun s t => decide (s < t)) := by
  refine ⟨_, op_lt.or op_lt_str, ?_⟩
  intro Z σ Hs H env C d e v u P Q sr n n' g k
  cases n with
  | int i => cases n' with
    | int j => exact .inl ⟨i, j, rfl, rfl, k _ _ Hs H g Tr.refl sr (.bl _)⟩
    | _ => exact False.elim g
  | str s => cases n' with
    | str t => exact .inr ⟨_, _, rfl, rfl, by rw [sV_cps, sV_cps]; exact k _ _ Hs H g Tr.refl sr (.bl _)⟩
    | _ => exact False.elim g
  | _ => exact False.elim g
theorem opd_le : OpD X (compareOp .LtE) RShr (gOrd (fun i j => decide (i ≤ j)) fun s t => !decide (t < s)) := by
  refine ⟨_, op_le.or op_le_str, ?_⟩
  intro Z σ Hs H env C d e v u P Q sr n n' g k
  cases n with
  | int i => cases n' with
    | int j => exact .inl ⟨i, j, rfl, rfl, k _ _ Hs H g Tr.refl sr (.bl _)⟩
    | _ => exact False.elim g
  | str s => cases n' with
    | str t => exact .inr ⟨_, _, rfl, rfl, by rw [sV_cps, sV_cps]; exact k _ _ Hs H g Tr.refl sr (.bl _)⟩
    | _ => exact False.elim g
  | _ => exact False.elim g
theorem opd_ge : OpD X (compareOp .GtE) RShr (gOrd (fun i j => decide (j ≤ i)) fun s t => !decide (s < t)) := by
  refine ⟨_, op_ge.or op_ge_str, ?_⟩
  intro Z σ Hs H env C d e v u P Q sr n n' g k
  cases n with
  | int i => cases n' with
    | int j => exact .inl ⟨i, j, rfl, rfl, k _ _ Hs H g Tr.refl sr (.bl _)⟩
    | _ => exact False.elim g
  | str s => cases n' with
    | str t => exact .inr ⟨_, _, rfl, rfl, by rw [sV_cps, sV_cps]; exact k _ _ Hs H g Tr.refl sr (.bl _)⟩
    | _ => exact False.elim g
  | _ => exact False.elim g
/-! ### in, not in -/
def flD : D → Bool
  | .non => true | .bl _ => true | .int _ => true | .str _ => true | _ => false
theorem flat_now {K : PySem.W.Frag} {Hs H : Hp} {d : D} {v : V} (n : RNow K Hs H d v) (h : flD d = true) : flatV v = true := by
  cases n <;> first | rfl | (cases h; done)
theorem flat_rep {K : PySem.W.Frag} {Hs : Hp} {d : D} {v : V} (n : Rep K Hs d v) (h : flD d = true) : flatV v = true := by
  cases n <;> first | rfl | (cases h; done)
theorem flats_rep {K : PySem.W.Frag} {Hs : Hp} : ∀ {ds : List D} {vs : List V}, RepL K Hs ds vs → ds.all flD = true → vs.all flatV = true
  | _, _, .nil, _ => rfl
  | _, _, .cons h r, f => by
    rw [List.all_cons, Bool.and_eq_true] at f ⊢
    exact ⟨flat_rep h f.1, flats_rep r f.2⟩
theorem eqV_now {K : PySem.W.Frag} {Hs H : Hp} {d e : D} {v u : V} (n : Rep K Hs d v) (n' : RNow K Hs H e u) (h : flD d = true) (h' : flD e = true) : eqV v u = eqv d e := by
  cases n <;> first | (cases h; done) | (cases n' <;> first | (cases h'; done) | rfl | (simp [eqV, eqv, toP, PyData.eqv]; done))
theorem any_now {K : PySem.W.Frag} {Hs H : Hp} {e : D} {u : V} (n' : RNow K Hs H e u) (h' : flD e = true) : ∀ {ds : List D} {vs : List V}, RepL K Hs ds vs → ds.all flD = true → (vs.any fun y => eqV y u) = ds.any fun y => eqv y e
  | _, _, .nil, _ => rfl
  | _, _, .cons h r, f => by
    rw [List.all_cons, Bool.and_eq_true] at f
    rw [List.any_cons, List.any_cons, eqV_now h n' f.1 h', any_now n' h' r f.2]
theorem any_toP (e : PyData) : ∀ ds : List D, ((toPs ds).any fun z => PyData.eqv z e) = ds.any fun y => PyData.eqv (toP y) e
  | [] => rfl
  | d :: r => by
    rw [toPs, List.any_cons, List.any_cons, any_toP e r]
/-- membership -/
def inD (e : D) (ds : List D) : Bool := ds.any fun y => eqv y e
def dkOf : D → Option DK
  | .int i => some (.inl i)
  | .str s => some (.inr s)
  | _ => none
/-- what a table holds at a key -/
def look (k : DK) : List (DK × D) → Option D
  | [] => none
  | (j, d) :: r => if j = k then some d else look k r
def gIn (neg : Bool) (d e : D) (P : D → Prop) : Prop := match e with
  | .lst xs => ((flD d = true ∧ xs.all flD = true) ∨ (okD d = true ∧ okD (.lst xs) = true)) ∧ P (.bl (if neg then !inD d xs else inD d xs))
  | .tup xs => (flD d = true ∧ xs.all flD = true) ∧ P (.bl (if neg then !inD d xs else inD d xs))
  | .str t => ∃ c, d = .str [c] ∧ P (.bl (if neg then !decide (c ∈ t) else decide (c ∈ t)))
  | .dct kvs => ∃ k, dkOf d = some k ∧ P (.bl (if neg then !(look k kvs).isSome else (look k kvs).isSome))
  | _ => False
theorem dk_now {K : PySem.W.Frag} {Hs H : Hp} {d : D} {v : V} {k : DK} (n : RNow K Hs H d v) (h : dkOf d = some k) : v = kV (kOf k) := by
  cases n <;> first | (simp [dkOf] at h; done) | (simp only [dkOf, Option.some.injEq] at h; subst h; rfl)
theorem look_rep {K : PySem.W.Frag} {Hs : Hp} {k : DK} : ∀ {kvs : List (DK × D)} {ws : List (Key × V)}, RepKV K Hs kvs ws →
    (∀ d, look k kvs = some d → ∃ v, valV ws (kOf k) = some v ∧ Rep K Hs d v) ∧ (look k kvs = none → valV ws (kOf k) = none)
  | _, _, .nil => ⟨fun d h => by simp [look] at h, fun _ => rfl⟩
  | _, _, @RepKV.cons _ _ j d v ds vs h r => by
    obtain ⟨i1, i2⟩ := look_rep (k := k) r
    by_cases e : j = k
    · subst e
      refine ⟨fun d' h' => ?_, fun h' => ?_⟩
      · have h2 : d = d' := by simpa [look] using h'
        subst h2
        exact ⟨v, valV_pos rfl, h⟩
      · simp [look] at h'
    · have ne : ¬ kOf j = kOf k := fun z => e (kOf_inj z)
      refine ⟨fun d' h' => ?_, fun h' => ?_⟩
      · simp only [look, if_neg e] at h'
        obtain ⟨v', q1, q2⟩ := i1 d' h'
        exact ⟨v', (valV_neg (p := (kOf j, v)) ne).trans q1, q2⟩
      · simp only [look, if_neg e] at h'
        exact (valV_neg (p := (kOf j, v)) ne).trans (i2 h')
theorem look_some {K : PySem.W.Frag} {Hs : Hp} {k : DK} {kvs : List (DK × D)} {ws : List (Key × V)} (r : RepKV K Hs kvs ws) : (valV ws (kOf k)).isSome = (look k kvs).isSome := by
  obtain ⟨i1, i2⟩ := look_rep (k := k) r
  cases e : look k kvs with
  | none => rw [i2 e]; rfl
  | some d => obtain ⟨v, q, _⟩ := i1 d e; rw [q]; rfl
theorem op_din (hu : X.A.units + 1 < cLine) : OpR X (compareOp .In) (fun y x H Q => ∃ a o, x = .ref a ∧ DGet H a y o ∧ Q (.bl o.isSome) H) := by
  intro pins s σ H x y v u Q I rx ry h
  obtain ⟨a, o, rfl, g, q⟩ := h
  cases ry
  exact d_in hu I g rx fun s' I' => ⟨.bl _, H, I', rfl, q⟩
theorem op_dnotIn (hu : X.A.units + 1 < cLine) : OpR X (compareOp .NotIn) (fun y x H Q => ∃ a o, x = .ref a ∧ DGet H a y o ∧ Q (.bl (!o.isSome)) H) := by
  intro pins s σ H x y v u Q I rx ry h
  obtain ⟨a, o, rfl, g, q⟩ := h
  cases ry
  exact d_notIn hu I g rx fun s' I' => ⟨.bl _, H, I', rfl, q⟩
theorem opd_in (hu : X.A.units + 65 < cLine) : OpD X (compareOp .In) RShr (gIn false) := by
  refine ⟨_, op_in_seq.or ((op_inD hu).or (op_in_sign.or (op_din (by omega)))), ?_⟩
  intro Z σ Hs H env C d e v u P Q sr n n' g k
  cases n' with
  | lst h r =>
    obtain ⟨⟨f1, f2⟩ | ⟨o1, o2⟩, p⟩ := g
    · refine .inl ⟨_, _, rfl, .inl (SqL.of h), flat_now n f1, flats_rep r f2, ?_⟩
      have e1 : inV v _ = inD d _ := any_now n f1 r f2
      rw [if_neg Bool.false_ne_true, e1]
      exact k _ _ Hs H p Tr.refl sr (.bl _)
    · have a1 := Bool.and_eq_true_iff.mp o1
      have a2 := Bool.and_eq_true_iff.mp o2
      refine .inr (.inl ⟨toP d, toPs _, n.dp sr.fit.sub a1.1, .lst (SqL.of h) (RepL.dp sr.fit.sub r a2.1), a1.2, a2.2, ?_⟩)
      rw [any_toP]
      exact k _ _ Hs H p Tr.refl sr (.bl _)
  | tup h r =>
    obtain ⟨⟨f1, f2⟩, p⟩ := g
    refine .inl ⟨_, _, rfl, .inr (TupA.sq sr.fit.sub h), flat_now n f1, flats_rep r f2, ?_⟩
    have e1 : inV v _ = inD d _ := any_now n f1 r f2
    rw [if_neg Bool.false_ne_true, e1]
    exact k _ _ Hs H p Tr.refl sr (.bl _)
  | str t =>
    obtain ⟨c, rfl, p⟩ := g
    cases n with
    | str s =>
      refine .inr (.inr (.inl ⟨c, _, rfl, rfl, ?_⟩))
      rw [sV_cps]
      exact k _ _ Hs H p Tr.refl sr (.bl _)
  | dct h r =>
    obtain ⟨kk, e, p⟩ := g
    have hv := dk_now n e
    subst hv
    refine .inr (.inr (.inr ⟨_, _, rfl, .inl ⟨_, _, h, rfl, rfl⟩, ?_⟩))
    rw [look_some r]
    exact k _ _ Hs H p Tr.refl sr (.bl _)
  | _ => exact False.elim g
theorem opd_notin (hu : X.A.units + 65 < cLine) : OpD X (compareOp .NotIn) RShr (gIn true) := by
  refine ⟨_, op_notIn_seq.or ((op_notInD hu).or (op_notIn_sign.or (op_dnotIn (by omega)))), ?_⟩
  intro Z σ Hs H env C d e v u P Q sr n n' g k
  cases n' with
  | lst h r =>
    obtain ⟨⟨f1, f2⟩ | ⟨o1, o2⟩, p⟩ := g
    · refine .inl ⟨_, _, rfl, .inl (SqL.of h), flat_now n f1, flats_rep r f2, ?_⟩
      have e1 : inV v _ = inD d _ := any_now n f1 r f2
      rw [if_pos rfl, e1]
      exact k _ _ Hs H p Tr.refl sr (.bl _)
    · have a1 := Bool.and_eq_true_iff.mp o1
      have a2 := Bool.and_eq_true_iff.mp o2
      refine .inr (.inl ⟨toP d, toPs _, n.dp sr.fit.sub a1.1, .lst (SqL.of h) (RepL.dp sr.fit.sub r a2.1), a1.2, a2.2, ?_⟩)
      rw [any_toP]
      exact k _ _ Hs H p Tr.refl sr (.bl _)
  | tup h r =>
    obtain ⟨⟨f1, f2⟩, p⟩ := g
    refine .inl ⟨_, _, rfl, .inr (TupA.sq sr.fit.sub h), flat_now n f1, flats_rep r f2, ?_⟩
    have e1 : inV v _ = inD d _ := any_now n f1 r f2
    rw [if_pos rfl, e1]
    exact k _ _ Hs H p Tr.refl sr (.bl _)
  | str t =>
    obtain ⟨c, rfl, p⟩ := g
    cases n with
    | str s =>
      refine .inr (.inr (.inl ⟨c, _, rfl, rfl, ?_⟩))
      rw [sV_cps]
      exact k _ _ Hs H p Tr.refl sr (.bl _)
  | dct h r =>
    obtain ⟨kk, e, p⟩ := g
    have hv := dk_now n e
    subst hv
    refine .inr (.inr (.inr ⟨_, _, rfl, .inl ⟨_, _, h, rfl, rfl⟩, ?_⟩))
    rw [look_some r]
    exact k _ _ Hs H p Tr.refl sr (.bl _)
  | _ => exact False.elim g
end
end L2.DL
/-! DLe: argument lists, displays, subscripts, slices, calls of built-ins. -/
namespace L2.DL
open PySem PySem.Spec PyProof.Rows
section
variable {X : Cx} {e a b : Expr} {es : List Expr} {pos : Pos}
/-! ### argument lists -/
/-- a kind of result that lasts -/
def Lasts (R : RR D) : Prop := ∀ K Z σ Hs H env C d v Hs' H' env' C', R K Z σ Hs H env C d v → Tr Hs H C Hs' H' C' → R K Z σ Hs' H' env' C' d v
theorem lasts_shr : Lasts RShr := fun _ _ _ _ _ _ _ _ _ _ _ _ _ r t => r.same t.fr
theorem lasts_pk : Lasts RPk := fun _ _ _ _ _ _ _ _ _ _ _ _ _ r t => r.tr t
theorem RAll.tr {R : RR D} (l : Lasts R) {K : PySem.W.Frag} {Z : Z0} {σ : St} {Hs H Hs' H' : Hp} {env env' : DL.Env} {C C' : Cs} (t : Tr Hs H C Hs' H' C') :
    ∀ {ds : List D} {vs : List V}, RAll K R Z σ Hs H env C ds vs → RAll K R Z σ Hs' H' env' C' ds vs
  | _, _, .nil => .nil
  | _, _, .cons h r => .cons (l _ _ _ _ _ _ _ _ _ _ _ _ _ h t) (RAll.tr l t r)
def mNil : EM (List D) := fun _ env C Q => Q [] env C
def mCons (m : EM D) (ms : EM (List D)) : EM (List D) := fun E env C Q => m E env C fun d env1 C1 => ms E env1 C1 fun ds env2 C2 => Q (d :: ds) env2 C2
theorem da_nil {R : RR D} : DA X R [] mNil := fun Z E hE => ⟨fun pos pins s σ H Q I ⟨Hs, env, C, P, sr, q, k⟩ => (pa_nil).run pos pins s σ H Q I (k _ _ _ _ _ _ q Tr.refl sr .nil)⟩
theorem da_cons {R : RR D} (l : Lasts R) {m : EM D} {ms : EM (List D)} (h : DE X R e m) (hs : DA X R es ms) (st : starEach (e :: es) X.env = (false, eval e X.env) :: starEach es X.env) : DA X R (e :: es) (mCons m ms) := fun Z E hE => by
  refine ⟨fun pos pins s σ H Q I ⟨Hs, env, C, P, sr, q, k⟩ => (pa_cons (h Z E hE) (hs Z E hE) st).run pos pins s σ H Q I ?_⟩
  refine ⟨Hs, env, C, _, sr, q, fun d env1 C1 v Hs1 H1 q1 t1 s1 r1 => ?_⟩
  refine ⟨Hs1, env1, C1, _, s1, q1, fun ds env2 C2 vs Hs2 H2 q2 t2 s2 r2 => ?_⟩
  exact k _ _ _ _ Hs2 H2 q2 (t1.trans t2) s2 (.cons (l _ _ _ _ _ _ _ _ _ _ _ _ _ r1 t2) r2)
theorem RAll.rep {K : PySem.W.Frag} {Z : Z0} {σ : St} {Hs H : Hp} {env : DL.Env} {C : Cs} : ∀ {ds : List D} {vs : List V}, RAll K RShr Z σ Hs H env C ds vs → RepL K Hs ds vs
  | _, _, .nil => .nil
  | _, _, .cons h r => .cons h r.rep
/-! ### displays -/
def mLst (ms : EM (List D)) : EM Cont := fun E env C Q => ms E env C fun ds env1 C1 => ds.length ≤ sizeLine ∧ Q (.lst ds) env1 C1
def mTup (ms : EM (List D)) : EM D := fun E env C Q => ms E env C fun ds env1 C1 => ds.length ≤ sizeLine ∧ Q (.tup ds) env1 C1
/-- a fresh container laid -/
theorem fr_lay {K : PySem.W.Frag} {Z : Z0} {σ : St} {Hs H : Hp} {env : DL.Env} {C : Cs} {p : Addr} {o : HO} {c : Cont} (sr : SR K Z σ Hs H env C) (hp : H p = none) (r : RepO K Hs c o) :
    RFr K Z σ Hs (upd H p o) env C c (.ref p) := by
  obtain ⟨n1, n2⟩ := sr.fit.nothing hp
  refine ⟨p, o, rfl, upd_same, r, n1, n2, sr.bas.zfree hp, fun i c' e z => ?_⟩
  obtain ⟨q, u, e1, e2, _⟩ := sr.slt.own i c' e
  rw [e1] at z
  cases z
  rw [hp] at e2
  cases e2
theorem d_lst {ms : EM (List D)} (h : DA X RShr es ms) : DE X RFr (.List es pos) (mLst ms) := fun Z E hE => by
  refine ⟨fun pins s σ H Q I ⟨Hs, env, C, P, sr, q, k⟩ => (pe_lst (h Z E hE)).run pins s σ H Q I ?_⟩
  refine ⟨Hs, env, C, _, sr, q, fun ds env1 C1 vs Hs1 H1 q1 t1 s1 r1 => ?_⟩
  have r := r1.rep
  refine ⟨by rw [← r.length]; exact q1.1, fun p hp => ?_⟩
  exact k _ _ _ _ Hs1 _ q1.2 (t1.trans (Tr.layP hp _)) (s1.layP hp _) (fr_lay s1 hp ⟨_, rfl, r⟩)
theorem d_tup {ms : EM (List D)} {kk : Nat} (h : DA X RShr es ms) : DE X RShr (.Tuple es kk pos) (mTup ms) := fun Z E hE => by
  refine ⟨fun pins s σ H Q I ⟨Hs, env, C, P, sr, q, k⟩ => (pe_tup (h Z E hE)).run pins s σ H Q I ?_⟩
  refine ⟨Hs, env, C, _, sr, q, fun ds env1 C1 vs Hs1 H1 q1 t1 s1 r1 => ?_⟩
  have r := r1.rep
  refine ⟨by rw [← r.length]; exact q1.1, fun p hp => ?_⟩
  exact k _ _ _ _ _ _ q1.2 (t1.trans (Tr.lay s1.fit hp _)) (s1.lay hp _) (.tup (.inl upd_same) (r.same (same_upd (s1.fit.nothing hp).1)))
theorem d_dct0 : DE X RFr (.Dict [] [] pos) (mC (.dct [])) := fun Z E hE => by
  refine ⟨fun pins s σ H Q I ⟨Hs, env, C, P, sr, q, k⟩ => pe_dnewK.run pins s σ H Q I fun p hp => ?_⟩
  exact k _ _ _ _ Hs _ q (Tr.layP hp _) (sr.layP hp _) (fr_lay sr hp ⟨_, rfl, .nil⟩)
/-! ### subscripts -/
structure IxD (X : Cx) (g : D → D → (D → Prop) → Prop) : Prop where
  ex : ∃ r : R2, IxR X r ∧ ∀ Z σ Hs H env C d e v u (P : D → Prop) Q, SR X.K Z σ Hs H env C → RNow X.K Hs H d v → RNow X.K Hs H e u → g d e P →
    (∀ a w Hs' H', P a → Tr Hs H C Hs' H' C → SR X.K Z σ Hs' H' env C → RShr X.K Z σ Hs' H' env C a w → Q w H') → r v u H Q
def gIx (d e : D) (P : D → Prop) : Prop := match d with
  | .lst xs => ∃ i x, e = .int i ∧ atI xs i = some x ∧ P x
  | .tup xs => ∃ i x, e = .int i ∧ atI xs i = some x ∧ P x
  | .str s => ∃ i c, e = .int i ∧ s.length ≤ sizeLine ∧ atI s i = some c ∧ P (.str [c])
  | .dct kvs => ∃ k x, dkOf e = some k ∧ look k kvs = some x ∧ P x
  | .scr ns => ∃ i n, e = .int i ∧ atI ns i = some n ∧ P (.int n)
  | _ => False
theorem ix_dict (hu : X.A.units + 1 < cLine) : IxR X (fun x y H Q => ∃ a v, x = .ref a ∧ DGet H a y (some v) ∧ Q v H) := by
  intro value slice pins s σ H x y v u Q I rx ry h hs
  obtain ⟨a, z, rfl, g, q⟩ := h
  cases rx
  exact tail_any (dict_typeIs I g) F.slot_dict_getitem.lookup (d_getItem hu I g ry fun w' s' I' r' => ⟨z, H, I', r', q⟩) hs
theorem atI_rep {K : PySem.W.Frag} {Hs : Hp} {xs : List D} {vs : List V} {i : Int} {x : D} (r : RepL K Hs xs vs) (h : atI xs i = some x) : ∃ v, atI vs i = some v ∧ Rep K Hs x v := by
  unfold atI at h ⊢
  rw [r.length] at h
  cases e : ixN vs.length i with
  | none => rw [e] at h; cases h
  | some j =>
    rw [e] at h
    obtain ⟨v, h1, h2⟩ := r.get' (i := j) h
    exact ⟨v, h1, h2⟩
theorem atI_map {α β : Type} (f : α → β) {xs : List α} {i : Int} {x : α} (h : atI xs i = some x) : atI (xs.map f) i = some (f x) := by
  unfold atI at h ⊢
  rw [List.length_map]
  cases e : ixN xs.length i with
  | none => rw [e] at h; cases h
  | some j =>
    rw [e] at h
    show (xs.map f)[j]? = some (f x)
    rw [List.getElem?_map, show xs[j]? = some x from h]
    rfl
theorem ixd (hu : X.A.units + 1 < cLine) : IxD X gIx := by
  refine ⟨_, ix_seq.or (ix_dict hu), ?_⟩
  intro Z σ Hs H env C d e v u P Q sr n n' g k
  cases n with
  | lst h r =>
    obtain ⟨i, x, rfl, hi, p⟩ := g
    cases n'
    obtain ⟨w, h1, h2⟩ := atI_rep r hi
    exact .inl (.inl ⟨_, _, i, w, rfl, rfl, SqL.of h, h1, k _ _ Hs H p Tr.refl sr h2⟩)
  | tup h r =>
    obtain ⟨i, x, rfl, hi, p⟩ := g
    cases n'
    obtain ⟨w, h1, h2⟩ := atI_rep r hi
    exact .inl (.inr (.inl ⟨_, _, i, w, rfl, rfl, TupA.sq sr.fit.sub h, h1, k _ _ Hs H p Tr.refl sr h2⟩))
  | str s =>
    obtain ⟨i, c, rfl, hl, hi, p⟩ := g
    cases n'
    exact .inl (.inr (.inr ⟨_, i, c, rfl, rfl, by rw [sV_len]; exact hl, by rw [sV_cps]; exact hi, k _ _ Hs H p Tr.refl sr (.str [c])⟩))
  | dct h r =>
    obtain ⟨kk, x, e1, hl, p⟩ := g
    have hv := dk_now n' e1
    subst hv
    obtain ⟨w, q1, q2⟩ := (look_rep r).1 x hl
    exact .inr ⟨_, w, rfl, .inl ⟨_, _, h, rfl, q1.symm⟩, k _ _ Hs H p Tr.refl sr q2⟩
  | scr h =>
    obtain ⟨i, m, rfl, hi, p⟩ := g
    cases n'
    exact .inl (.inl ⟨_, _, i, .int m, rfl, rfl, h, atI_map V.int hi, k _ _ Hs H p Tr.refl sr (.int m)⟩)
  | _ => exact False.elim g
theorem d_ix (hu : X.A.units + 1 < cLine) {ma mb : EM D} (ha : DE X RPk a ma) (hb : DE X RPk b mb) (hs : PlainIx b) : DE X RShr (.Subscript a b pos) (mOp gIx ma mb) := fun Z E hE => by
  obtain ⟨r, hr, hg⟩ := (ixd (X := X) hu).ex
  refine ⟨fun pins s σ H Q I ⟨Hs, env, C, P, sr, q, k⟩ => (pe_ix hr (ha Z E hE) (hb Z E hE) hs).run pins s σ H Q I ?_⟩
  refine ⟨Hs, env, C, _, sr, q, fun d env1 C1 v Hs1 H1 q1 t1 s1 r1 => ?_⟩
  refine ⟨Hs1, env1, C1, _, s1, q1, fun e env2 C2 u Hs2 H2 q2 t2 s2 r2 => ?_⟩
  exact hg Z σ Hs2 H2 env2 C2 _ _ v u _ Q s2 ((r1.tr t2 (Z' := Z) (σ' := σ) (env' := env2)).now s2.fit) (r2.now s2.fit) q2 fun x w Hs' H' p t s rr => k _ _ _ w Hs' H' p ((t1.trans t2).trans t) s rr
/-! ### slices -/
/-- the part from lo to hi -/
def cutL {α : Type} (xs : List α) (lo hi : Option Int) : List α := (xs.drop (HT.sIx xs.length 0 lo)).take (HT.sIx xs.length xs.length hi - HT.sIx xs.length 0 lo)
def mPart (m : EM D) : EM (Option Int) := fun E env C Q => m E env C fun d env1 C1 => ∃ i, d = .int i ∧ Q (some i) env1 C1
def mNoP : EM (Option Int) := fun _ env C Q => Q none env C
def LO (K : PySem.W.Frag) (Z : Z0) (m : DM (Option Int)) : TO := fun σ H Q => ∃ Hs env C P, SR K Z σ Hs H env C ∧ m env C P ∧
  ∀ o env' C' Hs' H', P o env' C' → Tr Hs H C Hs' H' C' → SR K Z σ Hs' H' env' C' → Q o H'
def DO (X : Cx) (e : Option Expr) (m : EM (Option Int)) : Prop := ∀ Z E, DX X Z E → PO X e (LO X.K Z (m E))
theorem do_none : DO X none mNoP := fun Z E hE => ⟨fun pins s σ H Q I ⟨Hs, env, C, P, sr, q, k⟩ => po_none.run pins s σ H Q I (k _ _ _ Hs H q Tr.refl sr)⟩
theorem do_some {m : EM D} (h : DE X RPk e m) : DO X (some e) (mPart m) := fun Z E hE => by
  refine ⟨fun pins s σ H Q I ⟨Hs, env, C, P, sr, q, k⟩ => (po_some (h Z E hE)).run pins s σ H Q I ?_⟩
  refine ⟨Hs, env, C, _, sr, q, fun d env1 C1 v Hs1 H1 q1 t1 s1 r1 => ?_⟩
  obtain ⟨i, rfl, q1⟩ := q1
  have n := r1.now s1.fit
  cases n
  exact ⟨i, rfl, k _ _ _ Hs1 H1 q1 t1 s1⟩
def gCut (d : D) (lo hi : Option Int) (P : D → Prop) : Prop := match d with
  | .lst xs => P (.lst (cutL xs lo hi))
  | .tup xs => P (.tup (cutL xs lo hi))
  | .str s => s.length ≤ sizeLine ∧ P (.str (cutL s lo hi))
  | _ => False
def mCut (m : EM D) (ml mh : EM (Option Int)) : EM D := fun E env C Q => m E env C fun d env1 C1 => ml E env1 C1 fun lo env2 C2 => mh E env2 C2 fun hi env3 C3 => gCut (dr C3 d) lo hi fun x => Q x env3 C3
theorem cut_whole {α β : Type} {xs : List α} {ys : List β} {lo hi : Option Int} (l : xs.length = ys.length) (w : HT.sIx ys.length 0 lo = 0 ∧ HT.sIx ys.length ys.length hi = ys.length) : cutL xs lo hi = xs := by
  unfold cutL
  rw [l, w.1, w.2, List.drop_zero, Nat.sub_zero, ← l, List.take_length]
theorem cut_rep {K : PySem.W.Frag} {Hs : Hp} {xs : List D} {vs : List V} (r : RepL K Hs xs vs) (lo hi : Option Int) : RepL K Hs (cutL xs lo hi) (cutV vs lo hi) := by
  unfold cutL cutV
  rw [r.length]
  exact (r.drop _).take _
theorem d_cut {lo hi : Option Expr} {p2 : Pos} {m : EM D} {ml mh : EM (Option Int)} (h : DE X RPk e m) (hl : DO X lo ml) (hh : DO X hi mh) : DE X RShr (.Subscript e (.Slice lo hi none p2) pos) (mCut m ml mh) := fun Z E hE => by
  refine ⟨fun pins s σ H Q I ⟨Hs, env, C, P, sr, q, k⟩ => (pe_slice (sl_list.or (sl_tupA.or sl_str)) (h Z E hE) (hl Z E hE) (hh Z E hE)).run pins s σ H Q I ?_⟩
  refine ⟨Hs, env, C, _, sr, q, fun d env1 C1 v Hs1 H1 q1 t1 s1 r1 => ?_⟩
  refine ⟨Hs1, env1, C1, _, s1, q1, fun i env2 C2 Hs2 H2 q2 t2 s2 => ?_⟩
  refine ⟨Hs2, env2, C2, _, s2, q2, fun j env3 C3 Hs3 H3 q3 t3 s3 => ?_⟩
  have n := (r1.tr (t2.trans t3) (Z' := Z) (σ' := σ) (env' := env3)).now s3.fit
  have t0 := (t1.trans t2).trans t3
  generalize dr C3 d = x at n q3
  cases n with
  | lst e1 r => exact .inl ⟨_, _, rfl, SqL.of e1, fun p hp => k _ _ _ _ _ _ q3 (t0.trans (Tr.lay s3.fit hp _)) (s3.lay hp _) (.lst upd_same ((cut_rep r i j).same (same_upd (s3.fit.nothing hp).1)))⟩
  | tup e1 r =>
    refine .inr (.inl ⟨_, _, rfl, TupA.sq s3.fit.sub e1, fun w => ?_, fun w p hp => ?_⟩)
    · have q4 := q3
      simp only [gCut] at q4
      rw [cut_whole r.length w] at q4
      exact k _ _ _ _ _ _ q4 t0 s3 (.tup e1 r)
    · exact k _ _ _ _ _ _ q3 (t0.trans (Tr.lay s3.fit hp _)) (s3.lay hp _) (.tup (.inl upd_same) ((cut_rep r i j).same (same_upd (s3.fit.nothing hp).1)))
  | str s =>
    refine .inr (.inr ⟨_, rfl, by rw [sV_len]; exact q3.1, ?_⟩)
    have e2 : cutS (sV s) i j = sV (cutL s i j) := by
      unfold cutS cutL
      rw [sV_len, sV_cps]
      rfl
    rw [e2]
    exact k _ _ _ _ _ _ q3.2 t0 s3 (.str _)
  | _ => exact False.elim q3
/-! ### calls of built-ins by name -/
inductive RNs (K : PySem.W.Frag) (Hs H : Hp) : List D → List V → Prop
  | nil : RNs K Hs H [] []
  | cons {d : D} {v : V} {ds : List D} {vs : List V} : RNow K Hs H d v → RNs K Hs H ds vs → RNs K Hs H (d :: ds) (v :: vs)
theorem RAll.now {K : PySem.W.Frag} {Z : Z0} {σ : St} {Hs H : Hp} {env : DL.Env} {C : Cs} (f : Fits K Hs H C) : ∀ {ds : List D} {vs : List V}, RAll K RPk Z σ Hs H env C ds vs → RNs K Hs H (ds.map (dr C)) vs
  | _, _, .nil => .nil
  | _, _, .cons h r => .cons (h.now f) (r.now f)
structure CallD (X : Cx) (f : Value) {α : Type} (R : RR α) (g : List D → (α → Prop) → Prop) : Prop where
  ex : ∃ r, CallR X f r ∧ ∀ Z σ Hs H env C ds vs (P : α → Prop) Q, SR X.K Z σ Hs H env C → RNs X.K Hs H ds vs → g ds P →
    (∀ a w Hs' H', P a → Tr Hs H C Hs' H' C → SR X.K Z σ Hs' H' env C → R X.K Z σ Hs' H' env C a w → Q w H') → r vs H Q
def mCallB {α : Type} (g : List D → (α → Prop) → Prop) (ms : EM (List D)) : EM α := fun E env C Q => ms E env C fun ds env1 C1 => g (ds.map (dr C1)) fun x => Q x env1 C1
theorem callB_run {α : Type} {R : RR α} {f : Value} {g : List D → (α → Prop) → Prop} (c : CallD X f R g) {ms : EM (List D)} (h : DA X RPk es ms) :
    ∃ r, CallR X f r ∧ ∀ Z E, DX X Z E → ∀ σ H Q, LG X.K R Z (mCallB g ms E) σ H Q → tCB r (LA X.K RPk Z (ms E)) σ H Q := by
  obtain ⟨r, hr, hg⟩ := c.ex
  refine ⟨r, hr, fun Z E hE σ H Q ⟨Hs, env, C, P, sr, q, k⟩ => ?_⟩
  refine ⟨Hs, env, C, _, sr, q, fun ds env1 C1 vs Hs1 H1 q1 t1 s1 r1 => ?_⟩
  exact hg Z σ Hs1 H1 env1 C1 _ vs _ Q s1 (r1.now s1.fit) q1 fun x w Hs' H' p t s rr => k _ _ _ w Hs' H' p (t1.trans t) s rr
theorem d_callB {α : Type} {R : RR α} {id : String} {x : Str} {p : Pos} {g : List D → (α → Prop) → Prop} (c : CallD X (.builtin id) R g) {ms : EM (List D)} (h : DA X RPk (e :: es) ms)
    (hg : Gl X x) (hm : X.mg x = none) (hv : bootBuiltins x = some (.builtin id)) (hn : x ≠ "__name__") (hdb : (x == ("__debug__" : Str)) = false)
    (he : starEach (e :: es) X.env = (false, eval e X.env) :: starEach es X.env) (hpl : (backTo pos (starEach es X.env)).any (·.1) = false) : DE X R (.Call (.Name x p) (e :: es) [] pos) (mCallB g ms) := fun Z E hE => by
  obtain ⟨r, hr, i⟩ := callB_run c h
  exact ⟨fun pins s σ H Q I q => (pe_callB hr hg hm hv (h Z E hE) hn hdb he hpl).run pins s σ H Q I (i Z E hE σ H Q q)⟩
theorem d_callTy {α : Type} {R : RR α} {T : String} {x : Str} {p : Pos} {g : List D → (α → Prop) → Prop} (c : CallD X (.type T) R g) {ms : EM (List D)} (h : DA X RPk (e :: es) ms)
    (hg : Gl X x) (hm : X.mg x = none) (hv : bootBuiltins x = some (.type T)) (hn : x ≠ "__name__") (hdb : (x == ("__debug__" : Str)) = false)
    (he : starEach (e :: es) X.env = (false, eval e X.env) :: starEach es X.env) (hpl : (backTo pos (starEach es X.env)).any (·.1) = false) : DE X R (.Call (.Name x p) (e :: es) [] pos) (mCallB g ms) := fun Z E hE => by
  obtain ⟨r, hr, i⟩ := callB_run c h
  exact ⟨fun pins s σ H Q I q => (pe_callTy hr hg hm hv (h Z E hE) hn hdb he hpl).run pins s σ H Q I (i Z E hE σ H Q q)⟩
end
end L2.DL
/-! DLg: statements. -/
namespace L2.DL
open PySem PySem.Spec PyProof.Rows
section
variable {X : Cx} {e a b : Expr} {es : List Expr} {st : Stmt} {sts : List Stmt} {pos : Pos} {K : PySem.W.Frag} {Z Z' : Z0}
/-! ### a raised floor -/
structure Up (Z Z' : Z0) : Prop where
  fl : Same Z.F Z'.F
  hs : Z'.Hs = Z.Hs
  h : Z'.H = Z.H
  c : Z'.C = Z.C
theorem Bas.up {Hs H : Hp} {C : Cs} (u : Up Z Z') (b : Bas Z' Hs H C) : Bas Z Hs H C :=
  ⟨u.fl.trans b.fl, by rw [← u.hs, ← u.h, ← u.c]; exact b.kp, by rw [← u.h]; exact b.th⟩
theorem SR.up {σ : St} {Hs H : Hp} {env : DL.Env} {C : Cs} (u : Up Z Z') (r : SR K Z' σ Hs H env C) : SR K Z σ Hs H env C :=
  ⟨r.fit, r.bas.up u, r.slt.len, r.slt.shr, fun i c e => by
    obtain ⟨p, o, e1, e2, r1, n1, n2, n3⟩ := r.slt.own i c e
    exact ⟨p, o, e1, e2, r1, n1, n2, by rw [← u.h]; exact n3⟩, r.slt.sep⟩
theorem SR.raise {σ : St} {Hs H : Hp} {env : DL.Env} {C : Cs} (r : SR K Z σ Hs H env C) : SR K { Z with F := Hs } σ Hs H env C :=
  ⟨r.fit, ⟨Same.refl _, r.bas.kp, r.bas.th⟩, r.slt.len, r.slt.shr, r.slt.own, r.slt.sep⟩
theorem Up.raise {σ : St} {Hs H : Hp} {env : DL.Env} {C : Cs} (r : SR K Z σ Hs H env C) : Up Z { Z with F := Hs } := ⟨r.bas.fl, rfl, rfl, rfl⟩
theorem DX.up {E : EX} (u : Up Z Z') (h : DX X Z E) : DX X Z' E := Takes.imp h fun _ _ _ _ ⟨Hs, env, C, x, r, q, e⟩ => ⟨Hs, env, C, x, r.up u, q, e⟩
theorem RRet.up {Hs H : Hp} {C : Cs} {r : Ret} {v : V} (u : Up Z Z') (h : RRet K Z' Hs H C r v) : RRet K Z Hs H C r v := by
  cases r with
  | shr d => exact h
  | frs c => obtain ⟨p, o, e1, e2, r1, n1, n2, n3⟩ := h; exact ⟨p, o, e1, e2, r1, n1, n2, by rw [← u.h]; exact n3⟩
theorem EndsOk.up {dE : DEnds} {D : Ends} (u : Up Z Z') (h : EndsOk K Z dE D) : EndsOk K Z' dE D :=
  ⟨fun σ Hs H env C r q => h.1 σ Hs H env C (r.up u) q, fun r v Hs H C f b rr q => h.2.1 r v Hs H C f (b.up u) (rr.up u) q,
    fun σ Hs H env C r q => h.2.2.1 σ Hs H env C (r.up u) q, fun σ Hs H env C r q => h.2.2.2 σ Hs H env C (r.up u) q⟩
/-! ### blocks -/
def sNext : SM := fun _ dE env C => dE.nx env C
def sSeq (m m' : SM) : SM := fun E dE env C => m E { dE with nx := fun env1 C1 => m' E dE env1 C1 } env C
theorem ds_nil : DSs X [] sNext := fun Z E hE => ⟨fun pins s σ H D I ⟨Hs, env, C, dE, sr, ok, q⟩ => pss_nil.run pins s σ H D I (ok.1 _ _ _ _ _ sr q)⟩
theorem ds_cons {m m' : SM} (h : DS X st m) (h' : DSs X sts m') : DSs X (st :: sts) (sSeq m m') := fun Z E hE => ⟨fun pins s σ H D I ⟨Hs, env, C, dE, sr, ok, q⟩ =>
  (pss_cons (h Z E hE) (h' Z E hE)).run pins s σ H D I ⟨Hs, env, C, { dE with nx := fun env1 C1 => m' E dE env1 C1 }, sr, ⟨fun σ1 Hs1 H1 env1 C1 r1 q1 => ⟨Hs1, env1, C1, dE, r1, ok, q1⟩, ok.2.1, ok.2.2.1, ok.2.2.2⟩, q⟩⟩
theorem ds_one {m : SM} (h : DS X st m) : DSs X [st] m := fun Z E hE => pss_one (h Z E hE)
def sDrop (m : EM D) : SM := fun E dE env C => m E env C fun _ env1 C1 => dE.nx env1 C1
theorem ds_expr {m : EM D} (h : DE X RPk e m) (hs : swapsWith e none pos.line X.env = pure false) : DS X (.Expr e pos) (sDrop m) := fun Z E hE => ⟨fun pins s σ H D I ⟨Hs, env, C, dE, sr, ok, q⟩ =>
  (ps_expr (h Z E hE) hs).run pins s σ H D I ⟨Hs, env, C, _, sr, q, fun d env1 C1 v Hs1 H1 q1 t1 s1 r1 => ok.1 _ _ _ _ _ s1 q1⟩⟩
def sRet (m : EM D) : SM := fun E dE env C => m E env C fun d _ C1 => dE.rt (.shr d) C1
theorem ds_ret {m : EM D} (h : DE X RShr e m) : DS X (.Return (some e) pos) (sRet m) := fun Z E hE => ⟨fun pins s σ H D I ⟨Hs, env, C, dE, sr, ok, q⟩ =>
  (ps_ret (h Z E hE)).run pins s σ H D I ⟨Hs, env, C, _, sr, q, fun d env1 C1 v Hs1 H1 q1 t1 s1 r1 => ok.2.1 (.shr d) _ _ _ _ s1.fit s1.bas r1 q1⟩⟩
def sRetF (m : EM Cont) : SM := fun E dE env C => m E env C fun c _ C1 => dE.rt (.frs c) C1
theorem ds_retF {m : EM Cont} (h : DE X RFr e m) : DS X (.Return (some e) pos) (sRetF m) := fun Z E hE => ⟨fun pins s σ H D I ⟨Hs, env, C, dE, sr, ok, q⟩ =>
  (ps_ret (h Z E hE)).run pins s σ H D I ⟨Hs, env, C, _, sr, q, fun d env1 C1 v Hs1 H1 q1 t1 s1 ⟨p, o, e1, e2, r1, n1, n2, n3, no⟩ => ok.2.1 (.frs d) _ _ _ _ s1.fit s1.bas ⟨p, o, e1, e2, r1, n1, n2, n3⟩ q1⟩⟩
/-- return of a container that the slot owns -/
def sRetO (i : Nat) : SM := fun _ dE env C => match env[i]? with
  | some (.own c) => dE.rt (.frs c) C
  | some (.shr d) => dE.rt (.shr d) C
  | _ => False
theorem ds_retO {i : Nat} (h : PE X e (tVar i)) : DS X (.Return (some e) pos) (sRetO i) := fun Z E hE => ⟨fun pins s σ H D I ⟨Hs, env, C, dE, sr, ok, q⟩ => by
  refine (ps_ret h).run pins s σ H D I ?_
  unfold sRetO at q
  split at q
  · rename_i c he
    obtain ⟨p, o, e1, e2, rc, n1, n2, n3⟩ := sr.slt.own i c he
    exact ⟨_, e1, ok.2.1 (.frs c) _ _ _ _ sr.fit sr.bas ⟨p, o, rfl, e2, rc, n1, n2, n3⟩ q⟩
  · rename_i d he
    obtain ⟨v, e1, rv⟩ := sr.slt.shr i d he
    exact ⟨_, e1, ok.2.1 (.shr d) _ _ _ _ sr.fit sr.bas rv q⟩
  · exact q.elim⟩
def sIf (t : EM Bool) (m m' : SM) : SM := fun E dE env C => t E env C fun k env1 C1 => if k = true then m E dE env1 C1 else m' E dE env1 C1
theorem ds_if {c : Expr} {sa sb : List Stmt} {mc : EM Bool} {m m' : SM} (hc : DT X c mc) (h : DSs X sa m) (h' : DSs X sb m') : DS X (.If c sa sb pos) (sIf mc m m') := fun Z E hE => ⟨fun pins s σ H D I ⟨Hs, env, C, dE, sr, ok, q⟩ => by
  refine (ps_if (hc Z E hE) (h Z E hE) (h' Z E hE)).run pins s σ H D I ?_
  refine ⟨Hs, env, C, _, sr, q, fun k env1 C1 Hs1 H1 q1 t1 s1 => ?_⟩
  cases k with
  | true => rw [if_pos rfl] at q1 ⊢; exact ⟨Hs1, env1, C1, dE, s1, ok, q1⟩
  | false => rw [if_neg Bool.false_ne_true] at q1 ⊢; exact ⟨Hs1, env1, C1, dE, s1, ok, q1⟩⟩
/-! ### name = e -/
def sSet (i : Nat) (m : EM D) : SM := fun E dE env C => m E env C fun d env1 C1 => dE.nx (env1.set i (.shr d)) C1
theorem ds_set {i : Nat} {te : Expr} {m : EM D} (h : DE X RShr e m) (hp : ∀ {t : TE}, PE X e t → PS X (.Assign [te] e pos) (tAsg t (gName i))) : DS X (.Assign [te] e pos) (sSet i m) := fun Z E hE => ⟨fun pins s σ H D I ⟨Hs, env, C, dE, sr, ok, q⟩ =>
  (hp (h Z E hE)).run pins s σ H D I ⟨Hs, env, C, _, sr, q, fun d env1 C1 v Hs1 H1 q1 t1 s1 r1 => ok.1 _ _ _ _ _ (s1.setS r1) q1⟩⟩
def sSetO (i : Nat) (m : EM Cont) : SM := fun E dE env C => m E env C fun c env1 C1 => dE.nx (env1.set i (.own c)) C1
theorem ds_setO {i : Nat} {te : Expr} {m : EM Cont} (h : DE X RFr e m) (hp : ∀ {t : TE}, PE X e t → PS X (.Assign [te] e pos) (tAsg t (gName i))) : DS X (.Assign [te] e pos) (sSetO i m) := fun Z E hE => ⟨fun pins s σ H D I ⟨Hs, env, C, dE, sr, ok, q⟩ =>
  (hp (h Z E hE)).run pins s σ H D I ⟨Hs, env, C, _, sr, q, fun d env1 C1 v Hs1 H1 q1 t1 s1 r1 => ok.1 _ _ _ _ _ (s1.setO r1) q1⟩⟩
/-! ### targets -/
abbrev GM := D → (DL.Env → Cs → Prop) → DL.Env → Cs → Prop
def LGt (K : PySem.W.Frag) (Z : Z0) (m : GM) : TG := fun v σ H Q => ∃ Hs env C d P, SR K Z σ Hs H env C ∧ Rep K Hs d v ∧ m d P env C ∧ ∀ σ' Hs' H' env' C', SR K Z σ' Hs' H' env' C' → P env' C' → Q σ' H'
def DG (X : Cx) (tg : Expr) (m : GM) : Prop := ∀ Z, PG X tg (LGt X.K Z m)
def gN (i : Nat) : GM := fun d P env C => P (env.set i (.shr d)) C
theorem dg_name {i : Nat} (h : PG X e (gName i)) : DG X e (gN i) := fun Z => ⟨fun pins s σ H v u Q I r ⟨Hs, env, C, d, P, sr, rd, q, k⟩ => h.run pins s σ H v u Q I r (k _ _ _ _ _ (sr.setS rd) q)⟩
abbrev GMs := List D → (DL.Env → Cs → Prop) → DL.Env → Cs → Prop
def gsNil : GMs := fun ds P env C => ds = [] ∧ P env C
def gsCons (m : GM) (ms : GMs) : GMs := fun ds P env C => match ds with
  | d :: r => m d (fun env1 C1 => ms r P env1 C1) env C
  | [] => False
def gTupD (n : Nat) (ms : GMs) : GM := fun d P env C => match d with
  | .tup ds => ds.length = n ∧ ms ds P env C
  | _ => False
/-- target = e -/
def sAsg (g : GM) (m : EM D) : SM := fun E dE env C => m E env C fun d env1 C1 => g d dE.nx env1 C1
theorem ds_asg {tg : Expr} {m : EM D} {g : GM} (h : DE X RShr e m) (hg : DG X tg g) (hs : swapsWithSole [tg] e pos.line X.env = pure false) (hw : swappedStores [tg] e X.env = pure none)
    (h1 : (assignEach [tg] X.env).map (·.2) = [assign tg X.env]) : DS X (.Assign [tg] e pos) (sAsg g m) := fun Z E hE => ⟨fun pins s σ H D I ⟨Hs, env, C, dE, sr, ok, q⟩ =>
  (ps_asg (h Z E hE) (hg Z) hs hw h1).run pins s σ H D I ⟨Hs, env, C, _, sr, q, fun d env1 C1 v Hs1 H1 q1 t1 s1 r1 => ⟨Hs1, env1, C1, d, dE.nx, s1, r1, q1, fun σ' Hs' H' env' C' s' p => ok.1 _ _ _ _ _ s' p⟩⟩⟩
/-- a, b = x, y by the stores swapped -/
def sPar (i j : Nat) (ms : EM (List D)) : SM := fun E dE env C => ms E env C fun ds env1 C1 => match ds with
  | [d, e] => dE.nx ((env1.set i (.shr d)).set j (.shr e)) C1
  | _ => False
/-! ### while -/
/-! ### for -/
/-- what an iterator gives: the trees ds, whatever else the heap does -/
structure Walks (K : PySem.W.Frag) (J : It) (ds : List D) (F : Hp) : Prop where
  go : ∀ (i : Nat) (d : D) Hs H C, ds[i]? = some d → Same F Hs → Fits K Hs H C → J.go i H
  yld : ∀ (i : Nat) (d : D) Hs H C x H', ds[i]? = some d → Same F Hs → Fits K Hs H C → J.yld i H x H' → ∃ Hs', Rep K Hs' d x ∧ Same Hs Hs' ∧ ∀ Z σ env, SR K Z σ Hs H env C → SR K Z σ Hs' H' env C ∧ Tr Hs H C Hs' H' C
  stop : ∀ Hs H C, Same F Hs → Fits K Hs H C → J.stop ds.length H
def LI (K : PySem.W.Frag) (Z : Z0) (m : DM (List D)) : TI := fun σ H R => ∃ Hs env C P, SR K Z σ Hs H env C ∧ m env C P ∧
  ∀ ds env' C' J Hs' H', P ds env' C' → Tr Hs H C Hs' H' C' → SR K Z σ Hs' H' env' C' → Walks K J ds Hs' → R J H'
def DI (X : Cx) (tg iter : Expr) (m : EM (List D)) : Prop := ∀ Z E, DX X Z E → PI X tg iter (LI X.K Z (m E))
def forL (g : GM) (mb : SM) (E : EX) (dE : DEnds) : List D → DL.Env → Cs → Prop
  | [], env, C => dE.nx env C
  | d :: ds, env, C => g d (fun env1 C1 => mb E { dE with nx := forL g mb E dE ds, ct := forL g mb E dE ds, bk := dE.nx } env1 C1) env C
def sFor (g : GM) (mi : EM (List D)) (mb : SM) : SM := fun E dE env C => mi E env C fun ds env1 C1 => forL g mb E dE ds env1 C1
theorem ds_for {tg iter : Expr} {body : List Stmt} {g : GM} {mi : EM (List D)} {mb : SM} (hp : PassesOwn (model X.prog X.w) X.A X.env X.xe) (hc : X.calm = true) (hi : DI X tg iter mi) (hg : DG X tg g) (hb : DSs X body mb)
    (hs : ∀ x, foldedSetIterable iter X.env x = pure x) : DS X (.For tg iter body [] pos) (sFor g mi mb) := fun Z E hE => ⟨fun pins s σ H D I ⟨Hs, env, C, dE, sr, ok, q⟩ => by
  have hg' : PG X tg (fun v σ H Q => ∃ Z', LGt X.K Z' g v σ H Q) := ⟨fun pins s σ H v u Q I r ⟨Z', q⟩ => (hg Z').run pins s σ H v u Q I r q⟩
  have hb' : PSs X body (fun D σ H => ∃ Z', DX X Z' E ∧ LS X.K Z' (mb E) D σ H) := ⟨fun pins s σ H D I ⟨Z', hE', q⟩ => (hb Z' E hE').run pins s σ H D I q⟩
  refine (ps_for hp hc (hi Z E hE) hg' hb' hs).run pins s σ H D I ?_
  refine ⟨Hs, env, C, _, sr, q, fun ds env1 C1 J Hs1 H1 q1 t1 s1 wk => ?_⟩
  have u : Up Z { Z with F := Hs1 } := Up.raise s1
  refine ⟨fun i m σ H => m = ds.length - i ∧ i ≤ ds.length ∧ ∃ Hs env C, SR X.K { Z with F := Hs1 } σ Hs H env C ∧ forL g mb E dE (ds.drop i) env C, ⟨ds.length, by simp, Nat.zero_le _, Hs1, env1, C1, s1.raise, by simpa using q1⟩, ?_⟩
  rintro i m σ2 H2 ⟨rfl, hi2, Hs2, env2, C2, s2, q2⟩
  by_cases hlt : i < ds.length
  · have hd : ds[i]? = some ds[i] := by simp [hlt]
    rw [List.drop_eq_getElem_cons hlt] at q2
    refine .inr ⟨wk.go i _ Hs2 H2 C2 hd s2.bas.fl s2.fit, fun σ' H' => ∃ Hs env C, SR X.K { Z with F := Hs1 } σ' Hs H' env C ∧ forL g mb E dE (ds.drop (i + 1)) env C, fun σ' H' ⟨Hs', env', C', s', q'⟩ => ⟨ds.length - (i + 1), by omega, rfl, hlt, Hs', env', C', s', q'⟩, fun x H' y => ?_⟩
    obtain ⟨Hs3, r3, l3, f3⟩ := wk.yld i _ Hs2 H2 C2 x H' hd s2.bas.fl s2.fit y
    obtain ⟨s3, t3⟩ := f3 _ _ _ s2
    refine ⟨{ Z with F := Hs1 }, Hs3, env2, C2, _, fun env1 C1 => mb E { dE with nx := forL g mb E dE (ds.drop (i + 1)), ct := forL g mb E dE (ds.drop (i + 1)), bk := dE.nx } env1 C1, s3, r3, q2, fun σ' Hs' H' env' C' s' p => ⟨{ Z with F := Hs1 }, DX.up u hE, Hs', env', C', { dE with nx := forL g mb E dE (ds.drop (i + 1)), ct := forL g mb E dE (ds.drop (i + 1)), bk := dE.nx }, s', ⟨?_, (ok.up u).2.1, (ok.up u).1, ?_⟩, p⟩⟩
    · exact fun σ Hs H env C r z => ⟨Hs, env, C, r, z⟩
    · exact fun σ Hs H env C r z => ⟨Hs, env, C, r, z⟩
  · have e : i = ds.length := by omega
    subst e
    rw [List.drop_length] at q2
    exact .inl ⟨wk.stop Hs2 H2 C2 s2.bas.fl s2.fit, (ok.up u).1 _ _ _ _ _ s2 q2⟩⟩
end
end L2.DL
/-! DLh: what is walked; list comprehensions. -/
namespace L2.DL
open PySem PySem.Spec PyProof.Rows
section
variable {X : Cx} {tg e e2 : Expr} {es : List Expr} {pos : Pos} {K : PySem.W.Frag} {Z Z' : Z0}
/-- a list, a tuple, a text, by what it is -/
def iSeq (K : PySem.W.Frag) (te : TE) : TI := fun σ H R => te σ H fun x H1 => (∃ a, x = .ref a ∧ (∃ xs, SqL K H1 a xs) ∧ R (Itl K a) H1) ∨ (∃ a, x = .ref a ∧ (∃ xs, SqT K H1 a xs) ∧ R (Itt K a) H1) ∨ ∃ z, x = .str z ∧ R (Its z) H1
theorem pi_seq {te : TE} (he : PE X e te) : PI X tg e (iSeq X.K te) := by
  refine ⟨fun pins s σ H R I h => ?_⟩
  refine thn (he.run pins s σ H _ I h) fun v s1 ⟨x, H1, I1, r1, q1⟩ => ?_
  rcases q1 with ⟨a, rfl, ⟨xs, hq⟩, q⟩ | ⟨a, rfl, ⟨xs, hq⟩, q⟩ | ⟨z, rfl, q⟩
  · cases r1
    obtain ⟨its, rv, p, hz⟩ := I1.list hq
    refine wpAny_pyIter_list p.isList ?_
    refine ⟨s1.heap.objs.size, [s1.heap.objs.size], _, _, H1, rfl, I1.kept (t' := s1.toks) fun b o e => Heap.get?_push_of_some _ e, turn_list a _, ⟨_, Heap.get?_push_size _ rfl, rfl, rfl⟩, fun b hb => ?_, q⟩
    have e : b = s1.heap.objs.size := by simpa using hb
    subst e
    exact I1.fpOk (Nat.le_refl _) (I1.hok.fresh (Nat.le_refl _))
  · cases r1
    obtain ⟨its, rv, p, hz⟩ := I1.tuple hq
    refine wpAny_pyIter_tuple (show s1.heap.IsTuple a its.toArray from p) ?_
    refine ⟨s1.heap.objs.size, [s1.heap.objs.size], _, _, H1, rfl, I1.kept (t' := s1.toks) fun b o e => Heap.get?_push_of_some _ e, turn_tuple a _, ⟨_, Heap.get?_push_size _ rfl, rfl, rfl⟩, fun b hb => ?_, q⟩
    have e : b = s1.heap.objs.size := by simpa using hb
    subst e
    exact I1.fpOk (Nat.le_refl _) (I1.hok.fresh (Nat.le_refl _))
  · obtain ⟨t, rfl⟩ := r1
    cases ha : z.cps.all (· < 128)
    · exact wpAny_pyIter_wide ha (pi_one (tk := s1.toks) I1 _ (turn_str _ z t "str_iterator" (.inr rfl)) ⟨_, Heap.get?_push_size _ rfl, rfl, rfl⟩ q)
    · exact wpAny_pyIter_ascii ha (pi_one (tk := s1.toks) I1 _ (turn_str _ z t "str_ascii_iterator" (.inl rfl)) ⟨_, Heap.get?_push_size _ rfl, rfl, rfl⟩ q)
/-- the trees that are walked -/
def iterD : D → Option (List D)
  | .lst xs => some xs
  | .tup xs => some xs
  | .tupT ts => some (ts.map .str)
  | .kt => some []
  | .str s => some (s.map fun c => .str [c])
  | .scr ns => some (ns.map .int)
  | _ => none
/-- what stays in F is read alike from there on -/
theorem rep_walk_list {a : Addr} {ds : List D} {F : Hp} {vs : List V} (h : F a = some (.lst vs)) (r : RepL K F ds vs) : Walks K (Itl K a) ds F := by
  refine ⟨fun i d Hs H C e s f => ?_, fun i d Hs H C x H' e s f y => ?_, fun Hs H C s f => ?_⟩
  · obtain ⟨v, h1, h2⟩ := r.get' e
    exact ⟨vs, v, SqL.of (f.sub _ _ (s _ _ h)), h1⟩
  · obtain ⟨rfl, y⟩ := y
    obtain ⟨v, h1, h2⟩ := r.get' e
    have e1 := y vs (SqL.of (f.sub _ _ (s _ _ h)))
    rw [h1] at e1
    cases e1
    exact ⟨Hs, h2.same s, Same.refl _, fun Z σ env sr => ⟨sr, Tr.refl⟩⟩
  · exact ⟨vs, SqL.of (f.sub _ _ (s _ _ h)), by rw [r.length]; exact Nat.le_refl _⟩
theorem rep_walk_tup {a : Addr} {ds : List D} {F : Hp} {vs : List V} (h : TupA F a vs) (r : RepL K F ds vs) : Walks K (Itt K a) ds F := by
  refine ⟨fun i d Hs H C e s f => ?_, fun i d Hs H C x H' e s f y => ?_, fun Hs H C s f => ?_⟩
  · obtain ⟨v, h1, h2⟩ := r.get' e
    exact ⟨vs, v, TupA.sq f.sub (TupA.same s h), h1⟩
  · obtain ⟨rfl, y⟩ := y
    obtain ⟨v, h1, h2⟩ := r.get' e
    have e1 := y vs (TupA.sq f.sub (TupA.same s h))
    rw [h1] at e1
    cases e1
    exact ⟨Hs, h2.same s, Same.refl _, fun Z σ env sr => ⟨sr, Tr.refl⟩⟩
  · exact ⟨vs, TupA.sq f.sub (TupA.same s h), by rw [r.length]; exact Nat.le_refl _⟩
theorem rep_walk_kt {a : Addr} {F : Hp} (h : KT0 K a) : Walks K (Itt K a) [] F := by
  refine ⟨fun i d Hs H C e s f => by simp at e, fun i d Hs H C x H' e s f y => by simp at e, fun Hs H C s f => ?_⟩
  exact ⟨[], h.sq, Nat.le_refl _⟩
theorem rep_walk_scr {a : Addr} {ns : List Int} {F : Hp} (h : SqL K F a (ns.map V.int)) : Walks K (Itl K a) (ns.map .int) F := by
  refine ⟨fun i d Hs H C e s f => ?_, fun i d Hs H C x H' e s f y => ?_, fun Hs H C s f => ?_⟩
  · obtain ⟨n, h1, rfl⟩ := List.getElem?_map (f := D.int) (l := ns) (i := i) ▸ e |> Option.map_eq_some_iff.mp
    exact ⟨_, .int n, f.sub.seq (s.seq h), by rw [List.getElem?_map, h1]; rfl⟩
  · obtain ⟨rfl, y⟩ := y
    obtain ⟨n, h1, rfl⟩ := List.getElem?_map (f := D.int) (l := ns) (i := i) ▸ e |> Option.map_eq_some_iff.mp
    have e1 := y _ (f.sub.seq (s.seq h))
    rw [List.getElem?_map, h1] at e1
    cases e1
    exact ⟨Hs, .int n, Same.refl _, fun Z σ env sr => ⟨sr, Tr.refl⟩⟩
  · exact ⟨_, f.sub.seq (s.seq h), by simp⟩
theorem walk_str {s : Txt} {F : Hp} : Walks K (Its (sV s)) (s.map fun c => D.str [c]) F := by
  refine ⟨fun i d Hs H C e _ f => ?_, fun i d Hs H C x H' e _ f y => ?_, fun Hs H C _ f => ?_⟩
  · have := (List.getElem?_eq_some_iff.mp e).1
    show i < (sV s).cps.size
    simpa [sV] using this
  · obtain ⟨rfl, c, h1, rfl⟩ := y
    rw [List.getElem?_map] at e
    obtain ⟨c', h2, rfl⟩ := Option.map_eq_some_iff.mp e
    have h3 : s[i]? = some c := by simpa [sV] using h1
    rw [h2] at h3
    cases h3
    exact ⟨Hs, .str [c], Same.refl _, fun Z σ env sr => ⟨sr, Tr.refl⟩⟩
  · show (sV s).cps.size ≤ _
    simp [sV]
def mIter (m : EM D) : EM (List D) := fun E env C Q => m E env C fun d env1 C1 => match iterD d with
  | some ds => Q ds env1 C1
  | none => False
theorem di_seq {m : EM D} (h : DE X RShr e m) : DI X tg e (mIter m) := fun Z E hE => ⟨fun pins s σ H R I ⟨Hs, env, C, P, sr, q, k⟩ => by
  refine (pi_seq (h Z E hE)).run pins s σ H R I ?_
  refine ⟨Hs, env, C, _, sr, q, fun d env1 C1 v Hs1 H1 q1 t1 s1 r1 => ?_⟩
  cases r1 with
  | lst e1 r => exact .inl ⟨_, rfl, ⟨_, SqL.of (s1.fit.sub _ _ e1)⟩, k _ _ _ _ _ _ q1 t1 s1 (rep_walk_list e1 r)⟩
  | tup e1 r => exact .inr (.inl ⟨_, rfl, ⟨_, TupA.sq s1.fit.sub e1⟩, k _ _ _ _ _ _ q1 t1 s1 (rep_walk_tup e1 r)⟩)
  | tupT d e1 => exact .inr (.inl ⟨_, rfl, ⟨_, TupA.sq s1.fit.sub (.inr ⟨_, d, e1⟩)⟩, k _ _ _ _ _ _ q1 t1 s1 (rep_walk_tup (.inr ⟨_, d, e1⟩) (repl_strs _))⟩)
  | kt h => exact .inr (.inl ⟨_, rfl, ⟨_, h.sq⟩, k _ _ _ _ _ _ q1 t1 s1 (rep_walk_kt h)⟩)
  | str z => exact .inr (.inr ⟨_, rfl, k _ _ _ _ _ _ q1 t1 s1 walk_str⟩)
  | scr e1 => exact .inl ⟨_, rfl, ⟨_, s1.fit.sub.seq e1⟩, k _ _ _ _ _ _ q1 t1 s1 (rep_walk_scr e1)⟩
  | _ => exact q1.elim⟩
/-- the ints from lo on -/
def intsFrom (lo : Int) : Nat → List D
  | 0 => []
  | n + 1 => .int lo :: intsFrom (lo + 1) n
theorem intsFrom_get : ∀ (n : Nat) (lo : Int) (i : Nat), (intsFrom lo n)[i]? = if i < n then some (.int (lo + i)) else none
  | 0, lo, i => by simp [intsFrom]
  | n + 1, lo, 0 => by simp [intsFrom]
  | n + 1, lo, i + 1 => by
    simp only [intsFrom, List.getElem?_cons_succ, intsFrom_get n]
    by_cases h : i < n
    · rw [if_pos h, if_pos (by omega)]
      congr 2
      push_cast
      omega
    · rw [if_neg h, if_neg (by omega)]
theorem intsFrom_len : ∀ (n : Nat) (lo : Int), (intsFrom lo n).length = n
  | 0, _ => rfl
  | n + 1, lo => by simp [intsFrom, intsFrom_len n]
theorem walk_range {lo : Int} {n : Nat} {F : Hp} : Walks K (Itr lo n) (intsFrom lo n) F := by
  refine ⟨fun i d Hs H C e _ f => ?_, fun i d Hs H C x H' e _ f y => ?_, fun Hs H C _ f => ?_⟩
  · rw [intsFrom_get] at e
    show i < n
    by_cases h : i < n
    · exact h
    · rw [if_neg h] at e; cases e
  · obtain ⟨rfl, rfl⟩ := y
    rw [intsFrom_get] at e
    by_cases h : i < n
    · rw [if_pos h] at e
      cases e
      exact ⟨Hs, .int _, Same.refl _, fun Z σ env sr => ⟨sr, Tr.refl⟩⟩
    · rw [if_neg h] at e; cases e
  · show n ≤ _
    rw [intsFrom_len]
    exact Nat.le_refl _
def mRng1 (ms : EM (List D)) : EM (List D) := fun E env C Q => ms E env C fun ds env1 C1 => match ds with
  | [.int j] => (-(2 ^ 62) ≤ j ∧ j < 2 ^ 62) ∧ Q (intsFrom 0 j.toNat) env1 C1
  | _ => False
def mRng2 (ms : EM (List D)) : EM (List D) := fun E env C Q => ms E env C fun ds env1 C1 => match ds with
  | [.int i, .int j] => (-(2 ^ 62) ≤ i ∧ i < 2 ^ 62 ∧ -(2 ^ 62) ≤ j ∧ j < 2 ^ 62) ∧ Q (intsFrom i (j - i).toNat) env1 C1
  | _ => False
theorem di_rng1 {p : Pos} {ms : EM (List D)} (hg : Gl X "range") (hm : X.mg "range" = none) (h : DA X RShr [e] ms) (hs : starEach [e] X.env = [(false, eval e X.env)]) : DI X tg (.Call (.Name "range" p) [e] [] pos) (mRng1 ms) := fun Z E hE => ⟨fun pins s σ H R I ⟨Hs, env, C, P, sr, q, k⟩ => by
  refine (pi_range1 hg hm (h Z E hE) hs).run pins s σ H R I ?_
  refine ⟨Hs, env, C, _, sr, q, fun ds env1 C1 vs Hs1 H1 q1 t1 s1 r1 => ?_⟩
  split at q1
  · rename_i j
    have r := r1.rep
    cases r with
    | cons a r => cases a; cases r; exact ⟨j, rfl, q1.1.1, q1.1.2, k _ _ _ _ _ _ q1.2 t1 s1 walk_range⟩
  · exact q1.elim⟩
theorem di_rng2 {p : Pos} {ms : EM (List D)} (hg : Gl X "range") (hm : X.mg "range" = none) (h : DA X RShr [e, e2] ms) (hs : starEach [e, e2] X.env = [(false, eval e X.env), (false, eval e2 X.env)]) (hs2 : starEach [e2] X.env = [(false, eval e2 X.env)]) : DI X tg (.Call (.Name "range" p) [e, e2] [] pos) (mRng2 ms) := fun Z E hE => ⟨fun pins s σ H R I ⟨Hs, env, C, P, sr, q, k⟩ => by
  refine (pi_range2 hg hm (h Z E hE) hs hs2).run pins s σ H R I ?_
  refine ⟨Hs, env, C, _, sr, q, fun ds env1 C1 vs Hs1 H1 q1 t1 s1 r1 => ?_⟩
  split at q1
  · rename_i i j
    have r := r1.rep
    cases r with
    | cons a r => cases a; cases r with
      | cons b r => cases b; cases r; exact ⟨i, j, rfl, q1.1, k _ _ _ _ _ _ q1.2 t1 s1 walk_range⟩
  · exact q1.elim⟩
/-- pairs (0, a), (1, b), .. -/
def enumD : Nat → List D → List D
  | _, [] => []
  | i, d :: r => .tup [.int i, d] :: enumD (i + 1) r
/-- pairs of the items at the same places -/
def zipD : List D → List D → List D
  | d :: r, e :: r' => .tup [d, e] :: zipD r r'
  | _, _ => []
end
end L2.DL
/-! DLi: list comprehensions. -/
namespace L2.DL
open PySem PySem.Spec PyProof.Rows
section
variable {X : Cx} {tg e e2 : Expr} {es : List Expr} {pos : Pos} {K : PySem.W.Frag} {Z Z' : Z0}
/-! ### targets that store names at vs alone -/
def LGw (K : PySem.W.Frag) (vs : List Nat) (Z : Z0) (m : GM) : TG := fun v σ H Q => ∃ Hs env C d P, SR K Z σ Hs H env C ∧ Rep K Hs d v ∧ m d P env C ∧ ∀ σ' Hs' H' env' C', SR K Z σ' Hs' H' env' C' → Tr Hs H C Hs' H' C' → wipe σ' vs = wipe σ vs → P env' C' → Q σ' H'
def DGw (X : Cx) (vs : List Nat) (tg : Expr) (m : GM) : Prop := ∀ Z, PG X tg (LGw X.K vs Z m)
theorem wipe_set {σ : St} {v : Option V} {i : Nat} : ∀ {vs : List Nat}, i ∈ vs → wipe (σ.set i v) vs = wipe σ vs
  | w :: vs, h => by
    unfold wipe
    by_cases hm : i ∈ vs
    · rw [wipe_set hm]
    · have e : i = w := by
        rcases List.mem_cons.mp h with h | h
        · exact h
        · exact absurd h hm
      subst e
      have : ∀ (us : List Nat), i ∉ us → wipe (σ.set i v) us = (wipe σ us).set i v := by
        intro us
        induction us with
        | nil => intro _; rfl
        | cons u us ih =>
          intro hn
          unfold wipe
          rw [ih (fun z => hn (List.mem_cons_of_mem _ z))]
          rw [List.set_comm]
          intro z
          exact hn (by rw [z]; exact List.mem_cons_self)
      rw [this vs hm, List.set_set]
theorem wipe_wipe {σ : St} {vs : List Nat} : wipe (wipe σ vs) vs = wipe σ vs := by
  have : ∀ us : List Nat, (∀ i ∈ us, i ∈ vs) → wipe (wipe σ us) vs = wipe σ vs := by
    intro us
    induction us with
    | nil => intro _; rfl
    | cons u us ih =>
      intro h
      show wipe ((wipe σ us).set u none) vs = wipe σ vs
      rw [wipe_set (h u List.mem_cons_self)]
      exact ih fun i hi => h i (List.mem_cons_of_mem _ hi)
  exact this vs fun _ h => h
theorem dgw_name {i : Nat} {vs : List Nat} (h : PG X e (gName i)) (hi : i ∈ vs) : DGw X vs e (gN i) := fun Z => ⟨fun pins s σ H v u Q I r ⟨Hs, env, C, d, P, sr, rd, q, k⟩ => h.run pins s σ H v u Q I r (k _ _ _ _ _ (sr.setS rd) Tr.refl (wipe_set hi) q)⟩
/-! ### slots forgotten for a while -/
def wipeE (env : DL.Env) : List Nat → DL.Env
  | [] => env
  | v :: vs => (wipeE env vs).set v .non
theorem wipeE_len (env : DL.Env) : ∀ vs, (wipeE env vs).length = env.length
  | [] => rfl
  | v :: vs => by unfold wipeE; rw [List.length_set, wipeE_len env vs]
theorem wipeE_get {env : DL.Env} {i : Nat} {x : Slot} : ∀ {vs : List Nat}, (wipeE env vs)[i]? = some x → (i ∉ vs ∧ env[i]? = some x) ∨ x = .non
  | [], h => .inl ⟨by simp, h⟩
  | v :: vs, h => by
    unfold wipeE at h
    by_cases hv : v = i
    · subst hv
      have hl : v < (wipeE env vs).length := by
        have := (List.getElem?_eq_some_iff.mp h).1
        simpa using this
      rw [List.getElem?_set_self hl] at h
      exact .inr (Option.some.inj h).symm
    · rw [List.getElem?_set_ne hv] at h
      rcases wipeE_get h with ⟨h1, h2⟩ | h1
      · exact .inl ⟨by simp only [List.mem_cons, not_or]; exact ⟨fun z => hv z.symm, h1⟩, h2⟩
      · exact .inr h1
/-- no slot at vs owns a thing -/
def noOwn (env : DL.Env) (vs : List Nat) : Bool := vs.all fun i => match env[i]? with
  | some (.own _) => false
  | _ => true
theorem SR.wiped {σ : St} {Hs H : Hp} {env : DL.Env} {C : Cs} {vs : List Nat} (r : SR K Z σ Hs H env C) : SR K Z (wipe σ vs) Hs H (wipeE env vs) C := by
  refine ⟨r.fit, r.bas, by rw [wipeE_len, wipe_length]; exact r.slt.len, fun i d e => ?_, fun i c e => ?_, fun i j c c' p ne e f g => ?_⟩
  · rcases wipeE_get e with ⟨h1, h2⟩ | h1
    · obtain ⟨v, e1, q⟩ := r.slt.shr i d h2
      exact ⟨v, by rw [wipe_out h1]; exact e1, q⟩
    · cases h1
  · rcases wipeE_get e with ⟨h1, h2⟩ | h1
    · rw [wipe_out h1]
      exact r.slt.own i c h2
    · cases h1
  · rcases wipeE_get e with ⟨h1, h2⟩ | h1
    · rcases wipeE_get f with ⟨h3, h4⟩ | h3
      · rw [wipe_out h1] at g
        rw [wipe_out h3]
        exact r.slt.sep i j c c' p ne h2 h4 g
      · cases h3
    · cases h1
theorem wipeE_out {env : DL.Env} {i : Nat} : ∀ {vs : List Nat}, i ∉ vs → (wipeE env vs)[i]? = env[i]?
  | [], _ => rfl
  | v :: vs, h => by
    have h1 : v ≠ i := fun z => h (by rw [z]; exact List.mem_cons_self)
    unfold wipeE
    rw [List.getElem?_set_ne h1]
    exact wipeE_out fun z => h (List.mem_cons_of_mem _ z)
/-- the forgotten slots come back -/
theorem SR.unwipe {σ : St} {Hs H Hs' H' : Hp} {env : DL.Env} {C C' : Cs} {vs : List Nat} (no : noOwn env vs = true) (r : SR K Z σ Hs H env C) (s : Same Hs Hs') (r' : SR K Z' (wipe σ vs) Hs' H' (wipeE env vs) C')
    (b : Bas Z Hs' H' C') (zh : ∀ p, Z'.H p = none → Z.H p = none) : SR K Z σ Hs' H' env C' := by
  have out : ∀ {i : Nat} {c : Cont}, env[i]? = some (Slot.own c) → i ∉ vs := fun {i c} e hm => by
    have := List.all_eq_true.mp no i hm
    simp only [e] at this
    cases this
  refine ⟨r'.fit, b, r.slt.len, fun i d e => ?_, fun i c e => ?_, fun i j c c' p ne e f g => ?_⟩
  · obtain ⟨v, e1, q⟩ := r.slt.shr i d e
    exact ⟨v, e1, q.same s⟩
  · have hi := out e
    obtain ⟨p, o, e1, e2, r1, n1, n2, n3⟩ := r'.slt.own i c (by rw [wipeE_out hi]; exact e)
    rw [wipe_out hi] at e1
    exact ⟨p, o, e1, e2, r1, n1, n2, zh p n3⟩
  · exact r.slt.sep i j c c' p ne e f g
/-! ### the list that is made is nobody else's -/
def prot (Z : Z0) (D : Addr) (o : HO) : Z0 := ⟨fun a => if a = D then none else Z.Hs a, upd Z.H D o, fun a => if a = D then none else Z.C a, Z.F⟩
theorem SR.prot {σ : St} {Hs H : Hp} {env : DL.Env} {C : Cs} {D : Addr} {o : HO} (r : SR K Z σ Hs H env C) (h : H D = some o) (h1 : Hs D = none) (h2 : C D = none) (no : ∀ (i : Nat) (c : Cont), env[i]? = some (Slot.own c) → σ[i]? ≠ some (some (V.ref D))) :
    SR K (DL.prot Z D o) σ Hs H env C := by
  refine ⟨r.fit, ⟨r.bas.fl, fun a u e c => ?_, fun a u e => ?_⟩, r.slt.len, r.slt.shr, fun i c e => ?_, r.slt.sep⟩
  · have e' : upd Z.H D o a = some u := e
    by_cases ha : a = D
    · subst ha
      rw [upd_same] at e'
      cases e'
      exact ⟨h, h2, fun _ => h1⟩
    · rw [upd_ne ha] at e'
      have c' : Z.C a = none := by simpa [DL.prot, ha] using c
      obtain ⟨q1, q2, q3⟩ := r.bas.kp a u e' c'
      exact ⟨q1, q2, fun z => q3 (by simpa [DL.prot, ha] using z)⟩
  · have e' : upd Z.H D o a = some u := e
    by_cases ha : a = D
    · subst ha
      exact ⟨_, h⟩
    · rw [upd_ne ha] at e'
      exact r.bas.th a u e'
  · obtain ⟨p, u, e1, e2, r1, n1, n2, n3⟩ := r.slt.own i c e
    refine ⟨p, u, e1, e2, r1, n1, n2, ?_⟩
    have hp : p ≠ D := fun z => no i c e (by rw [← z]; exact e1)
    show upd Z.H D o p = none
    rw [upd_ne hp]
    exact n3
theorem Bas.unprot {Hs H : Hp} {C : Cs} {D : Addr} {o : HO} (z : Z.H D = none) (b : Bas (DL.prot Z D o) Hs H C) : Bas Z Hs H C := by
  refine ⟨b.fl, fun a u e c => ?_, fun a u e => ?_⟩
  · have ha : a ≠ D := ne_of_none e z
    obtain ⟨q1, q2, q3⟩ := b.kp a u (by show upd Z.H D o a = some u; rw [upd_ne ha]; exact e) (by simpa [DL.prot, ha] using c)
    exact ⟨q1, q2, fun w => q3 (by simpa [DL.prot, ha] using w)⟩
  · have ha : a ≠ D := ne_of_none e z
    exact b.th a u (by show upd Z.H D o a = some u; rw [upd_ne ha]; exact e)
theorem prot_free {D p : Addr} {o : HO} (h : (DL.prot Z D o).H p = none) : Z.H p = none ∧ p ≠ D := by
  have h' : upd Z.H D o p = none := h
  by_cases hp : p = D
  · subst hp; rw [upd_same] at h'; cases h'
  · rw [upd_ne hp] at h'; exact ⟨h', hp⟩
theorem SR.unprot {σ : St} {Hs H : Hp} {env : DL.Env} {C : Cs} {D : Addr} {o : HO} (z : Z.H D = none) (r : SR K (DL.prot Z D o) σ Hs H env C) : SR K Z σ Hs H env C :=
  ⟨r.fit, r.bas.unprot z, r.slt.len, r.slt.shr, fun i c e => by
    obtain ⟨p, u, e1, e2, r1, n1, n2, n3⟩ := r.slt.own i c e
    exact ⟨p, u, e1, e2, r1, n1, n2, (prot_free n3).1⟩, r.slt.sep⟩
/-- what is private may be written -/
theorem SR.wrP {σ : St} {Hs H : Hp} {env : DL.Env} {C : Cs} {D : Addr} {o' : HO} (r : SR K Z σ Hs H env C) (h1 : Hs D = none) (h2 : C D = none) (z : Z.H D = none) (no : ∀ (i : Nat) (c : Cont), env[i]? = some (Slot.own c) → σ[i]? ≠ some (some (V.ref D))) :
    SR K Z σ Hs (upd H D o') env C := by
  refine ⟨⟨fun b u e => ?_, fun a c e => ?_⟩, ⟨r.bas.fl, fun a u e c => ?_, th_upd r.bas.th⟩, r.slt.len, r.slt.shr, fun i c e => ?_, r.slt.sep⟩
  · rw [upd_ne (ne_of_none e h1)]; exact r.fit.sub _ _ e
  · obtain ⟨q, u, e1, r2⟩ := r.fit.cel _ _ e
    have ha : a ≠ D := fun w => by rw [w, h2] at e; cases e
    exact ⟨q, u, by rw [upd_ne ha]; exact e1, r2⟩
  · obtain ⟨q1, q2, q3⟩ := r.bas.kp a u e c
    exact ⟨by rw [upd_ne (ne_of_none e z)]; exact q1, q2, q3⟩
  · obtain ⟨p, u, e1, e2, r1, n1, n2, n3⟩ := r.slt.own i c e
    have hp : p ≠ D := fun w => no i c e (by rw [← w]; exact e1)
    exact ⟨p, u, e1, by rw [upd_ne hp]; exact e2, r1, n1, n2, n3⟩
/-! ### [elt for tg in iter if cond] -/
def E0 : EX := fun _ _ _ => False
theorem dx0 : DX X Z E0 := fun _ _ x => by
  obtain ⟨_, _, _, _, _, _, _, _, _, _, _, _, _, _, _, _, w⟩ := x
  obtain ⟨_, _, _, _, _, _, z⟩ := w
  exact z.elim
def compL (vs : List Nat) (g : GM) (mc : EM Bool) (me : EM D) (Q : Cont → Cs → Prop) : List D → List D → DL.Env → Cs → Prop
  | [], acc, _, C => Q (.lst acc) C
  | d :: ds, acc, env, C => g d (fun env1 C1 => wipeE env1 vs = env ∧ mc E0 env1 C1 fun b env2 C2 => env2 = env1 ∧
      if b = true then me E0 env1 C2 fun y env3 C3 => env3 = env1 ∧ acc.length < sizeLine ∧ compL vs g mc me Q ds (acc ++ [y]) env C3 else compL vs g mc me Q ds acc env C2) env C
def mComp (vs : List Nat) (g : GM) (mi : EM (List D)) (mc : EM Bool) (me : EM D) : EM Cont := fun E env C Q => mi E env C fun ds env1 C1 => noOwn env1 vs = true ∧ compL vs g mc me (fun c C2 => Q c env1 C2) ds [] (wipeE env1 vs) C1
/-- the block's context -/
abbrev Blk (X : Cx) (scope : Scope) (s : Shared) (H : Hp) (C : Addr) (cl : List (Str × Addr)) (fp : List Addr) : Cx := X.blk s H scope (compEnvC scope cl C X.env) fp
def DTs (X : Cx) (ifs : List Expr) (m : EM Bool) : Prop := ∀ Z E, DX X Z E → PTs X ifs (LT X.K Z (m E))
theorem dts_nil : DTs X [] (mC true) := fun Z E hE => ⟨fun pins s σ H Q I ⟨Hs, env, C, P, sr, q, k⟩ => pts_nil.run pins s σ H Q I (k _ _ _ Hs H q Tr.refl sr)⟩
theorem dts_one {c : Expr} {m : EM Bool} (h : DT X c m) : DTs X [c] m := fun Z E hE => pts_one (h Z E hE)
/-- the tree of a comprehension, from its meaning -/
abbrev WG (K : PySem.W.Frag) (vs : List Nat) (g : GM) : TG := fun v σ H Q => ∃ Z', LGw K vs Z' g v σ H Q
abbrev WT (K : PySem.W.Frag) (mc : EM Bool) : TT := fun σ H Q => ∃ Z', LT K Z' (mc E0) σ H Q
abbrev WE1 (K : PySem.W.Frag) (me : EM D) : TE := fun σ H Q => ∃ Z', LG K RShr Z' (me E0) σ H Q
theorem comp_tree {own : List (Str × Nat)} {g : GM} {mi : EM (List D)} {mc : EM Bool} {me : EM D} {E : EX} {σ : St} {H : Hp} {Q : VK} (q0 : LG K RFr Z (mComp (own.map (·.2)) g mi mc me E) σ H Q) :
    tLc (LI K Z (mi E)) (WG K (own.map (·.2)) g) (WT K mc) (WE1 K me) (own.map (·.2)) σ H Q := by
  obtain ⟨Hs, env, C, P, sr, q, k⟩ := q0
  refine ⟨Hs, env, C, _, sr, q, fun ds env1 C1 J Hs1 H1 q1 t1 s1 wk => ?_⟩
  obtain ⟨nO, q1⟩ := q1
  intro D hD
  obtain ⟨hD1, hD2⟩ := s1.fit.nothing hD
  have hDz : Z.H D = none := s1.bas.zfree hD
  have u : Up Z { Z with F := Hs1 } := Up.raise s1
  have noD : ∀ (i : Nat) (c : Cont), env1[i]? = some (Slot.own c) → σ[i]? ≠ some (some (V.ref D)) := fun i c e z => by
    obtain ⟨p, o, e1, e2, _⟩ := s1.slt.own i c e
    rw [e1] at z
    cases z
    rw [hD] at e2
    cases e2
  -- the wiped state
  let vs := own.map (·.2)
  refine ⟨fun i m H => m = ds.length - i ∧ i ≤ ds.length ∧ ∃ Hs C acc xs, SR K { Z with F := Hs1 } (wipe σ vs) Hs H (wipeE env1 vs) C ∧ H D = some (.lst xs) ∧ RepL K Hs acc xs ∧ Hs D = none ∧ C D = none ∧
      (∀ a o, H1 a = some o → C1 a = none → H a = some o ∧ C a = none) ∧ compL vs g mc me (fun c C2 => P c env1 C2) (ds.drop i) acc (wipeE env1 vs) C, ⟨ds.length, by simp, Nat.zero_le _, Hs1, C1, [], [], ?_, upd_same, .nil, hD1, hD2, ?_, by simpa using q1⟩, ?_⟩
  · exact (s1.raise.layP hD _).wiped
  · intro a o e c
    exact ⟨by rw [upd_ne (ne_of_none e hD)]; exact e, c⟩
  rintro i m H2 ⟨rfl, hi2, Hs2, C2, acc, xs, s2, hx, rx, d1, d2, kp2, q2⟩
  have noD2 : ∀ (i : Nat) (c : Cont), (wipeE env1 vs)[i]? = some (Slot.own c) → (wipe σ vs)[i]? ≠ some (some (V.ref D)) := fun i c e z => by
    rcases wipeE_get e with ⟨h1, h2⟩ | h1
    · rw [wipe_out h1] at z
      exact noD i c h2 z
    · cases h1
  by_cases hlt : i < ds.length
  · have hd : ds[i]? = some ds[i] := by simp [hlt]
    rw [List.drop_eq_getElem_cons hlt] at q2
    refine .inr ⟨wk.go i _ Hs2 H2 C2 hd s2.bas.fl s2.fit, fun H' => ∃ Hs C acc xs, SR K { Z with F := Hs1 } (wipe σ vs) Hs H' (wipeE env1 vs) C ∧ H' D = some (.lst xs) ∧ RepL K Hs acc xs ∧ Hs D = none ∧ C D = none ∧
      (∀ a o, H1 a = some o → C1 a = none → H' a = some o ∧ C a = none) ∧ compL vs g mc me (fun c C2 => P c env1 C2) (ds.drop (i + 1)) acc (wipeE env1 vs) C, fun H' z => ⟨ds.length - (i + 1), by omega, rfl, hlt, z⟩, fun x H' y => ?_⟩
    obtain ⟨Hs3, r3, l3, f3⟩ := wk.yld i _ Hs2 H2 C2 x H' hd s2.bas.fl s2.fit y
    have sp := s2.prot hx d1 d2 noD2
    obtain ⟨s3', t3⟩ := f3 _ _ _ sp
    have s3 := s3'.raise
    have zD : ({ DL.prot { Z with F := Hs1 } D (.lst xs) with F := Hs3 } : Z0).H D = some (.lst xs) := upd_same
    have zDc : ({ DL.prot { Z with F := Hs1 } D (.lst xs) with F := Hs3 } : Z0).C D = none := by simp [DL.prot]
    have zDs : ({ DL.prot { Z with F := Hs1 } D (.lst xs) with F := Hs3 } : Z0).Hs D = none := by simp [DL.prot]
    -- what a state behind a part of the turn gives for the next turn
    have back : ∀ {σ5 : St} {Hs5 H5 : Hp} {env5 : DL.Env} {C5 : Cs}, SR K { DL.prot { Z with F := Hs1 } D (.lst xs) with F := Hs3 } σ5 Hs5 H5 env5 C5 → wipe σ5 vs = wipe σ vs → wipeE env5 vs = wipeE env1 vs → Tr Hs2 H2 C2 Hs5 H5 C5 →
        SR K { Z with F := Hs1 } (wipe σ vs) Hs5 H5 (wipeE env1 vs) C5 ∧ H5 D = some (.lst xs) ∧ RepL K Hs5 acc xs ∧ Hs5 D = none ∧ C5 D = none ∧ (∀ a o, H1 a = some o → C1 a = none → H5 a = some o ∧ C5 a = none) ∧
          ∀ (j : Nat) (c : Cont), (wipeE env1 vs)[j]? = some (Slot.own c) → (wipe σ vs)[j]? ≠ some (some (V.ref D)) := by
      intro σ5 Hs5 H5 env5 C5 s5 w5 e5 t5
      obtain ⟨b1, b2, b3⟩ := s5.bas.kp D _ zD zDc
      have s6 : SR K { Z with F := Hs1 } σ5 Hs5 H5 env5 C5 := SR.unprot hDz (SR.up (Up.raise s3') s5)
      have s7 := s6.wiped (vs := vs)
      rw [w5, e5] at s7
      refine ⟨s7, b1, rx.same (l3.trans s5.bas.fl), b3 zDs, b2, fun a o h c => ?_, noD2⟩
      obtain ⟨k1, k2⟩ := kp2 a o h c
      exact t5.kp a o k1 k2
    refine ⟨{ DL.prot { Z with F := Hs1 } D (.lst xs) with F := Hs3 }, Hs3, wipeE env1 vs, C2, _, _, s3, r3, q2, fun σ4 Hs4 H4 env4 C4 s4 t4 w4 q4 => ⟨w4.trans wipe_wipe, ?_⟩⟩
    obtain ⟨e4, q4⟩ := q4
    have w4' : wipe σ4 vs = wipe σ vs := w4.trans wipe_wipe
    refine ⟨_, Hs4, env4, C4, _, s4, q4, fun b env5 C5 Hs5 H5 q5 t5 s5 => ?_⟩
    obtain ⟨rfl, q5⟩ := q5
    cases b with
    | true =>
      rw [if_pos rfl] at q5 ⊢
      refine ⟨_, Hs5, env5, C5, _, s5, q5, fun y env6 C6 v6 Hs6 H6 q6 t6 s6 r6 => ?_⟩
      obtain ⟨rfl, l6, q6⟩ := q6
      obtain ⟨b1, b2, b3, b4, b5, b6, b7⟩ := back s6 w4' e4 (((t3.trans t4).trans t5).trans t6)
      refine ⟨xs, b2, by rw [← rx.length]; exact l6, Hs6, C6, acc ++ [y], xs ++ [v6], b1.wrP b4 b5 hDz b7, upd_same, b3.append (.cons r6 .nil), b4, b5, fun a o h c => ?_, q6⟩
      obtain ⟨k1, k2⟩ := b6 a o h c
      have ha : a ≠ D := ne_of_none h hD
      exact ⟨by rw [upd_ne ha]; exact k1, k2⟩
    | false =>
      rw [if_neg Bool.false_ne_true] at q5 ⊢
      obtain ⟨b1, b2, b3, b4, b5, b6, b7⟩ := back s5 w4' e4 ((t3.trans t4).trans t5)
      exact ⟨Hs5, C5, acc, xs, b1, b2, b3, b4, b5, b6, q5⟩
  · have e : i = ds.length := by omega
    subst e
    rw [List.drop_length] at q2
    refine .inl ⟨wk.stop Hs2 H2 C2 s2.bas.fl s2.fit, ?_⟩
    have sb : SR K Z σ Hs2 H2 env1 C2 := SR.unwipe nO s1 s2.bas.fl s2 (s2.bas.up u) fun p h => h
    exact k _ _ _ _ _ _ q2 (t1.trans ⟨s2.bas.fl, kp2⟩) sb ⟨D, _, rfl, hx, ⟨_, rfl, rx⟩, d1, d2, hDz, noD⟩
theorem d_comp {iter elt : Expr} {ifs : List Expr} {scope : Scope} {own : List (Str × Nat)} {g : GM} {mi : EM (List D)} {mc : EM Bool} {me : EM D} (hc : X.calm = true) (hN : X.N.Nodup) (hi : DI X tg iter mi) (ok : BlkOk X.N X.env.scope scope own)
    (hg : ∀ (s : Shared) (H : Hp) (C : Addr) (cl : List (Str × Addr)) (fp : List Addr), DGw (Blk X scope s H C cl fp) (own.map (·.2)) tg g) (ht : ∀ (s : Shared) (H : Hp) (C : Addr) (cl : List (Str × Addr)) (fp : List Addr), DTs (Blk X scope s H C cl fp) ifs mc)
    (he : ∀ (s : Shared) (H : Hp) (C : Addr) (cl : List (Str × Addr)) (fp : List Addr), DE (Blk X scope s H C cl fp) RShr elt me) (hs : ∀ x, foldedSetIterable iter X.env x = pure x) :
    DE X RFr (.ListComp elt [⟨tg, iter, ifs, 0⟩] scope pos) (mComp (own.map (·.2)) g mi mc me) := fun Z E hE =>
  ⟨fun pins s σ H Q I q => (pe_lc (wi := LI X.K Z (mi E)) (g := WG X.K (own.map (·.2)) g) (tt := WT X.K mc) (te := WE1 X.K me) hc hN (hi Z E hE) ok
    (fun s H C cl fp => ⟨fun pins s σ H v u Q I r ⟨Z', q⟩ => (hg _ _ _ _ _ Z').run pins s σ H v u Q I r q⟩)
    (fun s H C cl fp => ⟨fun pins s σ H Q I ⟨Z', q⟩ => (ht _ _ _ _ _ Z' E0 dx0).run pins s σ H Q I q⟩)
    (fun s H C cl fp => ⟨fun pins s σ H Q I ⟨Z', q⟩ => (he _ _ _ _ _ Z' E0 dx0).run pins s σ H Q I q⟩) hs).run pins s σ H Q I (comp_tree q)⟩
/-- name = [.. for ..] on one row: the name is stored ahead of the block's end -/
theorem ps_comp {i : Nat} {y : Str} {py spos : Pos} {iter elt : Expr} {ifs : List Expr} {scope : Scope} {own : List (Str × Nat)} {g : GM} {mi : EM (List D)} {mc : EM Bool} {me : EM D} (hc : X.calm = true) (hN : X.N.Nodup) (hy : X.N[i]? = some y) (hyl : X.env.scope.names.lookup y = some .local)
    (hsw : swapsWith (.ListComp elt [⟨tg, iter, ifs, 0⟩] scope pos) (some (.Name y py)) spos.line X.env = pure true) (hi : DI X tg iter mi) (ok : BlkOk X.N X.env.scope scope own)
    (hg : ∀ (s : Shared) (H : Hp) (C : Addr) (cl : List (Str × Addr)) (fp : List Addr), DGw (Blk X scope s H C cl fp) (own.map (·.2)) tg g) (ht : ∀ (s : Shared) (H : Hp) (C : Addr) (cl : List (Str × Addr)) (fp : List Addr), DTs (Blk X scope s H C cl fp) ifs mc)
    (he : ∀ (s : Shared) (H : Hp) (C : Addr) (cl : List (Str × Addr)) (fp : List Addr), DE (Blk X scope s H C cl fp) RShr elt me) (hs : ∀ x, foldedSetIterable iter X.env x = pure x) {E : EX} (hE : DX X Z E) :
    PS X (.Assign [.Name y py] (.ListComp elt [⟨tg, iter, ifs, 0⟩] scope pos) spos) (tAsg (LG X.K RFr Z (mComp (own.map (·.2)) g mi mc me E)) (gName i)) :=
  ⟨fun pins s σ H D I q => (ps_setLc (wi := LI X.K Z (mi E)) (g := WG X.K (own.map (·.2)) g) (tt := WT X.K mc) (te := WE1 X.K me) hc hN hy hyl hsw (hi Z E hE) ok
    (fun s H C cl fp => ⟨fun pins s σ H v u Q I r ⟨Z', q⟩ => (hg _ _ _ _ _ Z').run pins s σ H v u Q I r q⟩)
    (fun s H C cl fp => ⟨fun pins s σ H Q I ⟨Z', q⟩ => (ht _ _ _ _ _ Z' E0 dx0).run pins s σ H Q I q⟩)
    (fun s H C cl fp => ⟨fun pins s σ H Q I ⟨Z', q⟩ => (he _ _ _ _ _ Z' E0 dx0).run pins s σ H Q I q⟩) hs).run pins s σ H D I (comp_tree (Q := fun x H1 => gName i x σ H1 D.nx) q)⟩
theorem ds_compS {st : Stmt} {i : Nat} {m : EM Cont} (h : ∀ Z E, DX X Z E → PS X st (tAsg (LG X.K RFr Z (m E)) (gName i))) : DS X st (sSet i (mMap Cont.d m)) := fun Z E hE => ⟨fun pins s σ H D I ⟨Hs, env, C, dE, sr, ok, q⟩ =>
  (h Z E hE).run pins s σ H D I ⟨Hs, env, C, _, sr, q, fun d env1 C1 v Hs1 H1 q1 t1 s1 r1 => by
    obtain ⟨p, o, rfl, e2, r2, n1, n2, n3, no⟩ := r1
    exact ok.1 _ _ _ _ _ ((s1.frz e2 n1 n2 n3 no).setS ((r2.same (same_upd n1)).rep upd_same)) q1⟩⟩
end
end L2.DL
/-! DLj: promises over trees; calls of defs. FnG is a promise where no repr is under way. -/
namespace L2.DL
open PySem PySem.Spec PyProof.Rows
/-- nothing guards itself on the stack -/
def Gd (A : Around) : Prop := A.guards = some []
structure FnG (P : Program) (w : World) (K : PySem.W.Frag) (mg : Str → Option Value) (base : Heap) (k : Nat) (f : Addr) (fd : FuncData) (ps : List Str) (sp : Sp) : Prop where
  len : ∀ vs H Q E, sp vs H Q E → vs.length = ps.length
  run : ∀ (A : Around) (fr : List PySem.Env) (s : Shared) (H : Hp) (ar : Args) (us : List Value) (vs : List V) (Q : VK) (E : XK), Gd A → Room k A → Env0 P w K mg base A fr s H → BindsTo s fd ar (ps.zip us) → Vals vs us → sp vs H Q E →
    codeAny (model P w) A (.call (.ref f) ar) (CR (L2.CX P w) fr P w H s Q E) s
/-- a def's body keeps the promise -/
theorem fnG_of {P : Program} {w : World} {K : PySem.W.Frag} {mg : Str → Option Value} {base : Heap} {xn qual : Str} {st : Stmt} {f : Addr} {fd : FuncData} {N ps : List Str} {k : Nat} {sp : Sp} (F : Fun K xn qual st f fd) (S : FnScope N ps (defScope st))
    (len : ∀ vs H Q E, sp vs H Q E → vs.length = ps.length)
    (bd : ∀ (cdv : Value) (A : Around) (fr : List PySem.Env) (s : Shared) (H : Hp) (vs : List V) (Q : VK) (E : XK), Gd A → Room k (A.deeper (envOfC qual (defScope st) s.heap.objs.size f cdv)) → sp vs H Q E →
      ∃ t, PSs (cxOf (L2.CX P w) P w K mg base N qual (defScope st) f cdv A fr s H E) (defBody st) t ∧ t { nx := fun _ H' => Q .non H', rt := Q } (start N vs) H) : FnG P w K mg base (k + 1) f fd ps sp := by
  obtain ⟨oc, od, kV, doc, pm, an, cdv, ct, osl, rfl, lk, code⟩ := F.ex
  refine ⟨len, ?_⟩
  intro A fr s H ar us vs Q E gd room st0 bnd rel want
  have lenV := len _ _ _ _ want
  have kept : ∀ b o, base.get? b = some o → s.heap.get? b = some o := fun b o q => (st0.bs b o q).1
  have kin : K.In s.heap := st0.mod.kin.keeps kept
  have noLim : s.heap.NoLimit := st0.mod.nolimit.keeps kept
  refine codeAny_call_function room.depth (kin _ _ lk) rfl S.co S.gen rfl (PySem.W.codeRec_of kin code) (bnd _ _ _ _ ?_)
  refine wpAny_newFunctionEnv_cells S.kind (fun y hy => ?_) fun env eqv s1 there => ?_
  · rcases S.par y.1 (List.of_mem_zip (a := y.1) (b := y.2) hy).1 with loc | cel
    · exact .inl loc
    · exact .inr ⟨cel, PySem.W.cellsFrom_some _ _ _ (.inl cel)⟩
  subst eqv
  refine ⟨noLim.keeps there.toInCall.keep, codeAny_func ?_⟩
  obtain ⟨t, walked, end_⟩ := bd cdv A fr s H vs Q E gd (room.deeper _) want
  have inv0 := inv_start (CX := L2.CX P w) (E := E) S room.hd st0 lenV rel there
  refine wpAny_mono (walked.run [] s1 (start N vs) H _ inv0 end_) ?_ fun _ _ z => z
  intro fl s2 res
  cases fl with
  | ret u => obtain ⟨v, _, H2, J, rv, q⟩ := res; exact ⟨v, H2, J.os, J.bare, J.base, J.hok, rv, q⟩
  | next => obtain ⟨_, H2, J, q⟩ := res; exact ⟨.non, H2, J.os, J.bare, J.base, J.hok, rfl, q⟩
  | brk => obtain ⟨_, _, _, q⟩ := res; exact q.elim
  | cont => obtain ⟨_, _, _, q⟩ := res; exact q.elim
/-- a call of it -/
theorem run_fnG {X : Cx} {k : Nat} {f : Addr} {fd : FuncData} {ps : List Str} {sp : Sp} {E : XK} {ar : Args} {us : List Value} {vs : List V} {pins : List (Addr × Obj)} {σ : St} {H : Hp} {s : Shared} {Q : VK} (F : FnG X.prog X.w X.K X.mg X.base k f fd ps sp) (gd : Gd X.A) (hr : Room k X.A)
    (hb : BindsTo s fd ar (ps.zip us)) (hx : PassesAt (L2.CX X.prog X.w) X σ E) (I : Inv X pins σ H s) (r : Vals vs us) (h : sp vs H Q E) : codeAny (model X.prog X.w) X.A (.call (.ref f) ar) (fun q s' => match q with
      | .ok (.ret v) => EP X pins σ Q v s'
      | .ok _ => False
      | .error e => X.xe e s') s := by
  refine codeAny_mono (F.run X.A X.stack s H ar us vs Q E gd hr I.env0 hb r h) fun q s' z => ?_
  cases q with
  | error e => exact hx pins H s e s' I z
  | ok fl => cases fl with
    | ret u => exact I.after z
    | next => exact z.elim
    | brk => exact z.elim
    | cont => exact z.elim
section
variable {X : Cx} {e : Expr} {es : List Expr} {pos p : Pos} {x : Str} {t : TA} {k : Nat} {f : Addr} {fd : FuncData} {ps : List Str} {sp : Sp} {E : St → XK} {dvs : List V} {dus : List Value}
theorem pe_callG (F : FnG X.prog X.w X.K X.mg X.base k f fd ps sp) (gd : Gd X.A) (hr : Room k X.A) (hg : Gl X x) (hm : X.mg x = some (.ref f)) (hk : PySem.W.keepIn X.K (.ref f) = true) (hb : Binds X.K fd ps dus) (hd : Vals dvs dus) (hx : ∀ σ, PassesAt (L2.CX X.prog X.w) X σ (E σ))
    (ha : PA X (e :: es) t) (hdb : (x == ("__debug__" : Str)) = false) (he : starEach (e :: es) X.env = (false, eval e X.env) :: starEach es X.env) (hpl : (backTo pos (starEach es X.env)).any (·.1) = false) :
    PE X (.Call (.Name x p) (e :: es) [] pos) (tCallSD sp dvs E t) := ⟨fun pins s σ H Q I h => by
  refine wpAny_Call_Name_kw (ld_glob I hg hm (PySem.W.callWith_K (h₀ := X.base) I.ok.mod.kin hk (thn (ha.run pos pins s σ H _ I h) ?_) he hpl) hdb)
  intro us s1 ⟨vs, H1, J, r, q⟩
  have r2 := r.append hd
  exact ⟨J.kIn, wpAny_call (run_fnG F gd hr (hb s1 us J.kIn (by rw [← r2.length]; exact F.len _ _ _ _ q)) (hx σ) J r2 q)⟩⟩
theorem pe_callG0 (F : FnG X.prog X.w X.K X.mg X.base k f fd ps sp) (gd : Gd X.A) (hr : Room k X.A) (hg : Gl X x) (hm : X.mg x = some (.ref f)) (hk : PySem.W.keepIn X.K (.ref f) = true) (hb : Binds X.K fd ps dus) (hd : Vals dvs dus) (hx : ∀ σ, PassesAt (L2.CX X.prog X.w) X σ (E σ))
    (hdb : (x == ("__debug__" : Str)) = false) : PE X (.Call (.Name x p) [] [] pos) (tCallSD sp dvs E tNil) := ⟨fun pins s σ H Q I h => by
  refine wpAny_Call_Name_kw (ld_glob I hg hm (PySem.W.callWith_K0 I.kIn hk ?_) hdb)
  exact wpAny_call (run_fnG F gd hr (hb s [] I.kIn (by show dus.length = _; rw [← hd.length]; exact F.len _ _ _ _ h)) (hx σ) I hd h)⟩
end
/-- a promise over trees: the arguments, the cells; what is wanted of the result, of an exception -/
abbrev DSp := List D → Cs → (Ret → Cs → Prop) → (XD → Cs → Prop) → Prop
def zOf (Hs H : Hp) (C : Cs) : Z0 := ⟨Hs, H, C, Hs⟩
def lift (K : PySem.W.Frag) (sp : DSp) : Sp := fun vs H Q E => ∃ Hs C ds P PX, Fits K Hs H C ∧ RepL K Hs ds vs ∧ sp ds C P PX ∧
  (∀ r C' v Hs' H', P r C' → Fits K Hs' H' C' → Bas (zOf Hs H C) Hs' H' C' → RRet K (zOf Hs H C) Hs' H' C' r v → Q v H') ∧
  (∀ x C' cls dx Hs' H', PX x C' → Fits K Hs' H' C' → Bas (zOf Hs H C) Hs' H' C' → RX K Hs' H' x cls dx → E cls dx H')
section
variable {X : Cx} {e : Expr} {es : List Expr} {pos : Pos} {K : PySem.W.Frag} {Z : Z0}
theorem Bas.start {Hs H : Hp} {C : Cs} : Bas (zOf Hs H C) Hs H C := ⟨Same.refl _, fun _ _ h c => ⟨h, c, fun z => z⟩, fun _ o h => ⟨o, h⟩⟩
/-- behind a call -/
theorem SR.call {σ : St} {Hs H Hs' H' : Hp} {env : DL.Env} {C C' : Cs} (r : SR K Z σ Hs H env C) (f : Fits K Hs' H' C') (b : Bas (zOf Hs H C) Hs' H' C') : SR K Z σ Hs' H' env C' ∧ Tr Hs H C Hs' H' C' := by
  have fl : Same Hs Hs' := b.fl
  refine ⟨⟨f, ⟨r.bas.fl.trans fl, fun a o e c => ?_, fun a o e => ?_⟩, r.slt.len, fun i d e => ?_, fun i c e => ?_, r.slt.sep⟩, fl, fun a o e c => ?_⟩
  · obtain ⟨q1, q2, q3⟩ := r.bas.kp a o e c
    obtain ⟨k1, k2, k3⟩ := b.kp a o q1 q2
    exact ⟨k1, k2, fun z => k3 (q3 z)⟩
  · obtain ⟨o1, e1⟩ := r.bas.th a o e
    exact b.th a o1 e1
  · obtain ⟨v, e1, q⟩ := r.slt.shr i d e
    exact ⟨v, e1, q.same fl⟩
  · obtain ⟨p, o, e1, e2, r1, n1, n2, n3⟩ := r.slt.own i c e
    obtain ⟨k1, k2, k3⟩ := b.kp p o e2 n2
    exact ⟨p, o, e1, k1, r1.same fl, k3 n1, k2, n3⟩
  · obtain ⟨k1, k2, _⟩ := b.kp a o e c
    exact ⟨k1, k2⟩
/-- the result as a tree -/
@[reducible] def Ret.tree : Ret → D
  | .shr d => d
  | .frs c => c.d
theorem ret_shr {σ : St} {Hs H Hs' H' : Hp} {env : DL.Env} {C C' : Cs} {rt : Ret} {v : V} (sr : SR K Z σ Hs H env C) (s : SR K Z σ Hs' H' env C') (t : Tr Hs H C Hs' H' C') (rr : RRet K (zOf Hs H C) Hs' H' C' rt v) :
    ∃ Hs2, SR K Z σ Hs2 H' env C' ∧ Tr Hs H C Hs2 H' C' ∧ Rep K Hs2 rt.tree v := by
  cases rt with
  | shr d => exact ⟨Hs', s, t, rr⟩
  | frs c =>
    obtain ⟨p, o, rfl, e2, r1, n1, n2, n3⟩ := rr
    have hp : H p = none := n3
    refine ⟨upd Hs' p o, s.frz e2 n1 n2 (sr.bas.zfree hp) (fun i c' e z => ?_), t.trans (Tr.frz n1), (r1.same (same_upd n1)).rep upd_same⟩
    obtain ⟨q, u, e1, e3, _⟩ := sr.slt.own i c' e
    rw [e1] at z
    cases z
    rw [hp] at e3
    cases e3
/-- a def of the text that is called -/
abbrev DFn (P : Program) (w : World) (K : PySem.W.Frag) (mg : Str → Option Value) (base : Heap) (k : Nat) (f : Addr) (fd : FuncData) (ps : List Str) (sp : DSp) : Prop := FnG P w K mg base k f fd ps (lift K sp)
def mCall (sp : DSp) (dfl : List D) (ms : EM (List D)) : EM D := fun E env C Q => ms E env C fun ds env1 C1 => sp (ds ++ dfl) C1 (fun r C2 => Q r.tree env1 C2) fun x C2 => E x env1 C2
def mCallF (sp : DSp) (dfl : List D) (ms : EM (List D)) : EM Cont := fun E env C Q => ms E env C fun ds env1 C1 => sp (ds ++ dfl) C1 (fun r C2 => match r with
  | .frs c => Q c env1 C2
  | .shr _ => False) fun x C2 => E x env1 C2
section
variable {sp : DSp} {dfl : List D} {dvs : List V} {dus : List Value} {k : Nat} {f : Addr} {fd : FuncData} {ps : List Str} {x : Str} {p : Pos} {ms : EM (List D)}
theorem lift_call {E : EX} {σ : St} {Hs H : Hp} {env : DL.Env} {C : Cs} {ds : List D} {vs : List V} {Q : VK} {P : Ret → Cs → Prop} (sr : SR K Z σ Hs H env C) (r : RepL K Hs ds vs) (q : sp ds C P fun x C2 => E x env C2)
    (kk : ∀ rt C' v Hs' H', P rt C' → SR K Z σ Hs' H' env C' → Tr Hs H C Hs' H' C' → RRet K (zOf Hs H C) Hs' H' C' rt v → Q v H') : lift K sp vs H Q (WE (DXw K Z E) σ) :=
  ⟨Hs, C, ds, P, _, sr.fit, r, q, fun rt C' v Hs' H' pr f b rr => let ⟨s, t⟩ := sr.call f b; kk rt C' v Hs' H' pr s t rr,
    fun x C' cls dx Hs' H' px f b rx => ⟨Hs', env, C', x, (sr.call f b).1, rx, px⟩⟩
theorem call_shr {E : EX} {σ : St} {H : Hp} {Q : VK} (hd' : ∀ Hs, RepL K Hs dfl dvs) (q : LG K RShr Z (mCall sp dfl ms E) σ H Q) : tCallSD (lift K sp) dvs (fun σ => WE (DXw K Z E) σ) (LA K RShr Z (ms E)) σ H Q := by
  obtain ⟨Hs, env, C, P, sr, q, kk⟩ := q
  refine ⟨Hs, env, C, _, sr, q, fun ds env1 C1 vs Hs1 H1 q1 t1 s1 r1 => ?_⟩
  refine lift_call s1 (r1.rep.append (hd' Hs1)) q1 fun rt C' v Hs' H' pr s' t' rr => ?_
  obtain ⟨Hs2, s2, t2, r2⟩ := ret_shr s1 s' t' rr
  exact kk _ _ _ _ _ _ pr (t1.trans t2) s2 r2
theorem call_frs {E : EX} {σ : St} {H : Hp} {Q : VK} (hd' : ∀ Hs, RepL K Hs dfl dvs) (q : LG K RFr Z (mCallF sp dfl ms E) σ H Q) : tCallSD (lift K sp) dvs (fun σ => WE (DXw K Z E) σ) (LA K RShr Z (ms E)) σ H Q := by
  obtain ⟨Hs, env, C, P, sr, q, kk⟩ := q
  refine ⟨Hs, env, C, _, sr, q, fun ds env1 C1 vs Hs1 H1 q1 t1 s1 r1 => ?_⟩
  refine lift_call s1 (r1.rep.append (hd' Hs1)) q1 fun rt C' v Hs' H' pr s' t' rr => ?_
  cases rt with
  | shr d => exact pr.elim
  | frs c =>
    obtain ⟨p, o, rfl, e2, r1, n1, n2, n3⟩ := rr
    have hp : H1 p = none := n3
    refine kk c _ _ _ _ _ pr (t1.trans t') s' ⟨p, o, rfl, e2, r1, n1, n2, s1.bas.zfree hp, fun i c' e z => ?_⟩
    obtain ⟨q, u, e1, e3, _⟩ := s1.slt.own i c' e
    rw [e1] at z
    cases z
    rw [hp] at e3
    cases e3
/-- what a call of a def by its name wants -/
structure Callee (X : Cx) (x : Str) (sp : DSp) (dfl : List D) : Prop where
  ex : ∃ k f fd ps dvs dus, DFn X.prog X.w X.K X.mg X.base k f fd ps sp ∧ Room k X.A ∧ X.mg x = some (.ref f) ∧ PySem.W.keepIn X.K (.ref f) = true ∧ Binds X.K fd ps dus ∧ Vals dvs dus ∧ ∀ Hs, RepL X.K Hs dfl dvs
theorem d_call (c : Callee X x sp dfl) (gd : Gd X.A) (hg : Gl X x) (ha : DA X RShr (e :: es) ms) (hdb : (x == ("__debug__" : Str)) = false) (he : starEach (e :: es) X.env = (false, eval e X.env) :: starEach es X.env) (hpl : (backTo pos (starEach es X.env)).any (·.1) = false) :
    DE X RShr (.Call (.Name x p) (e :: es) [] pos) (mCall sp dfl ms) := fun Z E hE => by
  obtain ⟨k, f, fd, ps, dvs, dus, F, hr, hm, hk, hb, hd, hd'⟩ := c.ex
  exact ⟨fun pins s σ H Q I q => (pe_callG F gd hr hg hm hk hb hd (fun σ => passAt hE σ) (ha Z E hE) hdb he hpl).run pins s σ H Q I (call_shr hd' q)⟩
theorem d_callF (c : Callee X x sp dfl) (gd : Gd X.A) (hg : Gl X x) (ha : DA X RShr (e :: es) ms) (hdb : (x == ("__debug__" : Str)) = false) (he : starEach (e :: es) X.env = (false, eval e X.env) :: starEach es X.env) (hpl : (backTo pos (starEach es X.env)).any (·.1) = false) :
    DE X RFr (.Call (.Name x p) (e :: es) [] pos) (mCallF sp dfl ms) := fun Z E hE => by
  obtain ⟨k, f, fd, ps, dvs, dus, F, hr, hm, hk, hb, hd, hd'⟩ := c.ex
  exact ⟨fun pins s σ H Q I q => (pe_callG F gd hr hg hm hk hb hd (fun σ => passAt hE σ) (ha Z E hE) hdb he hpl).run pins s σ H Q I (call_frs hd' q)⟩
theorem nil_la {E : EX} {σ : St} {H : Hp} {Q : VK} {P : List V → Hp → Prop} (q : LA K RShr Z (mNil E) σ H P) : tNil σ H P := by
  obtain ⟨Hs, env, C, P', sr, q, kk⟩ := q
  exact kk _ _ _ _ _ _ q Tr.refl sr .nil
theorem d_call0 (c : Callee X x sp dfl) (gd : Gd X.A) (hg : Gl X x) (hdb : (x == ("__debug__" : Str)) = false) : DE X RShr (.Call (.Name x p) [] [] pos) (mCall sp dfl mNil) := fun Z E hE => by
  obtain ⟨k, f, fd, ps, dvs, dus, F, hr, hm, hk, hb, hd, hd'⟩ := c.ex
  exact ⟨fun pins s σ H Q I q => (pe_callG0 F gd hr hg hm hk hb hd (fun σ => passAt hE σ) hdb).run pins s σ H Q I (nil_la (E := E) (Q := Q) (call_shr hd' q))⟩
end
/-! ### a def keeps its promise -/
def slots0 (N : Nat) (ds : List D) : DL.Env := ds.map Slot.shr ++ List.replicate (N - ds.length) Slot.non
theorem start_rep {N : List Str} {Hs H : Hp} {C : Cs} {ds : List D} {vs : List V} (f : Fits K Hs H C) (r : RepL K Hs ds vs) (hl : vs.length ≤ N.length) : SR K (zOf Hs H C) (start N vs) Hs H (slots0 N.length ds) C := by
  have e := r.length
  refine ⟨f, Bas.start, ?_, fun i d h => ?_, fun i c h => ?_, fun i j c c' p ne h => ?_⟩
  · simp [slots0, start, e]
  · unfold slots0 at h
    unfold start
    by_cases hi : i < ds.length
    · rw [List.getElem?_append_left (by simpa using hi)] at h
      rw [List.getElem?_append_left (by simp; omega)]
      rw [List.getElem?_map] at h
      obtain ⟨d', h1, h2⟩ := Option.map_eq_some_iff.mp h
      cases h2
      obtain ⟨v, h3, h4⟩ := r.get' h1
      exact ⟨v, by rw [List.getElem?_map, h3]; rfl, h4⟩
    · rw [List.getElem?_append_right (by simp; omega)] at h
      have := List.mem_of_getElem? h
      have := List.eq_of_mem_replicate this
      cases this
  all_goals
    exfalso
    unfold slots0 at h
    have hm := List.mem_of_getElem? h
    rcases List.mem_append.mp hm with z | z
    · obtain ⟨d, _, q⟩ := List.mem_map.mp z
      cases q
    · have := List.eq_of_mem_replicate z
      cases this
/-- the context of a def's body -/
abbrev BodyX (P : Program) (w : World) (K : PySem.W.Frag) (mg : Str → Option Value) (base : Heap) (N : List Str) (qual : Str) (st : Stmt) (f : Addr) (cdv : Value) (A : Around) (fr : List PySem.Env) (s : Shared) (H : Hp) (E : XK) : Cx :=
  cxOf (L2.CX P w) P w K mg base N qual (defScope st) f cdv A fr s H E
/-- THE RULE for a def: its body's meaning m, and the promise from it -/
theorem dfn_ok {P : Program} {w : World} {mg : Str → Option Value} {base : Heap} {xn qual : Str} {st : Stmt} {f : Addr} {fd : FuncData} {N ps : List Str} {k : Nat} {sp : DSp} {m : SM} (F : Fun K xn qual st f fd) (S : FnScope N ps (defScope st))
    (hb : ∀ (cdv : Value) (A : Around) (fr : List PySem.Env) (s : Shared) (H : Hp) (E : XK), Gd A → Room k (A.deeper (envOfC qual (defScope st) s.heap.objs.size f cdv)) → DSs (BodyX P w K mg base N qual st f cdv A fr s H E) (defBody st) m)
    (hl : ps.length ≤ N.length) (hsp : ∀ ds C PR PX, sp ds C PR PX → ds.length = ps.length ∧ m (fun x _ C => PX x C) { nx := fun _ C => PR (.shr .non) C, rt := PR } (slots0 N.length ds) C) : DFn P w K mg base (k + 1) f fd ps sp := by
  refine fnG_of F S (fun vs H Q E h => ?_) fun cdv A fr s H vs Q E gd hr h => ?_
  · obtain ⟨Hs, C, ds, PR, PX, f1, r, q, _⟩ := h
    rw [← r.length]
    exact (hsp ds C PR PX q).1
  · obtain ⟨Hs, C, ds, PR, PX, f1, r, q, k1, k2⟩ := h
    obtain ⟨l1, q1⟩ := hsp ds C PR PX q
    have hE : DX (BodyX P w K mg base N qual st f cdv A fr s H E) (zOf Hs H C) (fun x _ C => PX x C) := by
      have tk : Takes (BodyX P w K mg base N qual st f cdv A fr s H E) (fun cls d _ H => E cls d H) := takes_of rfl rfl rfl rfl
      exact Takes.imp tk fun cls dx σ H' ⟨Hs', env', C', x, sr, rx, px⟩ => k2 x C' cls dx Hs' H' px sr.fit sr.bas rx
    refine ⟨_, hb cdv A fr s H E gd hr (zOf Hs H C) _ hE, Hs, slots0 N.length ds, C, _, start_rep f1 r (by rw [← r.length, l1]; exact hl), ⟨fun σ Hs' H' env' C' sr p => ?_, fun rt v Hs' H' C' f' b' rr p => ?_, fun _ _ _ _ _ _ z => z, fun _ _ _ _ _ _ z => z⟩, q1⟩
    · exact k1 _ C' _ Hs' H' p sr.fit sr.bas Rep.non
    · exact k1 rt C' v Hs' H' p f' b' rr
end
end L2.DL
/-! DLk: built-ins over trees. -/
namespace L2.DL
open PySem PySem.Spec PyProof.Rows
/-! ### repr -/
mutual
def isR : D → Bool
  | .non => true
  | .bl _ => true
  | .int _ => true
  | .str _ => true
  | .tup xs => isRs xs
  | .lst xs => isRs xs
  | .dct kvs => isRkv kvs
  | .tupT _ => true
  | _ => false
def isRs : List D → Bool
  | [] => true
  | d :: r => isR d && isRs r
def isRkv : List (DK × D) → Bool
  | [] => true
  | (_, d) :: r => isR d && isRkv r
end
section
variable {X : Cx} {pins : List (Addr × Obj)} {σ : St} {Hs H : Hp} {s : Shared} {C : Cs}
theorem pairs_read {P : Program} {w : World} {h : Heap} : ∀ {es : List DictEntry} {kvs : List (Key × Value)} {ks : List DK}, Pairs (mixKind P w) es kvs → kvs.map (·.1) = ks.map kOf → ReadsAll h (es.map (·.key)) (ks.map keyP) []
  | _, _, [], .nil, _ => .nil
  | _, _, _ :: _, .nil, e => by cases e
  | _, _, [], .cons _ _ _, e => by cases e
  | _, _, k :: ks, .cons h1 h2 h3, e => by
    rw [List.map_cons, List.map_cons] at e
    injection e with e1 e2
    rw [e1] at h1
    have h4 := pairs_read (h := h) h3 e2
    rw [List.map_cons, List.map_cons]
    cases k with
    | inl i =>
      obtain ⟨t, q⟩ := Value.isInt_shape h1
      rw [q]
      exact ReadsAll.cons (.int i t) h4
    | inr z =>
      obtain ⟨t, q⟩ := Value.isStrOf_shape h1
      rw [q]
      exact ReadsAll.cons (.str (sV z) t) h4
theorem pairs_vals {P : Program} {w : World} : ∀ {es : List DictEntry} {kvs : List (Key × Value)}, Pairs (mixKind P w) es kvs → es.map (·.val) = kvs.map (·.2)
  | _, _, .nil => rfl
  | _, _, .cons _ h2 h3 => by rw [List.map_cons, List.map_cons, h2, pairs_vals h3]
theorem keys_rep {K : PySem.W.Frag} : ∀ {kvs : List (DK × D)} {ws : List (Key × V)}, RepKV K Hs kvs ws → ws.map (·.1) = (kvs.map (·.1)).map kOf
  | _, _, .nil => rfl
  | _, _, .cons _ r => by rw [List.map_cons, keys_rep r]; rfl
theorem toPkv_1 : ∀ kvs : List (DK × D), (toPkv kvs).map (·.1) = (kvs.map (·.1)).map keyP
  | [] => rfl
  | (k, d) :: r => by simp only [toPkv, List.map_cons, toPkv_1 r]
theorem toPkv_2 : ∀ kvs : List (DK × D), (toPkv kvs).map (·.2) = toPs (kvs.map (·.2))
  | [] => rfl
  | (k, d) :: r => by simp only [toPkv, List.map_cons, toPs, toPkv_2 r]
theorem kv_vals : ∀ {ws : List (Key × V)} {us : List (Key × Value)}, KV ws us → Vals (ws.map (·.2)) (us.map (·.2))
  | _, _, .nil => .nil
  | _, _, .cons h r => .cons h.2 (kv_vals r)
theorem reads_strs {h : Heap} : ∀ (ts : List Txt) {us : List Value}, Vals ((ts.map sV).map V.str) us → ReadsAll h us (ts.map fun t => PyData.str (sV t)) []
  | [], _, .nil => .nil
  | t :: r, _, .cons ⟨k, e⟩ q => by
    subst e
    exact ReadsAll.cons (Reads.str _ k) (reads_strs r q)
mutual
theorem Rep.reads (I : Inv X pins σ H s) (sub : Same Hs H) : ∀ {d : D} {v : V} {u : Value}, Rep X.K Hs d v → RelV v u → isR d = true → ∃ as, Reads s.heap u (toP d) as ∧ ∀ b ∈ as, H b ≠ none
  | _, _, _, .non, r, _ => by cases r; exact ⟨_, Reads.none, fun _ h => by cases h⟩
  | _, _, _, .bl b, r, _ => by cases r; exact ⟨_, Reads.bool b, fun _ h => by cases h⟩
  | _, _, _, .int i, r, _ => by obtain ⟨t, rfl⟩ := r; exact ⟨_, Reads.int i t, fun _ h => by cases h⟩
  | _, _, _, .str z, r, _ => by obtain ⟨t, rfl⟩ := r; exact ⟨_, Reads.str _ t, fun _ h => by cases h⟩
  | _, _, _, .tup (xs := xs) h q, r, p => by
    cases r
    obtain ⟨its, rv, ⟨o, ho, hc, n, hd⟩, _⟩ := I.tuple (TupA.sq sub h)
    obtain ⟨as, h1, h2⟩ := RepL.reads I sub q rv p
    exact ⟨_, Reads.tuple ho hc hd h1, h2⟩
  | _, _, _, .lst (xs := xs) (a := a) h q, r, p => by
    cases r
    obtain ⟨its, rv, ⟨o, n, ho, hc, _, hd⟩, _⟩ := I.list (SqL.of (K := X.K) (sub _ _ h))
    obtain ⟨as, h1, h2⟩ := RepL.reads I sub q rv p
    refine ⟨_, Reads.list ho hc hd h1, fun b hb => ?_⟩
    rcases List.mem_cons.mp hb with e | hb
    · rw [e, sub _ _ h]
      intro z
      cases z
    · exact h2 b hb
  | _, _, _, .dct (kvs := kvs) (a := a) h q, r, p => by
    cases r
    have h' := Same.rd sub h
    obtain ⟨_, hs, vs, kv, o, es, ep, ho, hx, hd, _, pr, _⟩ := dk_rd I.hok h'
    have k1 := pairs_read (h := s.heap) pr (ks := kvs.map (·.1)) (by rw [← kv.keys, keys_rep q])
    obtain ⟨as, h1, h2⟩ := RepKV.reads I sub q (kv_vals kv) p
    refine ⟨_, Reads.dict ho hx.1 hd (by rw [toPkv_1]; exact k1) (by rw [toPkv_2, pairs_vals pr]; exact h1), fun b hb => ?_⟩
    rcases List.mem_append.mp hb with hb | hb
    · rcases List.mem_cons.mp hb with e | hb
      · rw [e]
        rcases h' with z | ⟨_, z⟩ <;> (rw [z]; intro w; cases w)
      · cases hb
    · exact h2 b hb
  | _, _, _, .obj h q, r, p => by cases p
  | _, _, _, .cell a, r, p => by cases p
  | _, _, _, .ty n, r, p => by cases p
  | _, _, _, .scr h, r, p => by cases p
  | _, _, _, .exc h q, r, p => by cases p
  | _, _, _, .kt h, r, p => by cases p
  | _, _, _, .tupT (ts := ts) d h, r, p => by
    cases r
    obtain ⟨its, rv, ⟨o, ho, hc, n, hd⟩, _⟩ := I.tuple (TupA.sq (K := X.K) sub (.inr ⟨_, d, h⟩))
    exact ⟨_, Reads.tuple ho hc hd (reads_strs ts rv), fun _ h => by cases h⟩
theorem RepL.reads (I : Inv X pins σ H s) (sub : Same Hs H) : ∀ {d : List D} {v : List V} {u : List Value}, RepL X.K Hs d v → Vals v u → isRs d = true → ∃ as, ReadsAll s.heap u (toPs d) as ∧ ∀ b ∈ as, H b ≠ none
  | _, _, _, .nil, r, _ => by cases r; exact ⟨_, ReadsAll.nil, fun _ h => by cases h⟩
  | _, _, _, .cons h q, r, p => by
    cases r with
    | cons r1 r2 =>
      have p' := Bool.and_eq_true_iff.mp p
      obtain ⟨as, h1, h2⟩ := Rep.reads I sub h r1 p'.1
      obtain ⟨bs, h3, h4⟩ := RepL.reads I sub q r2 p'.2
      exact ⟨_, ReadsAll.cons h1 h3, fun b hb => (List.mem_append.mp hb).elim (h2 b) (h4 b)⟩
theorem RepKV.reads (I : Inv X pins σ H s) (sub : Same Hs H) : ∀ {d : List (DK × D)} {v : List (Key × V)} {u : List Value}, RepKV X.K Hs d v → Vals (v.map (·.2)) u → isRkv d = true → ∃ as, ReadsAll s.heap u (toPs (d.map (·.2))) as ∧ ∀ b ∈ as, H b ≠ none
  | _, _, _, .nil, r, _ => by cases r; exact ⟨_, ReadsAll.nil, fun _ h => by cases h⟩
  | _, _, _, .cons h q, r, p => by
    rw [List.map_cons] at r
    cases r with
    | cons r1 r2 =>
      have p' := Bool.and_eq_true_iff.mp p
      obtain ⟨as, h1, h2⟩ := Rep.reads I sub h r1 p'.1
      obtain ⟨bs, h3, h4⟩ := RepKV.reads I sub q r2 p'.2
      exact ⟨_, ReadsAll.cons h1 h3, fun b hb => (List.mem_append.mp hb).elim (h2 b) (h4 b)⟩
end
/-- may be shown -/
def shOk (d : D) : Prop := isR d = true ∧ (toP d).showable = true ∧ (toP d).depth ≤ 40 ∧ (toP d).shown.length ≤ sizeLine
@[irreducible] def shT (d : D) : Txt := (toP d).shown.cps.toList
def gRepr (ds : List D) (P : D → Prop) : Prop := match ds with
  | [d] => shOk d ∧ P (.str (shT d))
  | _ => False
/-- repr of a thing that reads as data -/
theorem repr_run {A : Around} {E Q : Value → Shared → Prop} {d : D} {u : Value} {as : List Addr} (gd : Gd A) (hu : A.units + 60 < cLine) (r : Reads s.heap u (toP d) as) (nm : sysModules ∉ as) (ok : shOk d)
    (k : ∀ h' t tk, (∀ b o, s.heap.get? b = some o → h'.get? b = some o) → Q (.str (toP d).shown t) { s with heap := h', toks := tk }) : wpAny (model X.prog X.w) A (call (.builtin "repr") [u]) Q E s := by
  obtain ⟨o1, o2, o3, o4⟩ := ok
  have kk : ∀ b o, s.heap.get? b = some o → s.heap.get? b = some o := fun _ _ e => e
  cases u with
  | ref a => exact repr_of_reads' r o2 (fun _ => nm) gd (by omega) (fun _ _ e => e) k o4
  | none =>
    generalize toP d = p at *
    cases r
    exact PySem.P.repr_of_none (k s.heap _ _ kk)
  | bool b =>
    generalize toP d = p at *
    cases r
    have e : (PyData.bool b).shown = (if b then "True" else "False" : String) := by cases b <;> rfl
    refine PySem.P.repr_of_bool ?_
    have := k s.heap s.toks (s.toks + 1) kk
    rw [e] at this
    cases b <;> exact this
  | int i t =>
    generalize toP d = p at *
    cases r
    refine PySem.P.repr_of_int (of_decide_eq_true (by simpa [PyData.showable] using o2)) (k s.heap _ _ kk)
  | str x t =>
    generalize toP d = p at *
    cases r
    exact PySem.P.repr_of_str (k s.heap _ _ kk) o4
  | _ =>
    generalize toP d = p at *
    cases r
theorem noMods (I : Inv X pins σ H s) (hb : ∃ o, X.base.get? sysModules = some o) {as : List Addr} (h : ∀ b ∈ as, H b ≠ none) : sysModules ∉ as := fun hm => by
  obtain ⟨o, e⟩ := hb
  exact h _ hm (I.bs _ o e).2
end
section
variable {X : Cx}
/-- reading of a call over one value that is known as data -/
theorem calld_repr (gd : Gd X.A) (hu : X.A.units + 60 < cLine) (hb : ∃ o, X.base.get? sysModules = some o) : CallD X (.builtin "repr") RShr gRepr := by
  refine ⟨⟨fun xs H Q => ∃ (v : V) (d : D), xs = [v] ∧ (∀ (pins : List (Addr × Obj)) (σ : St) (s : Shared) (u : Value), Inv X pins σ H s → RelV v u → ∃ as, Reads s.heap u (toP d) as ∧ ∀ b ∈ as, H b ≠ none) ∧ shOk d ∧ Q (.str (sV (shT d))) H, ?_, ?_⟩⟩
  · intro pins s σ H xs us Q I r h
    obtain ⟨v, d, rfl, rd, ok, q⟩ := h
    obtain ⟨u, rfl, ru⟩ := vals1 r
    obtain ⟨as, r1, r2⟩ := rd pins σ s u I ru
    refine repr_run (X := X) gd hu r1 (noMods I hb r2) ok fun h' t tk kk => ?_
    exact ⟨.str (sV (shT d)), H, I.kept kk, ⟨t, by unfold shT; rw [sV_of]⟩, q⟩
  · intro Z σ Hs H env C ds vs P Q sr n g k
    unfold gRepr at g
    split at g
    · rename_i d
      cases n with
      | cons n1 n2 =>
        cases n2
        refine ⟨_, d, rfl, fun pins σ' s u I ru => ?_, g.1, k _ _ Hs H g.2 Tr.refl sr (.str _)⟩
        have ok := g.1.1
        cases n1 with
        | non => exact (Rep.non : Rep X.K Hs _ _).reads I sr.fit.sub ru ok
        | bl b => exact (Rep.bl b : Rep X.K Hs _ _).reads I sr.fit.sub ru ok
        | int i => exact (Rep.int i : Rep X.K Hs _ _).reads I sr.fit.sub ru ok
        | str z => exact (Rep.str z : Rep X.K Hs _ _).reads I sr.fit.sub ru ok
        | tup h q => exact (Rep.tup h q).reads I sr.fit.sub ru ok
        | lst h q => exact (Rep.lst h (q.same sr.fit.sub)).reads I (Same.refl _) ru ok
        | dct h q => exact (Rep.dct h (q.same sr.fit.sub)).reads I (Same.refl _) ru ok
        | tupT d h => exact (Rep.tupT d h : Rep X.K Hs _ _).reads I sr.fit.sub ru ok
        | _ => cases ok
    · exact g.elim
end
end L2.DL
/-! DLl: built-ins over trees: len, isinstance, max, min, all, any, list, tuple, join, products. -/
namespace L2.DL
open PySem PySem.Spec PyProof.Rows
section
variable {X : Cx}
/-- a rule that changes nothing and gives a plain value -/
theorem calld_pure {f : Value} {r : List V → Hp → VK → Prop} {g : List D → (D → Prop) → Prop} (hr : CallR X f r)
    (h : ∀ Hs H ds vs (P : D → Prop) Q, Same Hs H → RNs X.K Hs H ds vs → g ds P → (∀ a w, P a → Rep X.K Hs a w → Q w H) → r vs H Q) : CallD X f RShr g :=
  ⟨⟨r, hr, fun Z σ Hs H env C ds vs P Q sr n gg k => h Hs H ds vs P Q sr.fit.sub n gg fun a w p ra => k a w Hs H p Tr.refl sr ra⟩⟩
def gLen (ds : List D) (P : D → Prop) : Prop := match ds with
  | [.str s] => s.length ≤ sizeLine ∧ P (.int s.length)
  | [.lst xs] => P (.int xs.length)
  | [.tup xs] => P (.int xs.length)
  | [.dct xs] => P (.int xs.length)
  | [.scr xs] => P (.int xs.length)
  | _ => False
theorem RepKV.length {K : PySem.W.Frag} {H : Hp} : ∀ {d : List (DK × D)} {v : List (Key × V)}, RepKV K H d v → d.length = v.length
  | _, _, .nil => rfl
  | _, _, .cons _ r => by simp [RepKV.length r]
theorem call_lenD : CallR X (.builtin "len") (fun xs H Q => ∃ a kvs, xs = [.ref a] ∧ Rd H a (.dK kvs) ∧ Q (.int (kvs.length : Nat)) H) := by
  intro pins s σ H xs us Q I r h
  obtain ⟨a, kvs, rfl, e, q⟩ := h
  obtain ⟨u, rfl, rx⟩ := vals1 r
  cases rx
  exact d_len I e fun t s' I' => ⟨.int (kvs.length : Nat), H, I', ⟨_, rfl⟩, q⟩
theorem calld_len : CallD X (.builtin "len") RShr gLen := by
  refine calld_pure (call_len.or call_lenD) fun Hs H ds vs P Q sub n g k => ?_
  cases n with
  | nil => exact g.elim
  | cons n n2 =>
    cases n2 with
    | cons _ _ => cases n <;> exact g.elim
    | nil =>
      cases n with
      | str s => exact .inl ⟨_, s.length, rfl, ⟨by rw [sV_len]; exact g.1, by rw [sV_len]⟩, k _ _ g.2 (.int _)⟩
      | lst e r => exact .inl ⟨_, _, rfl, .inl ⟨_, SqL.of e, rfl⟩, k _ _ g (by rw [r.length]; exact .int _)⟩
      | tup e r => exact .inl ⟨_, _, rfl, .inr ⟨_, TupA.sq sub e, rfl⟩, k _ _ g (by rw [r.length]; exact .int _)⟩
      | dct e r => exact .inr ⟨_, _, rfl, e, k _ _ g (by rw [r.length]; exact .int _)⟩
      | @scr ns a e => exact .inl ⟨_, ns.length, rfl, .inl ⟨_, e, by simp⟩, k _ _ g (.int _)⟩
      | _ => exact g.elim
/-! ### isinstance -/
def tyD : D → Option String
  | .non => some "NoneType" | .bl _ => some "bool" | .int _ => some "int" | .str _ => some "str"
  | .tup _ => some "tuple" | .lst _ => some "list" | .dct _ => some "dict" | _ => none
def gIsi (ds : List D) (P : D → Prop) : Prop := match ds with
  | [d, .ty n] => ∃ t b, tyD d = some t ∧ kitB t n = some b ∧ P (.bl b)
  | _ => False
theorem tyd_now {K : PySem.W.Frag} {Hs H : Hp} {d : D} {v : V} {t : String} (sub : Same Hs H) (n : RNow K Hs H d v) (h : tyD d = some t) : TyX K H v (.type t) := by
  cases n with
  | non => cases h; exact .base .non
  | bl b => cases h; exact .base (.bl b)
  | int i => cases h; exact .base (.int i)
  | str s => cases h; exact .base (.str _)
  | tup e r =>
    cases h
    rcases TupA.same sub e with e | ⟨o, _, e⟩
    · exact .base (.tup e)
    · exact .fTuple e
  | lst e r => cases h; exact .base (.lst e)
  | dct e r =>
    cases h
    rcases e with e | ⟨o, e⟩
    · exact .base (.dK e)
    · exact .fDict e
  | _ => cases h
theorem calld_isi : CallD X (.builtin "isinstance") RShr gIsi := by
  refine calld_pure call_isi fun Hs H ds vs P Q sub n g k => ?_
  unfold gIsi at g
  split at g
  · rename_i d nm
    obtain ⟨t, b, e1, e2, p⟩ := g
    cases n with
    | cons n1 n2 => cases n2 with
      | cons n2 n3 =>
        cases n2
        cases n3
        exact ⟨_, _, _, _, b, rfl, .ty nm, tyd_now sub n1 e1, kit_ty e2, k _ _ p (.bl b)⟩
  · exact g.elim
/-! ### max, min -/
def g2I (f : Int → Int → Int) (ds : List D) (P : D → Prop) : Prop := match ds with
  | [.int i, .int j] => P (.int (f i j))
  | _ => False
theorem rns2 {K : PySem.W.Frag} {Hs H : Hp} {i j : Int} {vs : List V} (n : RNs K Hs H [.int i, .int j] vs) : vs = [.int i, .int j] := by
  cases n with
  | cons n1 n2 => cases n2 with
    | cons n2 n3 => cases n1; cases n2; cases n3; rfl
theorem calld_max (hc : X.calm = true) : CallD X (.builtin "max") RShr (g2I fun i j => if j > i then j else i) := by
  refine calld_pure (call_max2 hc) fun Hs H ds vs P Q sub n g k => ?_
  unfold g2I at g
  split at g
  · rename_i i j
    exact ⟨i, j, rns2 n, k _ _ g (.int _)⟩
  · exact g.elim
theorem calld_min (hc : X.calm = true) : CallD X (.builtin "min") RShr (g2I fun i j => if j < i then j else i) := by
  refine calld_pure (call_min2 hc) fun Hs H ds vs P Q sub n g k => ?_
  unfold g2I at g
  split at g
  · rename_i i j
    exact ⟨i, j, rns2 n, k _ _ g (.int _)⟩
  · exact g.elim
/-! ### all, any of a list of bools -/
def blsOf : List D → Option (List Bool)
  | [] => some []
  | .bl b :: r => (blsOf r).map (b :: ·)
  | _ => none
theorem bls_rep {K : PySem.W.Frag} {Hs : Hp} : ∀ {xs : List D} {vs : List V} {bs : List Bool}, RepL K Hs xs vs → blsOf xs = some bs → vs = bs.map V.bl
  | _, _, _, .nil, h => by
    simp only [blsOf, Option.some.injEq] at h
    subst h
    rfl
  | _, _, _, .cons h r, e => by
    cases h with
    | bl b =>
      simp only [blsOf, Option.map_eq_some_iff] at e
      obtain ⟨ms, e1, rfl⟩ := e
      rw [bls_rep r e1]
      rfl
    | _ => simp [blsOf] at e
def gBls (f : List Bool → Bool) (ds : List D) (P : D → Prop) : Prop := match ds with
  | [.lst xs] => ∃ bs, blsOf xs = some bs ∧ P (.bl (f bs))
  | _ => False
theorem calld_all (hc : X.calm = true) : CallD X (.builtin "all") RShr (gBls fun bs => bs.all id) := by
  refine calld_pure (cr_all hc) fun Hs H ds vs P Q sub n g k => ?_
  unfold gBls at g
  split at g
  · obtain ⟨bs, e, p⟩ := g
    cases n with
    | cons n1 n2 =>
      cases n2
      cases n1 with
      | lst e1 r => exact ⟨_, bs, rfl, SqL.of (by rw [← bls_rep r e]; exact e1), k _ _ p (.bl _)⟩
  · exact g.elim
/-! ### list(..), tuple(..) -/
theorem rep_chars {K : PySem.W.Frag} {Hs : Hp} : ∀ s : Txt, RepL K Hs (s.map fun c => D.str [c]) (s.map fun c => V.str (sV [c]))
  | [] => .nil
  | c :: r => .cons (.str [c]) (rep_chars r)
theorem signs_vals : ∀ (cs : List Nat) (its : List Value), its.length = cs.length → (∀ (j : Nat) v, its[j]? = some v → ∃ c u, cs[j]? = some c ∧ v = Value.str ⟨#[c]⟩ u) → Vals (cs.map fun c => V.str (sV [c])) its
  | [], [], _, _ => .nil
  | [], _ :: _, h, _ => by simp at h
  | _ :: _, [], h, _ => by simp at h
  | c :: cs, v :: its, h, k => by
    obtain ⟨c', u, h1, h2⟩ := k 0 v rfl
    cases h1
    exact .cons ⟨u, h2⟩ (signs_vals cs its (by simpa using h) fun j v' e => k (j + 1) v' (by simpa using e))
theorem call_listS (hc : X.calm = true) : CallR X (.type "list") (fun xs H Q => ∃ s : Txt, xs = [.str (sV s)] ∧ s.length ≤ sizeLine ∧ ∀ l, H l = none → Q (.ref l) (upd H l (.lst (s.map fun c => V.str (sV [c]))))) := by
  intro pins s σ H xs us Q I r h
  obtain ⟨z, rfl, hz, q⟩ := h
  obtain ⟨u, rfl, t, rfl⟩ := vals1 r
  refine call_list_str (I.ok.hd hc) (sV z) t (hn := by simpa [sV] using hz) fun h' tk acc' c' hk hS' hacc => ?_
  have hv : Vals (z.map fun c => V.str (sV [c])) acc'.toList := signs_vals z _ (by have := hacc.1; simpa [sV] using this) fun j v e => by
    obtain ⟨c, u, h1, h2⟩ := hacc.2 j v (by simpa using e)
    exact ⟨c, u, by simpa [sV] using h1, h2⟩
  exact ⟨.ref s.heap.objs.size, _, I.laid (t' := tk) hk (Nat.le_refl _) (show ObjOk X.prog X.w _ h' _ (.lst _) from ⟨by simpa using hz, acc'.toList, c', hv, by simpa using hS'⟩), rfl, q _ (I.hok.fresh (Nat.le_refl _))⟩
def gList (ds : List D) (P : Cont → Prop) : Prop := match ds with
  | [.lst xs] => P (.lst xs)
  | [.tup xs] => P (.lst xs)
  | [.str s] => s.length ≤ sizeLine ∧ P (.lst (s.map fun c => .str [c]))
  | [.scr ns] => P (.lst (ns.map .int))
  | _ => False
theorem rep_ints {K : PySem.W.Frag} {Hs : Hp} : ∀ ns : List Int, RepL K Hs (ns.map D.int) (ns.map V.int)
  | [] => .nil
  | c :: r => .cons (.int c) (rep_ints r)
theorem calld_list (hc : X.calm = true) : CallD X (.type "list") RFr gList := by
  refine ⟨⟨_, call_list_of.or (call_listS hc), fun Z σ Hs H env C ds vs P Q sr n g k => ?_⟩⟩
  cases n with
  | nil => exact g.elim
  | cons n n2 =>
    cases n2 with
    | cons _ _ => cases n <;> exact g.elim
    | nil =>
      have lay : ∀ {xs : List D} {ws : List V}, RepL X.K Hs xs ws → P (.lst xs) → ∀ l, H l = none → Q (.ref l) (upd H l (.lst ws)) := fun r p l hl =>
        k _ _ Hs _ p (Tr.layP hl _) (sr.layP hl _) (fr_lay sr hl ⟨_, rfl, r⟩)
      cases n with
      | lst e r => exact .inl ⟨_, _, rfl, .inl (SqL.of e), lay r g⟩
      | tup e r => exact .inl ⟨_, _, rfl, .inr (TupA.sq sr.fit.sub e), lay r g⟩
      | str s => exact .inr ⟨s, rfl, g.1, lay (rep_chars s) g.2⟩
      | scr e => exact .inl ⟨_, _, rfl, .inl e, lay (rep_ints _) g⟩
      | _ => exact g.elim
def gTuple (ds : List D) (P : D → Prop) : Prop := match ds with
  | [.lst xs] => P (.tup xs)
  | [.tup xs] => P (.tup xs)
  | _ => False
theorem calld_tuple : CallD X (.type "tuple") RShr gTuple := by
  refine ⟨⟨_, call_tuple_of, fun Z σ Hs H env C ds vs P Q sr n g k => ?_⟩⟩
  cases n with
  | nil => exact g.elim
  | cons n n2 =>
    cases n2 with
    | cons _ _ => cases n <;> exact g.elim
    | nil =>
      cases n with
      | lst e r => exact ⟨_, _, rfl, .inl ⟨SqL.of e, fun l hl => k _ _ _ _ g (Tr.lay sr.fit hl _) (sr.lay hl _) (.tup (.inl upd_same) (r.same (same_upd (sr.fit.nothing hl).1)))⟩⟩
      | tup e r => exact ⟨_, _, rfl, .inr ⟨TupA.sq sr.fit.sub e, k _ _ Hs H g Tr.refl sr (.tup e r)⟩⟩
      | _ => exact g.elim
/-! ### text.join(list) -/
def txtsOf : List D → Option (List Txt)
  | [] => some []
  | .str b :: r => (txtsOf r).map (b :: ·)
  | _ => none
theorem txts_rep {K : PySem.W.Frag} {Hs : Hp} : ∀ {xs : List D} {vs : List V} {bs : List Txt}, RepL K Hs xs vs → txtsOf xs = some bs → vs = (bs.map sV).map V.str
  | _, _, _, .nil, h => by
    simp only [txtsOf, Option.some.injEq] at h
    subst h
    rfl
  | _, _, _, .cons h r, e => by
    cases h with
    | str b =>
      simp only [txtsOf, Option.map_eq_some_iff] at e
      obtain ⟨ms, e1, rfl⟩ := e
      rw [txts_rep r e1]
      rfl
    | _ => simp [txtsOf] at e
def joinT (s : Txt) : List Txt → Txt
  | [] => []
  | [p] => p
  | p :: q :: r => p ++ (s ++ joinT s (q :: r))
theorem join_txt (s : Txt) : ∀ ps : List Txt, Str.join (sV s) (ps.map sV) = sV (joinT s ps)
  | [] => rfl
  | [_] => rfl
  | p :: q :: r => by
    show sV p ++ sV s ++ Str.join (sV s) ((q :: r).map sV) = _
    rw [join_txt s (q :: r), sV_app, sV_app, List.append_assoc]
    rfl
def gJoin (s : Txt) (e : D) (P : D → Prop) : Prop := match e with
  | .lst xs => ∃ ps, txtsOf xs = some ps ∧ (ps.map (·.length)).sum + ps.length * s.length ≤ 16777216 ∧ P (.str (joinT s ps))
  | .tup xs => ∃ ps, txtsOf xs = some ps ∧ (ps.map (·.length)).sum + ps.length * s.length ≤ 16777216 ∧ P (.str (joinT s ps))
  | _ => False
/-- a method of a text with one argument -/
def mTx1 (g : Txt → D → (D → Prop) → Prop) (mo me : EM D) : EM D := fun E env C Q => mo E env C fun d env1 C1 => ∃ s, d = .str s ∧ me E env1 C1 fun e env2 C2 => g s (dr C2 e) fun x => Q x env2 C2
theorem lens_sV (ps : List Txt) : ((ps.map sV).map (·.length)).sum = (ps.map (·.length)).sum := by
  induction ps with
  | nil => rfl
  | cons p r ih => simp only [List.map_cons, List.sum_cons, ih, sV_len]
theorem d_join {o e : Expr} {apos pos : Pos} {mo me : EM D} (ho : DE X RPk o mo) (he : DE X RPk e me) (hs : starEach [e] X.env = [(false, eval e X.env)]) (hbase : attributeBase o "join" X.env (eval o X.env) = eval o X.env) (hline : (apos.endLine == pos.line) = true) :
    DE X RShr (.Call (.Attribute o "join" apos) [e] [] pos) (mTx1 gJoin mo me) := fun Z E hE => by
  refine ⟨fun pins s σ H Q I ⟨Hs, env, C, P, sr, q, k⟩ => (pe_join (ho Z E hE) (he Z E hE) hs hbase hline).run pins s σ H Q I ?_⟩
  refine ⟨Hs, env, C, _, sr, q, fun d env1 C1 v Hs1 H1 q1 t1 s1 r1 => ?_⟩
  obtain ⟨z, rfl, q1⟩ := q1
  have n := r1.now s1.fit
  cases n
  refine ⟨⟨_, rfl⟩, Hs1, env1, C1, _, s1, q1, fun f env2 C2 u Hs2 H2 q2 t2 s2 r2 => ?_⟩
  have n := r2.now s2.fit
  generalize dr C2 f = x at n q2
  have fin : ∀ {xs : List D} {ws : List V} {ps : List Txt}, RepL X.K Hs2 xs ws → txtsOf xs = some ps → ws = (ps.map sV).map V.str := fun r e => txts_rep r e
  cases n with
  | lst e1 r =>
    obtain ⟨ps, e2, hl, p⟩ := q2
    refine ⟨_, _, ps.map sV, rfl, rfl, .inl (SqL.of (by rw [← fin r e2]; exact e1)), by rw [lens_sV, List.length_map, sV_len]; exact hl, ?_⟩
    rw [show Txt.join (sV z) (ps.map sV) = Str.join (sV z) (ps.map sV) from TL.join_eq _ _, join_txt]
    exact k _ _ _ _ _ _ p (t1.trans t2) s2 (.str _)
  | tup e1 r =>
    obtain ⟨ps, e2, hl, p⟩ := q2
    refine ⟨_, _, ps.map sV, rfl, rfl, .inr (by rw [← fin r e2]; exact TupA.sq s2.fit.sub e1), by rw [lens_sV, List.length_map, sV_len]; exact hl, ?_⟩
    rw [show Txt.join (sV z) (ps.map sV) = Str.join (sV z) (ps.map sV) from TL.join_eq _ _, join_txt]
    exact k _ _ _ _ _ _ p (t1.trans t2) s2 (.str _)
  | _ => exact q2.elim
/-! ### products -/
def mulT (s : Txt) (n : Int) : Txt := (List.replicate n.toNat s).flatten
theorem repT_fold (s : Txt) : ∀ (k : Nat) (acc : Txt), List.foldl (fun x y => x ++ y) acc.toArray (List.replicate k s.toArray) = (acc ++ (List.replicate k s).flatten).toArray
  | 0, acc => by simp
  | k + 1, acc => by
    rw [List.replicate_succ, List.foldl_cons, List.append_toArray, repT_fold s k (acc ++ s), List.replicate_succ, List.flatten_cons, List.append_assoc]
theorem mulT_of (s : Txt) (n : Int) : Txt.mul (sV s) n = sV (mulT s n) := by
  unfold Txt.mul mulT
  by_cases h1 : n < 1
  · rw [if_pos h1, show n.toNat = 0 by omega]
    rfl
  · rw [if_neg h1]
    by_cases h2 : (n == 1 || (sV s).length == 0) = true
    · rw [if_pos h2]
      rcases Bool.or_eq_true_iff.mp h2 with h3 | h3
      · have : n = 1 := by simpa using h3
        subst this
        simp
      · have : s = [] := by simpa [sV_len] using h3
        subst this
        simp
    · rw [if_neg h2]
      have := repT_fold s n.toNat []
      rw [List.nil_append] at this
      show (⟨_⟩ : Str) = _
      unfold sV
      rw [this]
theorem op_mul_str : OpR X (binaryOp .Mult) (fun x y H Q => ∃ (s : Txt) (n : Int), x = .str (sV s) ∧ y = .int n ∧ -(2 ^ 63) ≤ n ∧ n < 2 ^ 63 ∧ s.length * n.toNat ≤ sizeLine ∧ Q (.str (sV (mulT s n))) H) := by
  intro pins s σ H x y v u Q I rx ry h
  obtain ⟨z, n, rfl, rfl, h1, h2, hz, q⟩ := h
  obtain ⟨t, rfl⟩ := rx
  obtain ⟨t', rfl⟩ := ry
  refine SB.mul ⟨?_, ?_, ?_⟩ fun t' k => ⟨.str (sV (mulT z n)), H, I.tok k, ⟨t', by rw [mulT_of]⟩, q⟩
  · rw [decide_eq_false (by omega), decide_eq_false (by omega)]; rfl
  · intro h3 _ h4
    rw [sV_len] at h4
    have h6 : (z.length : Int) * n ≤ 2 ^ 63 - 1 := by
      have e : (n.toNat : Int) = n := Int.toNat_of_nonneg (by omega)
      have h7 : ((z.length * n.toNat : Nat) : Int) ≤ (sizeLine : Nat) := by exact_mod_cast hz
      rw [Int.natCast_mul, e, sizeLine_eq] at h7
      omega
    have h8 : (z.length : Int) ≤ (2 ^ 63 - 1) / n := (Int.le_ediv_iff_mul_le (by omega)).mpr h6
    omega
  · intro h3 _
    rw [sV_len]
    exact decide_eq_false (Nat.not_lt.mpr hz)
def gMul (d e : D) (P : D → Prop) : Prop := match d, e with
  | .int i, .int j => MulOk i j ∧ P (.int (i * j))
  | .str s, .int n => (-(2 ^ 63) ≤ n ∧ n < 2 ^ 63 ∧ s.length * n.toNat ≤ sizeLine) ∧ P (.str (mulT s n))
  | .lst xs, .int n => (-(2 ^ 63) ≤ n ∧ n < 2 ^ 63 ∧ xs.length * n.toNat ≤ sizeLine) ∧ P (.lst (List.replicate n.toNat xs).flatten)
  | .tup xs, .int n => (xs ≠ [] ∧ 2 ≤ n ∧ n ≤ 1000 ∧ xs.length ≤ 1000) ∧ P (.tup (List.replicate n.toNat xs).flatten)
  | _, _ => False
theorem rep_flat {K : PySem.W.Frag} {Hs : Hp} {xs : List D} {vs : List V} (r : RepL K Hs xs vs) : ∀ k : Nat, RepL K Hs (List.replicate k xs).flatten (List.replicate k vs).flatten
  | 0 => .nil
  | k + 1 => by
    rw [List.replicate_succ, List.flatten_cons, List.replicate_succ, List.flatten_cons]
    exact r.append (rep_flat r k)
theorem opd_mulA : OpD X (binaryOp .Mult) RShr gMul := by
  refine ⟨_, op_mulX.or (op_mul_str.or (op_rep.or op_repT)), ?_⟩
  intro Z σ Hs H env C d e v u P Q sr n n' g k
  cases n with
  | int i => cases n' with
    | int j => exact .inl ⟨i, j, rfl, rfl, g.1, k _ _ Hs H g.2 Tr.refl sr (.int _)⟩
    | _ => exact False.elim g
  | str s => cases n' with
    | int j => exact .inr (.inl ⟨s, j, rfl, rfl, g.1.1, g.1.2.1, g.1.2.2, k _ _ Hs H g.2 Tr.refl sr (.str _)⟩)
    | _ => exact False.elim g
  | lst h r => cases n' with
    | int j => exact .inr (.inr (.inl ⟨_, j, _, rfl, rfl, h, g.1.1, g.1.2.1, by rw [← r.length]; exact g.1.2.2, fun p hp =>
        k _ _ _ _ g.2 (Tr.lay sr.fit hp _) (sr.lay hp _) (.lst upd_same ((rep_flat r _).same (same_upd (sr.fit.nothing hp).1)))⟩))
    | _ => exact False.elim g
  | tup h r => cases n' with
    | int j => exact .inr (.inr (.inr ⟨_, j, _, rfl, rfl, TupA.sq sr.fit.sub h, fun z => g.1.1 (by subst z; cases r; rfl), g.1.2.1, g.1.2.2.1, by rw [← r.length]; exact g.1.2.2.2, fun p hp =>
        k _ _ _ _ g.2 (Tr.lay sr.fit hp _) (sr.lay hp _) (.tup (.inl upd_same) ((rep_flat r _).same (same_upd (sr.fit.nothing hp).1)))⟩))
    | _ => exact False.elim g
  | _ => exact False.elim g
end
end L2.DL
/-! DLm: what is written: tables, lists, own or as cells; sources of draws. -/
namespace L2.DL
open PySem PySem.Spec PyProof.Rows
/-! ### tables -/
def putD (kvs : List (DK × D)) (k : DK) (d : D) : List (DK × D) :=
  if (kvs.any fun kv => decide (kv.1 = k)) = true then kvs.map (fun kv => if kv.1 = k then (kv.1, d) else kv) else kvs ++ [(k, d)]
def mergeD (kvs more : List (DK × D)) : List (DK × D) := more.foldl (fun acc kv => putD acc kv.1 kv.2) kvs
section
variable {K : PySem.W.Frag} {Hs H : Hp} {Z : Z0}
theorem RepKV.any {k : DK} : ∀ {kvs : List (DK × D)} {ws : List (Key × V)}, RepKV K Hs kvs ws → (ws.any fun kv => decide (kv.1 = kOf k)) = kvs.any fun kv => decide (kv.1 = k)
  | _, _, .nil => rfl
  | _, _, @RepKV.cons _ _ j d v ds vs h r => by
    rw [List.any_cons, List.any_cons, RepKV.any r]
    congr 1
    by_cases e : j = k
    · subst e; simp
    · rw [decide_eq_false e, decide_eq_false fun z => e (kOf_inj z)]
theorem RepKV.append : ∀ {ds es : List (DK × D)} {vs ws : List (Key × V)}, RepKV K H ds vs → RepKV K H es ws → RepKV K H (ds ++ es) (vs ++ ws)
  | _, _, _, _, .nil, s => s
  | _, _, _, _, .cons h r, s => .cons h (RepKV.append r s)
theorem RepKV.repl {k : DK} {d : D} {v : V} (q : Rep K Hs d v) : ∀ {kvs : List (DK × D)} {ws : List (Key × V)}, RepKV K Hs kvs ws →
    RepKV K Hs (kvs.map fun kv => if kv.1 = k then (kv.1, d) else kv) (ws.map fun kv => if kv.1 = kOf k then (kv.1, v) else kv)
  | _, _, .nil => .nil
  | _, _, @RepKV.cons _ _ j d' v' ds vs h r => by
    rw [List.map_cons, List.map_cons]
    by_cases e : j = k
    · subst e
      rw [if_pos rfl, if_pos rfl]
      exact .cons q (RepKV.repl q r)
    · rw [if_neg e, if_neg fun z => e (kOf_inj z)]
      exact .cons h (RepKV.repl q r)
theorem RepKV.put {k : DK} {d : D} {v : V} {kvs : List (DK × D)} {ws : List (Key × V)} (r : RepKV K Hs kvs ws) (q : Rep K Hs d v) : RepKV K Hs (putD kvs k d) (putK ws (kOf k) v) := by
  unfold putD putK
  rw [r.any]
  by_cases h : (kvs.any fun kv => decide (kv.1 = k)) = true
  · rw [if_pos h, if_pos h]; exact r.repl q
  · rw [if_neg h, if_neg h]; exact r.append (.cons q .nil)
theorem RepKV.merge {more : List (DK × D)} : ∀ {ws : List (Key × V)} {kvs : List (DK × D)} {us : List (Key × V)}, RepKV K Hs more ws → RepKV K Hs kvs us → RepKV K Hs (mergeD kvs more) (mergeK us ws) := by
  induction more with
  | nil => intro ws kvs us r q; cases r; exact q
  | cons p m ih => intro ws kvs us r q; cases r with
    | @cons k d v _ _ h t =>
      have := ih t (q.put (k := k) h)
      exact this
end
section
variable {X : Cx} {e o i : Expr} {es : List Expr} {pos p' : Pos} {K : PySem.W.Frag} {Z Z' : Z0}
/-! ### {k: v, ..} -/
def LPs (K : PySem.W.Frag) (Z : Z0) (m : DM (List (DK × D))) (σ : St) (H : Hp) (Q : List (V × V) → Hp → Prop) : Prop := ∃ Hs env C P, SR K Z σ Hs H env C ∧ m env C P ∧
  ∀ kvs env' C' ws Hs' H', P kvs env' C' → Tr Hs H C Hs' H' C' → SR K Z σ Hs' H' env' C' → RepKV K Hs' kvs ws → Q (ws.map fun kv => (kV kv.1, kv.2)) H'
def DPs (X : Cx) (pos : Pos) (ks : List (Option Expr)) (vs : List Expr) (m : EM (List (DK × D))) : Prop :=
  ∀ E, ∃ trs, PPs X pos ks vs trs ∧ ∀ Z, DX X Z E → ∀ σ H Q, LPs X.K Z (m E) σ H Q → tPairs trs σ H Q
theorem DE.all {α : Type} {R : RR α} {m : EM α} (h : DE X R e m) (E : EX) : PE X e (fun σ H Q => ∃ Z, DX X Z E ∧ LG X.K R Z (m E) σ H Q) :=
  ⟨fun pins s σ H Q I ⟨Z, hE, q⟩ => (h Z E hE).run pins s σ H Q I q⟩
def mPNil : EM (List (DK × D)) := fun _ env C Q => Q [] env C
def mPCons (mk mv : EM D) (ms : EM (List (DK × D))) : EM (List (DK × D)) := fun E env C Q => mk E env C fun d env1 C1 => mv E env1 C1 fun x env2 C2 => ms E env2 C2 fun r env3 C3 => ∃ k, dkOf d = some k ∧ Q ((k, x) :: r) env3 C3
theorem dps_nil : DPs X pos [] [] mPNil := fun E => ⟨[], pps_nil, fun Z hE σ H Q ⟨Hs, env, C, P, sr, q, k⟩ => k _ _ _ [] Hs H q Tr.refl sr .nil⟩
theorem dk_rep {K : PySem.W.Frag} {Hs : Hp} {d : D} {v : V} {k : DK} (n : Rep K Hs d v) (h : dkOf d = some k) : v = kV (kOf k) := by
  cases n <;> first | (simp [dkOf] at h; done) | (simp only [dkOf, Option.some.injEq] at h; subst h; rfl)
theorem dps_cons {k v : Expr} {ks : List (Option Expr)} {vs : List Expr} {mk mv : EM D} {ms : EM (List (DK × D))} (hk : DE X RShr k mk) (hv : DE X RShr v mv) (hr : DPs X pos ks vs ms) : DPs X pos (some k :: ks) (v :: vs) (mPCons mk mv ms) := fun E => by
  obtain ⟨trs, h, i⟩ := hr E
  refine ⟨_, pps_cons (hk.all E) (hv.all E) h, fun Z hE σ H Q ⟨Hs, env, C, P, sr, q, k⟩ => ?_⟩
  refine ⟨Z, hE, Hs, env, C, _, sr, q, fun d env1 C1 u Hs1 H1 q1 t1 s1 r1 => ?_⟩
  refine ⟨Z, hE, Hs1, env1, C1, _, s1, q1, fun x env2 C2 w Hs2 H2 q2 t2 s2 r2 => ?_⟩
  refine i Z hE σ H2 _ ⟨Hs2, env2, C2, _, s2, q2, fun kvs env3 C3 ws Hs3 H3 q3 t3 s3 r3 => ?_⟩
  obtain ⟨kk, e, q3⟩ := q3
  have hu := dk_rep r1 e
  subst hu
  exact k _ _ _ ((kOf kk, w) :: ws) _ _ q3 ((t1.trans t2).trans t3) s3 (.cons (r2.same t3.fr) r3)
theorem DX.prot {E : EX} {p : Addr} {o : HO} (z : Z.H p = none) (h : DX X Z E) : DX X (DL.prot Z p o) E := Takes.imp h fun _ _ _ _ ⟨Hs, env, C, x, r, q, e⟩ => ⟨Hs, env, C, x, r.unprot z, q, e⟩
def mDct (ms : EM (List (DK × D))) : EM Cont := fun E env C Q => ms E env C fun kvs env1 C1 => kvs.length ≤ 15 ∧ Q (.dct (mergeD [] kvs)) env1 C1
theorem d_dct {ks : List (Option Expr)} {vs : List Expr} {ms : EM (List (DK × D))} (h : DPs X pos ks vs ms) (hall : ks.all (·.isSome) = true) (hl : ks.length = vs.length) (h0 : ks ≠ []) (h15 : ks.length ≤ 15) : DE X RFr (.Dict ks vs pos) (mDct ms) := fun Z E hE => by
  obtain ⟨trs, hp, i⟩ := h E
  refine ⟨fun pins s σ H Q I ⟨Hs, env, C, P, sr, q, k⟩ => (pe_disp hp hall hl h0 h15).run pins s σ H Q I fun p hpn => ?_⟩
  obtain ⟨n1, n2⟩ := sr.fit.nothing hpn
  have zp : Z.H p = none := sr.bas.zfree hpn
  have no : ∀ (i : Nat) (c : Cont), env[i]? = some (Slot.own c) → σ[i]? ≠ some (some (V.ref p)) := fun i c e z => by
    obtain ⟨p', o, e1, e2, _⟩ := sr.slt.own i c e
    rw [e1] at z
    cases z
    rw [hpn] at e2
    cases e2
  refine i (DL.prot Z p (.dK [])) (hE.prot zp) σ _ _ ⟨Hs, env, C, _, (sr.layP hpn _).prot upd_same n1 n2 no, q, fun kvs env1 C1 ws Hs1 H1 q1 t1 s1 r1 => ?_⟩
  obtain ⟨b1, b2, b3⟩ := s1.bas.kp p (.dK []) upd_same (by simp [DL.prot])
  have b3 := b3 (by simp [DL.prot])
  have no1 : ∀ (i : Nat) (c : Cont), env1[i]? = some (Slot.own c) → σ[i]? ≠ some (some (V.ref p)) := fun i c e z => by
    obtain ⟨p', o, e1, e2, _, _, _, n3⟩ := s1.slt.own i c e
    rw [e1] at z
    cases z
    exact (prot_free n3).2 rfl
  have s2 := (SR.unprot zp s1).wrP (o' := .dK (mergeK [] ws)) b3 b2 zp no1
  refine ⟨b1, ws, rfl, by rw [← r1.length]; exact q1.1, ?_⟩
  refine k _ _ _ _ _ _ q1.2 ⟨t1.fr, fun a u e c => ?_⟩ s2 ⟨p, _, rfl, upd_same, ⟨_, rfl, r1.merge .nil⟩, b3, b2, zp, no1⟩
  have ha : a ≠ p := ne_of_none e hpn
  obtain ⟨k1, k2⟩ := t1.kp a u (by rw [upd_ne ha]; exact e) c
  exact ⟨by rw [upd_ne ha]; exact k1, k2⟩
/-! ### o[i] = v -/
theorem PSet.or {t t' : TSet} (h : PSet X t) (h' : PSet X t') : PSet X (fun o i v H Q => t o i v H Q ∨ t' o i v H Q) := by
  intro pins s σ H o i v ov iv u Q I ro ri rv q
  rcases q with q | q
  · exact h pins s σ H o i v ov iv u Q I ro ri rv q
  · exact h' pins s σ H o i v ov iv u Q I ro ri rv q
/-- o a cell -/
def gPutC (mo mi : EM D) : GM := fun d P env C => mo E0 env C fun o env1 C1 => mi E0 env1 C1 fun i env2 C2 => ∃ a, o = .cell a ∧ match C2 a with
  | some (.lst xs) => ∃ k j, i = .int k ∧ ixN xs.length k = some j ∧ P env2 (cput C2 a (.lst (xs.set j d)))
  | some (.dct kvs) => ∃ k, dkOf i = some k ∧ kvs.length < sizeLine ∧ P env2 (cput C2 a (.dct (putD kvs k d)))
  | _ => False
theorem dg_putC {mo mi : EM D} (hu : X.A.units + 1 < cLine) (ho : DE X RShr o mo) (hi : DE X RShr i mi)
    (ha : ∀ v, assign (.Subscript o i pos) X.env v = (do
      let ov ← holding [v] (eval o X.env)
      let iv ← holding [v, ov] (eval i X.env)
      standAt pos
      holding [v, ov, iv] (setItem ov iv v)
      release [v, ov, iv] [])) : DG X (.Subscript o i pos) (gPutC mo mi) := fun Z => by
  refine ⟨fun pins s σ H v u Q I r ⟨Hs, env, C, d, P, sr, rd, q, k⟩ => (pg_sub (ho Z E0 dx0) (hi Z E0 dx0) (PSet.or set_list (set_dict hu)) ha).run pins s σ H v u Q I r ?_⟩
  refine ⟨Hs, env, C, _, sr, q, fun d1 env1 C1 v1 Hs1 H1 q1 t1 s1 r1 => ?_⟩
  refine ⟨Hs1, env1, C1, _, s1, q1, fun d2 env2 C2 v2 Hs2 H2 q2 t2 s2 r2 => ?_⟩
  obtain ⟨a, rfl, q2⟩ := q2
  cases r1
  have rd2 := rd.same (t1.fr.trans t2.fr)
  cases hc : C2 a with
  | none => simp only [hc] at q2
  | some c =>
    simp only [hc] at q2
    obtain ⟨n, ob, hb, rc⟩ := s2.fit.cel a c hc
    cases c with
    | lst xs =>
      obtain ⟨kk, j, rfl, hj, p⟩ := q2
      obtain ⟨vs, rfl, rl⟩ := rc
      cases r2
      exact .inl ⟨_, vs, kk, j, rfl, rfl, hb, by rw [← rl.length]; exact hj, k _ _ _ _ _ (s2.wrC hc (cl' := .lst (xs.set j d)) ⟨_, rfl, rl.set j rd2⟩) p⟩
    | dct kvs =>
      obtain ⟨kk, e, hl, p⟩ := q2
      obtain ⟨ws, rfl, rl⟩ := rc
      have hv := dk_rep r2 e
      subst hv
      exact .inr ⟨_, _, rfl, DPut.k hb (by rw [← rl.length]; exact hl), k _ _ _ _ _ (s2.wrC hc (cl' := .dct (putD kvs kk d)) ⟨_, rfl, rl.put rd2⟩) p⟩
    | pur b => exact q2.elim
    | obj C fs => exact q2.elim
    | lck _ _ _ => exact q2.elim
/-- o a name whose slot owns it -/
def gPutO (n : Nat) (mi : EM D) : GM := fun d P env C => (∃ c, env[n]? = some (.own c)) ∧ mi E0 env C fun i env1 C1 => match env1[n]? with
  | some (.own (.lst xs)) => ∃ k j, i = .int k ∧ ixN xs.length k = some j ∧ P (env1.set n (.own (.lst (xs.set j d)))) C1
  | some (.own (.dct kvs)) => ∃ k, dkOf i = some k ∧ kvs.length < sizeLine ∧ P (env1.set n (.own (.dct (putD kvs k d)))) C1
  | _ => False
theorem dg_putO {n : Nat} {mi : EM D} (hu : X.A.units + 1 < cLine) (ho : PE X o (tVar n)) (hi : DE X RShr i mi)
    (ha : ∀ v, assign (.Subscript o i pos) X.env v = (do
      let ov ← holding [v] (eval o X.env)
      let iv ← holding [v, ov] (eval i X.env)
      standAt pos
      holding [v, ov, iv] (setItem ov iv v)
      release [v, ov, iv] [])) : DG X (.Subscript o i pos) (gPutO n mi) := fun Z => by
  refine ⟨fun pins s σ H v u Q I r ⟨Hs, env, C, d, P, sr, rd, q, k⟩ => (pg_sub ho (hi Z E0 dx0) (PSet.or set_list (set_dict hu)) ha).run pins s σ H v u Q I r ?_⟩
  obtain ⟨⟨c0, e0⟩, q⟩ := q
  obtain ⟨p0, o0, x0, _⟩ := sr.slt.own n c0 e0
  refine ⟨_, x0, Hs, env, C, _, sr, q, fun d2 env2 C2 v2 Hs2 H2 q2 t2 s2 r2 => ?_⟩
  have rd2 := rd.same t2.fr
  split at q2
  · rename_i xs e2
    obtain ⟨kk, j, rfl, hj, p⟩ := q2
    obtain ⟨p1, o1, x1, hb, ⟨vs, rfl, rl⟩, _⟩ := s2.slt.own n _ e2
    rw [x0] at x1
    cases x1
    cases r2
    exact .inl ⟨_, vs, kk, j, rfl, rfl, hb, by rw [← rl.length]; exact hj, k _ _ _ _ _ (s2.wrO e2 x0 (c' := .lst (xs.set j d)) ⟨_, rfl, rl.set j rd2⟩) p⟩
  · rename_i kvs e2
    obtain ⟨kk, e, hl, p⟩ := q2
    obtain ⟨p1, o1, x1, hb, ⟨ws, rfl, rl⟩, _⟩ := s2.slt.own n _ e2
    rw [x0] at x1
    cases x1
    have hv := dk_rep r2 e
    subst hv
    exact .inr ⟨_, _, rfl, DPut.k hb (by rw [← rl.length]; exact hl), k _ _ _ _ _ (s2.wrO e2 x0 (c' := .dct (putD kvs kk d)) ⟨_, rfl, rl.put rd2⟩) p⟩
  · exact q2.elim
/-! ### name = a new source of draws -/
def asPur : Cont → Option Bool
  | .dct [(.inr [100, 105, 103, 105, 116, 115], .int _), (.inr [109, 105, 120, 101, 100], .int j)] => if 0 ≤ j ∧ j < 4294967296 then some true else none
  | .lst [.int _, .int j] => if 0 ≤ j ∧ j < 4294967296 then some false else none
  | _ => none
/-- a new thing becomes a cell -/
theorem SR.mkCell {σ : St} {Hs H : Hp} {env : DL.Env} {C : Cs} {p : Addr} {u : HO} {c : Cell} (r : SR K Z σ Hs H env C) (h : H p = some u) (n1 : Hs p = none) (n2 : C p = none) (z : Z.H p = none) (rc : RepC K Hs c u)
    (no : ∀ (i : Nat) (c : Cont), env[i]? = some (Slot.own c) → σ[i]? ≠ some (some (V.ref p))) : SR K Z σ Hs H env (cput C p c) := by
  refine ⟨⟨r.fit.sub, fun a c' e => ?_⟩, ⟨r.bas.fl, fun a u e c => ?_, r.bas.th⟩, r.slt.len, r.slt.shr, fun i c' e => ?_, r.slt.sep⟩
  · by_cases ha : a = p
    · subst ha
      rw [cput_same] at e
      cases e
      exact ⟨n1, u, h, rc⟩
    · rw [cput_ne ha] at e
      exact r.fit.cel a c' e
  · obtain ⟨k1, k2, k3⟩ := r.bas.kp a u e c
    exact ⟨k1, by rw [cput_ne (ne_of_none e z)]; exact k2, k3⟩
  · obtain ⟨q, o, e1, e2, r1, m1, m2, m3⟩ := r.slt.own i c' e
    have hq : q ≠ p := fun w => no i c' e (by rw [← w]; exact e1)
    exact ⟨q, o, e1, e2, r1, m1, by rw [cput_ne hq]; exact m2, m3⟩
theorem asPur_rep {Hs : Hp} {c : Cont} {u : HO} {b : Bool} (h : asPur c = some b) (r : RepO K Hs c u) : RepC K Hs (.pur b) u := by
  unfold asPur at h
  split at h
  · rename_i i j
    by_cases hj : 0 ≤ j ∧ j < 4294967296
    · rw [if_pos hj] at h
      cases h
      obtain ⟨ws, rfl, r⟩ := r
      cases r with
      | cons h1 r => cases r with
        | cons h2 r => cases r; cases h1; cases h2; exact ⟨i, j, hj.1, hj.2, rfl⟩
    · rw [if_neg hj] at h; cases h
  · rename_i i j
    by_cases hj : 0 ≤ j ∧ j < 4294967296
    · rw [if_pos hj] at h
      cases h
      obtain ⟨ws, rfl, r⟩ := r
      cases r with
      | cons h1 r => cases r with
        | cons h2 r => cases r; cases h1; cases h2; exact ⟨i, j, hj.1, hj.2, rfl⟩
    · rw [if_neg hj] at h; cases h
  · cases h
/-- a new cell at some place where there was none -/
def sSetPur (n : Nat) (m : EM Cont) : SM := fun E dE env C => m E env C fun c env1 C1 => ∃ b, asPur c = some b ∧ ∀ a, C1 a = none → dE.nx (env1.set n (.shr (.cell a))) (cput C1 a (.pur b))
theorem ds_setPur {n : Nat} {te e : Expr} {m : EM Cont} (h : DE X RFr e m) (hp : ∀ {t : TE}, PE X e t → PS X (.Assign [te] e pos) (tAsg t (gName n))) : DS X (.Assign [te] e pos) (sSetPur n m) := fun Z E hE => ⟨fun pins s σ H D I ⟨Hs, env, C, dE, sr, ok, q⟩ =>
  (hp (h Z E hE)).run pins s σ H D I ⟨Hs, env, C, _, sr, q, fun c env1 C1 v Hs1 H1 q1 t1 s1 ⟨p, u, e1, e2, r1, n1, n2, n3, no⟩ => by
    subst e1
    obtain ⟨b, hb, q1⟩ := q1
    have s2 := s1.mkCell e2 n1 n2 n3 (asPur_rep hb r1) no
    exact ok.1 _ _ _ _ _ (s2.setS (.cell p)) (q1 p n2)⟩⟩
end
end L2.DL
/-! DLn: globals, callees, sources of draws. -/
namespace L2.DL
open PySem PySem.Spec PyProof.Rows
section
variable {X : Cx} {e : Expr} {pos : Pos} {x : Str}
theorem d_strc {cs : Txt} {j pos} (h : x.cps.toList = cs) : DE X RShr (.Constant (.str x) j pos) (mC (.str cs)) := by
  subst h
  exact d_str
theorem d_glob {v : V} {d : D} (r : ∀ Hs, Rep X.K Hs d v) (hg : Gl X x) (h : ∃ u, X.mg x = some u ∧ RelV v u) (hd : (x == ("__debug__" : Str)) = false) : DE X RShr (.Name x pos) (mC d) := d_const (C8.pe_gc hg h hd) r
theorem d_type {n : String} (hg : Gl X x) (hm : X.mg x = none) (hv : bootBuiltins x = some (.type n)) (hn : x ≠ "__name__") (hd : (x == ("__debug__" : Str)) = false) : DE X RShr (.Name x pos) (mC (.ty n)) :=
  d_const (pe_bltn (v := .ty n) hg hm hv rfl hn hd) fun _ => .ty n
theorem _root_.L2.Room.u65 {k : Nat} {A : Around} (r : Room k A) : A.units + 65 < cLine := by have := r.un; omega
theorem _root_.L2.Room.u64 {k : Nat} {A : Around} (r : Room k A) : A.units + 64 < cLine := by have := r.un; omega
theorem _root_.L2.Room.u60 {k : Nat} {A : Around} (r : Room k A) : A.units + 60 < cLine := by have := r.un; omega
theorem _root_.L2.Room.u1 {k : Nat} {A : Around} (r : Room k A) : A.units + 1 < cLine := by have := r.un; omega
end
/-- a def that stands as a global, with its promise -/
structure Cle (P : Program) (w : World) (K : PySem.W.Frag) (mg : Str → Option Value) (base : Heap) (k : Nat) (x : Str) (sp : DSp) : Prop where
  ex : ∃ f fd ps, DFn P w K mg base k f fd ps sp ∧ mg x = some (.ref f) ∧ PySem.W.keepIn K (.ref f) = true ∧ Binds K fd ps []
theorem Cle.to {X : Cx} {j k : Nat} {x : Str} {sp : DSp} (c : Cle X.prog X.w X.K X.mg X.base k x sp) (hr : Room j X.A) (h : k ≤ j) : Callee X x sp [] := by
  obtain ⟨f, fd, ps, F, h1, h2, h3⟩ := c.ex
  exact ⟨k, f, fd, ps, [], [], F, hr.mono h, h1, h2, h3, .nil, fun _ => .nil⟩
/-! ### a source of draws is opened -/
def dgT : Txt := [100, 105, 103, 105, 116, 115]
def mxT : Txt := [109, 105, 120, 101, 100]
/-- what the source holds -/
def visP : Bool → Int → Int → Cell
  | true, i, j => .dct [(.inr dgT, .int i), (.inr mxT, .int j)]
  | false, i, j => .lst [.int i, .int j]
theorem cput_cput {C : Cs} {a : Addr} {x y : Cell} : cput (cput C a x) a y = cput C a y := by
  funext b
  unfold cput
  by_cases h : b = a
  · rw [if_pos h, if_pos h]
  · rw [if_neg h, if_neg h, if_neg h]
theorem cput_eta {C : Cs} {a : Addr} {x : Cell} (h : C a = some x) : cput C a x = C := by
  funext b
  unfold cput
  by_cases e : b = a
  · rw [if_pos e, e, h]
  · rw [if_neg e]
section
variable {K : PySem.W.Frag} {Z : Z0} {σ : St} {Hs H : Hp} {env : DL.Env} {C : Cs} {a : Addr} {b : Bool}
theorem purO_vis {u : HO} (h : PurO b u) : ∃ i j, 0 ≤ j ∧ j < 4294967296 ∧ RepC K Hs (visP b i j) u := by
  cases b with
  | true =>
    obtain ⟨i, j, h0, h1, rfl⟩ := h
    exact ⟨i, j, h0, h1, _, rfl, .cons (k := .inr dgT) (.int i) (.cons (k := .inr mxT) (.int j) .nil)⟩
  | false =>
    obtain ⟨i, j, h0, h1, rfl⟩ := h
    exact ⟨i, j, h0, h1, _, rfl, .cons (.int i) (.cons (.int j) .nil)⟩
theorem vis_purO {u : HO} {i j : Int} (h0 : 0 ≤ j) (h1 : j < 4294967296) (h : RepC K Hs (visP b i j) u) : PurO b u := by
  cases b with
  | true =>
    obtain ⟨ws, rfl, r⟩ := h
    cases r with
    | cons h2 r => cases r with
      | cons h3 r => cases r; cases h2; cases h3; exact ⟨i, j, h0, h1, rfl⟩
  | false =>
    obtain ⟨ws, rfl, r⟩ := h
    cases r with
    | cons h2 r => cases r with
      | cons h3 r => cases r; cases h2; cases h3; exact ⟨i, j, h0, h1, rfl⟩
/-- the same heap, another account of one cell -/
theorem Fits.acc {c : Cell} (f : Fits K Hs H C) (hc : (C a).isSome) (h : ∀ u, H a = some u → RepC K Hs c u) : Fits K Hs H (cput C a c) := by
  refine ⟨f.sub, fun x c' e => ?_⟩
  by_cases hx : x = a
  · subst hx
    rw [cput_same] at e
    cases e
    obtain ⟨c0, h0⟩ := Option.isSome_iff_exists.mp hc
    obtain ⟨n, u, hu, _⟩ := f.cel x c0 h0
    exact ⟨n, u, hu, h u hu⟩
  · rw [cput_ne hx] at e
    exact f.cel x c' e
theorem Bas.acc {c : Cell} (b : Bas Z Hs H C) (hc : (C a).isSome) : Bas Z Hs H (cput C a c) := by
  refine ⟨b.fl, fun x u e z => ?_, b.th⟩
  obtain ⟨k1, k2, k3⟩ := b.kp x u e z
  have hx : x ≠ a := fun w => by rw [← w, k2] at hc; cases hc
  exact ⟨k1, by rw [cput_ne hx]; exact k2, k3⟩
theorem SR.acc {c : Cell} (r : SR K Z σ Hs H env C) (hc : (C a).isSome) (h : ∀ u, H a = some u → RepC K Hs c u) : SR K Z σ Hs H env (cput C a c) := by
  refine ⟨r.fit.acc hc h, r.bas.acc hc, r.slt.len, r.slt.shr, fun i c' e => ?_, r.slt.sep⟩
  obtain ⟨p, o, e1, e2, r1, n1, n2, n3⟩ := r.slt.own i c' e
  have hp : p ≠ a := fun w => by rw [← w, n2] at hc; cases hc
  exact ⟨p, o, e1, e2, r1, n1, by rw [cput_ne hp]; exact n2, n3⟩
end
/-- the promise of a draw: below the size, the source stays a source -/
def spDraw (b : Bool) : DSp := fun ds C PR _ => ∃ a n, ds = [.cell a, .int n] ∧ C a = some (.pur b) ∧ 0 < n ∧ n < 2 ^ 62 ∧ ∀ k, 0 ≤ k → k < n → PR (.shr (.int k)) C
section
variable {K : PySem.W.Frag}
theorem dfn_draw {P : Program} {w : World} {mg : Str → Option Value} {base : Heap} {xn qual : Str} {st : Stmt} {f : Addr} {fd : FuncData} {N : List Str} {p1 p2 : Str} {k : Nat} {b : Bool} {m : SM} (F : Fun K xn qual st f fd) (S : FnScope N [p1, p2] (defScope st))
    (hb : ∀ (cdv : Value) (A : Around) (fr : List PySem.Env) (s : Shared) (H : Hp) (E : XK), Gd A → Room k (A.deeper (envOfC qual (defScope st) s.heap.objs.size f cdv)) → DSs (BodyX P w K mg base N qual st f cdv A fr s H E) (defBody st) m)
    (hl : 2 ≤ N.length) (hsp : ∀ (a : Addr) (n i j : Int) (C : Cs), 0 < n → n < 2 ^ 62 → 0 ≤ j → j < 4294967296 → C a = some (visP b i j) →
      m E0 { nx := fun _ _ => False, rt := fun r C' => ∃ k i' j', 0 ≤ k ∧ k < n ∧ 0 ≤ j' ∧ j' < 4294967296 ∧ r = .shr (.int k) ∧ C' = cput C a (visP b i' j') } (slots0 N.length [.cell a, .int n]) C) :
    DFn P w K mg base (k + 1) f fd [p1, p2] (spDraw b) := by
  refine fnG_of F S (fun vs H Q E h => ?_) fun cdv A fr s H vs Q E gd hr h => ?_
  · obtain ⟨Hs, C, ds, PR, PX, f1, r, ⟨a, n, rfl, _⟩, _⟩ := h
    rw [← r.length]
    rfl
  · obtain ⟨Hs, C, ds, PR, PX, f1, r, ⟨a, n, rfl, hc, n0, n1, kk⟩, k1, k2⟩ := h
    obtain ⟨n2, u, hu, rc⟩ := f1.cel a _ hc
    obtain ⟨i, j, j0, j1, rv⟩ := purO_vis (K := K) (Hs := Hs) rc
    have hs : (C a).isSome := by rw [hc]; rfl
    have sr := (start_rep f1 r (by rw [← r.length]; exact hl)).acc hs fun u' e => by rw [hu] at e; cases e; exact rv
    have hE : DX (BodyX P w K mg base N qual st f cdv A fr s H E) (zOf Hs H C) E0 := dx0
    refine ⟨_, hb cdv A fr s H E gd hr (zOf Hs H C) _ hE, Hs, slots0 N.length [.cell a, .int n], cput C a (visP b i j), _, sr, ⟨fun _ _ _ _ _ _ (z : False) => z.elim, fun rt v Hs' H' C' f' b' rr p => ?_, fun _ _ _ _ _ _ z => z, fun _ _ _ _ _ _ z => z⟩, hsp a n i j _ n0 n1 j0 j1 cput_same⟩
    obtain ⟨q, i', j', q0, q1, j0', j1', rfl, rfl⟩ := p
    rw [cput_cput] at f' b' rr
    have hs' : (cput C a (visP b i' j') a).isSome := by rw [cput_same]; rfl
    obtain ⟨n3, u3, hu3, rc3⟩ := f'.cel a _ cput_same
    have f2 := f'.acc (c := .pur b) hs' fun u' e => by rw [hu3] at e; cases e; exact vis_purO j0' j1' rc3
    have b2 := b'.acc (c := .pur b) hs'
    rw [cput_cput, cput_eta hc] at f2 b2
    exact k1 _ C v Hs' H' (kk q q0 q1) f2 b2 rr
end
end L2.DL
/-! DLp: how meanings are worked out, forward. -/
namespace L2.DL
open PySem PySem.Spec PyProof.Rows
section
variable {E : EX} {env : DL.Env} {C : Cs} {d e x : D} {c : Cont} {i j : Int} {n k : Nat} {s t : Txt} {xs ys ds : List D} {kvs : List (DK × D)} {a : Addr}
variable {Q : D → DL.Env → Cs → Prop} {QB : Bool → DL.Env → Cs → Prop} {QL : List D → DL.Env → Cs → Prop} {QC : Cont → DL.Env → Cs → Prop} {P : D → Prop} {PC : Cont → Prop} {ma mb mc : EM D} {ms : EM (List D)} {mt mt' : EM Bool}
theorem i_var (h : env[n]? = some (.shr d)) (q : Q d env C) : mVar n E env C Q := by unfold mVar; rw [h]; exact q
theorem i_varO (h : env[n]? = some (.own c)) (q : Q c.d (env.set n (.shr c.d)) C) : mVar n E env C Q := by unfold mVar; rw [h]; exact q
theorem i_peek (h : env[n]? = some (.shr d)) (q : Q d env C) : mPeek n E env C Q := by unfold mPeek; rw [h]; exact q
theorem i_peekO (h : env[n]? = some (.own c)) (q : Q c.d env C) : mPeek n E env C Q := by unfold mPeek; rw [h]; exact q
theorem i_c {α : Type} {y : α} {R : α → DL.Env → Cs → Prop} (q : R y env C) : mC y E env C R := q
theorem i_op {α : Type} {R : α → DL.Env → Cs → Prop} {g : D → D → (α → Prop) → Prop} (q : ma E env C fun d env1 C1 => mb E env1 C1 fun e env2 C2 => g (dr C2 d) (dr C2 e) fun x => R x env2 C2) : mOp g ma mb E env C R := q
theorem i_un {g : D → (D → Prop) → Prop} (q : ma E env C fun d env1 C1 => g (dr C1 d) fun x => Q x env1 C1) : mUn g ma E env C Q := q
theorem i_tst (q : ma E env C fun d env1 C1 => ∃ k, d = .bl k ∧ QB k env1 C1) : mTst ma E env C QB := q
theorem i_isb {b : Bool} {R : Bool → Prop} (q : R b) : ∃ k, D.bl b = .bl k ∧ R k := ⟨b, rfl, q⟩
theorem i_chain {g g' : D → D → (D → Prop) → Prop} (q : ma E env C fun d env1 C1 => mb E env1 C1 fun e env2 C2 => g (dr C2 d) (dr C2 e) fun x => ∃ k, x = .bl k ∧
  (if k = true then mc E env2 C2 fun f env3 C3 => g' (dr C3 e) (dr C3 f) fun y => Q y env3 C3 else Q (.bl false) env2 C2)) : mChain g g' ma mb mc E env C Q := q
theorem i_andT (q : mt E env C fun k env1 C1 => if k = true then mt' E env1 C1 QB else QB false env1 C1) : mAndT mt mt' E env C QB := q
theorem i_orT (q : mt E env C fun k env1 C1 => if k = true then QB true env1 C1 else mt' E env1 C1 QB) : mOrT mt mt' E env C QB := q
theorem i_notT (q : mt E env C fun k env1 C1 => QB (!k) env1 C1) : mNotT mt E env C QB := q
theorem i_andV (q : ma E env C fun x env1 C1 => ∃ k, x = .bl k ∧ if k = true then mb E env1 C1 Q else Q (.bl false) env1 C1) : mAndV ma mb E env C Q := q
theorem i_orV (q : ma E env C fun x env1 C1 => ∃ k, x = .bl k ∧ if k = true then Q (.bl true) env1 C1 else mb E env1 C1 Q) : mOrV ma mb E env C Q := q
theorem i_notV (q : ma E env C fun x env1 C1 => ∃ k, x = .bl k ∧ Q (.bl (!k)) env1 C1) : mNotV ma E env C Q := q
theorem i_ifE {α : Type} {R : α → DL.Env → Cs → Prop} {m m' : EM α} (q : mt E env C fun k env1 C1 => if k = true then m E env1 C1 R else m' E env1 C1 R) : mIf mt m m' E env C R := q
def Tru (d : D) (R : Bool → Prop) : Prop := match truD d with
  | some k => R k
  | none => False
theorem i_tru (q : ma E env C fun d env1 C1 => Tru (dr C1 d) fun k => QB k env1 C1) : mTru ma E env C QB := q
theorem t_bl {b : Bool} {R : Bool → Prop} (q : R b) : Tru (dr C (.bl b)) R := q
theorem t_int {R : Bool → Prop} (q : R (i != 0)) : Tru (dr C (.int i)) R := q
theorem t_lst {R : Bool → Prop} (q : R (!xs.isEmpty)) : Tru (dr C (.lst xs)) R := q
theorem t_tup {R : Bool → Prop} (q : R (!xs.isEmpty)) : Tru (dr C (.tup xs)) R := q
theorem t_non {R : Bool → Prop} (q : R false) : Tru (dr C .non) R := q
theorem i_map {α β : Type} {f : α → β} {m : EM α} {R : β → DL.Env → Cs → Prop} (q : m E env C fun y env1 C1 => R (f y) env1 C1) : mMap f m E env C R := q
theorem i_nil (q : QL [] env C) : mNil E env C QL := q
theorem i_cons (q : ma E env C fun d env1 C1 => ms E env1 C1 fun ds env2 C2 => QL (d :: ds) env2 C2) : mCons ma ms E env C QL := q
theorem i_lst (q : ms E env C fun ds env1 C1 => ds.length ≤ sizeLine ∧ QC (.lst ds) env1 C1) : mLst ms E env C QC := q
theorem i_tup (q : ms E env C fun ds env1 C1 => ds.length ≤ sizeLine ∧ Q (.tup ds) env1 C1) : mTup ms E env C Q := q
theorem i_callB {α : Type} {R : α → DL.Env → Cs → Prop} {g : List D → (α → Prop) → Prop} (q : ms E env C fun ds env1 C1 => g (ds.map (dr C1)) fun x => R x env1 C1) : mCallB g ms E env C R := q
theorem i_call {sp : DSp} {dfl : List D} (q : ms E env C fun ds env1 C1 => sp (ds ++ dfl) C1 (fun r C2 => Q r.tree env1 C2) fun x C2 => E x env1 C2) : mCall sp dfl ms E env C Q := q
theorem i_tx1 {g : Txt → D → (D → Prop) → Prop} (q : ma E env C fun d env1 C1 => ∃ s, d = .str s ∧ mb E env1 C1 fun e env2 C2 => g s (dr C2 e) fun x => Q x env2 C2) : mTx1 g ma mb E env C Q := q
theorem i_ist {R : Txt → Prop} (q : R s) : ∃ s', D.str s = .str s' ∧ R s' := ⟨s, rfl, q⟩
theorem i_ite {k : Bool} {A B : Prop} (ht : k = true → A) (hf : k = false → B) : if k = true then A else B := by
  cases k with
  | true => exact ht rfl
  | false => exact hf rfl
theorem l_size {P : Prop} (h : xs.length ≤ 16777216) (q : P) : xs.length ≤ sizeLine ∧ P := ⟨by rw [sizeLine_eq]; exact h, q⟩
theorem i_itT {A B : Prop} (q : A) : if true = true then A else B := q
theorem i_itNT {A B : Prop} (q : B) : if (!true) = true then A else B := q
theorem i_itNF {A B : Prop} (q : A) : if (!false) = true then A else B := q
theorem i_itF {A B : Prop} (q : B) : if false = true then A else B := q
/-! operators -/
theorem g_addI (q : P (.int (i + j))) : gAdd (dr C (.int i)) (dr C (.int j)) P := q
theorem g_addL (h : xs.length + ys.length ≤ sizeLine) (q : P (.lst (xs ++ ys))) : gAdd (dr C (.lst xs)) (dr C (.lst ys)) P := ⟨h, q⟩
theorem g_I {K : Int → Int → Prop} {f : Int → Int → Int} (h : K i j) (q : P (.int (f i j))) : gI K f (dr C (.int i)) (dr C (.int j)) P := ⟨h, q⟩
theorem g_I0 {f : Int → Int → Int} (q : P (.int (f i j))) : gI0 f (dr C (.int i)) (dr C (.int j)) P := q
theorem g_mulI (h : MulOk i j) (q : P (.int (i * j))) : gMul (dr C (.int i)) (dr C (.int j)) P := ⟨h, q⟩
theorem g_mulS (h : -(2 ^ 63) ≤ i ∧ i < 2 ^ 63 ∧ s.length * i.toNat ≤ sizeLine) (q : P (.str (mulT s i))) : gMul (dr C (.str s)) (dr C (.int i)) P := ⟨h, q⟩
theorem g_neg (q : P (.int (-i))) : gNeg (dr C (.int i)) P := q
theorem g_ordI {fi : Int → Int → Bool} {fs : Txt → Txt → Bool} (q : P (.bl (fi i j))) : gOrd fi fs (dr C (.int i)) (dr C (.int j)) P := q
theorem g_ordS {fi : Int → Int → Bool} {fs : Txt → Txt → Bool} (q : P (.bl (fs s t))) : gOrd fi fs (dr C (.str s)) (dr C (.str t)) P := q
theorem g_eqD (h : okD d = true) (h' : okD e = true) (hd : dr C d = d) (he : dr C e = e) (q : P (.bl (eqv d e))) : gEq false (dr C d) (dr C e) P := by rw [hd, he]; exact ⟨.inr ⟨h, h'⟩, q⟩
theorem g_neD (h : okD d = true) (h' : okD e = true) (hd : dr C d = d) (he : dr C e = e) (q : P (.bl (!eqv d e))) : gEq true (dr C d) (dr C e) P := by rw [hd, he]; exact ⟨.inr ⟨h, h'⟩, q⟩
theorem eqv_int : eqv (.int i) (.int j) = decide (i = j) := by
  unfold eqv
  simp only [toP, PyData.eqv]
  by_cases h : i = j
  · subst h; simp
  · rw [decide_eq_false h]; simpa using h
theorem eqv_str : eqv (.str s) (.str t) = decide (s = t) := by
  unfold eqv toP
  simp only [toP, PyData.eqv]
  by_cases h : s = t
  · subst h; simp
  · rw [decide_eq_false h]
    simp only [beq_eq_false_iff_ne, ne_eq]
    exact fun z => h (sV_inj z)
theorem g_eqI (q : P (.bl (decide (i = j)))) : gEq false (dr C (.int i)) (dr C (.int j)) P := ⟨.inl rfl, by rw [← eqv_int] at q; exact q⟩
theorem g_neI (q : P (.bl (!decide (i = j)))) : gEq true (dr C (.int i)) (dr C (.int j)) P := ⟨.inl rfl, by rw [← eqv_int] at q; exact q⟩
theorem g_eqS (q : P (.bl (decide (s = t)))) : gEq false (dr C (.str s)) (dr C (.str t)) P := ⟨.inl rfl, by rw [← eqv_str] at q; exact q⟩
theorem g_neS (q : P (.bl (!decide (s = t)))) : gEq true (dr C (.str s)) (dr C (.str t)) P := ⟨.inl rfl, by rw [← eqv_str] at q; exact q⟩
theorem g_inS {c : Nat} (q : P (.bl (decide (c ∈ t)))) : gIn false (dr C (.str [c])) (dr C (.str t)) P := ⟨c, rfl, q⟩
theorem g_ixL (h : atI xs i = some x) (q : P x) : gIx (dr C (.lst xs)) (dr C (.int i)) P := ⟨i, x, rfl, h, q⟩
theorem g_ixT (h : atI xs i = some x) (q : P x) : gIx (dr C (.tup xs)) (dr C (.int i)) P := ⟨i, x, rfl, h, q⟩
theorem g_ixS {c : Nat} (hl : s.length ≤ sizeLine) (h : atI s i = some c) (q : P (.str [c])) : gIx (dr C (.str s)) (dr C (.int i)) P := ⟨i, c, rfl, hl, h, q⟩
theorem g_ixR {ns : List Int} (h : atI ns i = some j) (q : P (.int j)) : gIx (dr C (.scr ns)) (dr C (.int i)) P := ⟨i, j, rfl, h, q⟩
theorem g_ixCD {k : DK} (hc : C a = some (.dct kvs)) (hk : dkOf e = some k) (he : dr C e = e) (h : look k kvs = some x) (q : P x) : gIx (dr C (.cell a)) (dr C e) P := by
  rw [he, dr_cell, hc]; exact ⟨k, x, hk, h, q⟩
theorem g_lenS (h : s.length ≤ sizeLine) (q : P (.int s.length)) : gLen ([D.str s].map (dr C)) P := ⟨h, q⟩
theorem g_lenL (q : P (.int xs.length)) : gLen ([D.lst xs].map (dr C)) P := q
theorem g_lenT (q : P (.int xs.length)) : gLen ([D.tup xs].map (dr C)) P := q
theorem g_lenR {ns : List Int} (q : P (.int ns.length)) : gLen ([D.scr ns].map (dr C)) P := q
theorem g_isi {nm ty : String} {b : Bool} (hd : dr C d = d) (h : tyD d = some ty) (hk : kitB ty nm = some b) (q : P (.bl b)) : gIsi ([d, .ty nm].map (dr C)) P := by
  show gIsi [dr C d, dr C (.ty nm)] P
  rw [hd]
  exact ⟨ty, b, h, hk, q⟩
theorem g_repr (hd : dr C d = d) (h : shOk d) (q : P (.str (shT d))) : gRepr ([d].map (dr C)) P := by
  show gRepr [dr C d] P
  rw [hd]
  exact ⟨h, q⟩
theorem g_all {bs : List Bool} {f : List Bool → Bool} (h : blsOf xs = some bs) (q : P (.bl (f bs))) : gBls f ([D.lst xs].map (dr C)) P := ⟨bs, h, q⟩
theorem g_2I {f : Int → Int → Int} (q : P (.int (f i j))) : g2I f ([D.int i, D.int j].map (dr C)) P := q
theorem g_listL (q : PC (.lst xs)) : gList ([D.lst xs].map (dr C)) PC := q
theorem g_listT (q : PC (.lst xs)) : gList ([D.tup xs].map (dr C)) PC := q
theorem g_tupL (q : P (.tup xs)) : gTuple ([D.lst xs].map (dr C)) P := q
theorem g_tupT (q : P (.tup xs)) : gTuple ([D.tup xs].map (dr C)) P := q
theorem g_joinL {ps : List Txt} (h : txtsOf xs = some ps) (hl : (ps.map (·.length)).sum + ps.length * s.length ≤ 16777216) (q : P (.str (joinT s ps))) : gJoin s (dr C (.lst xs)) P := ⟨ps, h, hl, q⟩
theorem g_cutL {lo hi : Option Int} (q : P (.lst (cutL xs lo hi))) : gCut (dr C (.lst xs)) lo hi P := q
theorem g_cutT {lo hi : Option Int} (q : P (.tup (cutL xs lo hi))) : gCut (dr C (.tup xs)) lo hi P := q
theorem g_cutS {lo hi : Option Int} (h : s.length ≤ sizeLine) (q : P (.str (cutL s lo hi))) : gCut (dr C (.str s)) lo hi P := ⟨h, q⟩
theorem i_cut {ml mh : EM (Option Int)} (q : ma E env C fun d env1 C1 => ml E env1 C1 fun lo env2 C2 => mh E env2 C2 fun hi env3 C3 => gCut (dr C3 d) lo hi fun x => Q x env3 C3) : mCut ma ml mh E env C Q := q
theorem i_part {R : Option Int → DL.Env → Cs → Prop} (q : ma E env C fun d env1 C1 => ∃ i, d = .int i ∧ R (some i) env1 C1) : mPart ma E env C R := q
theorem i_isi {R : Int → Prop} (q : R i) : ∃ i', D.int i = .int i' ∧ R i' := ⟨i, rfl, q⟩
theorem i_nop {R : Option Int → DL.Env → Cs → Prop} (q : R none env C) : mNoP E env C R := q
def Rng1 (ds : List D) (R : List D → Prop) : Prop := match ds with
  | [.int j] => (-(2 ^ 62) ≤ j ∧ j < 2 ^ 62) ∧ R (intsFrom 0 j.toNat)
  | _ => False
theorem i_rng1 (q : ms E env C fun ds env1 C1 => Rng1 ds fun l => QL l env1 C1) : mRng1 ms E env C QL := by
  unfold mRng1
  exact q
theorem r_rng1 {R : List D → Prop} (h : -(2 ^ 62) ≤ j ∧ j < 2 ^ 62) (q : R (intsFrom 0 j.toNat)) : Rng1 [.int j] R := ⟨h, q⟩
def Rng2 (ds : List D) (R : List D → Prop) : Prop := match ds with
  | [.int i, .int j] => (-(2 ^ 62) ≤ i ∧ i < 2 ^ 62 ∧ -(2 ^ 62) ≤ j ∧ j < 2 ^ 62) ∧ R (intsFrom i (j - i).toNat)
  | _ => False
theorem i_rng2 (q : ms E env C fun ds env1 C1 => Rng2 ds fun l => QL l env1 C1) : mRng2 ms E env C QL := by
  unfold mRng2
  exact q
theorem r_rng2 {R : List D → Prop} (h : -(2 ^ 62) ≤ i ∧ i < 2 ^ 62 ∧ -(2 ^ 62) ≤ j ∧ j < 2 ^ 62) (q : R (intsFrom i (j - i).toNat)) : Rng2 [.int i, .int j] R := ⟨h, q⟩
def IterO (d : D) (R : List D → Prop) : Prop := match iterD d with
  | some ds => R ds
  | none => False
theorem i_iter (q : ma E env C fun d env1 C1 => IterO d fun ds => QL ds env1 C1) : mIter ma E env C QL := q
theorem o_lst {R : List D → Prop} (q : R xs) : IterO (.lst xs) R := q
theorem o_tup {R : List D → Prop} (q : R xs) : IterO (.tup xs) R := q
theorem o_str {R : List D → Prop} (q : R (s.map fun c => .str [c])) : IterO (.str s) R := q
theorem o_scr {ns : List Int} {R : List D → Prop} (q : R (ns.map .int)) : IterO (.scr ns) R := q
theorem i_comp {vs : List Nat} {g : GM} {mi : EM (List D)} (q : mi E env C fun ds env1 C1 => noOwn env1 vs = true ∧ compL vs g mt ma (fun c C2 => QC c env1 C2) ds [] (wipeE env1 vs) C1) : mComp vs g mi mt ma E env C QC := q
end
/-! ### statements -/
section
variable {E : EX} {env : DL.Env} {C : Cs} {d : D} {n : Nat} {m m' : SM} {ma : EM D} {mf : EM Cont} {mt : EM Bool} {nx bk ct : DL.Env → Cs → Prop} {rt : Ret → Cs → Prop}
theorem j_next (q : nx env C) : sNext E ⟨nx, rt, bk, ct⟩ env C := q
theorem j_seq (q : m E ⟨fun env1 C1 => m' E ⟨nx, rt, bk, ct⟩ env1 C1, rt, bk, ct⟩ env C) : sSeq m m' E ⟨nx, rt, bk, ct⟩ env C := q
theorem j_set (q : ma E env C fun d env1 C1 => nx (env1.set n (.shr d)) C1) : sSet n ma E ⟨nx, rt, bk, ct⟩ env C := q
theorem j_setO (q : mf E env C fun d env1 C1 => nx (env1.set n (.own d)) C1) : sSetO n mf E ⟨nx, rt, bk, ct⟩ env C := q
theorem j_ret (q : ma E env C fun d _ C1 => rt (.shr d) C1) : sRet ma E ⟨nx, rt, bk, ct⟩ env C := q
theorem j_retF (q : mf E env C fun c _ C1 => rt (.frs c) C1) : sRetF mf E ⟨nx, rt, bk, ct⟩ env C := q
theorem j_retO (h : env[n]? = some (.shr d)) (q : rt (.shr d) C) : sRetO n E ⟨nx, rt, bk, ct⟩ env C := by unfold sRetO; rw [h]; exact q
theorem j_retOO {c : Cont} (h : env[n]? = some (.own c)) (q : rt (.frs c) C) : sRetO n E ⟨nx, rt, bk, ct⟩ env C := by unfold sRetO; rw [h]; exact q
theorem j_if (q : mt E env C fun k env1 C1 => if k = true then m E ⟨nx, rt, bk, ct⟩ env1 C1 else m' E ⟨nx, rt, bk, ct⟩ env1 C1) : sIf mt m m' E ⟨nx, rt, bk, ct⟩ env C := q
theorem j_drop (q : ma E env C fun _ env1 C1 => nx env1 C1) : sDrop ma E ⟨nx, rt, bk, ct⟩ env C := q
theorem j_asg {g : GM} (q : ma E env C fun d env1 C1 => g d nx env1 C1) : sAsg g ma E ⟨nx, rt, bk, ct⟩ env C := q
def Par2 (ds : List D) (R : D → D → Prop) : Prop := match ds with
  | [d, e] => R d e
  | _ => False
theorem p_par2 {e : D} {R : D → D → Prop} (q : R d e) : Par2 [d, e] R := q
theorem j_par {i j : Nat} {ms : EM (List D)} (q : ms E env C fun ds env1 C1 => Par2 ds fun d e => nx ((env1.set i (.shr d)).set j (.shr e)) C1) : sPar i j ms E ⟨nx, rt, bk, ct⟩ env C := q
theorem j_setPur (q : mf E env C fun c env1 C1 => ∃ b, asPur c = some b ∧ ∀ a, C1 a = none → nx (env1.set n (.shr (.cell a))) (cput C1 a (.pur b))) : sSetPur n mf E ⟨nx, rt, bk, ct⟩ env C := q
theorem j_for {g : GM} {mi : EM (List D)} (q : mi E env C fun ds env1 C1 => forL g m E ⟨nx, rt, bk, ct⟩ ds env1 C1) : sFor g mi m E ⟨nx, rt, bk, ct⟩ env C := q
theorem i_callF {sp : DSp} {dfl : List D} {ms : EM (List D)} {QC : Cont → DL.Env → Cs → Prop} (q : ms E env C fun ds env1 C1 => sp (ds ++ dfl) C1 (fun r C2 => match r with
  | .frs c => QC c env1 C2
  | .shr _ => False) fun x C2 => E x env1 C2) : mCallF sp dfl ms E env C QC := q
/-- a loop by an invariant -/
theorem forL_inv {g : GM} {ds : List D} (I : Nat → DL.Env → Cs → Prop) (h0 : I 0 env C)
    (step : ∀ (k : Nat) (d : D) (env : DL.Env) (C : Cs) (nx' : DL.Env → Cs → Prop), ds[k]? = some d → I k env C → (∀ env C, I (k + 1) env C → nx' env C) → g d (fun env1 C1 => m E ⟨nx', rt, nx, nx'⟩ env1 C1) env C)
    (fin : ∀ env C, I ds.length env C → nx env C) : forL g m E ⟨nx, rt, bk, ct⟩ ds env C := by
  suffices h : ∀ (es : List D) (k : Nat) (env : DL.Env) (C : Cs), ds.drop k = es → k ≤ ds.length → I k env C → forL g m E ⟨nx, rt, bk, ct⟩ es env C from h ds 0 env C rfl (Nat.zero_le _) h0
  intro es
  induction es with
  | nil =>
    intro k env C hk hl hI
    have : k = ds.length := by
      have := congrArg List.length hk
      simp at this
      omega
    subst this
    exact fin env C hI
  | cons d es ih =>
    intro k env C hk hl hI
    have hd : ds[k]? = some d := by
      have := congrArg (fun l => l[0]?) hk
      simpa using this
    have hk' : k < ds.length := (List.getElem?_eq_some_iff.mp hd).1
    have hk2 : ds.drop (k + 1) = es := by
      have := congrArg List.tail hk
      simpa using this
    exact step k d env C (forL g m E ⟨nx, rt, bk, ct⟩ es) hd hI fun env C hI' => ih (k + 1) env C hk2 hk' hI'
/-- a comprehension that draws nothing -/
theorem comp_pure {me : EM D} {i : Nat} {keep : D → Bool} {f : D → D} {Q : Cont → Cs → Prop} : ∀ (ds acc : List D), env[i]? = some .non → acc.length + ds.length ≤ sizeLine →
    (∀ d ∈ ds, ∀ Q' : Bool → DL.Env → Cs → Prop, Q' (keep d) (env.set i (.shr d)) C → mt E0 (env.set i (.shr d)) C Q') →
    (∀ d ∈ ds, keep d = true → ∀ Q' : D → DL.Env → Cs → Prop, Q' (f d) (env.set i (.shr d)) C → me E0 (env.set i (.shr d)) C Q') → Q (.lst (acc ++ (ds.filter keep).map f)) C → compL [i] (gN i) mt me Q ds acc env C
  | [], acc, _, _, _, _, q => by
    simp only [List.filter_nil, List.map_nil, List.append_nil] at q
    exact q
  | d :: ds, acc, hi, hl, hc, he, q => by
    rw [List.length_cons] at hl
    refine ⟨?_, hc d List.mem_cons_self _ ⟨rfl, ?_⟩⟩
    · show (env.set i (.shr d)).set i .non = env
      rw [List.set_set]
      exact List.ext_getElem? fun j => by
        by_cases e : i = j
        · subst e
          rw [List.getElem?_set_self (List.getElem?_eq_some_iff.mp hi).1, hi]
        · rw [List.getElem?_set_ne e]
    · refine i_ite (fun hk => ?_) fun hk => ?_
      · refine he d List.mem_cons_self hk _ ⟨rfl, by omega, comp_pure ds (acc ++ [f d]) hi (by simp; omega) (fun x hx => hc x (List.mem_cons_of_mem _ hx)) (fun x hx => he x (List.mem_cons_of_mem _ hx)) ?_⟩
        rw [List.filter_cons, if_pos hk, List.map_cons] at q
        simpa using q
      · refine comp_pure ds acc hi (by omega) (fun x hx => hc x (List.mem_cons_of_mem _ hx)) (fun x hx => he x (List.mem_cons_of_mem _ hx)) ?_
        rw [List.filter_cons, if_neg (by rw [hk]; exact Bool.false_ne_true)] at q
        exact q
/-- a comprehension over draws -/
theorem comp_all {me : EM D} {i : Nat} {R : D → Prop} {Q : Cont → Cs → Prop} : ∀ (ds acc : List D), env[i]? = some .non → acc.length + ds.length ≤ sizeLine →
    (∀ d ∈ ds, ∀ Q' : D → DL.Env → Cs → Prop, (∀ y, R y → Q' y (env.set i (.shr d)) C) → me E0 (env.set i (.shr d)) C Q') →
    (∀ ys : List D, ys.length = ds.length → (∀ y ∈ ys, R y) → Q (.lst (acc ++ ys)) C) → compL [i] (gN i) (mC true) me Q ds acc env C
  | [], acc, _, _, _, q => by
    have := q [] rfl (fun _ h => by cases h)
    rw [List.append_nil] at this
    exact this
  | d :: ds, acc, hi, hl, he, q => by
    rw [List.length_cons] at hl
    refine ⟨?_, rfl, i_itT ?_⟩
    · show (env.set i (.shr d)).set i .non = env
      rw [List.set_set]
      exact List.ext_getElem? fun j => by
        by_cases e : i = j
        · subst e
          rw [List.getElem?_set_self (List.getElem?_eq_some_iff.mp hi).1, hi]
        · rw [List.getElem?_set_ne e]
    · refine he d List.mem_cons_self _ fun y hy => ⟨rfl, by omega, comp_all ds (acc ++ [y]) hi (by simp; omega) (fun x hx => he x (List.mem_cons_of_mem _ hx)) fun ys hl' hy' => ?_⟩
      have := q (y :: ys) (by simp [hl']) fun z hz => by
        rcases List.mem_cons.mp hz with rfl | hz
        · exact hy
        · exact hy' z hz
      simpa using this
end
/-- what a store into a cell wants -/
def PutC (o i d : D) (P : DL.Env → Cs → Prop) (env : DL.Env) (C : Cs) : Prop := ∃ a, o = .cell a ∧ match C a with
  | some (.lst xs) => ∃ k j, i = .int k ∧ ixN xs.length k = some j ∧ P env (cput C a (.lst (xs.set j d)))
  | some (.dct kvs) => ∃ k, dkOf i = some k ∧ kvs.length < sizeLine ∧ P env (cput C a (.dct (putD kvs k d)))
  | _ => False
section
variable {env : DL.Env} {C : Cs} {d i : D} {a : Addr} {P : DL.Env → Cs → Prop}
theorem j_gN {n : Nat} (q : P (env.set n (.shr d)) C) : gN n d P env C := q
theorem j_putC {mo mi : EM D} (q : mo E0 env C fun o env1 C1 => mi E0 env1 C1 fun i env2 C2 => PutC o i d P env2 C2) : gPutC mo mi d P env C := q
theorem g_putCD {kvs : List (DK × D)} {k : DK} (hc : C a = some (.dct kvs)) (hk : dkOf i = some k) (hl : kvs.length < sizeLine) (q : P env (cput C a (.dct (putD kvs k d)))) : PutC (.cell a) i d P env C :=
  ⟨a, rfl, by rw [hc]; exact ⟨k, hk, hl, q⟩⟩
end
/-- the item at a place -/
theorem atI_lt {α : Type} {xs : List α} {i : Nat} (h : i < xs.length) : atI xs (i : Int) = some xs[i] := by
  unfold atI
  have e : ixN xs.length (i : Int) = some i := by
    unfold ixN
    simp [h]
  rw [e]
  exact List.getElem?_eq_getElem h
theorem atI_int {α : Type} {xs : List α} {i : Int} (h0 : 0 ≤ i) (h1 : i < xs.length) : ∃ x, x ∈ xs ∧ atI xs i = some x := by
  obtain ⟨n, rfl⟩ := Int.eq_ofNat_of_zero_le h0
  have h : n < xs.length := by omega
  exact ⟨xs[n], List.getElem_mem h, atI_lt h⟩
theorem cutL_take {α : Type} (xs : List α) (n : Nat) : cutL xs none (some (n : Int)) = xs.take n := by
  unfold cutL
  rw [HT.sIx_none, HT.sIx_nat, List.drop_zero, Nat.sub_zero]
  rcases Nat.le_total n xs.length with h | h
  · rw [Nat.min_eq_left h]
  · rw [Nat.min_eq_right h, List.take_of_length_le (Nat.le_refl _), List.take_of_length_le h]
/-! ### sizes of ints -/
theorem bits_lt {i : Int} {n : Nat} (h : i.natAbs < 2 ^ n) : Builtin.Int.intBits i ≤ n := by
  unfold Builtin.Int.intBits
  by_cases e : i = 0
  · subst e; simp
  · have : ¬ (i == 0) = true := by simpa using e
    rw [if_neg this]
    exact (Nat.log2_lt (by omega)).mpr h
theorem lt_bits {i : Int} {n : Nat} (h : Builtin.Int.intBits i ≤ n) : i.natAbs < 2 ^ n := by
  unfold Builtin.Int.intBits at h
  by_cases e : i = 0
  · subst e; exact Nat.pos_of_ne_zero (by simp)
  · have : ¬ (i == 0) = true := by simpa using e
    rw [if_neg this] at h
    exact (Nat.log2_lt (by omega)).mp (by omega)
theorem mulOk_bits {i j : Int} {n m : Nat} (h : i.natAbs < 2 ^ n) (h' : j.natAbs < 2 ^ m) (s : n + m ≤ 134217728) : MulOk i j := by
  have h1 := bits_lt h
  have h2 := bits_lt h'
  show (Builtin.Int.intBits i : Int) + (Builtin.Int.intBits j : Int) ≤ 134217728
  omega
theorem powOk_bits {i : Int} {k n : Nat} (h : i.natAbs < 2 ^ n) (s : n * k ≤ 134217728) : PowOk i (k : Nat) := by
  have h1 := bits_lt h
  refine ⟨by omega, ?_⟩
  have h2 : Builtin.Int.intBits i * k ≤ n * k := Nat.mul_le_mul_right k h1
  have h3 : ((Builtin.Int.intBits i * k : Nat) : Int) ≤ 134217728 := by omega
  rw [Int.natCast_mul] at h3
  exact h3
theorem divOk_of {i n : Int} (h : 0 < n) (h' : n < 2 ^ 62) : DivOk i n := ⟨h, by
  have : n.natAbs < 2 ^ 62 := by omega
  have := (Nat.log2_lt (n := n.natAbs) (k := 62) (by omega)).mpr this
  omega⟩
/-- ints of the machine's size -/
theorem mulOk_small {i j : Int} (h : i.natAbs < 2 ^ 64) (h' : j.natAbs < 2 ^ 64) : MulOk i j := mulOk_bits h h' (by decide)
theorem powOk_small {i : Int} {k : Nat} (h : i.natAbs < 2 ^ 64) (hk : k ≤ 1000) : PowOk i (k : Nat) := powOk_bits h (by omega)
theorem bits_sum {i j : Int} {n : Nat} (h : i.natAbs < 2 ^ n) (h' : j.natAbs < 2 ^ n) : (i + j).natAbs < 2 ^ (n + 1) := by
  have : (i + j).natAbs ≤ i.natAbs + j.natAbs := Int.natAbs_add_le i j
  rw [Nat.pow_succ]
  omega
theorem bits_prod {i j : Int} {n m : Nat} (h : i.natAbs < 2 ^ n) (h' : j.natAbs < 2 ^ m) : (i * j).natAbs < 2 ^ (n + m) := by
  rw [Int.natAbs_mul, Nat.pow_add]
  exact Nat.mul_lt_mul'' h h'
end L2.DL
/-! DLq: plain facts on trees: what may be compared, what may be shown. -/
namespace L2.DL
open PySem PySem.Spec PyProof.Rows
/-- a flat tree that may be compared as data -/
def fl0 (d : D) : Bool := flD d && PyData.canLay0 (toP d)
/-! ### shown -/
end L2.DL
/-! DLw: from a law's promise over trees to the linked statement. -/
namespace L2.DL
open PySem PySem.Spec PyProof.Rows
theorem callerA_gd : Gd callerA := rfl
/-- a law's promise, at the script alone -/
def LawSp (sp : DSp) (ns : List Int) : Prop := sp [.scr ns] (fun _ => none) (fun r _ => r = .shr (.bl true)) fun _ _ => False
section
variable {P : Program} {w : World} {K : PySem.W.Frag} {mg mb : Str → Option Value} {k : Nat} {fa a : Addr} {fd : FuncData} {x : Str} {sp : DSp} {t : Shared} {vs : List Value} {ns : List Int}
theorem lift_law {H : Hp} (h : LawSp sp ns) (hq : SqL K H a (ns.map V.int)) : lift K sp [.ref a] H (fun v _ => v = .bl true) fun _ _ _ => False :=
  ⟨H, fun _ => none, [.scr ns], _, _, ⟨Same.refl _, fun _ _ z => by cases z⟩, .cons (.scr hq) .nil, h, fun r C' v Hs' H' z _ _ rr => by
    subst z
    cases rr
    rfl, fun _ _ _ _ _ _ z _ _ _ => z⟩
/-- one heap that tells of nothing but the script -/
theorem run_at {H : Hp} (fz : ∀ b u, H b = some u → b = a ∧ ∃ o xs, u = .frz o (.lst xs)) (hq : SqL K H a (ns.map V.int)) (hh : HOk P w H t.heap) (out : H a ≠ none → K.lookup a = none)
    (kx : K.In t.heap) (gl : t.heap.Ns mainGlobals mg) (bn : t.heap.Ns builtinsNs mb) (bt : ∀ y : Str, y ≠ "__name__" → mb y = bootBuiltins y) (nl : t.heap.NoLimit) (gs : t.gens = #[]) (sm : ∃ m, t.heap.Ns sysModules m)
    (ob : t.heap.get? a = some { cls := .type "list", data := .seq vs.toArray }) (rm : Room k callerA)
    (pr : ∀ base : Heap, K.In base → base.Ns mainGlobals mg → (∃ o, base.get? sysModules = some o) → DFn P w K mg base k fa fd [x] sp) (bd : ∀ (s : Shared) (u : Value), BindsTo s fd ⟨[u], []⟩ [(x, u)]) (me : LawSp sp ns) :
    codeAny (model P w) callerA (.call (.ref fa) ⟨[.ref a], []⟩) (fun r t' => r = .ok (.ret (.bool true)) ∧ OldK t.heap t'.heap ∧ t'.os = t.os ∧ AllBare t'.gens) t := by
  -- what is not the script stays to be seen
  have seen : ∀ {b : Addr} {o : Obj}, t.heap.get? b = some o → b ≠ a → (hidT t.heap H).get? b = some o := fun {b o} e n => hidT_get e (by
    cases z : H b with
    | none => rfl
    | some u => exact absurd (fz b u z).1 n)
  have tab : ∀ {b : Addr} {m : Str → Option Value}, t.heap.Ns b m → (hidT t.heap H).Ns b m := fun {b m} ⟨o, es, ep, e, d, r⟩ => ⟨o, es, ep, seen e (fun z => by
    subst z
    have e2 := e.symm.trans ob
    cases e2
    cases d), d, r⟩
  have kin : K.In (hidT t.heap H) := fun b o e => by
    cases z : H b with
    | none => exact hidT_get (kx b o e) z
    | some u =>
      obtain ⟨rfl, _⟩ := fz b u z
      have := out (by rw [z]; intro y; cases y)
      rw [e] at this
      cases this
  have md : Mod K mg (hidT t.heap H) := ⟨kin, tab gl, ⟨mb, tab bn, bt⟩, nl.elim fun mc h => ⟨mc, tab h.1, h.2⟩⟩
  have ev : Env0 P w K mg (hidT t.heap H) callerA [] t H := ⟨rfl, md, fun b o e => of_hidT e, Nat.le_of_eq (hidT_size _ _), trivial, fun b hb => (List.not_mem_nil hb).elim, hh, .of_eq gs⟩
  have ms : ∃ o, (hidT t.heap H).get? sysModules = some o := by
    obtain ⟨m, h⟩ := sm
    obtain ⟨o, es, ep, e, _⟩ := tab h
    exact ⟨o, e⟩
  have go := (pr _ kin (tab gl) ms).run callerA [] t H ⟨[.ref a], []⟩ [.ref a] [.ref a] (fun v _ => v = .bl true) (fun _ _ _ => False) callerA_gd rm ev (bd t (.ref a)) (.cons rfl .nil) (lift_law me hq)
  refine codeAny_mono go fun r t' h => ?_
  rcases r with e | fl
  · obtain ⟨_, _, _, _, _, _, _, _, _, _, _, _, z⟩ := h
    exact z.elim
  · rcases fl with _ | _ | _ | u
    · cases h
    · cases h
    · cases h
    · obtain ⟨v, H', o1, o2, un, ok2, rv, hv⟩ := h
      have hv' : v = .bl true := hv
      subst hv'
      have hu : u = Value.bool true := rv
      subst hu
      refine ⟨rfl, OldK.of_keep fun b o e => ?_, o1, o2⟩
      cases z : H b with
      | none => exact un.keep b o e z (fun y => (List.not_mem_nil y).elim) (by simp)
      | some u =>
        obtain ⟨_, ob', xs, rfl⟩ := fz b u z
        have i1 := (hh b _ z).1
        have i2 := (ok2 b _ (un.frzs b ob' _ z)).1
        exact i2.trans (i1.symm.trans e)
theorem law_runG (kx : K.In t.heap) (gl : t.heap.Ns mainGlobals mg) (bn : t.heap.Ns builtinsNs mb) (bt : ∀ y : Str, y ≠ "__name__" → mb y = bootBuiltins y) (nl : t.heap.NoLimit) (gs : t.gens = #[]) (sm : ∃ m, t.heap.Ns sysModules m)
    (ob : t.heap.get? a = some { cls := .type "list", data := .seq vs.toArray }) (ii : IntsAre vs ns) (ln : ns.length ≤ sizeLine) (rm : Room k callerA)
    (pr : ∀ base : Heap, K.In base → base.Ns mainGlobals mg → (∃ o, base.get? sysModules = some o) → DFn P w K mg base k fa fd [x] sp) (bd : ∀ (s : Shared) (u : Value), BindsTo s fd ⟨[u], []⟩ [(x, u)]) (me : LawSp sp ns) :
    codeAny (model P w) callerA (.call (.ref fa) ⟨[.ref a], []⟩) (fun r t' => r = .ok (.ret (.bool true)) ∧ OldK t.heap t'.heap ∧ t'.os = t.os ∧ AllBare t'.gens) t := by
  have rv : Vals (ns.map V.int) vs := vals_ints ii
  cases hk : K.lookup a with
  | some o =>
    have e : some o = _ := (kx a o hk).symm.trans ob
    cases e
    refine run_at (H := fun _ => none) (fun b u z => by cases z) (.inr ⟨_, vs.toArray, _, hk, rfl, rfl, rfl, ?_, by simpa using rv⟩) (fun b u z => by cases z) (fun z => absurd rfl z) kx gl bn bt nl gs sm ob rm pr bd me
    rw [List.size_toArray, ii.length]
    exact ln
  | none =>
    have at_a : ∀ {b : Addr} {u : HO}, (if b = a then some (HO.frz { cls := .type "list", data := .seq vs.toArray } (.lst (ns.map V.int))) else none) = some u → b = a ∧ u = .frz { cls := .type "list", data := .seq vs.toArray } (.lst (ns.map V.int)) := fun {b u} z => by
      by_cases hb : b = a
      · rw [if_pos hb] at z; exact ⟨hb, (Option.some.inj z).symm⟩
      · rw [if_neg hb] at z; cases z
    refine run_at (H := fun b => if b = a then some (.frz { cls := .type "list", data := .seq vs.toArray } (.lst (ns.map V.int))) else none) (fun b u z => ⟨(at_a z).1, _, _, (at_a z).2⟩) (.inl (.inr ⟨_, if_pos rfl⟩)) (fun b u z => ?_) (fun _ => hk) kx gl bn bt nl gs sm ob rm pr bd me
    obtain ⟨rfl, rfl⟩ := at_a z
    exact ⟨ob, by rw [List.length_map]; exact ln, vs, _, rv, ob⟩
end
/-- the goal that the head leaves -/
theorem walkG {l : PySem.W.OpenLaw} {k : Nat} {q : Program} {loose : List Str} {XP : (Str → Option Value) → Heap → Prop} {YP : World → Heap → Prop} {d : DefRec} {K : Params → PySem.W.Frag} {sp : DSp} {x : Str}
    (hn : l.most = some 63) (hdf : d.params.defaults = []) (rm : Room k callerA) (imp : importsNone q = true) (hY : ∀ (w : World) (h : Heap), YP w h → (K w.params).In h)
    (F : ∀ (w : World) (mg : Str → Option Value) (fa : Addr) (h : Heap), (K w.params).In h → h.Ns mainGlobals mg → mg d.name = some (.ref fa) →
      ∃ fd : FuncData, (∀ (s : Shared) (u : Value), BindsTo s fd ⟨[u], []⟩ [(x, u)]) ∧
        ∀ base : Heap, (K w.params).In base → base.Ns mainGlobals mg → (∃ o, base.get? sysModules = some o) → DFn l.prog w (K w.params) mg base k fa fd [x] sp)
    (me : ∀ ns : List Int, ns.length ≤ 63 → (∀ z ∈ ns, Builtin.Int.intBits z ≤ 1048576) → LawSp sp ns) : PySem.W.WalkO q loose XP YP l.row.toRowW d [] (fun f vs => PySem.call f vs) :=
  Att.attach_callB hn hdf fun w s0 s1 mg mb fa o pm cd doc a vs ns G Y ho hd hcd hmg hobj hints hlen hbits hg => by
    have kx := hY w _ Y
    obtain ⟨fd, bd, pr⟩ := F w mg fa _ kx G.T.g hmg
    obtain ⟨mm, hm, _⟩ := (G.T.seer imp).mods
    exact law_runG kx G.T.g G.T.b G.T.builtins G.T.nolimit hg ⟨mm, hm⟩ hobj hints (Nat.le_trans hlen (by rw [sizeLine_eq]; decide)) rm pr bd (me ns hlen hbits)
end L2.DL
/-! DLr: what the laws' helpers are promised, plain facts for them. -/
namespace L2.DL
open PySem PySem.Spec PyProof.Rows
def isWord (d : D) (lo hi : Int) : Bool := match d with
  | .str s => decide (lo ≤ (s.length : Int)) && (decide ((s.length : Int) ≤ hi) && s.all fun c => decide (97 ≤ c) && decide (c ≤ 122))
  | _ => false
def lenOk (d : D) : Bool := match d with
  | .int i => decide (1 ≤ i) && decide (i ≤ 3)
  | _ => false
def okIn (d : D) : Prop := (∃ t, tyD d = some t) ∧ (∀ s, d = .str s → s.length ≤ 1000) ∧ ∀ s, d = .str s → ∀ c ∈ s, c < 128
def spPurse (b : Bool) : DSp := fun ds C PR _ => ∃ (ns : List Int) (i : Nat), ds = [.scr ns, .int i] ∧ ns.length ≤ 63 ∧ i ≤ 64 ∧ (∀ n ∈ ns, Builtin.Int.intBits n ≤ 1048576) ∧ ∀ x y, 0 ≤ y → y < 4294967296 → PR (.frs (match visP b x y with | .dct kvs => .dct kvs | .lst xs => .lst xs | _ => .lst [])) C
def spChoose (b : Bool) : DSp := fun ds C PR _ => ∃ a x xs, ds = [.cell a, x] ∧ C a = some (.pur b) ∧ (x = .lst xs ∨ x = .tup xs ∨ ∃ s : Txt, x = .str s ∧ xs = s.map fun c => .str [c]) ∧ xs ≠ [] ∧ xs.length ≤ 16777216 ∧ ∀ d ∈ xs, PR (.shr d) C
def spWord : DSp := fun ds C PR _ => ∃ d lo hi, ds = [d, .int lo, .int hi] ∧ okIn d ∧ PR (.shr (.bl (isWord d lo hi))) C
/-- texts of one sign -/
theorem txts_signs {s : Txt} : ∀ {ys : List D}, (∀ y ∈ ys, ∃ c ∈ s, y = .str [c]) → ∃ cs : Txt, txtsOf ys = some (cs.map fun c => [c]) ∧ cs.length = ys.length ∧ ∀ c ∈ cs, c ∈ s
  | [], _ => ⟨[], rfl, rfl, fun _ h => by cases h⟩
  | y :: ys, h => by
    obtain ⟨c, hc, rfl⟩ := h y List.mem_cons_self
    obtain ⟨cs, h1, h2, h3⟩ := txts_signs fun z hz => h z (List.mem_cons_of_mem _ hz)
    refine ⟨c :: cs, by simp [txtsOf, h1], by simp [h2], fun z hz => ?_⟩
    rcases List.mem_cons.mp hz with rfl | hz
    · exact hc
    · exact h3 z hz
theorem join_signs : ∀ cs : Txt, joinT [] (cs.map fun c => [c]) = cs
  | [] => rfl
  | [_] => rfl
  | c :: d :: r => by
    show [c] ++ ([] ++ joinT [] ((d :: r).map fun c => [c])) = _
    rw [join_signs (d :: r)]
    rfl
theorem lens_signs (cs : Txt) : ((cs.map fun c => [c]).map (·.length)).sum = cs.length := by
  induction cs with
  | nil => rfl
  | cons c r ih => simp only [List.map_cons, List.sum_cons, ih, List.length_cons, List.length_nil]; omega
def natOf : D → Option Nat
  | .int (.ofNat n) => some n
  | _ => none
def okN (lo hi : Nat) (d : D) : Bool := match natOf d with
  | some n => decide (lo ≤ n) && decide (n ≤ hi)
  | none => false
theorem okN_of {lo hi : Nat} {xs : List D} (h : xs.all (okN lo hi) = true) {d : D} (hd : d ∈ xs) : ∃ n : Nat, d = .int n ∧ lo ≤ n ∧ n ≤ hi := by
  have := List.all_eq_true.mp h d hd
  unfold okN at this
  cases e : natOf d with
  | none => rw [e] at this; cases this
  | some n =>
    rw [e] at this
    simp only [Bool.and_eq_true, decide_eq_true_eq] at this
    refine ⟨n, ?_, this⟩
    unfold natOf at e
    split at e
    · cases e; rfl
    · cases e
/-! ### words -/
theorem in_letters (c : Nat) : decide (c ∈ [97, 98, 99, 100, 101, 102, 103, 104, 105, 106, 107, 108, 109, 110, 111, 112, 113, 114, 115, 116, 117, 118, 119, 120, 121, 122]) = (decide (97 ≤ c) && decide (c ≤ 122)) := by
  have : c ∈ [97, 98, 99, 100, 101, 102, 103, 104, 105, 106, 107, 108, 109, 110, 111, 112, 113, 114, 115, 116, 117, 118, 119, 120, 121, 122] ↔ (97 ≤ c ∧ c ≤ 122) := by
    simp only [List.mem_cons, List.not_mem_nil, or_false]
    omega
  rw [← Bool.decide_and]
  exact decide_eq_decide.mpr this
theorem blsOf_map (f : Nat → Bool) : ∀ s : Txt, blsOf (s.map fun c => D.bl (f c)) = some (s.map f)
  | [] => rfl
  | c :: r => by simp [blsOf, blsOf_map f r]
def oneB (f : Nat → Bool) (d : D) : D := match d with
  | .str [c] => .bl (f c)
  | _ => .bl false
/-! ### the law's words -/
def keepW (d : D) : Bool := match d with
  | .str [c] => !(decide (97 ≤ c) && decide (c ≤ 122))
  | _ => false
theorem lt_one (a b : Nat) : decide (([a] : Txt) < [b]) = decide (a < b) := by
  apply decide_eq_decide.mpr
  simp [List.cons_lt_cons_iff]
theorem keep_empty (s : Txt) : ((s.map fun c => D.str [c]).filter keepW).isEmpty = s.all fun c => decide (97 ≤ c) && decide (c ≤ 122) := by
  induction s with
  | nil => rfl
  | cons c r ih =>
    rw [List.map_cons, List.all_cons, ← ih, List.filter_cons]
    by_cases h : (decide (97 ≤ c) && decide (c ≤ 122)) = true
    · have h1 : keepW (.str [c]) = false := by show (!_) = false; rw [h]; rfl
      rw [h1, h]
      rfl
    · have h2 : (decide (97 ≤ c) && decide (c ≤ 122)) = false := by simpa using h
      have h1 : keepW (.str [c]) = true := by show (!_) = true; rw [h2]; rfl
      rw [h1, h2]
      rfl
/-! ### the law's look at a thing -/
theorem range_get {n k : Nat} {d : D} (h : (intsFrom 0 n)[k]? = some d) : d = .int (k : Nat) ∧ k < n := by
  rw [intsFrom_get] at h
  by_cases e : k < n
  · rw [if_pos e] at h
    cases h
    exact ⟨by rw [Int.zero_add], e⟩
  · rw [if_neg e] at h; cases h
theorem asPur_vis {x y : Int} (h0 : 0 ≤ y) (h1 : y < 4294967296) : asPur (.dct [(.inr dgT, .int x), (.inr mxT, .int y)]) = some true := by
  show (if 0 ≤ y ∧ y < 4294967296 then some true else none) = _
  rw [if_pos ⟨h0, h1⟩]
end L2.DL
/-! DLs: append, is None, name += e, methods of texts, calls whose result may be new. -/
namespace L2.DL
open PySem PySem.Spec PyProof.Rows
section
variable {X : Cx} {o e : Expr} {es : List Expr} {apos cpos pos : Pos} {st : Stmt} {K : PySem.W.Frag} {Z : Z0}
/-! ### xs.append(e) -/
def sApp (n : Nat) (me : EM D) : SM := fun E dE env C => (∃ xs, env[n]? = some (.own (.lst xs))) ∧ me E env C fun d env1 C1 => match env1[n]? with
  | some (.own (.lst xs)) => xs.length < sizeLine ∧ dE.nx (env1.set n (.own (.lst (xs ++ [d])))) C1
  | _ => False
theorem ds_app {n : Nat} {me : EM D} (ho : PE X o (tVar n)) (he : DE X RShr e me) (hs : swapsWith (.Call (.Attribute o "append" apos) [e] [] cpos) none pos.line X.env = pure false) (hb : attributeBase o "append" X.env (eval o X.env) = eval o X.env)
    (hst : starEach [e] X.env = (false, eval e X.env) :: starEach [] X.env)
    (hf : ((backTo cpos (starEach [e] X.env)).all (fun x => !x.1) && (backToKw cpos (keywordEach [] X.env)).all (fun x => x.1.isSome) && decide (([e] : List Expr).length + ([] : List Keyword).length + (if ([] : List Keyword).isEmpty then 0 else 1) < 30)) = true) (hline : (apos.endLine == cpos.line) = true) :
    DS X (.Expr (.Call (.Attribute o "append" apos) [e] [] cpos) pos) (sApp n me) := fun Z E hE => ⟨fun pins s σ H D I ⟨Hs, env, C, dE, sr, ok, ⟨xs, e0⟩, q⟩ => by
  refine (ps_expr (pe_bm PySem.F.plainAttrs_list PySem.F.slot_list_append PySem.F.type_list_append mt_append ho (pa_cons (he Z E hE) pa_nil hst) hb hf hline hst rfl) hs).run pins s σ H D I ?_
  obtain ⟨p0, o0, x0, h0, ⟨vs0, rfl, r0⟩, _⟩ := sr.slt.own n _ e0
  refine ⟨_, x0, .inl ⟨rfl, _, SqL.of h0⟩, Hs, env, C, _, sr, q, fun d env1 C1 v Hs1 H1 q1 t1 s1 r1 => ?_⟩
  split at q1
  · rename_i ys e1
    obtain ⟨hl, q1⟩ := q1
    obtain ⟨p1, o1, x1, h1, ⟨vs1, rfl, r2⟩, _⟩ := s1.slt.own n _ e1
    rw [x0] at x1
    cases x1
    exact ⟨_, _, _, rfl, rfl, h1, by rw [← r2.length]; exact hl, ok.1 _ _ _ _ _ (s1.wrO e1 x0 (c' := .lst (ys ++ [d])) ⟨_, rfl, r2.append (.cons r1 .nil)⟩) q1⟩
  · exact q1.elim⟩
/-- of a cell -/
def sAppC (mo me : EM D) : SM := fun E dE env C => mo E env C fun d0 env0 C0 => ∃ a xs0, d0 = .cell a ∧ C0 a = some (.lst xs0) ∧ me E env0 C0 fun d env1 C1 => ∃ xs, C1 a = some (.lst xs) ∧ xs.length < sizeLine ∧ dE.nx env1 (cput C1 a (.lst (xs ++ [d])))
theorem ds_appC {mo me : EM D} (ho : DE X RShr o mo) (he : DE X RShr e me) (hs : swapsWith (.Call (.Attribute o "append" apos) [e] [] cpos) none pos.line X.env = pure false) (hb : attributeBase o "append" X.env (eval o X.env) = eval o X.env)
    (hst : starEach [e] X.env = (false, eval e X.env) :: starEach [] X.env)
    (hf : ((backTo cpos (starEach [e] X.env)).all (fun x => !x.1) && (backToKw cpos (keywordEach [] X.env)).all (fun x => x.1.isSome) && decide (([e] : List Expr).length + ([] : List Keyword).length + (if ([] : List Keyword).isEmpty then 0 else 1) < 30)) = true) (hline : (apos.endLine == cpos.line) = true) :
    DS X (.Expr (.Call (.Attribute o "append" apos) [e] [] cpos) pos) (sAppC mo me) := fun Z E hE => ⟨fun pins s σ H D I ⟨Hs, env, C, dE, sr, ok, q⟩ => by
  refine (ps_expr (pe_bm PySem.F.plainAttrs_list PySem.F.slot_list_append PySem.F.type_list_append mt_append (ho Z E hE) (pa_cons (he Z E hE) pa_nil hst) hb hf hline hst rfl) hs).run pins s σ H D I ?_
  refine ⟨Hs, env, C, _, sr, q, fun d0 env0 C0 v0 Hs0 H0 q0 t0 s0 r0 => ?_⟩
  obtain ⟨a, xs0, rfl, hc, q0⟩ := q0
  cases r0
  obtain ⟨n0, u0, hu0, vs0, rfl, rl0⟩ := s0.fit.cel a _ hc
  refine ⟨.inl ⟨rfl, _, SqL.of hu0⟩, Hs0, env0, C0, _, s0, q0, fun d env1 C1 v Hs1 H1 q1 t1 s1 r1 => ?_⟩
  obtain ⟨xs, hc1, hl, q1⟩ := q1
  obtain ⟨n1, u1, hu1, vs1, rfl, rl1⟩ := s1.fit.cel a _ hc1
  exact ⟨_, _, _, rfl, rfl, hu1, by rw [← rl1.length]; exact hl, ok.1 _ _ _ _ _ (s1.wrC hc1 (cl' := .lst (xs ++ [d])) ⟨_, rfl, rl1.append (.cons r1 .nil)⟩) q1⟩⟩
/-! ### is None -/
/-! ### name += e, ints -/
def sAug (f : Int → Int → Int) (n : Nat) (me : EM D) : SM := fun E dE env C => ∃ i, env[n]? = some (.shr (.int i)) ∧ me E env C fun d env1 C1 => ∃ j, dr C1 d = .int j ∧ dE.nx (env1.set n (.shr (.int (f i j)))) C1
/-! ### methods of texts -/
def mTxN (g : Txt → List D → (D → Prop) → Prop) (mo : EM D) (ms : EM (List D)) : EM D := fun E env C Q => mo E env C fun d env1 C1 => ∃ s, d = .str s ∧ ms E env1 C1 fun ds env2 C2 => g s (ds.map (dr C2)) fun x => Q x env2 C2
/-- the first place of t in s from i on, or -1 -/
def findT (s t : Txt) (i : Int) : Int := Txt.find3 (sV s) (sV t) i
def gFind3 (s : Txt) (ds : List D) (P : D → Prop) : Prop := match ds with
  | [.str t, .int i] => P (.int (findT s t i))
  | _ => False
/-! ### name = f(..), the result new or not -/
@[reducible] def slotR : Ret → Slot
  | .shr d => .shr d
  | .frs c => .own c
def sCallR (n : Nat) (sp : DSp) (dfl : List D) (ms : EM (List D)) : SM := fun E dE env C => ms E env C fun ds env1 C1 => sp (ds ++ dfl) C1 (fun r C2 => dE.nx (env1.set n (slotR r)) C2) fun x C2 => E x env1 C2
end
end L2.DL
/-! DLt: texts turned round. -/
namespace L2.DL
open PySem PySem.Spec PyProof.Rows
end L2.DL
/-! DLu: the first place of a sign in a text. -/
namespace L2.DL
open PySem PySem.Spec PyProof.Rows PySem.StrLaws PySem.Builtin.Str
end L2.DL
/-! DLv: forward steps of the later rules. -/
namespace L2.DL
open PySem PySem.Spec PyProof.Rows
section
variable {E : EX} {env : DL.Env} {C : Cs} {d : D} {n : Nat} {xs : List D} {i j : Int} {s t : Txt} {me mo : EM D} {ms : EM (List D)} {nx bk ct : DL.Env → Cs → Prop} {rt : Ret → Cs → Prop} {P : D → Prop} {Q : D → DL.Env → Cs → Prop}
def AppO (n : Nat) (d : D) (P : DL.Env → Cs → Prop) (env : DL.Env) (C : Cs) : Prop := match env[n]? with
  | some (.own (.lst xs)) => xs.length < sizeLine ∧ P (env.set n (.own (.lst (xs ++ [d])))) C
  | _ => False
theorem j_app (h : env[n]? = some (.own (.lst xs))) (q : me E env C fun d env1 C1 => AppO n d nx env1 C1) : sApp n me E ⟨nx, rt, bk, ct⟩ env C := ⟨⟨xs, h⟩, q⟩
theorem a_app {P : DL.Env → Cs → Prop} (h : env[n]? = some (.own (.lst xs))) (hl : xs.length < sizeLine) (q : P (env.set n (.own (.lst (xs ++ [d])))) C) : AppO n d P env C := by
  unfold AppO
  rw [h]
  exact ⟨hl, q⟩
theorem j_aug {f : Int → Int → Int} (h : env[n]? = some (.shr (.int i))) (q : me E env C fun d env1 C1 => ∃ j, dr C1 d = .int j ∧ nx (env1.set n (.shr (.int (f i j)))) C1) : sAug f n me E ⟨nx, rt, bk, ct⟩ env C := ⟨i, h, q⟩
theorem i_dri {R : Int → Prop} (q : R j) : ∃ k, dr C (.int j) = .int k ∧ R k := ⟨j, rfl, q⟩
theorem i_txN {g : Txt → List D → (D → Prop) → Prop} (q : mo E env C fun d env1 C1 => ∃ s, d = .str s ∧ ms E env1 C1 fun ds env2 C2 => g s (ds.map (dr C2)) fun x => Q x env2 C2) : mTxN g mo ms E env C Q := q
theorem g_find3 (q : P (.int (findT s t i))) : gFind3 s ([D.str t, D.int i].map (dr C)) P := q
theorem j_callR {sp : DSp} {dfl : List D} (q : ms E env C fun ds env1 C1 => sp (ds ++ dfl) C1 (fun r C2 => nx (env1.set n (slotR r)) C2) fun x C2 => E x env1 C2) : sCallR n sp dfl ms E ⟨nx, rt, bk, ct⟩ env C := q
end
end L2.DL
/-! DLx: rows of places (the laws' own way through all spellings). -/
namespace L2.DL
open PySem PySem.Spec PyProof.Rows
def nsD (ps : List Nat) : D := .lst (ps.map fun k => D.int (k : Nat))
def nssD (pss : List (List Nat)) : D := .lst (pss.map nsD)
theorem intsFrom_nat : ∀ (n a : Nat), intsFrom (a : Nat) n = (List.range' a n).map fun k => D.int (k : Nat)
  | 0, _ => rfl
  | n + 1, a => by
    rw [intsFrom, List.range'_succ, List.map_cons, ← intsFrom_nat n (a + 1)]
    rfl
/-- the place behind the last one -/
def nextP (ps : List Nat) : Nat := match ps.getLast? with
  | some k => k + 1
  | none => 0
def extP (L : Nat) (ps : List Nat) : List (List Nat) := (List.range' (nextP ps) (L - nextP ps)).map fun k => ps ++ [k]
/-- all ascending rows of n places below L, in their sequence -/
def placesN (L : Nat) : Nat → List (List Nat)
  | 0 => [[]]
  | n + 1 => (placesN L n).flatMap (extP L)
theorem extP_len (L : Nat) (ps : List Nat) : (extP L ps).length ≤ L := by
  unfold extP
  rw [List.length_map, List.length_range']
  omega
theorem flat_len (L : Nat) : ∀ pss : List (List Nat), (pss.flatMap (extP L)).length ≤ pss.length * L
  | [] => by simp
  | ps :: r => by
    rw [List.flatMap_cons, List.length_append, List.length_cons, Nat.succ_mul]
    have := extP_len L ps
    have := flat_len L r
    omega
theorem placesN_len (L : Nat) : ∀ n, (placesN L n).length ≤ L ^ n
  | 0 => by simp [placesN]
  | n + 1 => by
    rw [placesN, Nat.pow_succ]
    exact Nat.le_trans (flat_len L _) (Nat.mul_le_mul_right L (placesN_len L n))
theorem mem_placesN {L : Nat} : ∀ {n : Nat} {ps : List Nat}, ps ∈ placesN L n → ps.length = n ∧ ∀ k ∈ ps, k < L
  | 0, ps, h => by
    simp [placesN] at h
    subst h
    exact ⟨rfl, fun k hk => by cases hk⟩
  | n + 1, ps, h => by
    rw [placesN, List.mem_flatMap] at h
    obtain ⟨qs, h1, h2⟩ := h
    obtain ⟨l, b⟩ := mem_placesN h1
    unfold extP at h2
    obtain ⟨k, hk, rfl⟩ := List.mem_map.mp h2
    refine ⟨by simp [l], fun j hj => ?_⟩
    rcases List.mem_append.mp hj with hj | hj
    · exact b j hj
    · rcases List.mem_singleton.mp hj with rfl
      simp [List.mem_range'] at hk
      omega
theorem atI_last {α : Type} {xs : List α} {x : α} (h : xs.getLast? = some x) : atI xs (-1) = some x := by
  have hne : xs ≠ [] := fun e => by subst e; cases h
  have hl : 0 < xs.length := List.length_pos_iff.mpr hne
  unfold atI
  have e : ixN xs.length (-1) = some (xs.length - 1) := by
    unfold ixN
    simp
    omega
  rw [e]
  show xs[xs.length - 1]? = some x
  rw [← List.getLast?_eq_getElem?]
  exact h
theorem nextP_le {L : Nat} {ps : List Nat} (h : ∀ k ∈ ps, k < L) : nextP ps ≤ L := by
  unfold nextP
  cases e : ps.getLast? with
  | none => exact Nat.zero_le _
  | some k => exact h k (List.mem_of_getLast? e)
/-- one row made longer, as trees -/
theorem ext_tree (L : Nat) (ps : List Nat) (h : nextP ps ≤ L) : ([] ++ ((intsFrom (nextP ps : Nat) ((L : Int) - (nextP ps : Nat)).toNat).filter fun _ => true).map fun d => D.lst (ps.map (fun k => D.int (k : Nat)) ++ [d])) = (extP L ps).map nsD := by
  have e : ((L : Int) - (nextP ps : Nat)).toNat = L - nextP ps := by omega
  rw [e, intsFrom_nat, List.nil_append, List.filter_eq_self.mpr (fun _ _ => rfl), List.map_map]
  unfold extP
  rw [List.map_map]
  apply List.map_congr_left
  intro k _
  simp [nsD]
theorem take_flat {L j : Nat} {pss : List (List Nat)} {ps : List Nat} (h : pss[j]? = some ps) : (pss.take (j + 1)).flatMap (extP L) = (pss.take j).flatMap (extP L) ++ extP L ps := by
  rw [List.take_add_one, h, List.flatMap_append]
  simp
/-- the signs at the places -/
def codeAt (s : Txt) (ps : List Nat) : Txt := ps.map fun k => s.getD k 0
def addNew (acc : List Txt) (c : Txt) : List Txt := if c ∈ acc then acc else acc ++ [c]
/-- the spellings, each once, in the sequence of the rows -/
def spells (s : Txt) (n : Nat) : List Txt := ((placesN s.length n).map (codeAt s)).foldl addNew []
def chrD (s : Txt) (d : D) : D := match d with
  | .int k => .str [s.getD k.toNat 0]
  | _ => .non
theorem txtsOf_signs : ∀ cs : Txt, txtsOf (cs.map fun c => D.str [c]) = some (cs.map fun c => [c])
  | [] => rfl
  | c :: r => by simp [txtsOf, txtsOf_signs r]
theorem inD_str (c : Txt) : ∀ acc : List Txt, inD (.str c) (acc.map D.str) = decide (c ∈ acc)
  | [] => rfl
  | a :: r => by
    have ih := inD_str c r
    unfold inD at ih ⊢
    rw [List.map_cons, List.any_cons, ih, eqv_str, ← Bool.decide_or]
    apply decide_eq_decide.mpr
    simp [eq_comm]
theorem g_notinT {C : Cs} {c : Txt} {acc : List Txt} {P : D → Prop} (q : P (.bl (!decide (c ∈ acc)))) : gIn true (dr C (.str c)) (dr C (.lst (acc.map D.str))) P := by
  refine ⟨.inl ⟨rfl, ?_⟩, ?_⟩
  · rw [List.all_map]
    exact List.all_eq_true.mpr fun _ _ => rfl
  · rw [dr_str, inD_str]
    exact q
theorem addNew_len (acc : List Txt) (c : Txt) : (addNew acc c).length ≤ acc.length + 1 := by
  unfold addNew
  split <;> simp
theorem foldl_len : ∀ (cs acc : List Txt), (cs.foldl addNew acc).length ≤ acc.length + cs.length
  | [], acc => by simp
  | c :: r, acc => by
    have h1 := foldl_len r (addNew acc c)
    have h2 := addNew_len acc c
    rw [List.foldl_cons, List.length_cons]
    omega
end L2.DL
/-! DLy: the leftmost row is the first one that has the signs. -/
namespace L2.DL
open PySem PySem.Spec PyProof.Rows
/-! ### further steps -/
end L2.DL
namespace L2.DL
open PySem PySem.Spec PyProof.Rows
end L2.DL
/-! EA: things that may be called: defs, classes; their arguments. -/
namespace L2.DL
open PySem PySem.Spec PyProof.Rows
/-! ### a cell is let go -/
def cdel (C : Cs) (a : Addr) : Cs := fun b => if b = a then none else C b
theorem cdel_same {C : Cs} {a : Addr} : cdel C a a = none := by unfold cdel; rw [if_pos rfl]
theorem cdel_ne {C : Cs} {a b : Addr} (h : b ≠ a) : cdel C a b = C b := by unfold cdel; rw [if_neg h]
theorem cdel_none {C : Cs} {a b : Addr} (h : C b = none) : cdel C a b = none := by unfold cdel; split <;> first | rfl | exact h
theorem cdel_cput {C : Cs} {a : Addr} {c : Cell} (h : C a = none) : cdel (cput C a c) a = C := by
  funext b
  unfold cdel cput
  by_cases e : b = a
  · rw [if_pos e, e, h]
  · rw [if_neg e, if_neg e]
section
variable {K : PySem.W.Frag} {Z : Z0} {σ : St} {Hs H : Hp} {env : DL.Env} {C : Cs} {a : Addr}
theorem Fits.rm (f : Fits K Hs H C) : Fits K Hs H (cdel C a) := ⟨f.sub, fun b c e => by
  by_cases h : b = a
  · rw [h, cdel_same] at e; cases e
  · rw [cdel_ne h] at e; exact f.cel b c e⟩
theorem Bas.rm (b : Bas Z Hs H C) : Bas Z Hs H (cdel C a) := ⟨b.fl, fun x o e c => by
  obtain ⟨k1, k2, k3⟩ := b.kp x o e c
  exact ⟨k1, cdel_none k2, k3⟩, b.th⟩
end
/-! ### what is called: with values by place, values by keyword -/
abbrev DSpV := List D → List D → Cs → (Ret → Cs → Prop) → (XD → Cs → Prop) → Prop
def liftV (K : PySem.W.Frag) (spv : DSpV) : List V → List V → Hp → VK → XK → Prop := fun vs zs H Q E => ∃ Hs C ds es P PX, Fits K Hs H C ∧ RepL K Hs ds vs ∧ RepL K Hs es zs ∧ spv ds es C P PX ∧
  (∀ r C' v Hs' H', P r C' → Fits K Hs' H' C' → Bas (zOf Hs H C) Hs' H' C' → RRet K (zOf Hs H C) Hs' H' C' r v → Q v H') ∧
  (∀ x C' cls dx Hs' H', PX x C' → Fits K Hs' H' C' → Bas (zOf Hs H C) Hs' H' C' → RX K Hs' H' x cls dx → E cls dx H')
structure DCal (P : Program) (w : World) (K : PySem.W.Frag) (mg : Str → Option Value) (base : Heap) (k : Nat) (f : Value) (ks : List Str) (spv : DSpV) : Prop where
  run : ∀ (A : Around) (fr : List PySem.Env) (s : Shared) (H : Hp) (us ws : List Value) (vs zs : List V) (Q : VK) (E : XK), Gd A → Room k A → Env0 P w K mg base A fr s H → Vals vs us → Vals zs ws → liftV K spv vs zs H Q E →
    codeAny (model P w) A (.call f ⟨us, ks.zip ws⟩) (CR (L2.CX P w) fr P w H s Q E) s
theorem Gd.in1 {A : Around} (g : Gd A) : Gd A.in1 := g
theorem Gd.make {A : Around} (g : Gd A) (C : Addr) (us : List Value) (kw : List (Str × Value)) : Gd (A.under (.builtin "type.__call__" ⟨.ref C :: us, kw⟩)) := by
  have e : (Code.builtin "type.__call__" ⟨.ref C :: us, kw⟩).guards = [] := by
    unfold Code.guards
    rw [if_neg (by simp only [Code.isGuard]; decide +kernel)]
  unfold Gd Around.under
  simp only [e]
  exact g
/-! ### how the values come to the parameters -/
def pick {α : Type} (perm : List Nat) (l : List α) : List α := perm.filterMap fun j => l[j]?
theorem Vals.pick {vs : List V} {us : List Value} (r : Vals vs us) : ∀ perm : List Nat, Vals (DL.pick perm vs) (DL.pick perm us)
  | [] => .nil
  | j :: perm => by
    have ih := Vals.pick r perm
    unfold DL.pick at ih ⊢
    have hl := r.length
    by_cases h : j < vs.length
    · have e1 : vs[j]? = some vs[j] := List.getElem?_eq_getElem h
      obtain ⟨u, hu, ru⟩ := r.get e1
      rw [List.filterMap_cons_some (f := fun j => vs[j]?) e1, List.filterMap_cons_some (f := fun j => us[j]?) hu]
      exact .cons ru ih
    · have e1 : vs[j]? = none := List.getElem?_eq_none (by omega)
      have e2 : us[j]? = none := List.getElem?_eq_none (by omega)
      rw [List.filterMap_cons_none (f := fun j => vs[j]?) e1, List.filterMap_cons_none (f := fun j => us[j]?) e2]
      exact ih
theorem RepL.pick {K : PySem.W.Frag} {Hs : Hp} {ds : List D} {vs : List V} (r : RepL K Hs ds vs) : ∀ perm : List Nat, RepL K Hs (DL.pick perm ds) (DL.pick perm vs)
  | [] => .nil
  | j :: perm => by
    have ih := RepL.pick r perm
    unfold DL.pick at ih ⊢
    have hl := r.length
    by_cases h : j < ds.length
    · have e1 : ds[j]? = some ds[j] := List.getElem?_eq_getElem h
      obtain ⟨u, hu, ru⟩ := r.get' e1
      rw [List.filterMap_cons_some (f := fun j => ds[j]?) e1, List.filterMap_cons_some (f := fun j => vs[j]?) hu]
      exact .cons ru ih
    · have e1 : ds[j]? = none := List.getElem?_eq_none (by omega)
      have e2 : vs[j]? = none := List.getElem?_eq_none (by omega)
      rw [List.filterMap_cons_none (f := fun j => ds[j]?) e1, List.filterMap_cons_none (f := fun j => vs[j]?) e2]
      exact ih
/-- n values by place, the keywords ks, the defaults dus: the parameters take them by perm -/
def KB (K : PySem.W.Frag) (fd : FuncData) (ps ks : List Str) (n : Nat) (perm : List Nat) (dus : List Value) : Prop :=
  ∀ (s : Shared) (us ws : List Value), K.In s.heap → us.length = n → ws.length = ks.length → BindsTo s fd ⟨us, ks.zip ws⟩ (ps.zip (pick perm (us ++ ws ++ dus)))
def spvOf (sp : DSp) (m n : Nat) (perm : List Nat) (dfl : List D) : DSpV := fun ds es C P PX => ds.length = n ∧ es.length = m ∧ sp (pick perm (ds ++ es ++ dfl)) C P PX
section
variable {P : Program} {w : World} {K : PySem.W.Frag} {mg : Str → Option Value} {base : Heap} {k n : Nat} {f C : Addr} {fd : FuncData} {ps ks : List Str} {sp : DSp} {perm : List Nat} {dus : List Value} {dvs : List V} {dfl : List D}
theorem dcal_of (F : DFn P w K mg base k f fd ps sp) (kb : KB K fd ps ks n perm dus) (hd : Vals dvs dus) (hd' : ∀ Hs, RepL K Hs dfl dvs) : DCal P w K mg base k (.ref f) ks (spvOf sp ks.length n perm dfl) := by
  refine ⟨fun A fr s H us ws vs zs Q E gd room e0 r rz h => ?_⟩
  obtain ⟨Hs, C, ds, es, PP, PX, f1, r1, r2, ⟨h1, h2, q⟩, k1, k2⟩ := h
  have l1 := r1.length
  have l2 := r2.length
  have l3 := r.length
  have l4 := rz.length
  exact F.run A fr s H ⟨us, ks.zip ws⟩ _ _ Q E gd room e0 (kb s us ws (e0.mod.kin.keeps fun b o e => (e0.bs b o e).1) (by omega) (by omega)) (Vals.pick ((r.append rz).append hd) perm)
    ⟨Hs, C, _, PP, PX, f1, RepL.pick ((r1.append r2).append (hd' Hs)) perm, q, k1, k2⟩
theorem DCal.mono {j : Nat} {v : Value} {spv : DSpV} (c : DCal P w K mg base j v ks spv) (h : j ≤ k) : DCal P w K mg base k v ks spv :=
  ⟨fun A fr s H us ws vs zs Q E gd room => c.run A fr s H us ws vs zs Q E gd (room.mono h)⟩
/-! ### C(..): a new instance -/
def spMakeF (C : Addr) (spi : DSpV) : DSpV := fun ds es Cc P PX => ∀ a, Cc a = none → spi (.cell a :: ds) es (cput Cc a (.obj C [])) (fun r C2 => r = .shr .non ∧ ∃ fs, C2 a = some (.obj C fs) ∧ P (.frs (.obj C fs)) (cdel C2 a)) fun x C2 => PX x (cdel C2 a)
/-- what leaves the making of an instance, told of the heap ahead of it -/
theorem made_back {fs : List Addr} {H : Hp} {s : Shared} {C : Addr} (hok : HOk P w H s.heap) : Un fs [] H (upd (upd H s.heap.objs.size (.own (s.heap.objs.size + 1))) (s.heap.objs.size + 1) (.ins C s.heap.objs.size [])) s.heap ((s.heap.push PySem.W.emptyDict).push (PySem.W.instObj C s.heap.objs.size)) := by
  have u1 := Un.laid (fs := fs) (ex := []) (H := H) (h := s.heap) (h' := s.heap.push PySem.W.emptyDict) (a := s.heap.objs.size) (o := .own (s.heap.objs.size + 1)) (fun b u q => Heap.get?_push_of_some _ q) (Nat.le_refl _) (hok.fresh (Nat.le_refl _))
  refine u1.trans (Un.laid (fun b u q => Heap.get?_push_of_some _ q) (Nat.le_of_eq (Heap.size_push _ _)) ?_)
  rw [upd_ne (Nat.ne_of_gt (Nat.lt_succ_self _))]
  exact hok.fresh (Nat.le_succ _)
end
section
variable {P : Program} {w : World} {K : PySem.W.Frag} {mg : Str → Option Value} {base : Heap} {k : Nat} {f C : Addr} {ks : List Str} {spi : DSpV}
/-- C(..): from its __init__'s promise, a promise told of the raw heap -/
theorem run_cls (M : Mk K C f) (c : DCal P w K mg base k (.ref f) ks spi) {A : Around} {fr : List PySem.Env} {s : Shared} {H : Hp} {us ws : List Value} {vs zs : List V} {Q : VK} {E : XK} (gd : Gd A) (room : Room (k + 1) A) (e0 : Env0 P w K mg base A fr s H) (r : Vals vs us) (rz : Vals zs ws)
    (h : ∀ a dx, H a = none → H dx = none → dx ≠ a → liftV K spi (.ref a :: vs) zs (upd (upd H dx (.own a)) a (.ins C dx [])) (fun v H2 => v = .non ∧ Q (.ref a) H2) E) :
    codeAny (model P w) A (.call (.ref C) ⟨us, ks.zip ws⟩) (CR (L2.CX P w) fr P w H s Q E) s := by
  have X : K.In s.heap := e0.mod.kin.keeps fun b o e => (e0.bs b o e).1
  have hq := h (s.heap.objs.size + 1) s.heap.objs.size (e0.hok.fresh (Nat.le_succ _)) (e0.hok.fresh (Nat.le_refl _)) (Nat.ne_of_lt (Nat.lt_succ_self _))
  have hn : H s.heap.objs.size = none := e0.hok.fresh (Nat.le_refl _)
  have g1 : (s.heap.push PySem.W.emptyDict).get? s.heap.objs.size = some PySem.W.emptyDict := Heap.get?_push_size s.heap rfl
  have e1 := StX.env0_laid (u := .own (s.heap.objs.size + 1)) (o := PySem.W.emptyDict) e0 ⟨_, g1⟩
  have sz : (s.heap.push PySem.W.emptyDict).objs.size = s.heap.objs.size + 1 := Heap.size_push _ _
  have g2 : ((s.heap.push PySem.W.emptyDict).push (PySem.W.instObj C s.heap.objs.size)).get? (s.heap.objs.size + 1) = some (PySem.W.instObj C s.heap.objs.size) := by
    have := Heap.get?_push_size (s.heap.push PySem.W.emptyDict) (o := PySem.W.instObj C s.heap.objs.size) rfl
    rwa [sz] at this
  have n3 : (s.heap.push PySem.W.emptyDict).Ns s.heap.objs.size (fun _ => none) := ⟨PySem.W.emptyDict, #[], _, g1, rfl, (fun e he => absurd he (by simp)), fun _ => rfl⟩
  have ne : s.heap.objs.size ≠ s.heap.objs.size + 1 := Nat.ne_of_lt (Nat.lt_succ_self _)
  have e2 := StX.env0_laid (s := { s with heap := s.heap.push PySem.W.emptyDict }) (u := .ins C s.heap.objs.size []) (o := PySem.W.instObj C s.heap.objs.size) e1 (by
    show ObjOk P w (upd (upd H s.heap.objs.size (.own (s.heap.objs.size + 1))) (s.heap.push PySem.W.emptyDict).objs.size (.ins C s.heap.objs.size [])) ((s.heap.push PySem.W.emptyDict).push (PySem.W.instObj C s.heap.objs.size)) (s.heap.push PySem.W.emptyDict).objs.size (.ins C s.heap.objs.size [])
    rw [sz]
    exact ⟨by rw [upd_ne ne, upd_same], Nat.zero_le _, ne, g2, fun _ => none, (Heap.Ns1.of_empty n3).at fun o q => Heap.get?_push_of_some _ q, fun _ => True.intro, fun y hy => absurd rfl hy⟩)
  have e2' : Env0 P w K mg base A fr { s with heap := (s.heap.push PySem.W.emptyDict).push (PySem.W.instObj C s.heap.objs.size) } (upd (upd H s.heap.objs.size (.own (s.heap.objs.size + 1))) (s.heap.objs.size + 1) (.ins C s.heap.objs.size [])) := by
    have := e2
    rw [sz] at this
    exact this
  have un := made_back (P := P) (w := w) (fs := frs fr) (C := C) e0.hok
  have kp : ∀ b o, s.heap.get? b = some o → ((s.heap.push PySem.W.emptyDict).push (PySem.W.instObj C s.heap.objs.size)).get? b = some o := fun b o e => Heap.get?_push_of_some _ (Heap.get?_push_of_some _ e)
  refine make_map (f := f) X M.makes M.init (beq_iff_eq.mp M.fn) (codeAny_mono (c.run _ fr _ _ (.ref (s.heap.objs.size + 1) :: us) ws (V.ref (s.heap.objs.size + 1) :: vs) zs _ E (gd.make C us _) (room.make C us _) (e2'.make C us _) (.cons rfl r) rz hq) fun rr s' z => ?_)
  cases rr with
  | error e => exact StX.cxUp fr s H { s with heap := (s.heap.push PySem.W.emptyDict).push (PySem.W.instObj C s.heap.objs.size) } _ E e s' un kp rfl z
  | ok fl =>
    cases fl with
    | ret u =>
      obtain ⟨v, H', os, bare, un2, hok, rv, ev, q⟩ := z
      subst ev
      obtain rfl : u = Value.none := rv
      exact ⟨rfl, .ref (s.heap.objs.size + 1), H', os, bare, un.trans un2, hok, rfl, q⟩
    | next => exact z.elim
    | brk => exact z.elim
    | cont => exact z.elim
/-- a fits state with a new instance as a cell -/
theorem made_fit {Hs H : Hp} {Cc : Cs} {a dx : Addr} (f1 : Fits K Hs H Cc) (ha : H a = none) (hd : H dx = none) (ne : dx ≠ a) : Fits K Hs (upd (upd H dx (.own a)) a (.ins C dx [])) (cput Cc a (.obj C [])) := by
  have hda : upd H dx (.own a) a = none := by rw [upd_ne (Ne.symm ne)]; exact ha
  have f2 := (f1.layP (o := .own a) hd).layP (o := .ins C dx []) hda
  obtain ⟨n1, n2⟩ := f1.nothing ha
  refine ⟨f2.sub, fun b c e => ?_⟩
  by_cases hb : b = a
  · subst hb
    rw [cput_same] at e
    cases e
    exact ⟨n1, _, upd_same, dx, [], rfl, .nil⟩
  · rw [cput_ne hb] at e
    exact f2.cel b c e
/-- the making told by trees: what was before the making stays -/
theorem made_bas {Hs H Hs' H' : Hp} {Cc C' : Cs} {a dx : Addr} (ha : H a = none) (hd : H dx = none) (b : Bas (zOf Hs (upd (upd H dx (.own a)) a (.ins C dx [])) (cput Cc a (.obj C []))) Hs' H' C') : Bas (zOf Hs H Cc) Hs' H' C' := by
  refine ⟨b.fl, fun x o e c => ?_, fun x o e => ?_⟩
  · have e' : H x = some o := e
    have h1 : x ≠ a := ne_of_none e' ha
    have h2 : x ≠ dx := ne_of_none e' hd
    exact b.kp x o (by show upd (upd H dx _) a _ x = some o; rw [upd_ne h1, upd_ne h2]; exact e') (by show cput Cc a _ x = none; rw [cput_ne h1]; exact c)
  · have e' : H x = some o := e
    have h1 : x ≠ a := ne_of_none e' ha
    have h2 : x ≠ dx := ne_of_none e' hd
    exact b.th x o (by show upd (upd H dx _) a _ x = some o; rw [upd_ne h1, upd_ne h2]; exact e')
theorem dcal_makeF (M : Mk K C f) (c : DCal P w K mg base k (.ref f) ks spi) : DCal P w K mg base (k + 1) (.ref C) ks (spMakeF C spi) := by
  refine ⟨fun A fr s H us ws vs zs Q E gd room e0 r rz h => run_cls M c gd room e0 r rz fun a dx ha hd ne => ?_⟩
  obtain ⟨Hs, Cc, ds, es, PP, PX, f1, r1, r2, q, k1, k2⟩ := h
  refine ⟨Hs, cput Cc a (.obj C []), .cell a :: ds, es, _, _, made_fit f1 ha hd ne, .cons (.cell a) r1, r2, q a (f1.nothing ha).2, fun rt C' v Hs' H' p f' b' rr => ?_, fun x C' cls d Hs' H' p f' b' rx => ?_⟩
  · obtain ⟨rfl, fs, hc, p⟩ := p
    cases rr
    obtain ⟨n1, o, ho, rc⟩ := f'.cel a _ hc
    exact ⟨rfl, k1 _ _ _ Hs' H' p f'.rm (made_bas ha hd b').rm ⟨a, o, rfl, ho, rc, n1, cdel_same, ha⟩⟩
  · exact k2 x _ cls d Hs' H' p f'.rm (made_bas ha hd b').rm rx
end
end L2.DL
/-! EB: argument lists of every shape; calls by a global name; methods. -/
namespace L2.DL
open PySem PySem.Spec PyProof.Rows
/-! ### arguments -/
abbrev TA2 := St → Hp → (List V → List V → Hp → Prop) → Prop
/-- what is kept while f is called -/
def KeepOk (X : Cx) (pins : List (Addr × Obj)) (σ : St) (f : Value) : Prop := ∀ s H, Inv X pins σ H s → ∃ k, (k = Keeper.frame ∨ k = Keeper.machine ∨ k = Keeper.boundFrame) ∧ PySem.W.Looks (model X.prog X.w) s.heap (keeperOf f) k
theorem keepOk_of {X : Cx} {pins : List (Addr × Obj)} {σ : St} {f : Value} (h : PySem.W.keepIn X.K f = true) : KeepOk X pins σ f := fun s H I => PySem.W.keeps_K h _ I.kIn
structure AJ (X : Cx) (es : List Expr) (kws : List Keyword) (ks : List Str) (t : TA2) : Prop where
  run : ∀ (pos : Pos) (pins : List (Addr × Obj)) (s : Shared) (σ : St) (H : Hp) (f : Value) (first : List Value) (Q : Value → Shared → Prop) (R : List V → List V → Hp → Prop), KeepOk X pins σ f → Inv X pins σ H s → t σ H R →
    (∀ us ws s' vs zs H', Inv X pins σ H' s' → Vals vs us → Vals zs ws → R vs zs H' → wpAny (model X.prog X.w) X.A (call f (first ++ us) (ks.zip ws)) Q X.xe s') →
    wpAny (model X.prog X.w) X.A (callWith pos f first (backTo pos (starEach es X.env)) (backToKw pos (keywordEach kws X.env))) Q X.xe s
section
variable {X : Cx} {e : Expr} {es : List Expr} {kws : List Keyword} {ks : List Str} {t tk : TA} {te : TE} {p : Pos}
/-- the heaps of states as told -/
def HpOf (X : Cx) (pins : List (Addr × Obj)) (σ : St) (h : Heap) : Prop := ∃ s H, Inv X pins σ H s ∧ s.heap = h
theorem hp_keep {pins : List (Addr × Obj)} {σ : St} {f : Value} (hk : KeepOk X pins σ f) : ∀ h, HpOf X pins σ h → ∃ k, (k = Keeper.frame ∨ k = Keeper.machine ∨ k = Keeper.boundFrame) ∧ PySem.W.Looks (model X.prog X.w) h (keeperOf f) k := fun h ⟨s, H, I, e⟩ => by
  subst e
  exact hk s H I
theorem aj_pos (ha : PA X (e :: es) t) (he : starEach (e :: es) X.env = (false, eval e X.env) :: starEach es X.env) (hpl : ∀ pos, (backTo pos (starEach es X.env)).any (·.1) = false) : AJ X (e :: es) [] [] (fun σ H R => t σ H fun vs H1 => R vs [] H1) := by
  refine ⟨fun pos pins s σ H f first Q R hk I h go => ?_⟩
  have run := ha.run pos pins s σ H _ I h
  rw [he] at run ⊢
  refine PySem.W.callWith_of (P := HpOf X pins σ) ?_ (hp_keep hk) (PySem.Calls.evalArgs_plain (thn run fun us s1 ⟨vs, H1, I1, r, q⟩ => ⟨⟨s1, H1, I1, rfl⟩, go us [] s1 vs [] H1 I1 r .nil q⟩))
  show ((false || (backTo pos (starEach es X.env)).any (·.1)) || false) = false
  rw [hpl pos]
  rfl
theorem aj_kw (ha : PA X (e :: es) t) (hkw : PK X kws tk) (hall : ∀ pos, (backToKw pos (keywordEach kws X.env)).all (·.1.isSome) = true) (hks : ∀ pos, (backToKw pos (keywordEach kws X.env)).filterMap (·.1) = ks)
    (he : starEach (e :: es) X.env = (false, eval e X.env) :: starEach es X.env) (hpl : ∀ pos, ((backTo pos (starEach (e :: es) X.env)).any (·.1) || (backToKw pos (keywordEach kws X.env)).any (·.1.isNone)) = false) :
    AJ X (e :: es) kws ks (fun σ H R => t σ H fun vs H1 => tk σ H1 fun zs H2 => R vs zs H2) :=
  ⟨fun pos pins s σ H f first Q R hk I h go => PySem.W.callWith_of (P := HpOf X pins σ) (hpl pos) (hp_keep hk) (evalArgs_kw2 (hall pos) (thn (ha.run pos pins s σ H _ I h) fun us s1 ⟨vs, H1, I1, r, q⟩ =>
    thn (hkw.run pos pins s1 σ H1 _ I1 q) fun ws s2 ⟨zs, H2, I2, rz, q2⟩ => ⟨⟨s2, H2, I2, rfl⟩, by rw [hks pos]; exact go us ws s2 vs zs H2 I2 r rz q2⟩) he)⟩
end
/-! ### over trees -/
def LA2 (K : PySem.W.Frag) (Z : Z0) (m : DM (List D × List D)) : TA2 := fun σ H Q => ∃ Hs env C P, SR K Z σ Hs H env C ∧ m env C P ∧
  ∀ ds es env' C' vs zs Hs' H', P (ds, es) env' C' → Tr Hs H C Hs' H' C' → SR K Z σ Hs' H' env' C' → RepL K Hs' ds vs → RepL K Hs' es zs → Q vs zs H'
def DAJ (X : Cx) (es : List Expr) (kws : List Keyword) (ks : List Str) (m : EM (List D × List D)) : Prop := ∀ Z E, DX X Z E → ∃ t, AJ X es kws ks t ∧ ∀ σ H R, LA2 X.K Z (m E) σ H R → t σ H R
def mPos (ms : EM (List D)) : EM (List D × List D) := fun E env C Q => ms E env C fun ds env1 C1 => Q (ds, []) env1 C1
def mPosK (ms mk : EM (List D)) : EM (List D × List D) := fun E env C Q => ms E env C fun ds env1 C1 => mk E env1 C1 fun es env2 C2 => Q (ds, es) env2 C2
/-- the items of a list or a tuple, as it is now -/
def seqD : D → Option (List D)
  | .tup xs => some xs
  | .lst xs => some xs
  | .tupT ts => some (ts.map .str)
  | _ => none
def mStar (m : EM D) (ms : EM (List D)) : EM (List D) := fun E env C Q => m E env C fun d env1 C1 => match seqD d with
  | some xs => ms E env1 C1 fun ys env2 C2 => Q (xs ++ ys) env2 C2
  | none => False
section
variable {X : Cx} {e : Expr} {es : List Expr} {kws : List Keyword} {ks : List Str} {p : Pos} {m : EM D} {ms mk : EM (List D)}
theorem daj_pos (h : DA X RShr (e :: es) ms) (he : starEach (e :: es) X.env = (false, eval e X.env) :: starEach es X.env) (hpl : ∀ pos, (backTo pos (starEach es X.env)).any (·.1) = false) : DAJ X (e :: es) [] [] (mPos ms) := fun Z E hE =>
  ⟨_, aj_pos (h Z E hE) he hpl, fun σ H R ⟨Hs, env, C, P, sr, q, k⟩ => ⟨Hs, env, C, _, sr, q, fun ds env1 C1 vs Hs1 H1 q1 t1 s1 r1 => k _ _ _ _ _ _ _ _ q1 t1 s1 r1.rep .nil⟩⟩
/-- the values of keywords -/
def DK' (X : Cx) (kws : List Keyword) (m : EM (List D)) : Prop := ∀ Z E, DX X Z E → PK X kws (LA X.K RShr Z (m E))
theorem dk_nil : DK' X [] mNil := fun Z E hE => ⟨fun pos pins s σ H Q I ⟨Hs, env, C, P, sr, q, k⟩ => pk_nil.run pos pins s σ H Q I (k _ _ _ _ _ _ q Tr.refl sr .nil)⟩
theorem dk_cons {nm : Option Str} {kpos : Pos} (h : DE X RShr e m) (hs : DK' X kws ms) : DK' X (⟨nm, e, kpos⟩ :: kws) (mCons m ms) := fun Z E hE => by
  refine ⟨fun pos pins s σ H Q I ⟨Hs, env, C, P, sr, q, k⟩ => (pk_cons (h Z E hE) (hs Z E hE)).run pos pins s σ H Q I ?_⟩
  refine ⟨Hs, env, C, _, sr, q, fun d env1 C1 v Hs1 H1 q1 t1 s1 r1 => ?_⟩
  refine ⟨Hs1, env1, C1, _, s1, q1, fun ds env2 C2 vs Hs2 H2 q2 t2 s2 r2 => ?_⟩
  exact k _ _ _ _ Hs2 H2 q2 (t1.trans t2) s2 (.cons (r1.same t2.fr) r2)
theorem daj_kw (h : DA X RShr (e :: es) ms) (hk : DK' X kws mk) (hall : ∀ pos, (backToKw pos (keywordEach kws X.env)).all (·.1.isSome) = true) (hks : ∀ pos, (backToKw pos (keywordEach kws X.env)).filterMap (·.1) = ks)
    (he : starEach (e :: es) X.env = (false, eval e X.env) :: starEach es X.env) (hpl : ∀ pos, ((backTo pos (starEach (e :: es) X.env)).any (·.1) || (backToKw pos (keywordEach kws X.env)).any (·.1.isNone)) = false) : DAJ X (e :: es) kws ks (mPosK ms mk) := fun Z E hE =>
  ⟨_, aj_kw (h Z E hE) (hk Z E hE) hall hks he hpl, fun σ H R ⟨Hs, env, C, P, sr, q, k⟩ => ⟨Hs, env, C, _, sr, q, fun ds env1 C1 vs Hs1 H1 q1 t1 s1 r1 => ⟨Hs1, env1, C1, _, s1, q1, fun es env2 C2 zs Hs2 H2 q2 t2 s2 r2 =>
    k _ _ _ _ _ _ _ _ q2 (t1.trans t2) s2 (r1.rep.same t2.fr) r2.rep⟩⟩⟩
end
/-! ### the call -/
section
variable {X : Cx} {k : Nat} {f : Value} {ks : List Str} {spv : DSpV} {K : PySem.W.Frag} {Z : Z0} {σ : St} {Hs H : Hp} {env : DL.Env} {C : Cs}
theorem cal_run {pins : List (Addr × Obj)} {s : Shared} {Q : VK} {E : XK} {us ws : List Value} {vs zs : List V} (c : DCal X.prog X.w X.K X.mg X.base k f ks spv) (gd : Gd X.A) (hr : Room k X.A) (hx : PassesAt (L2.CX X.prog X.w) X σ E)
    (I : Inv X pins σ H s) (r : Vals vs us) (rz : Vals zs ws) (h : liftV X.K spv vs zs H Q E) : wpAny (model X.prog X.w) X.A (call f us (ks.zip ws)) (EP X pins σ Q) X.xe s := by
  refine wpAny_call (codeAny_mono (c.run X.A X.stack s H us ws vs zs Q E gd hr I.env0 r rz h) fun q s' z => ?_)
  cases q with
  | error e => exact hx pins H s e s' I z
  | ok fl => cases fl with
    | ret u => exact I.after z
    | next => exact z.elim
    | brk => exact z.elim
    | cont => exact z.elim
theorem liftV_call {E : EX} {ds es : List D} {vs zs : List V} {Q : VK} {P : Ret → Cs → Prop} (sr : SR K Z σ Hs H env C) (r : RepL K Hs ds vs) (rz : RepL K Hs es zs) (q : spv ds es C P fun x C2 => E x env C2)
    (kk : ∀ rt C' v Hs' H', P rt C' → SR K Z σ Hs' H' env C' → Tr Hs H C Hs' H' C' → RRet K (zOf Hs H C) Hs' H' C' rt v → Q v H') : liftV K spv vs zs H Q (WE (DXw K Z E) σ) :=
  ⟨Hs, C, ds, es, P, _, sr.fit, r, rz, q, fun rt C' v Hs' H' pr f b rr => let ⟨s, t⟩ := sr.call f b; kk rt C' v Hs' H' pr s t rr,
    fun x C' cls dx Hs' H' px f b rx => ⟨Hs', env, C', x, (sr.call f b).1, rx, px⟩⟩
end
/-- what stands under a global name and may be called so -/
structure NmV (X : Cx) (x : Str) (ks : List Str) (spv : DSpV) : Prop where
  ex : ∃ k f, DCal X.prog X.w X.K X.mg X.base k f ks spv ∧ Room k X.A ∧ X.mg x = some f ∧ PySem.W.keepIn X.K f = true
def mCallV (spv : DSpV) (ma : EM (List D × List D)) : EM D := fun E env C Q => ma E env C fun p env1 C1 => spv p.1 p.2 C1 (fun r C2 => Q r.tree env1 C2) fun x C2 => E x env1 C2
def mCallVF (spv : DSpV) (ma : EM (List D × List D)) : EM Cont := fun E env C Q => ma E env C fun p env1 C1 => spv p.1 p.2 C1 (fun r C2 => match r with
  | .frs c => Q c env1 C2
  | .shr _ => False) fun x C2 => E x env1 C2
section
variable {X : Cx} {x : Str} {ks : List Str} {spv : DSpV} {es : List Expr} {kws : List Keyword} {p pos : Pos} {ma : EM (List D × List D)}
theorem ret_frs {K : PySem.W.Frag} {Z : Z0} {σ : St} {Hs H Hs' H' : Hp} {env : DL.Env} {C C' : Cs} {c : Cont} {v : V} (sr : SR K Z σ Hs H env C) (rr : RRet K (zOf Hs H C) Hs' H' C' (.frs c) v) : RFr K Z σ Hs' H' env C' c v := by
  obtain ⟨p, o, rfl, e2, r1, n1, n2, n3⟩ := rr
  have hp : H p = none := n3
  refine ⟨p, o, rfl, e2, r1, n1, n2, sr.bas.zfree hp, fun i c' e z => ?_⟩
  obtain ⟨q, u, e1, e3, _⟩ := sr.slt.own i c' e
  rw [e1] at z
  cases z
  rw [hp] at e3
  cases e3
theorem d_callVF (c : NmV X x ks spv) (gd : Gd X.A) (hg : Gl X x) (ha : DAJ X es kws ks ma) (hdb : (x == ("__debug__" : Str)) = false) : DE X RFr (.Call (.Name x p) es kws pos) (mCallVF spv ma) := fun Z E hE => by
  obtain ⟨k, f, F, hr, hm, hk⟩ := c.ex
  obtain ⟨t, aj, ht⟩ := ha Z E hE
  refine ⟨fun pins s σ H Q I ⟨Hs, env, C, P, sr, q, kk⟩ => wpAny_Call_Name_kw (ld_glob I hg hm ?_ hdb)⟩
  refine aj.run pos pins s σ H f [] _ (fun vs zs H1 => liftV X.K spv vs zs H1 Q (WE (DXw X.K Z E) σ)) (keepOk_of hk) I (ht σ H _ ⟨Hs, env, C, _, sr, q, fun ds es env1 C1 vs zs Hs1 H1 q1 t1 s1 r1 r2 => ?_⟩) fun us ws s' vs zs H' I' r rz h => ?_
  · refine liftV_call s1 r1 r2 q1 fun rt C' v Hs' H' pr s' t' rr => ?_
    cases rt with
    | shr d => exact pr.elim
    | frs c => exact kk c _ _ _ _ _ pr (t1.trans t') s' (ret_frs s1 rr)
  · exact cal_run F gd hr (passAt hE σ) I' r rz h
end
end L2.DL
/-! EC: instances: attributes, methods, properties. -/
namespace L2.DL
open PySem PySem.Spec PyProof.Rows
/-! ### attributes as trees -/
def putFD (f : Str) (v : D) : List (Str × D) → List (Str × D)
  | [] => [(f, v)]
  | (g, x) :: r => if g = f then (g, v) :: r else (g, x) :: putFD f v r
section
variable {K : PySem.W.Frag} {Hs H : Hp}
theorem RepF.look {f : Str} : ∀ {fs : List (Str × D)} {ws : List (Str × V)}, RepF K Hs fs ws → (∀ d, fs.lookup f = some d → ∃ v, ws.lookup f = some v ∧ Rep K Hs d v) ∧ (fs.lookup f = none → ws.lookup f = none)
  | _, _, .nil => ⟨fun d h => (nomatch h), fun _ => rfl⟩
  | _, _, @RepF.cons _ _ k d v ds vs h r => by
    obtain ⟨i1, i2⟩ := RepF.look (f := f) r
    cases hb : f == k with
    | true =>
      refine ⟨fun d' h' => ?_, fun h' => ?_⟩
      · simp only [List.lookup, hb] at h' ⊢
        cases h'
        exact ⟨v, rfl, h⟩
      · simp only [List.lookup, hb] at h'
        cases h'
    | false =>
      refine ⟨fun d' h' => ?_, fun h' => ?_⟩
      · simp only [List.lookup, hb] at h' ⊢
        exact i1 d' h'
      · simp only [List.lookup, hb] at h' ⊢
        exact i2 h'
theorem RepF.put {f : Str} {d : D} {v : V} (q : Rep K Hs d v) : ∀ {fs : List (Str × D)} {ws : List (Str × V)}, RepF K Hs fs ws → RepF K Hs (putFD f d fs) (putF f v ws)
  | _, _, .nil => .cons q .nil
  | _, _, @RepF.cons _ _ k d' v' ds vs h r => by
    unfold putFD putF
    by_cases e : k = f
    · rw [if_pos e, if_pos e]; exact .cons q r
    · rw [if_neg e, if_neg e]; exact .cons h (RepF.put q r)
theorem RepF.length : ∀ {fs : List (Str × D)} {ws : List (Str × V)}, RepF K Hs fs ws → fs.length = ws.length
  | _, _, .nil => rfl
  | _, _, .cons _ r => by simp [RepF.length r]
end
/-- what of the text a class has: its attributes are no names of the class -/
structure Kls (K : PySem.W.Frag) (C : Addr) (fl : List Str) : Prop where
  cl : Cls K C
  na : ∀ f ∈ fl, NoAttr K C f
/-! ### o.f -/
def gFld (C : Addr) (f : Str) (d : D) (P : D → Prop) : Prop := match d with
  | .obj C' fs => C' = C ∧ ∃ x, fs.lookup f = some x ∧ P x
  | _ => False
section
variable {X : Cx} {o e : Expr} {es : List Expr} {kws : List Keyword} {ks fl : List Str} {f m : Str} {pos apos pos' : Pos} {C : Addr} {k : Nat} {spv : DSpV} {mo mv : EM D}
theorem d_fld (kl : Kls X.K C fl) (hf : fl.contains f = true) (h : DE X RPk o mo) (hb : attributeBase o f X.env (eval o X.env) = eval o X.env) : DE X RShr (.Attribute o f pos) (mUn (gFld C f) mo) := fun Z E hE => by
  refine ⟨fun pins s σ H Q I ⟨Hs, env, C0, P, sr, q, kk⟩ => (pe_fld (h Z E hE) hb).run pins s σ H Q I ?_⟩
  refine ⟨Hs, env, C0, _, sr, q, fun d env1 C1 v Hs1 H1 q1 t1 s1 r1 => ?_⟩
  have n := r1.now s1.fit
  generalize dr C1 d = x at n q1
  cases n with
  | obj e1 r =>
    obtain ⟨rfl, y, hl, p⟩ := q1
    obtain ⟨w, h1, h2⟩ := (RepF.look (f := f) r).1 y hl
    exact ⟨_, _, _, _, w, rfl, e1, kl.cl, kl.na f (by simpa using hf), h1, kk _ _ _ _ _ _ p t1 s1 h2⟩
  | _ => exact False.elim q1
/-! ### o.f = e: a shared thing; a new thing that may be written later -/
def StF (C : Addr) (f : Str) (o d : D) (P : DL.Env → Cs → Prop) (env : DL.Env) (C2 : Cs) : Prop := ∃ a fs, o = .cell a ∧ C2 a = some (.obj C fs) ∧ fs.length < 1000 ∧ P env (cput C2 a (.obj C (putFD f d fs)))
def sFldS (C : Addr) (f : Str) (mo mv : EM D) : SM := fun E dE env C0 => mv E env C0 fun d env1 C1 => mo E env1 C1 fun o env2 C2 => StF C f o d dE.nx env2 C2
theorem stf_run {K : PySem.W.Frag} {Z : Z0} {σ : St} {Hs H : Hp} {env : DL.Env} {C2 : Cs} {d od : D} {v w : V} {P : DL.Env → Cs → Prop} (kl : Kls K C fl) (hf : fl.contains f = true) (sr : SR K Z σ Hs H env C2) (ro : Rep K Hs od w) (rv : Rep K Hs d v) (q : StF C f od d P env C2) :
    ∃ a dx ws, w = .ref a ∧ H a = some (.ins C dx ws) ∧ Cls K C ∧ NoAttr K C f ∧ ws.length < 1000 ∧ ∃ C3, SR K Z σ Hs (upd H a (.ins C dx (putF f v ws))) env C3 ∧ P env C3 := by
  obtain ⟨a, fs, rfl, hc, hl, p⟩ := q
  cases ro
  obtain ⟨n, u, hu, dx, ws, rfl, rl⟩ := sr.fit.cel a _ hc
  exact ⟨a, dx, ws, rfl, hu, kl.cl, kl.na f (by simpa using hf), by rw [← rl.length]; exact hl, _, sr.wrC hc (cl' := .obj C (putFD f d fs)) ⟨dx, _, rfl, rl.put rv⟩, p⟩
theorem ds_fldS (kl : Kls X.K C fl) (hf : fl.contains f = true) (ho : DE X RShr o mo) (hv : DE X RShr e mv) (hs : swapsWith e (some (.Attribute o f pos')) pos.line X.env = pure false) : DS X (.Assign [.Attribute o f pos'] e pos) (sFldS C f mo mv) := fun Z E hE => ⟨fun pins s σ H D I ⟨Hs, env, C0, dE, sr, ok, q⟩ => by
  refine (ps_fld (ho Z E hE) (hv Z E hE) hs).run pins s σ H D I ?_
  refine ⟨Hs, env, C0, _, sr, q, fun d env1 C1 v Hs1 H1 q1 t1 s1 r1 => ?_⟩
  refine ⟨Hs1, env1, C1, _, s1, q1, fun od env2 C2 w Hs2 H2 q2 t2 s2 r2 => ?_⟩
  obtain ⟨a, dx, ws, rfl, hu, c, n, l, C3, s3, p⟩ := stf_run kl hf s2 r2 (r1.same t2.fr) q2
  exact ⟨a, C, dx, ws, rfl, hu, c, n, l, ok.1 _ _ _ _ _ s3 p⟩⟩
def cellOf : Cont → Cell
  | .lst xs => .lst xs
  | .dct kvs => .dct kvs
  | .obj C fs => .obj C fs
theorem cellOf_rep {K : PySem.W.Frag} {Hs : Hp} {c : Cont} {u : HO} (r : RepO K Hs c u) : RepC K Hs (cellOf c) u := by cases c <;> exact r
def sFldC (C : Addr) (f : Str) (mo : EM D) (mv : EM Cont) : SM := fun E dE env C0 => mv E env C0 fun c env1 C1 => ∀ b, C1 b = none → mo E env1 (cput C1 b (cellOf c)) fun o env2 C2 => StF C f o (.cell b) dE.nx env2 C2
/-! ### name = a new thing that may be shared and written: a cell -/
def sSetC (n : Nat) (m : EM Cont) : SM := fun E dE env C => m E env C fun c env1 C1 => ∀ a, C1 a = none → dE.nx (env1.set n (.shr (.cell a))) (cput C1 a (cellOf c))
theorem ds_setC {n : Nat} {te : Expr} {m : EM Cont} (h : DE X RFr e m) (hp : ∀ {t : TE}, PE X e t → PS X (.Assign [te] e pos) (tAsg t (gName n))) : DS X (.Assign [te] e pos) (sSetC n m) := fun Z E hE => ⟨fun pins s σ H D I ⟨Hs, env, C, dE, sr, ok, q⟩ =>
  (hp (h Z E hE)).run pins s σ H D I ⟨Hs, env, C, _, sr, q, fun c env1 C1 v Hs1 H1 q1 t1 s1 ⟨p, u, e1, e2, r1, n1, n2, n3, no⟩ => by
    subst e1
    exact ok.1 _ _ _ _ _ ((s1.mkCell e2 n1 n2 n3 (cellOf_rep r1) no).setS (.cell p)) (q1 p n2)⟩⟩
/-! ### o.m(..) -/
def IsO (C : Addr) (m : Str) (d : D) : Prop := ∃ fs, d = .obj C fs ∧ fs.lookup m = none
def mMeth (C : Addr) (m : Str) (spv : DSpV) (mo : EM D) (ma : EM (List D × List D)) : EM D := fun E env C0 Q => mo E env C0 fun d env1 C1 => IsO C m (dr C1 d) ∧ ma E env1 C1 fun p env2 C2 => spv (d :: p.1) p.2 C2 (fun r C3 => Q r.tree env2 C3) fun x C3 => E x env2 C3
def mMethF (C : Addr) (m : Str) (spv : DSpV) (mo : EM D) (ma : EM (List D × List D)) : EM Cont := fun E env C0 Q => mo E env C0 fun d env1 C1 => IsO C m (dr C1 d) ∧ ma E env1 C1 fun p env2 C2 => spv (d :: p.1) p.2 C2 (fun r C3 => match r with
  | .frs c => Q c env2 C3
  | .shr _ => False) fun x C3 => E x env2 C3
/-- a method with its promise -/
structure MeV (X : Cx) (C : Addr) (m : Str) (ks : List Str) (spv : DSpV) : Prop where
  ex : ∃ k g, DCal X.prog X.w X.K X.mg X.base k (.ref g) ks spv ∧ Room k X.A ∧ Cls X.K C ∧ Meth X.K C m g
/-! ### a property -/
structure PrV (X : Cx) (C : Addr) (f : Str) (spv : DSpV) : Prop where
  ex : ∃ k p g, DCal X.prog X.w X.K X.mg X.base k (.ref g) [] spv ∧ Room (k + 1) X.A ∧ Cls X.K C ∧ PropOf X.K C f p g
def mProp (C : Addr) (spv : DSpV) (mo : EM D) : EM D := fun E env C0 Q => mo E env C0 fun d env1 C1 => (∃ fs, dr C1 d = .obj C fs) ∧ spv [d] [] C1 (fun r C2 => Q r.tree env1 C2) fun _ _ => False
theorem prop_run {pins : List (Addr × Obj)} {σ : St} {H : Hp} {s : Shared} {Q : VK} {b : Bool} {a dx : Addr} {fs : List (Str × V)} (c : PrV X C f spv) (gd : Gd X.A) (I : Inv X pins σ H s) (ea : H a = some (.ins C dx fs)) (h : liftV X.K spv [.ref a] [] H Q fun _ _ _ => False) :
    wpAny (model X.prog X.w) X.A (getAttr (.ref a) f b) (EP X pins σ Q) X.xe s := by
  obtain ⟨k, p, g, F, hr, cl, hp⟩ := c.ex
  obtain ⟨mA, O, _, _, _, _⟩ := ins_get I.hok ea
  obtain ⟨od, J, _⟩ := O.look
  obtain ⟨rest, hrec⟩ := hp.rec_
  have I1 := I.tok (s.toks + 1)
  have hc : (PySem.W.clsIn X.K C).isSome = true := by
    obtain ⟨cd, hc, _⟩ := PySem.W.any_some cl.hd
    rw [hc]
    rfl
  refine PySem.W.get_bind I.kIn J (PySem.W.plainGet_of (cl.get f)).1 (PySem.W.findObj_data hc hp.at_ hp.get hp.tak) (PySem.W.plainGet_of (cl.get f)).2 (wpAny_call (PySem.W.prop_get (s := { s with toks := s.toks + 1 }) I.kIn hrec ?_))
  refine codeAny_mono (F.run X.A.in1 X.stack { s with toks := s.toks + 1 } H [.ref a] [] [.ref a] [] Q (fun _ _ _ => False) gd.in1 hr.in1 I1.env0.in1 (.cons rfl .nil) .nil h) fun r s' hq => ?_
  cases r with
  | error er =>
    obtain ⟨_, _, _, _, _, _, _, _, _, _, _, _, z⟩ := hq
    exact z.elim
  | ok fl' =>
    cases fl' with
    | ret u =>
      obtain ⟨v, H', I3, rv, q3⟩ := I1.after hq
      show wpAny _ _ (handedOut u) _ _ _
      rw [PySem.W.handedOut_of (handed_of rv)]
      exact wpAny_pure ⟨v, H', I3, rv, q3⟩
    | next => exact hq.elim
    | brk => exact hq.elim
    | cont => exact hq.elim
theorem d_prop (c : PrV X C f spv) (gd : Gd X.A) (ho : DE X RShr o mo) (hb : attributeBase o f X.env (eval o X.env) = eval o X.env) : DE X RShr (.Attribute o f pos) (mProp C spv mo) := fun Z E hE => by
  refine ⟨fun pins s σ H Q I ⟨Hs, env, C0, P, sr, q, kk⟩ => attr_of hb (thn ((ho Z E hE).run pins s σ H (fun x H1 => ∃ a dx ws, x = V.ref a ∧ H1 a = some (.ins C dx ws) ∧ liftV X.K spv [.ref a] [] H1 Q fun _ _ _ => False) I
    ⟨Hs, env, C0, _, sr, q, fun d env1 C1 v Hs1 H1 q1 t1 s1 r1 => ?_⟩) fun u s1 ⟨x, H1, I1, rx, a, dx, ws, ex, ea, h⟩ => ?_)⟩
  · obtain ⟨⟨fs, e⟩, q1⟩ := q1
    have n : RNow X.K Hs1 H1 (dr C1 d) v := RPk.now (Z := Z) (σ := σ) (env := env1) s1.fit (.inl r1)
    rw [e] at n
    cases n with
    | obj e1 rf =>
      refine ⟨_, _, _, rfl, e1, Hs1, C1, [d], [], _, _, s1.fit, .cons r1 .nil, .nil, q1, fun rt C' v Hs' H' pr f b rr => ?_, fun x C' cls dx Hs' H' px _ _ _ => px⟩
      obtain ⟨s', t'⟩ := s1.call f b
      obtain ⟨Hs2, s2, t2, r2⟩ := ret_shr s1 s' t' rr
      exact kk _ _ _ _ _ _ pr (t1.trans t2) s2 r2
  · subst ex
    obtain rfl : u = Value.ref a := rx
    exact prop_run c gd I1 ea h
end
end L2.DL
/-! ED: defs with a star parameter; operators of own classes; classmethods. -/
namespace L2.DL
open PySem PySem.Spec PyProof.Rows
/-! ### def f(a, .., *v) -/
/-! ### operators with a promise that may raise -/
structure OpE (X : Cx) (f : Value → Value → Sem Value) (g : EX → D → D → DL.Env → Cs → (D → DL.Env → Cs → Prop) → Prop) : Prop where
  run : ∀ (Z : Z0) (E : EX), DX X Z E → ∀ (pins : List (Addr × Obj)) (s : Shared) (σ : St) (Hs H : Hp) (env : DL.Env) (C : Cs) (d e : D) (x y : V) (v u : Value) (P : D → DL.Env → Cs → Prop) (Q : VK), Inv X pins σ H s → SR X.K Z σ Hs H env C → Rep X.K Hs d x → Rep X.K Hs e y → RelV x v → RelV y u → g E d e env C P →
    (∀ r env' C' z Hs' H', P r env' C' → Tr Hs H C Hs' H' C' → SR X.K Z σ Hs' H' env' C' → Rep X.K Hs' r z → Q z H') → wpAny (model X.prog X.w) X.A (f v u) (EP X pins σ Q) X.xe s
def mOpE (g : EX → D → D → DL.Env → Cs → (D → DL.Env → Cs → Prop) → Prop) (ma mb : EM D) : EM D := fun E env C Q => ma E env C fun d env1 C1 => mb E env1 C1 fun e env2 C2 => g E d e env2 C2 Q
section
variable {X : Cx} {a b : Expr} {pos : Pos} {ma mb : EM D} {g : EX → D → D → DL.Env → Cs → (D → DL.Env → Cs → Prop) → Prop}
theorem opE_run {f : Value → Value → Sem Value} (o : OpE X f g) (ha : DE X RShr a ma) (hb : DE X RShr b mb) {Z : Z0} {E : EX} (hE : DX X Z E) {pins : List (Addr × Obj)} {s : Shared} {σ : St} {H : Hp} {Q : VK} (I : Inv X pins σ H s) (h : LG X.K RShr Z (mOpE g ma mb E) σ H Q) :
    wpAny (model X.prog X.w) X.A (eval a X.env) (fun v s₁ => wpAny (model X.prog X.w) X.A (eval b X.env) (fun u s₂ => wpAny (model X.prog X.w) X.A (f v u) (EP X pins σ Q) X.xe s₂) X.xe s₁) X.xe s := by
  obtain ⟨Hs, env, C, P, sr, q, k⟩ := h
  refine binT (ha Z E hE) (hb Z E hE) (R := fun x y H2 => ∀ v u s2, Inv X pins σ H2 s2 → RelV x v → RelV y u → wpAny (model X.prog X.w) X.A (f v u) (EP X pins σ Q) X.xe s2) I ?_ fun v u s2 x y H2 I2 rx ry z => z v u s2 I2 rx ry
  refine ⟨Hs, env, C, _, sr, q, fun d env1 C1 x Hs1 H1 q1 t1 s1 r1 => ?_⟩
  refine ⟨Hs1, env1, C1, _, s1, q1, fun e env2 C2 y Hs2 H2 q2 t2 s2 r2 => ?_⟩
  intro v u st I2 rx ry
  exact o.run Z E hE pins st σ Hs2 H2 env2 C2 d e x y v u P Q I2 s2 (r1.same t2.fr) r2 rx ry q2 fun r env' C' z Hs' H' p t s rr => k _ _ _ _ _ _ p ((t1.trans t2).trans t) s rr
theorem d_cmpE {op : CmpOp} (o : OpE X (compareOp op) g) (ha : DE X RShr a ma) (hb : DE X RShr b mb) (hm : behindInMarks op b = false) : DE X RShr (.Compare a [op] [b] pos) (mOpE g ma mb) := fun Z E hE =>
  ⟨fun pins s σ H Q I h => wpAny_Compare1 (opE_run o ha hb hE I h) hm⟩
end
/-! ### a special method of an own class -/
structure OwnM (K : PySem.W.Frag) (C : Addr) (nm : Str) (g : Addr) : Prop where
  at_ : PySem.W.findIn K (.ref C) nm = some (some (.ref g))
  fn : PySem.W.isFn K (.ref g) = true
/-- its promise, at hand -/
structure OwV (X : Cx) (C : Addr) (nm : Str) (spv : DSpV) : Prop where
  ex : ∃ k g, DCal X.prog X.w X.K X.mg X.base k (.ref g) [] spv ∧ Room (k + 1) X.A ∧ OwnM X.K C nm g
def isOb (C : Addr) (d : D) : Prop := ∃ fs, d = .obj C fs
theorem isOb_now {K : PySem.W.Frag} {Z : Z0} {σ : St} {Hs H : Hp} {env : DL.Env} {C : Addr} {C0 : Cs} {d : D} {v : V} (sr : SR K Z σ Hs H env C0) (r : Rep K Hs d v) (h : isOb C (dr C0 d)) : ∃ a dx ws, v = .ref a ∧ H a = some (.ins C dx ws) := by
  obtain ⟨fs, e⟩ := h
  have n : RNow K Hs H (dr C0 d) v := RPk.now (Z := Z) (σ := σ) (env := env) sr.fit (.inl r)
  rw [e] at n
  cases n with
  | obj e1 rf => exact ⟨_, _, _, rfl, e1⟩
theorem inst_at {X : Cx} {pins : List (Addr × Obj)} {σ : St} {H : Hp} {s : Shared} {a C dx : Addr} {fs : List (Str × V)} (I : Inv X pins σ H s) (e : H a = some (.ins C dx fs)) : ∃ od, PySem.W.InstAt s.heap a (PySem.W.instObj C dx) C (some od) := by
  obtain ⟨mA, O, _⟩ := ins_get I.hok e
  obtain ⟨od, J, _⟩ := O.look
  exact ⟨od, J⟩
section
variable {X : Cx} {C : Addr} {spv : DSpV} {k : Nat} {f : Value}
/-- the promise's call among trees -/
theorem own_call {Z : Z0} {E : EX} {pins : List (Addr × Obj)} {s : Shared} {σ : St} {Hs H : Hp} {env : DL.Env} {C0 : Cs} {ds : List D} {vs : List V} {us : List Value} {P : D → DL.Env → Cs → Prop} {Q : VK} (F : DCal X.prog X.w X.K X.mg X.base k f [] spv) (gd : Gd X.A) (hr : Room k X.A) (hE : DX X Z E) (I : Inv X pins σ H s) (sr : SR X.K Z σ Hs H env C0) (r : RepL X.K Hs ds vs) (rv : Vals vs us)
    (q : spv ds [] C0 (fun r C1 => P r.tree env C1) fun x C1 => E x env C1) (kk : ∀ r env' C' z Hs' H', P r env' C' → Tr Hs H C0 Hs' H' C' → SR X.K Z σ Hs' H' env' C' → Rep X.K Hs' r z → Q z H') : wpAny (model X.prog X.w) X.A (call f us) (EP X pins σ Q) X.xe s :=
  cal_run (ks := []) (ws := []) (zs := []) F gd hr (passAt hE σ) I rv .nil (liftV_call sr r .nil q fun rt C' v Hs' H' pr s' t' rr => by
    obtain ⟨Hs2, s2, t2, r2⟩ := ret_shr sr s' t' rr
    exact kk _ _ _ _ _ _ pr t2 s2 r2)
/-! - x -/
def mNegO (C : Addr) (spv : DSpV) (ma : EM D) : EM D := fun E env C0 Q => ma E env C0 fun d env1 C1 => isOb C (dr C1 d) ∧ spv [d] [] C1 (fun r C2 => Q r.tree env1 C2) fun x C2 => E x env1 C2
end
end L2.DL
/-! EE: len, truth, isinstance of own instances; classmethods. -/
namespace L2.DL
open PySem PySem.Spec PyProof.Rows
section
variable {X : Cx} {C : Addr} {spv : DSpV}
/-! ### a special method that raises nothing, by values -/
/-! ### len(o) -/
def mLenO (C : Addr) (spv : DSpV) (m : EM (List D)) : EM D := fun E env C0 Q => m E env C0 fun ds env1 C1 => ∃ d, ds = [d] ∧ isOb C (dr C1 d) ∧ spv [d] [] C1 (fun r C2 => ∃ n : Nat, n ≤ sizeLine ∧ r = .shr (.int n) ∧ Q (.int n) env1 C2) fun _ _ => False
/-! ### the truth of o -/
def mTruO (C : Addr) (spv : DSpV) (m : EM D) : EM Bool := fun E env C0 Q => m E env C0 fun d env1 C1 => isOb C (dr C1 d) ∧ spv [d] [] C1 (fun r C2 => ∃ b, r = .shr (.bl b) ∧ Q b env1 C2) fun _ _ => False
end
/-! ### isinstance(x, C) -/
structure IsT (K : PySem.W.Frag) (C : Addr) : Prop where
  ic : PySem.W.isClsIn K C = true
  ty : PySem.W.typeIn K (.ref C) = some (.type "type")
  no : PySem.W.subIn K (.type "NoneType") (.ref C) = some false ∧ PySem.W.subIn K (.type "bool") (.ref C) = some false ∧ PySem.W.subIn K (.type "int") (.ref C) = some false ∧ PySem.W.subIn K (.type "str") (.ref C) = some false ∧
    PySem.W.subIn K (.type "tuple") (.ref C) = some false ∧ PySem.W.subIn K (.type "list") (.ref C) = some false ∧ PySem.W.subIn K (.type "dict") (.ref C) = some false
theorem IsT.one {K : PySem.W.Frag} {C : Addr} (c : IsT K C) {t : Value} {b : Bool} (h : PySem.W.subIn K t (.ref C) = some b) (ne : (t == Value.ref C) = false) : PySem.W.kitOne K t (.ref C) = some b := by
  unfold PySem.W.kitOne PySem.W.kitCls
  rw [ne, if_neg Bool.false_ne_true]
  have e : ((PySem.W.clsIn K C).isSome && PySem.W.typeIn K (.ref C) == some (.type "type")) = true := by
    rw [c.ty, show (PySem.W.clsIn K C).isSome = true from c.ic]
    rfl
  show (if ((PySem.W.clsIn K C).isSome && PySem.W.typeIn K (.ref C) == some (.type "type")) = true then PySem.W.subIn K t (.ref C) else none) = some b
  rw [if_pos e]
  exact h
theorem IsT.plain {K : PySem.W.Frag} {C : Addr} (c : IsT K C) {d : D} {n : String} (h : tyD d = some n) : PySem.W.kitOne K (.type n) (.ref C) = some false := by
  obtain ⟨h1, h2, h3, h4, h5, h6, h7⟩ := c.no
  cases d <;> first | (cases h; done) | (cases h; first | exact c.one h1 rfl | exact c.one h2 rfl | exact c.one h3 rfl | exact c.one h4 rfl | exact c.one h5 rfl | exact c.one h6 rfl | exact c.one h7 rfl)
end L2.DL
/-! EEb: bool(o) of an own instance. -/
namespace L2.DL
open PySem PySem.Spec PyProof.Rows
section
variable {X : Cx} {C : Addr} {spv : DSpV}
def mBoolO (C : Addr) (spv : DSpV) (m : EM (List D)) : EM D := fun E env C0 Q => m E env C0 fun ds env1 C1 => ∃ d, ds = [d] ∧ isOb C (dr C1 d) ∧ spv [d] [] C1 (fun r C2 => ∃ b, r = .shr (.bl b) ∧ Q (.bl b) env1 C2) fun _ _ => False
end
end L2.DL
/-! EF: own exceptions: made, raised, caught, their fields read. -/
namespace L2.DL
open PySem PySem.Spec PyProof.Rows
section
variable {X : Cx} {e : Expr} {es : List Expr} {pos p p1 p2 : Pos} {x : Str} {ta : TA}
/-- B.__init__(self, ..), B an own class over ValueError that has none of its own -/
structure BaseT (K : PySem.W.Frag) (B : Addr) (mc : Value) : Prop where
  rd : PySem.W.readsIn K B mc = true
  ga : PySem.W.specialIn K (.ref B) "__getattribute__" = some (some (.builtin "type.__getattribute__"))
  at_ : PySem.W.findCls K (.ref B) mc "__init__" = some (.val (.builtin "ValueError.__init__"))
theorem pe_ceinit {B : Addr} {mc : Value} {pl : Sem Bool} (hg : Gl X x) (hm : X.mg x = some (.ref B)) (hd : (x == ("__debug__" : Str)) = false) (bt : BaseT X.K B mc) (ha : PA X (e :: es) ta)
    (hc : eval (.Call (.Attribute (.Name x p1) "__init__" p2) (e :: es) [] pos) X.env = (do
      let ov ← eval (.Name x p1) X.env
      standAt p2.atName
      let (f, first) ← holding [ov] (getMethod ov "__init__" pl)
      callWith pos f first (backTo pos (starEach (e :: es) X.env)) (backToKw pos (keywordEach [] X.env))))
    (he : starEach (e :: es) X.env = (false, eval e X.env) :: starEach es X.env) (hpl : (backTo pos (starEach es X.env)).any (·.1) = false) :
    PE X (.Call (.Attribute (.Name x p1) "__init__" p2) (e :: es) [] pos) (tVeI X.K ta) := by
  refine ⟨fun pins s σ H Q I h => PySem.W.methodCall_KW (ld_glob I hg hm ?_ hd) hc⟩
  refine PySem.W.method_cls I.kIn bt.ga (PySem.W.cls_value I.kIn bt.rd bt.at_ (by decide +kernel) ?_)
  show wpAny _ _ (callWith pos (Value.builtin "ValueError.__init__") [] (backTo pos (starEach (e :: es) X.env)) (backToKw pos (keywordEach [] X.env))) _ _ _
  refine PyProof.Rows.callWith_method1 (thn (ha.run pos pins _ σ H _ (I.tok _) h) fun us s1 hh => ?_) he hpl
  obtain ⟨vs, H1, I1, r1, a, C, ws, ev, hl, T, ea, q⟩ := hh
  subst ev
  cases r1 with
  | @cons _ u0 _ ur ra rw' =>
    obtain rfl : u0 = Value.ref a := ra
    have hlen : ur.length ≤ sizeLine := by have := rw'.length; rw [sizeLine_eq]; omega
    exact oinit_ok T I1 ea hlen fun s' J => ⟨.non, H1, J, rfl, q⟩
end
/-! ### an own exception class: its attribute f -/
structure XcT (K : PySem.W.Frag) (C fI : Addr) (f : Str) : Prop where
  oex : OexC K C
  xf : XfC K C
  no : PySem.W.findIn K (.ref C) f = some none
  ini : PySem.W.findIn K (.ref C) "__init__" = some (some (.ref fI))
  tI : PySem.W.typeIn K (.ref fI) = some (.type "function")
def spXc (C : Addr) (f : Str) : Sp := fun vs H Q _ => ∃ a v, vs = [.ref a, v] ∧ H a = some (exo a C none) ∧ ∀ dx, H dx = none → dx ≠ a → Q .non (upd (upd H dx (exd dx [(f, v)])) a (exo a C (some dx)))
/-- what raise C(e) wants -/
structure RaV (X : Cx) (x : Str) (C : Addr) (f : Str) : Prop where
  ex : ∃ k fI fd ps, XcT X.K C fI f ∧ FnOk X.prog X.w X.K X.mg X.base CX0 k fI fd ps (spXc C f) ∧ Room (k + 1) X.A ∧ Binds X.K fd ps [] ∧ X.mg x = some (.ref C)
def sRaise (C : Addr) (f : Str) (m : EM (List D)) : SM := fun E dE env C0 => m E env C0 fun ds env1 C1 => ∃ d, ds = [d] ∧ E (.own C [(f, d)]) env1 C1
section
variable {X : Cx} {e : Expr} {pos p pos' : Pos} {x f : Str} {C : Addr}
theorem upd_swap {H : Hp} {a dx : Addr} {o u w : HO} {y : HO} (ha : H a = none) (hne : dx ≠ a) : upd (del (upd (upd (upd H a o) dx u) a w) a) dx y = upd H dx y := by
  funext b
  by_cases h1 : b = dx
  · rw [h1, upd_same, upd_same]
  · rw [upd_ne h1, upd_ne h1]
    by_cases h2 : b = a
    · rw [h2, del_same, ha]
    · rw [del_ne h2, upd_ne h2, upd_ne h1, upd_ne h2]
theorem ds_raise {ms : EM (List D)} (r : RaV X x C f) (hc : X.calm = true) (hg : Gl X x) (hdb : (x == ("__debug__" : Str)) = false) (ha : DA X RShr [e] ms) (he : starEach [e] X.env = [(false, eval e X.env)]) : DS X (.Raise (some (.Call (.Name x p) [e] [] pos')) none pos) (sRaise C f ms) := fun Z E hE => by
  obtain ⟨k, fI, fd, ps, xt, F, hr, hb, hm⟩ := r.ex
  refine ⟨fun pins s σ H D I ⟨Hs, env, C0, dE, sr, ok, q⟩ => (ps_raise hc hE (pmk_oex xt.oex xt.ini xt.tI F hr hb .nil pass0 hg hm (ha Z E hE) hdb he rfl)).run pins s σ H D I ?_⟩
  refine ⟨Hs, env, C0, _, sr, q, fun ds env1 C1 vs Hs1 H1 q1 t1 s1 r1 => ?_⟩
  obtain ⟨d, rfl, q1⟩ := q1
  have rr := r1.rep
  cases rr with
  | @cons _ v _ _ r rn =>
    cases rn
    refine ⟨by simp, fun a na => ⟨a, v, rfl, upd_same, fun dx hd hne => ?_⟩⟩
    have hd1 : H1 dx = none := by rw [upd_ne hne] at hd; exact hd
    refine ⟨rfl, dx, _, upd_same, by rw [upd_ne hne, upd_same], hd1, ?_⟩
    rw [upd_swap na hne]
    have su := same_upd (o := .xd [(f, v)]) (s1.fit.nothing hd1).1
    exact ⟨_, env1, C1, .own C [(f, d)], s1.lay hd1 _, ⟨rfl, dx, [(f, v)], rfl, upd_same, .cons (r.same su) .nil⟩, q1⟩
/-! ### try: .. except x as n: .. -/
/-- a slot is emptied -/
theorem SR.setN {K : PySem.W.Frag} {Z : Z0} {σ : St} {Hs H : Hp} {env : DL.Env} {C : Cs} {i : Nat} (r : SR K Z σ Hs H env C) : SR K Z (σ.set i none) Hs H (env.set i .non) C := by
  have get : ∀ {j : Nat} {x : Slot}, (env.set i .non)[j]? = some x → x ≠ .non → j ≠ i ∧ env[j]? = some x := fun {j x} e ne => by
    by_cases hj : i = j
    · subst hj
      have hl : i < env.length := by
        have := (List.getElem?_eq_some_iff.mp e).1
        simpa using this
      rw [List.getElem?_set_self hl] at e
      cases e
      exact absurd rfl ne
    · rw [List.getElem?_set_ne hj] at e
      exact ⟨Ne.symm hj, e⟩
  refine ⟨r.fit, r.bas, by rw [List.length_set, List.length_set]; exact r.slt.len, fun j d e => ?_, fun j c e => ?_, fun j k c c' p ne e g => ?_⟩
  · obtain ⟨hj, e⟩ := get e (by intro z; cases z)
    rw [List.getElem?_set_ne (Ne.symm hj)]
    exact r.slt.shr j d e
  · obtain ⟨hj, e⟩ := get e (by intro z; cases z)
    rw [List.getElem?_set_ne (Ne.symm hj)]
    exact r.slt.own j c e
  · obtain ⟨hj, e⟩ := get e (by intro z; cases z)
    obtain ⟨hk, g⟩ := get g (by intro z; cases z)
    rw [List.getElem?_set_ne (Ne.symm hj), List.getElem?_set_ne (Ne.symm hk)]
    exact r.slt.sep j k c c' p ne e g
/-- the ends of a suite whose name i goes -/
@[reducible] def DEnds.gone (dE : DEnds) (i : Nat) : DEnds := { nx := fun env C => dE.nx (env.set i .non) C, rt := dE.rt, bk := fun env C => dE.bk (env.set i .non) C, ct := fun env C => dE.ct (env.set i .non) C }
def CatchX (yes no : List Addr) (i : Nat) (ms : Addr → Value → Option Addr → SM) (E : EX) (dE : DEnds) (x : XD) (env : DL.Env) (C : Cs) : Prop := match x with
  | .own B fs => (B ∈ yes ∧ ∀ a dd, C a = none → ms a (.ref B) (some dd) E0 (dE.gone i) (env.set i (.shr (.exc a B dd fs))) C) ∨ (B ∈ no ∧ E (.own B fs) env C)
  | .blt _ => False
def sTryAs (yes no : List Addr) (i : Nat) (mb : SM) (ms : Addr → Value → Option Addr → SM) : SM := fun E dE env C => mb (CatchX yes no i ms E dE) dE env C
theorem ds_tryAs {n : Str} {c : Addr} {yes no : List Addr} {i : Nat} {body suite : List Stmt} {b₀ : Stmt} {np : Pos} {mb : SM} {ms : Addr → Value → Option Addr → SM} (hs : X.stack = X.env :: X.outer) (hf : X.env.frame = some X.env.locals) (hN : X.N.Nodup) (hi : X.N[i]? = some n) (hln : X.env.kindOf n = some .local) (hc : Names X x (.ref c))
    (hy : ∀ B ∈ yes, PySem.W.exmOne X.K (.ref B) (.ref c) = some true) (hno : ∀ B ∈ no, PySem.W.exmOne X.K (.ref B) (.ref c) = some false)
    (hb : ∀ (pn : List (Addr × Obj)) (xe : Value → Shared → Prop), PassesOwn (model X.prog X.w) X.A X.env xe → DSs (X.tr pn xe) body mb)
    (hsu : ∀ (a : Addr) (oe : Obj) (cls : Value) (d : Option Addr) (pn : List (Addr × Obj)), Zc cls d oe → (∃ vs, oe.data = .fields vs) → DSs (X.suite a ((a, oe) :: pn)) (b₀ :: suite) (ms a cls d)) :
    DS X (.Try body [.ExceptHandler (some (.Name x np)) (some n) (b₀ :: suite) pos'] [] [] pos) (sTryAs yes no i mb ms) := fun Z E hE => by
  refine ⟨fun pins s σ H D I ⟨Hs, env, C, dE, sr, ok, q⟩ => (ps_try_as (tb := fun W D σ H => ∃ E', (∀ cls d σ H, DXw X.K Z E' cls d σ H → W cls d σ H) ∧ LS X.K Z (mb E') D σ H) (ts := fun a cls d D σ H => LS X.K Z (ms a cls d E0) D σ H) hs hf hN hi hln hc hE
    (fun W pn xe tk po => ⟨fun pins s σ H D I ⟨E', le, q⟩ => (hb pn xe po Z E' (Takes.imp tk le)).run pins s σ H D I q⟩) (fun a oe cls d pn hz hf => hsu a oe cls d pn hz hf Z E0 dx0)).run pins s σ H D I ?_⟩
  refine ⟨CatchX yes no i ms E dE, fun cls d σ1 H1 ⟨Hs1, env1, C1, xv, s1, rx, cx⟩ => ?_, Hs, env, C, dE, sr, ok, q⟩
  cases xv with
  | blt _ => exact cx.elim
  | own B fs =>
    obtain ⟨rfl, dd, ws, rfl, hd, rf⟩ := rx
    rcases cx with ⟨hB, cx⟩ | ⟨hB, cx⟩
    · refine ⟨true, hy B hB, fun _ a ha => ?_, fun z => Bool.noConfusion z⟩
      refine ⟨Hs1, _, C1, dE.gone i, s1.setS (.exc hd rf), ⟨fun σ' Hs' H' env' C' r p => ok.1 _ _ _ _ _ r.setN p, ok.2.1, fun σ' Hs' H' env' C' r p => ok.2.2.1 _ _ _ _ _ r.setN p, fun σ' Hs' H' env' C' r p => ok.2.2.2 _ _ _ _ _ r.setN p⟩, cx a dd (s1.fit.nothing ha).2⟩
    · exact ⟨false, hno B hB, fun z => Bool.noConfusion z, fun _ => ⟨Hs1, env1, C1, .own B fs, s1, ⟨rfl, dd, ws, rfl, hd, rf⟩, cx⟩⟩
def CatchO (yes no : List Addr) (ms : SM) (E : EX) (dE : DEnds) (x : XD) (env : DL.Env) (C : Cs) : Prop := match x with
  | .own B fs => (B ∈ yes ∧ ms E0 dE env C) ∨ (B ∈ no ∧ E (.own B fs) env C)
  | .blt _ => False
def sTryO (yes no : List Addr) (mb : SM) (ms : SM) : SM := fun E dE env C => mb (CatchO yes no ms E dE) dE env C
/-! ### n.f in the suite -/
def mXf (i : Nat) (f : Str) (yes : List Addr) (a : Addr) (cls : Value) (d : Option Addr) : EM D := fun E env C Q => ∃ B dd fs y, env[i]? = some (.shr (.exc a B dd fs)) ∧ B ∈ yes ∧ cls = .ref B ∧ d = some dd ∧ fs.lookup f = some y ∧ Q y env C
theorem d_xf {i : Nat} {yes : List Addr} {a : Addr} {oe : Obj} {cls : Value} {d : Option Addr} {pn : List (Addr × Obj)} (hx : ∀ B ∈ yes, XfC X.K B ∧ PySem.W.findIn X.K (.ref B) f = some none) (hz : Zc cls d oe) (hf : ∃ vs, oe.data = .fields vs) (he : PE (X.suite a ((a, oe) :: pn)) e (tVar i)) (hb : attributeBase e f X.env (eval e X.env) = eval e X.env) :
    DE (X.suite a ((a, oe) :: pn)) RShr (.Attribute e f pos) (mXf i f yes a cls d) := fun Z E hE => by
  refine ⟨fun pins s σ H Q I ⟨Hs, env, C, P, sr, q, k⟩ => ?_⟩
  obtain ⟨B, dd, fs, y, e0, hB, rfl, rfl, hl, q⟩ := q
  obtain ⟨xf, no⟩ := hx B hB
  refine (pe_xf xf no hz hf he hb).run pins s σ H Q I ?_
  obtain ⟨v, e1, rv⟩ := sr.slt.shr i _ e0
  cases rv with
  | exc hd rf =>
    obtain ⟨w, h1, h2⟩ := (RepF.look (f := f) rf).1 y hl
    exact ⟨_, e1, rfl, rfl, dd, _, w, rfl, sr.fit.sub _ _ hd, h1, k _ _ _ w Hs H q Tr.refl sr h2⟩
end
end L2.DL
/-! EG: classmethods of a class named by the text; calls of a local that holds a class; instances called. -/
namespace L2.DL
open PySem PySem.Spec PyProof.Rows
structure CmV (X : Cx) (C : Addr) (m : Str) (ks : List Str) (spv : DSpV) : Prop where
  ex : ∃ k g p mc, DCal X.prog X.w X.K X.mg X.base k (.ref g) ks spv ∧ Room k X.A ∧ ClX.CRead X.K C mc ∧ ClX.CMet X.K C mc m p g
def mCm (C : Addr) (spv : DSpV) (ma : EM (List D × List D)) : EM D := fun E env C0 Q => ma E env C0 fun p env1 C1 => spv (.cell C :: p.1) p.2 C1 (fun r C2 => Q r.tree env1 C2) fun x C2 => E x env1 C2
section
variable {X : Cx} {C : Addr} {m x : Str} {ks : List Str} {spv : DSpV} {es : List Expr} {kws : List Keyword} {p p1 pos apos : Pos} {ma : EM (List D × List D)}
/-! ### name(..), a local that holds the class at C -/
structure ClV (X : Cx) (C : Addr) (ks : List Str) (spv : DSpV) : Prop where
  ex : ∃ k, DCal X.prog X.w X.K X.mg X.base k (.ref C) ks spv ∧ Room k X.A ∧ PySem.W.keepIn X.K (.ref C) = true
def mCallL (i : Nat) (C : Addr) (spv : DSpV) (ma : EM (List D × List D)) : EM D := fun E env C0 Q => env[i]? = some (.shr (.cell C)) ∧ ma E env C0 fun p env1 C1 => spv p.1 p.2 C1 (fun r C2 => Q r.tree env1 C2) fun x C2 => E x env1 C2
def mCallLF (i : Nat) (C : Addr) (spv : DSpV) (ma : EM (List D × List D)) : EM Cont := fun E env C0 Q => env[i]? = some (.shr (.cell C)) ∧ ma E env C0 fun p env1 C1 => spv p.1 p.2 C1 (fun r C2 => match r with
  | .frs c => Q c env1 C2
  | .shr _ => False) fun x C2 => E x env1 C2
/-! ### o(..), o an own instance in a local -/
structure CoV (X : Cx) (C : Addr) (spv : DSpV) : Prop where
  ex : ∃ k g, DCal X.prog X.w X.K X.mg X.base k (.ref g) [] spv ∧ Room k X.A ∧ StX.CallO X.K C g
def mCallI (C : Addr) (spv : DSpV) (mo : EM D) (ms : EM (List D)) : EM D := fun E env C0 Q => mo E env C0 fun d env1 C1 => isOb C (dr C1 d) ∧ ms E env1 C1 fun ds env2 C2 => isOb C (dr C2 d) ∧ spv (d :: ds) [] C2 (fun r C3 => Q r.tree env2 C3) fun x C3 => E x env2 C3
theorem d_callI {e fe : Expr} {mo : EM D} {ms : EM (List D)} (c : CoV X C spv) (gd : Gd X.A) (hn : DE X RShr fe mo) (ha : DA X RShr (e :: es) ms)
    (ht : eval (.Call fe (e :: es) [] pos) X.env = (do callWith pos (← eval fe X.env) [] (backTo pos (starEach (e :: es) X.env)) (backToKw pos (keywordEach [] X.env))))
    (he : starEach (e :: es) X.env = (false, eval e X.env) :: starEach es X.env) (hpl : (backTo pos (starEach es X.env)).any (·.1) = false) : DE X RShr (.Call fe (e :: es) [] pos) (mCallI C spv mo ms) := fun Z E hE => by
  obtain ⟨k, g, F, hr, co⟩ := c.ex
  refine ⟨fun pins s σ H Q I ⟨Hs, env, C0, P, sr, q, kk⟩ => Call_ (Q := EP X pins σ Q) (thn ((hn Z E hE).run pins s σ H (fun x H1 => ∃ a, x = V.ref a ∧ LA X.K RShr Z (ms E) σ H1 fun vs H2 => (∃ dx fs, H2 a = some (.ins C dx fs)) ∧ liftV X.K spv (.ref a :: vs) [] H2 Q (WE (DXw X.K Z E) σ)) I ⟨Hs, env, C0, _, sr, q, fun d env1 C1 v Hs1 H1 q1 t1 s1 r1 => ?_⟩) fun u s1 ⟨x, H1, I1, rx, a, ex, h1⟩ => ?_) ht⟩
  · obtain ⟨h1, q1⟩ := q1
    obtain ⟨a, dx, ws, rfl, ea⟩ := isOb_now s1 r1 h1
    refine ⟨a, rfl, Hs1, env1, C1, _, s1, q1, fun ds env2 C2 vs Hs2 H2 q2 t2 s2 r2 => ?_⟩
    obtain ⟨h2, q2⟩ := q2
    have r1' := r1.same t2.fr
    obtain ⟨a', dx', ws', ev, ea'⟩ := isOb_now s2 r1' h2
    cases ev
    refine ⟨⟨dx', ws', ea'⟩, liftV_call s2 (.cons r1' r2.rep) .nil q2 fun rt C' v Hs' H' pr s' t' rr => ?_⟩
    obtain ⟨Hs3, s3, t3, r3⟩ := ret_shr s2 s' t' rr
    exact kk _ _ _ _ _ _ pr ((t1.trans t2).trans t3) s3 r3
  · subst ex
    obtain rfl : u = Value.ref a := rx
    refine StX.callO_with (thn ((ha Z E hE).run pos pins s1 σ H1 _ I1 h1) fun us s2 ⟨vs, H2, I2, r, ⟨dx, fs, ea⟩, h⟩ => ?_) he hpl
    obtain ⟨od, J⟩ := inst_at I2 ea
    refine ⟨⟨C, _, _, J, rfl⟩, wpAny_call (PySem.W.kco_code I2.kIn J rfl co.at_ co.fn co.fi ?_)⟩
    refine codeAny_mono (F.run X.A X.stack s2 H2 (.ref a :: us) [] (.ref a :: vs) [] Q _ gd hr I2.env0 (.cons rfl r) .nil h) fun q s3 z => ?_
    cases q with
    | error e => exact passAt hE σ _ H2 s2 e s3 I2 z
    | ok fl => cases fl with
      | ret u => exact I2.after z
      | next => exact z.elim
      | brk => exact z.elim
      | cont => exact z.elim
end
end L2.DL
/-! EH: what is at hand in a body; empty sequences compared; tuple * 1; an exception's __init__. -/
namespace L2.DL
open PySem PySem.Spec PyProof.Rows
/-! ### xs == (), xs == [] -/
def gEqN (neg : Bool) (d e : D) (P : D → Prop) : Prop := match d, e with
  | .tup xs, .tup [] => P (.bl (if neg then !xs.isEmpty else xs.isEmpty))
  | .lst xs, .lst [] => P (.bl (if neg then !xs.isEmpty else xs.isEmpty))
  | _, _ => False
def rEqN (neg : Bool) (K : PySem.W.Frag) : R2 := fun x y H Q => ∃ a b xs, x = .ref a ∧ y = .ref b ∧ ((SqT K H a xs ∧ SqT K H b []) ∨ (SqL K H a xs ∧ SqL K H b [])) ∧ Q (.bl (if neg then !xs.isEmpty else xs.isEmpty)) H
section
variable {X : Cx}
theorem vals_nil {us : List Value} (r : Vals [] us) : us = [] := by cases r; rfl
theorem plainL_is {h : Heap} {a : Addr} {xs : Array Value} (p : PlainL h a xs) : h.IsList a xs := by
  obtain ⟨o, n, e, hc, hd, hs⟩ := p
  exact ⟨o, e, hc, n, by first | exact hs | exact hd | exact hs.2 | exact hs.1⟩
theorem op_eqN (hu : X.A.units < cLine) : OpR X (compareOp .Eq) (rEqN false X.K) := by
  intro pins s σ H x y v u Q I rx ry h
  obtain ⟨a, b, xs, rfl, rfl, h, q⟩ := h
  obtain rfl : v = Value.ref a := rx
  obtain rfl : u = Value.ref b := ry
  rcases h with ⟨h1, h2⟩ | ⟨h1, h2⟩
  · obtain ⟨i1, r1, t1, _⟩ := I.tuple h1
    obtain ⟨i2, r2, t2, _⟩ := I.tuple h2
    obtain rfl := vals_nil r2
    refine PySem.SeqAt.eq_tupleAt (e := fun _ => true) t1 t2 hu (fun j _ z => absurd z (by simp)) ⟨.bl _, H, I, ?_, q⟩
    have e := r1.length
    cases xs <;> cases i1 <;> first | rfl | (simp at e; done)
  · obtain ⟨i1, r1, t1, _⟩ := I.list h1
    obtain ⟨i2, r2, t2, _⟩ := I.list h2
    obtain rfl := vals_nil r2
    have e := r1.length
    cases xs with
    | nil =>
      cases i1 with
      | nil => exact PySem.SeqAt.eq_listAt (e := fun _ => true) (plainL_is t1) (plainL_is t2) rfl hu (fun j z _ => absurd z (by simp)) ⟨.bl _, H, I, rfl, q⟩
      | cons _ _ => simp at e
    | cons _ _ =>
      cases i1 with
      | nil => simp at e
      | cons _ _ => exact PySem.SeqAt.eq_list_lengthsAt (plainL_is t1) (plainL_is t2) (by simp) hu ⟨.bl _, H, I, rfl, q⟩
theorem op_neN (hu : X.A.units < cLine) : OpR X (compareOp .NotEq) (rEqN true X.K) := by
  intro pins s σ H x y v u Q I rx ry h
  obtain ⟨a, b, xs, rfl, rfl, h, q⟩ := h
  obtain rfl : v = Value.ref a := rx
  obtain rfl : u = Value.ref b := ry
  rcases h with ⟨h1, h2⟩ | ⟨h1, h2⟩
  · obtain ⟨i1, r1, t1, _⟩ := I.tuple h1
    obtain ⟨i2, r2, t2, _⟩ := I.tuple h2
    obtain rfl := vals_nil r2
    refine PySem.SeqAt.RcNeAt.tuples (e := fun _ => true) t1 t2 hu (fun j _ z => absurd z (by simp)) _ _ _ _ ⟨.bl _, H, I, ?_, q⟩
    have e := r1.length
    cases xs <;> cases i1 <;> first | rfl | (simp at e; done)
  · obtain ⟨i1, r1, t1, _⟩ := I.list h1
    obtain ⟨i2, r2, t2, _⟩ := I.list h2
    obtain rfl := vals_nil r2
    have e := r1.length
    cases xs with
    | nil =>
      cases i1 with
      | nil => exact PySem.SeqAt.RcNeAt.lists (e := fun _ => true) (plainL_is t1) (plainL_is t2) rfl hu (fun j z _ => absurd z (by simp)) _ _ _ _ ⟨.bl _, H, I, rfl, q⟩
      | cons _ _ => simp at e
    | cons _ _ =>
      cases i1 with
      | nil => simp at e
      | cons _ _ => exact PySem.SeqAt.RcNeAt.lists_lengths (plainL_is t1) (plainL_is t2) (by simp) hu _ _ _ _ ⟨.bl _, H, I, rfl, q⟩
theorem opd_eqN' {neg : Bool} {f : Value → Value → Sem Value} (o : OpR X f (rEqN neg X.K)) : OpD X f RShr (gEqN neg) := by
  refine ⟨_, o, ?_⟩
  intro Z σ Hs H env C d e v u P Q sr n n' g k
  cases n with
  | tup h r =>
    cases n' with
    | tup h' r' =>
      rename_i xs a vs ys b ws
      cases ys with
      | nil =>
        cases r'
        refine ⟨_, _, vs, rfl, rfl, .inl ⟨TupA.sq sr.fit.sub h, TupA.sq sr.fit.sub h'⟩, ?_⟩
        have e : vs.isEmpty = xs.isEmpty := by
          have := r.length
          cases xs <;> cases vs <;> first | rfl | (simp at this; done)
        rw [e]
        exact k _ _ Hs H g Tr.refl sr (.bl _)
      | cons _ _ => exact False.elim g
    | _ => exact False.elim g
  | lst h r =>
    cases n' with
    | lst h' r' =>
      rename_i xs a vs ys b ws
      cases ys with
      | nil =>
        cases r'
        refine ⟨_, _, vs, rfl, rfl, .inr ⟨SqL.of h, SqL.of h'⟩, ?_⟩
        have e : vs.isEmpty = xs.isEmpty := by
          have := r.length
          cases xs <;> cases vs <;> first | rfl | (simp at this; done)
        rw [e]
        exact k _ _ Hs H g Tr.refl sr (.bl _)
      | cons _ _ => exact False.elim g
    | _ => exact False.elim g
  | _ => exact False.elim g
theorem opd_eqN (hu : X.A.units < cLine) : OpD X (compareOp .Eq) RShr (gEqN false) := opd_eqN' (op_eqN hu)
theorem opd_neN (hu : X.A.units < cLine) : OpD X (compareOp .NotEq) RShr (gEqN true) := opd_eqN' (op_neN hu)
end
/-! ### tuple * n -/
/-! ### promises by values, made weaker -/
def spV (n : Nat) (sp : DSp) : DSpV := fun ds _ C P PX => ds.length = n ∧ sp ds C P PX
section
variable {P : Program} {w : World} {K : PySem.W.Frag} {mg : Str → Option Value} {base : Heap} {k n : Nat} {f C : Addr} {v : Value} {fd : FuncData} {ps ks : List Str} {sp : DSp} {spv spv' : DSpV}
theorem dcal_pos (F : DFn P w K mg base k f fd ps sp) (b : Binds K fd ps []) : DCal P w K mg base k (.ref f) [] (spV ps.length sp) := by
  refine ⟨fun A fr s H us ws vs zs Q E gd room e0 r rz ⟨Hs, C, ds, es, PP, PX, f1, r1, r2, ⟨hn, q⟩, k1, k2⟩ => ?_⟩
  have l1 := r1.length
  have l3 := r.length
  have hb := b s us (e0.mod.kin.keeps fun b o e => (e0.bs b o e).1) (by rw [List.append_nil]; omega)
  rw [List.append_nil] at hb
  have e : (([] : List Str).zip ws) = [] := rfl
  rw [e]
  exact F.run A fr s H ⟨us, []⟩ us vs Q E gd room e0 hb r ⟨Hs, C, ds, PP, PX, f1, r1, q, k1, k2⟩
end
/-! ### at hand in a body -/
section
variable (P : Program) (w : World) (K : PySem.W.Frag) (mg : Str → Option Value) (base : Heap) (k : Nat)
structure QMe (C : Addr) (m : Str) (ks : List Str) (spv : DSpV) : Prop where
  ex : ∃ g, DCal P w K mg base k (.ref g) ks spv ∧ Cls K C ∧ Meth K C m g
structure QPr (C : Addr) (f : Str) (spv : DSpV) : Prop where
  ex : ∃ p g, DCal P w K mg base k (.ref g) [] spv ∧ Cls K C ∧ PropOf K C f p g
structure QOw (C : Addr) (nm : Str) (spv : DSpV) : Prop where
  ex : ∃ g, DCal P w K mg base k (.ref g) [] spv ∧ OwnM K C nm g
structure QNm (x : Str) (ks : List Str) (spv : DSpV) : Prop where
  ex : ∃ f, DCal P w K mg base k f ks spv ∧ mg x = some f ∧ PySem.W.keepIn K f = true
structure QRa (x : Str) (C : Addr) (f : Str) : Prop where
  ex : ∃ fI fd ps, XcT K C fI f ∧ FnOk P w K mg base CX0 k fI fd ps (spXc C f) ∧ Binds K fd ps [] ∧ mg x = some (.ref C)
structure QCm (C : Addr) (m : Str) (ks : List Str) (spv : DSpV) : Prop where
  ex : ∃ g p mc, DCal P w K mg base k (.ref g) ks spv ∧ ClX.CRead K C mc ∧ ClX.CMet K C mc m p g
structure QCl (C : Addr) (ks : List Str) (spv : DSpV) : Prop where
  ex : DCal P w K mg base k (.ref C) ks spv ∧ PySem.W.keepIn K (.ref C) = true
structure QCo (C : Addr) (spv : DSpV) : Prop where
  ex : ∃ g, DCal P w K mg base k (.ref g) [] spv ∧ StX.CallO K C g
end
section
variable {X : Cx} {j k : Nat} {C : Addr} {m x f : Str} {ks : List Str} {spv : DSpV}
theorem QMe.to (c : QMe X.prog X.w X.K X.mg X.base k C m ks spv) (hr : Room j X.A) (h : k ≤ j) : MeV X C m ks spv := let ⟨g, d, a, b⟩ := c.ex; ⟨k, g, d, hr.mono h, a, b⟩
theorem QPr.to (c : QPr X.prog X.w X.K X.mg X.base k C f spv) (hr : Room j X.A) (h : k + 1 ≤ j) : PrV X C f spv := let ⟨p, g, d, a, b⟩ := c.ex; ⟨k, p, g, d, hr.mono h, a, b⟩
theorem QOw.to (c : QOw X.prog X.w X.K X.mg X.base k C m spv) (hr : Room j X.A) (h : k + 1 ≤ j) : OwV X C m spv := let ⟨g, d, a⟩ := c.ex; ⟨k, g, d, hr.mono h, a⟩
theorem QNm.to (c : QNm X.prog X.w X.K X.mg X.base k x ks spv) (hr : Room j X.A) (h : k ≤ j) : NmV X x ks spv := let ⟨g, d, a, b⟩ := c.ex; ⟨k, g, d, hr.mono h, a, b⟩
theorem QRa.to (c : QRa X.prog X.w X.K X.mg X.base k x C f) (hr : Room j X.A) (h : k + 1 ≤ j) : RaV X x C f := let ⟨fI, fd, ps, a, b, d, e⟩ := c.ex; ⟨k, fI, fd, ps, a, b, hr.mono h, d, e⟩
theorem QCm.to (c : QCm X.prog X.w X.K X.mg X.base k C m ks spv) (hr : Room j X.A) (h : k ≤ j) : CmV X C m ks spv := let ⟨g, p, mc, d, a, b⟩ := c.ex; ⟨k, g, p, mc, d, hr.mono h, a, b⟩
theorem QCl.to (c : QCl X.prog X.w X.K X.mg X.base k C ks spv) (hr : Room j X.A) (h : k ≤ j) : ClV X C ks spv := ⟨k, c.ex.1, hr.mono h, c.ex.2⟩
theorem QCo.to (c : QCo X.prog X.w X.K X.mg X.base k C spv) (hr : Room j X.A) (h : k ≤ j) : CoV X C spv := let ⟨g, d, a⟩ := c.ex; ⟨k, g, d, hr.mono h, a⟩
end
/-! ### an exception's own __init__: B.__init__(self, text); self.f = value -/
section
variable {P : Program} {w : World} {K : PySem.W.Frag} {mg : Str → Option Value} {base : Heap}
def tXcBody (K : PySem.W.Frag) (f : Str) (u : V) : TS := tSeq (tDrop (tVeI K (tCons (tVar 0) (tCons (tC u) tNil)))) (tOst K f (tVar 0) (tVar 1))
theorem xc_ok {qual x f : Str} {st : Stmt} {C fI : Addr} {fd : FuncData} {u : V} (F : Fun K "__init__" qual st fI fd) (S : FnScope ["self", x] ["self", x] (defScope st)) (xt : XcT K C fI f)
    (hb : ∀ (cdv : Value) (A : Around) (outer : List PySem.Env) (s : Shared) (H : Hp) (E : XK), PSs (cxOf CX0 P w K mg base ["self", x] qual (defScope st) fI cdv A outer s H E).nox (defBody st) (tXcBody K f u)) : FnOk P w K mg base CX0 1 fI fd ["self", x] (spXc C f) := by
  refine F.ok S (fun vs H Q E h => ?_) fun cdv A outer s H vs Q E hr h => ⟨_, hb cdv A outer s H E, ?_⟩
  · obtain ⟨a, v, rfl, _⟩ := h
    rfl
  · obtain ⟨a, v, rfl, ea, q⟩ := h
    refine ⟨_, rfl, a, C, [u], rfl, by simp, xt.oex, ea, ?_⟩
    exact ⟨v, rfl, _, rfl, a, C, rfl, xt.oex, xt.no, .inl ⟨ea, fun dx hd hne => q dx hd hne⟩⟩
end
/-- what «except T» says of an error of S -/
theorem exm_of {K : PySem.W.Frag} {S T : Addr} {b : Bool} (h1 : PySem.W.subIn K (.ref T) (.type "BaseException") = some true) (h2 : PySem.W.isClsIn K T = true) (h3 : PySem.W.typeIn K (.ref T) = some (.type "type")) (h4 : PySem.W.subIn K (.ref S) (.ref T) = some b) :
    PySem.W.exmOne K (.ref S) (.ref T) = some b := by
  have e1 : (PySem.W.subIn K (.ref T) (.type "BaseException") == some true) = true := by rw [h1] <;> rfl
  have e2 : ((PySem.W.clsIn K T).isSome && PySem.W.typeIn K (.ref T) == some (.type "type")) = true := by
    have h2' : (PySem.W.clsIn K T).isSome = true := h2
    rw [h2', h3] <;> rfl
  show (if (PySem.W.subIn K (.ref T) (.type "BaseException") == some true) = true then (if ((PySem.W.clsIn K T).isSome && PySem.W.typeIn K (.ref T) == some (.type "type")) = true then PySem.W.subIn K (.ref S) (.ref T) else none) else none) = some b
  rw [if_pos e1, if_pos e2]
  exact h4
/-! ### isinstance(e, C) -/
def isiB (cs : List (Addr × Bool)) (d : D) : Option Bool := match d with
  | .obj B _ => cs.lookup B
  | d => if (tyD d).isSome then some false else none
def mIsiO (cs : List (Addr × Bool)) (m : EM D) : EM D := fun E env C0 Q => m E env C0 fun d env1 C1 => ∃ b, isiB cs (dr C1 d) = some b ∧ Q (.bl b) env1 C1
theorem isi_self {K : PySem.W.Frag} {C : Addr} : PySem.W.kitOne K (.ref C) (.ref C) = some true := by unfold PySem.W.kitOne; rw [if_pos (by simp)]
theorem isi_sub {K : PySem.W.Frag} {B C : Addr} {b : Bool} (c : IsT K C) (h : PySem.W.subIn K (.ref B) (.ref C) = some b) (ne : (Value.ref B == Value.ref C) = false) : PySem.W.kitOne K (.ref B) (.ref C) = some b := c.one h ne
/-! ### worked out -/
section
variable {E : EX} {env : DL.Env} {C : Cs} {d e x : D} {a Cl : Addr} {f m : Str} {spv : DSpV} {fs : List (Str × D)} {i : Nat}
variable {Q : D → DL.Env → Cs → Prop} {QB : Bool → DL.Env → Cs → Prop} {QL : List D → DL.Env → Cs → Prop} {QC : Cont → DL.Env → Cs → Prop} {Q2 : List D × List D → DL.Env → Cs → Prop} {R : D → Prop} {ma mb : EM D} {ms mk : EM (List D)} {m2 : EM (List D × List D)}
theorem g_fld (h : fs.lookup f = some x) (q : R x) : gFld Cl f (dr C (.obj Cl fs)) R := ⟨rfl, x, h, q⟩
theorem g_fldC (hc : C a = some (.obj Cl fs)) (h : fs.lookup f = some x) (q : R x) : gFld Cl f (dr C (.cell a)) R := by rw [dr_cell, hc]; exact ⟨rfl, x, h, q⟩
theorem i_pos (q : ms E env C fun ds env1 C1 => Q2 (ds, []) env1 C1) : mPos ms E env C Q2 := q
theorem i_posK (q : ms E env C fun ds env1 C1 => mk E env1 C1 fun es env2 C2 => Q2 (ds, es) env2 C2) : mPosK ms mk E env C Q2 := q
def SeqO (d : D) (R : List D → Prop) : Prop := match seqD d with
  | some xs => R xs
  | none => False
theorem i_star (q : ma E env C fun d env1 C1 => SeqO d fun xs => ms E env1 C1 fun ys env2 C2 => QL (xs ++ ys) env2 C2) : mStar ma ms E env C QL := q
theorem q_tup {xs : List D} {R : List D → Prop} (q : R xs) : SeqO (.tup xs) R := q
theorem q_lst {xs : List D} {R : List D → Prop} (q : R xs) : SeqO (.lst xs) R := q
theorem i_callV (q : m2 E env C fun p env1 C1 => spv p.1 p.2 C1 (fun r C2 => Q r.tree env1 C2) fun x C2 => E x env1 C2) : mCallV spv m2 E env C Q := q
def FrsK (QC : Cont → DL.Env → Cs → Prop) (env1 : DL.Env) : Ret → Cs → Prop := fun r C2 => match r with
  | .frs c => QC c env1 C2
  | .shr _ => False
theorem i_callVF (q : m2 E env C fun p env1 C1 => spv p.1 p.2 C1 (FrsK QC env1) fun x C2 => E x env1 C2) : mCallVF spv m2 E env C QC := q
theorem i_meth (q : ma E env C fun d env1 C1 => IsO Cl m (dr C1 d) ∧ m2 E env1 C1 fun p env2 C2 => spv (d :: p.1) p.2 C2 (fun r C3 => Q r.tree env2 C3) fun x C3 => E x env2 C3) : mMeth Cl m spv ma m2 E env C Q := q
theorem i_methF (q : ma E env C fun d env1 C1 => IsO Cl m (dr C1 d) ∧ m2 E env1 C1 fun p env2 C2 => spv (d :: p.1) p.2 C2 (FrsK QC env2) fun x C3 => E x env2 C3) : mMethF Cl m spv ma m2 E env C QC := q
theorem i_prop (q : ma E env C fun d env1 C1 => isOb Cl (dr C1 d) ∧ spv [d] [] C1 (fun r C2 => Q r.tree env1 C2) fun _ _ => False) : mProp Cl spv ma E env C Q := q
theorem i_opE {g : EX → D → D → DL.Env → Cs → (D → DL.Env → Cs → Prop) → Prop} (q : ma E env C fun d env1 C1 => mb E env1 C1 fun e env2 C2 => g E d e env2 C2 Q) : mOpE g ma mb E env C Q := q
theorem i_negO (q : ma E env C fun d env1 C1 => isOb Cl (dr C1 d) ∧ spv [d] [] C1 (fun r C2 => Q r.tree env1 C2) fun x C2 => E x env1 C2) : mNegO Cl spv ma E env C Q := q
theorem i_lenO (q : ms E env C fun ds env1 C1 => ∃ d, ds = [d] ∧ isOb Cl (dr C1 d) ∧ spv [d] [] C1 (fun r C2 => ∃ n : Nat, n ≤ sizeLine ∧ r = .shr (.int n) ∧ Q (.int n) env1 C2) fun _ _ => False) : mLenO Cl spv ms E env C Q := q
theorem i_boolO (q : ms E env C fun ds env1 C1 => ∃ d, ds = [d] ∧ isOb Cl (dr C1 d) ∧ spv [d] [] C1 (fun r C2 => ∃ b, r = .shr (.bl b) ∧ Q (.bl b) env1 C2) fun _ _ => False) : mBoolO Cl spv ms E env C Q := q
theorem i_isiO {cs : List (Addr × Bool)} (q : ma E env C fun d env1 C1 => ∃ b, isiB cs (dr C1 d) = some b ∧ Q (.bl b) env1 C1) : mIsiO cs ma E env C Q := q
theorem isOb_obj : isOb Cl (dr C (.obj Cl fs)) := ⟨fs, rfl⟩
end
section
variable {E : EX} {env : DL.Env} {C : Cs} {dE : DEnds} {ms : EM (List D)} {mb : SM} {msx : Addr → Value → Option Addr → SM} {C0 : Addr} {f : Str} {yes no : List Addr} {i : Nat}
theorem j_raise (q : ms E env C fun ds env1 C1 => ∃ d, ds = [d] ∧ E (.own C0 [(f, d)]) env1 C1) : sRaise C0 f ms E dE env C := q
theorem j_tryAs (q : mb (CatchX yes no i msx E dE) dE env C) : sTryAs yes no i mb msx E dE env C := q
end
/-! ### lists of facts -/
theorem em_nil {K : PySem.W.Frag} {c : Addr} {b : Bool} : ∀ B ∈ ([] : List Addr), PySem.W.exmOne K (.ref B) (.ref c) = some b := fun _ h => by cases h
theorem em_cons {K : PySem.W.Frag} {c B : Addr} {b : Bool} {l : List Addr} (h : PySem.W.exmOne K (.ref B) (.ref c) = some b) (hl : ∀ B ∈ l, PySem.W.exmOne K (.ref B) (.ref c) = some b) : ∀ A ∈ B :: l, PySem.W.exmOne K (.ref A) (.ref c) = some b := fun A hA => by
  rcases List.mem_cons.mp hA with rfl | hA
  · exact h
  · exact hl A hA
theorem xf_nil {K : PySem.W.Frag} {f : Str} : ∀ B ∈ ([] : List Addr), XfC K B ∧ PySem.W.findIn K (.ref B) f = some none := fun _ h => by cases h
theorem xf_cons {K : PySem.W.Frag} {f : Str} {B : Addr} {l : List Addr} (h : XfC K B ∧ PySem.W.findIn K (.ref B) f = some none) (hl : ∀ B ∈ l, XfC K B ∧ PySem.W.findIn K (.ref B) f = some none) : ∀ A ∈ B :: l, XfC K A ∧ PySem.W.findIn K (.ref A) f = some none := fun A hA => by
  rcases List.mem_cons.mp hA with rfl | hA
  · exact h
  · exact hl A hA
theorem nofld {K : PySem.W.Frag} {C : Addr} : ∀ f ∈ ([] : List Str), NoAttr K C f := fun _ h => by cases h
theorem fld_cons {K : PySem.W.Frag} {C : Addr} {f : Str} {l : List Str} (h : PySem.W.findIn K (.ref C) f = some none) (hl : ∀ f ∈ l, NoAttr K C f) : ∀ g ∈ f :: l, NoAttr K C g := fun g hg => by
  rcases List.mem_cons.mp hg with rfl | hg
  · exact h
  · exact hl g hg
theorem _root_.L2.Room.u0 {k : Nat} {A : Around} (r : Room k A) : A.units < cLine := by have := r.un; omega
/-- what a def's promise owes -/
def PU (m : SM) (N n : Nat) (sp : DSp) : Prop := ∀ ds C PR PX, sp ds C PR PX → ds.length = n ∧ m (fun x _ C => PX x C) { nx := fun _ C => PR (.shr .non) C, rt := PR } (slots0 N ds) C
end L2.DL
/-! EI: zip of two sequences; stores into instances worked out; comprehensions over pairs; rows of numbers shown. -/
namespace L2.DL
open PySem PySem.Spec PyProof.Rows
open RZ (ItzT pi_zipA)
def ZipO (ds : List D) (R : List D → Prop) : Prop := match ds with
  | [.lst xs, .lst ys] => R (zipD xs ys)
  | [.tup xs, .tup ys] => R (zipD xs ys)
  | _ => False
def mZipA (ms : EM (List D)) : EM (List D) := fun E env C Q => ms E env C fun ds env1 C1 => ZipO ds fun l => Q l env1 C1
/-! ### worked out -/
section
variable {E : EX} {env : DL.Env} {C : Cs} {d e x : D} {a Cl : Addr} {f m : Str} {fs : List (Str × D)} {i j : Nat} {c : Cont} {xs ys : List D}
variable {QL : List D → DL.Env → Cs → Prop} {R : D → Prop} {RL : List D → Prop} {ma mb : EM D} {mf : EM Cont} {ms : EM (List D)} {nx bk ct : DL.Env → Cs → Prop} {rt : Ret → Cs → Prop} {P : DL.Env → Cs → Prop}
theorem i_zipA (q : ms E env C fun ds env1 C1 => ZipO ds fun l => QL l env1 C1) : mZipA ms E env C QL := q
theorem z_lst (q : RL (zipD xs ys)) : ZipO [.lst xs, .lst ys] RL := q
theorem z_tup (q : RL (zipD xs ys)) : ZipO [.tup xs, .tup ys] RL := q
theorem g_eqNT {ng : Bool} (q : R (.bl (if ng then !xs.isEmpty else xs.isEmpty))) : gEqN ng (dr C (.tup xs)) (dr C (.tup [])) R := q
theorem g_eqNL {ng : Bool} (q : R (.bl (if ng then !xs.isEmpty else xs.isEmpty))) : gEqN ng (dr C (.lst xs)) (dr C (.lst [])) R := q
theorem j_fldS (q : mb E env C fun d env1 C1 => ma E env1 C1 fun o env2 C2 => StF Cl f o d nx env2 C2) : sFldS Cl f ma mb E ⟨nx, rt, bk, ct⟩ env C := q
theorem j_fldC (q : mf E env C fun c env1 C1 => ∀ b, C1 b = none → ma E env1 (cput C1 b (cellOf c)) fun o env2 C2 => StF Cl f o (.cell b) nx env2 C2) : sFldC Cl f ma mf E ⟨nx, rt, bk, ct⟩ env C := q
theorem j_setC (q : mf E env C fun c env1 C1 => ∀ a, C1 a = none → nx (env1.set i (.shr (.cell a))) (cput C1 a (cellOf c))) : sSetC i mf E ⟨nx, rt, bk, ct⟩ env C := q
theorem st_f (hc : C a = some (.obj Cl fs)) (hl : fs.length < 1000) (q : P env (cput C a (.obj Cl (putFD f d fs)))) : StF Cl f (.cell a) d P env C := ⟨a, fs, rfl, hc, hl, q⟩
end
/-! ### rows of numbers -/
abbrev intsD (ns : List Int) : List D := ns.map .int
def smallI (n : Int) : Prop := n.natAbs < 2 ^ 300
/-- what may be shown, part by part: B the longest leaf, w the weight -/
structure Shw (k w : Nat) (d : D) : Prop where
  r : isR d = true
  s : (toP d).showable = true
  l : (toP d).leavesShort 103 = true
  dp : (toP d).depth ≤ k
  wt : (toP d).weight ≤ w
theorem Shw.ok {k w : Nat} {d : D} (h : Shw k w d) (hk : k ≤ 40) (hw : w ≤ 100000) : shOk d := by
  refine ⟨h.r, h.s, Nat.le_trans h.dp hk, ?_⟩
  have h2 := PyData.shown_le 103 (by decide) _ h.l
  have h3 := h.wt
  have h4 : (103 + 2) * (toP d).weight ≤ 105 * w := Nat.mul_le_mul_left 105 h3
  have := sizeLine_eq
  omega
theorem Shw.mono {k w k' w' : Nat} {d : D} (h : Shw k w d) (hk : k ≤ k') (hw : w ≤ w') : Shw k' w' d := ⟨h.r, h.s, h.l, Nat.le_trans h.dp hk, Nat.le_trans h.wt hw⟩
structure Shws (k w : Nat) (ds : List D) : Prop where
  r : isRs ds = true
  s : PyData.showableAll (toPs ds) = true
  l : PyData.leavesShortAll 103 (toPs ds) = true
  dp : PyData.depthAll (toPs ds) ≤ k
  wt : PyData.weightAll (toPs ds) ≤ w
theorem Shws.nil {k w : Nat} : Shws k w [] := ⟨rfl, by simp [toPs, PyData.showableAll], by simp [toPs, PyData.leavesShortAll], by simp [toPs, PyData.depthAll], by simp [toPs, PyData.weightAll]⟩
theorem Shws.cons {k w v : Nat} {d : D} {ds : List D} (h : Shw k v d) (hs : Shws k w ds) : Shws k (v + w + 2) (d :: ds) := by
  refine ⟨Bool.and_eq_true_iff.mpr ⟨h.r, hs.r⟩, ?_, ?_, ?_, ?_⟩
  · simp only [toPs, PyData.showableAll, h.s, hs.s, Bool.and_self]
  · simp only [toPs, PyData.leavesShortAll, h.l, hs.l, Bool.and_self]
  · simp only [toPs, PyData.depthAll]
    have := h.dp
    have := hs.dp
    omega
  · have := h.wt
    have := hs.wt
    simp only [toPs, PyData.weightAll]
    omega
theorem Shws.all {k w : Nat} : ∀ {ds : List D}, (∀ d ∈ ds, Shw k w d) → Shws k ((w + 2) * ds.length) ds
  | [], _ => Shws.nil
  | d :: ds, h => by
    have a := Shws.all (k := k) (w := w) fun x hx => h x (List.mem_cons_of_mem d hx)
    have c := Shws.cons (h d List.mem_cons_self) a
    have e : w + (w + 2) * ds.length + 2 = (w + 2) * (d :: ds).length := by rw [List.length_cons, Nat.mul_succ]; omega
    rw [e] at c
    exact c
theorem Shws.tup {k w : Nat} {ds : List D} (h : Shws k w ds) : Shw (k + 1) (w + 2) (.tup ds) := by
  refine ⟨h.r, ?_, ?_, ?_, ?_⟩
  · simp only [toP, PyData.showable, h.s]
  · simp only [toP, PyData.leavesShort, h.l]
  · simp only [toP, PyData.depth]
    have := h.dp
    omega
  · have := h.wt
    simp only [toP, PyData.weight]
    omega
theorem Shws.lst {k w : Nat} {ds : List D} (h : Shws k w ds) : Shw (k + 1) (w + 2) (.lst ds) := by
  refine ⟨h.r, ?_, ?_, ?_, ?_⟩
  · simp only [toP, PyData.showable, h.s]
  · simp only [toP, PyData.leavesShort, h.l]
  · simp only [toP, PyData.depth]
    have := h.dp
    omega
  · have := h.wt
    simp only [toP, PyData.weight]
    omega
set_option exponentiation.threshold 400 in
theorem shw_int {k : Nat} {n : Int} (h : smallI n) : Shw k 301 (.int n) := by
  have l1 : n.natAbs.log2 < 300 ∨ n.natAbs = 0 := by
    rcases Nat.eq_zero_or_pos n.natAbs with z | z
    · exact .inr z
    · exact .inl ((Nat.log2_lt (by omega)).mpr h)
  refine ⟨rfl, ?_, ?_, by simp [toP, PyData.depth], ?_⟩
  · have : n.natAbs.log2 < 1920 := by
      rcases l1 with l1 | l1
      · omega
      · rw [l1]; decide
    simpa [toP, PyData.showable] using this
  · simp only [toP, PyData.leavesShort, decide_eq_true_eq]
    have h2 := int_text_length_le10 (a := n) (k := 91) (by decide) (Nat.lt_trans h (by decide))
    show (Str.ofString (toString n)).length ≤ 103
    rw [PySem.ofString_length]
    omega
  · simp only [toP, PyData.weight]
    rcases l1 with l1 | l1
    · split <;> omega
    · have : n = 0 := by omega
      subst this
      simp
def shwB (k w : Nat) (d : D) : Bool := isR d && ((toP d).showable && ((toP d).leavesShort 103 && (decide ((toP d).depth ≤ k) && decide ((toP d).weight ≤ w))))
theorem Shw.of {k w : Nat} {d : D} (h : shwB k w d = true) : Shw k w d := by
  unfold shwB at h
  simp only [Bool.and_eq_true, decide_eq_true_eq] at h
  exact ⟨h.1, h.2.1, h.2.2.1, h.2.2.2.1, h.2.2.2.2⟩
end L2.DL
set_option exponentiation.threshold 400
/-! EJ: costs: rows of whole numbers in an instance. -/
namespace L2.DL
open PySem PySem.Spec PyProof.Rows
abbrev rowO (c : Addr) (xs : List D) : D := .obj c [("row", .tup xs)]
abbrev costI (c : Addr) (ns : List Int) : D := rowO c (intsD ns)
theorem cdel_cput2 {C : Cs} {a : Addr} {c c' : Cell} (h : C a = none) : cdel (cput (cput C a c) a c') a = C := by
  funext b
  unfold cdel cput
  by_cases e : b = a
  · rw [if_pos e, e, h]
  · rw [if_neg e, if_neg e, if_neg e]
theorem sub_self : ∀ xs : List Int, List.zipWith (fun i j => i - j) xs xs = List.replicate xs.length 0
  | [] => rfl
  | x :: r => by
    rw [List.zipWith_cons_cons, sub_self r, Int.sub_self, List.length_cons, List.replicate_succ]
end L2.DL
/-! EK: == and != by an own __eq__, any other value beside; int(..), sum(..), list.count; a list unpacked; keywords of defs. -/
namespace PySem.W
open PySem PySem.Spec PyProof.Rows PySem.SeqAt
end PySem.W
namespace L2.DL
open PySem PySem.Spec PyProof.Rows
section
variable {X : Cx} {C : Addr} {spv : DSpV}
theorem IsT.first {K : PySem.W.Frag} (c : IsT K C) {d : D} {n : String} (h : tyD d = some n) : PySem.W.notFirst K C (.type n) = true := by
  obtain ⟨h1, h2, h3, h4, h5, h6, h7⟩ := c.no
  have e : ∀ {m : String}, PySem.W.subIn K (.type m) (.ref C) = some false → PySem.W.notFirst K C (.type m) = true := fun h => by unfold PySem.W.notFirst; rw [h]; simp
  cases d <;> first | (cases h; done) | (cases h; first | exact e h1 | exact e h2 | exact e h3 | exact e h4 | exact e h5 | exact e h6 | exact e h7)
end
/-! ### int(x), sum(xs) -/
def gInt (ds : List D) (P : D → Prop) : Prop := match ds with
  | [.int i] => P (.int i)
  | [.bl k] => P (.int (if k then 1 else 0))
  | _ => False
section
variable {X : Cx}
/-! ### bs.count(b) of truth values -/
def mCntB (mo : EM D) (ms : EM (List D)) : EM D := fun E env C Q => mo E env C fun d env1 C1 => ∃ xs, d = .lst xs ∧ ms E env1 C1 fun ds env2 C2 => ∃ bs k, blsOf xs = some bs ∧ ds = [.bl k] ∧ Q (.int (bs.count k : Nat)) env2 C2
/-! ### a, b, .. = a list -/
end
/-! ### worked out -/
section
variable {E : EX} {env : DL.Env} {C : Cs} {xs : List D} {i : Nat} {R : D → Prop} {Cl : Addr} {spv : DSpV} {ma : EM D} {ms : EM (List D)} {m2 : EM (List D × List D)} {Q : D → DL.Env → Cs → Prop} {QC : Cont → DL.Env → Cs → Prop} {P : DL.Env → Cs → Prop}
theorem g_intI {j : Int} (q : R (.int j)) : gInt ([D.int j].map (dr C)) R := q
theorem g_intB {b : Bool} (q : R (.int (if b then 1 else 0))) : gInt ([D.bl b].map (dr C)) R := q
theorem i_cntB (q : ma E env C fun d env1 C1 => ∃ xs, d = .lst xs ∧ ms E env1 C1 fun ds env2 C2 => ∃ bs k, blsOf xs = some bs ∧ ds = [.bl k] ∧ Q (.int (bs.count k : Nat)) env2 C2) : mCntB ma ms E env C Q := q
theorem i_cm (q : m2 E env C fun p env1 C1 => spv (.cell Cl :: p.1) p.2 C1 (fun r C2 => Q r.tree env1 C2) fun x C2 => E x env1 C2) : mCm Cl spv m2 E env C Q := q
theorem i_callLF (h : env[i]? = some (.shr (.cell Cl))) (q : m2 E env C fun p env1 C1 => spv p.1 p.2 C1 (FrsK QC env1) fun x C2 => E x env1 C2) : mCallLF i Cl spv m2 E env C QC := ⟨h, q⟩
end
/-- a source of draws: what the body owes, its content told -/
def PUd (m : SM) (N : Nat) (b : Bool) : Prop := ∀ (a : Addr) (n i j : Int) (C : Cs), 0 < n → n < 2 ^ 62 → 0 ≤ j → j < 4294967296 → C a = some (visP b i j) →
  m E0 { nx := fun _ _ => False, rt := fun r C' => ∃ k i' j', 0 ≤ k ∧ k < n ∧ 0 ≤ j' ∧ j' < 4294967296 ∧ r = .shr (.int k) ∧ C' = cput C a (visP b i' j') } (slots0 N [.cell a, .int n]) C
end L2.DL
set_option exponentiation.threshold 400
/-! EL: rows of rows of numbers: compared, shown, added up. -/
namespace L2.DL
open PySem PySem.Spec PyProof.Rows
theorem eqv_self {d : D} (h : okD d = true) : eqv d d = true := SeqAt.eqv_refl _ (SeqAt.canLay_of_shaped (Bool.and_eq_true_iff.mp h).2)
/-- parts of what may be compared -/
structure Lay (k : Nat) (d : D) : Prop where
  p : isP d = true
  c : PyData.canLay0 (toP d) = true
  dp : (toP d).depth ≤ k
theorem Lay.ok {k : Nat} {d : D} (h : Lay k d) (hk : k ≤ 64) : okD d = true := by
  refine Bool.and_eq_true_iff.mpr ⟨h.p, ?_⟩
  unfold SeqAt.shaped
  rw [h.c, Bool.true_and]
  exact decide_eq_true (Nat.le_trans h.dp hk)
theorem lays {k : Nat} : ∀ {ds : List D}, (∀ d ∈ ds, Lay k d) → isPs ds = true ∧ PyData.canLayAll0 (toPs ds) = true ∧ PyData.depthAll (toPs ds) ≤ k
  | [], _ => ⟨rfl, by simp [toPs, PyData.canLayAll0], by simp [toPs, PyData.depthAll]⟩
  | d :: r, h => by
    obtain ⟨a1, a2, a3⟩ := lays fun x hx => h x (List.mem_cons_of_mem d hx)
    have b := h d List.mem_cons_self
    have b3 := b.dp
    refine ⟨Bool.and_eq_true_iff.mpr ⟨b.p, a1⟩, ?_, ?_⟩
    · simp only [toPs, PyData.canLayAll0, b.c, a2, Bool.and_self]
    · simp only [toPs, PyData.depthAll]
      omega
theorem Lay.lst {k : Nat} {ds : List D} (h : ∀ d ∈ ds, Lay k d) : Lay (k + 1) (.lst ds) := by
  obtain ⟨a1, a2, a3⟩ := lays h
  refine ⟨a1, by simp only [toP, PyData.canLay0, a2], ?_⟩
  simp only [toP, PyData.depth]
  omega
theorem Lay.tup {k : Nat} {ds : List D} (h : ∀ d ∈ ds, Lay k d) : Lay (k + 1) (.tup ds) := by
  obtain ⟨a1, a2, a3⟩ := lays h
  refine ⟨a1, by simp only [toP, PyData.canLay0, a2], ?_⟩
  simp only [toP, PyData.depth]
  omega
theorem Lay.int {k : Nat} (n : Int) : Lay k (.int n) := ⟨rfl, by simp [toP, PyData.canLay0], by simp [toP, PyData.depth]⟩
theorem Lay.bl {k : Nat} (b : Bool) : Lay k (.bl b) := ⟨rfl, by simp [toP, PyData.canLay0], by simp [toP, PyData.depth]⟩
end L2.DL
/-! EM: order of tuples of ints; a value that is never given. -/
namespace L2.DL
open PySem PySem.Spec PyProof.Rows
/-! ### the order of rows -/
/-- -1, 0, 1: as the first pair that differs, the shorter one first -/
def sgn : List Int → List Int → Int
  | [], [] => 0
  | [], _ :: _ => -1
  | _ :: _, [] => 1
  | x :: xs, y :: ys => if x = y then sgn xs ys else if x < y then -1 else 1
theorem sgn_zero : ∀ {xs ys : List Int}, sgn xs ys = 0 ↔ xs = ys
  | [], [] => by simp [sgn]
  | [], _ :: _ => by simp [sgn]
  | _ :: _, [] => by simp [sgn]
  | x :: xs, y :: ys => by
    simp only [sgn, List.cons.injEq]
    by_cases h : x = y
    · rw [if_pos h, sgn_zero]; simp [h]
    · rw [if_neg h]
      constructor
      · intro z; split at z <;> simp at z
      · intro z; exact absurd z.1 h
theorem sgn_add : ∀ {xs ys zs : List Int}, xs.length = zs.length → ys.length = zs.length → sgn (List.zipWith (fun i j => i + j) xs zs) (List.zipWith (fun i j => i + j) ys zs) = sgn xs ys
  | [], [], [], _, _ => rfl
  | [], [], _ :: _, h, _ => by simp at h
  | [], _ :: _, [], _, h => by simp at h
  | [], _ :: _, _ :: _, h, _ => by simp at h
  | _ :: _, [], [], h, _ => by simp at h
  | _ :: _, [], _ :: _, _, h => by simp at h
  | _ :: _, _ :: _, [], h, _ => by simp at h
  | x :: xs, y :: ys, z :: zs, h1, h2 => by
    have ih := sgn_add (xs := xs) (ys := ys) (zs := zs) (by simpa using h1) (by simpa using h2)
    simp only [List.zipWith_cons_cons, sgn, ih]
    by_cases h : x = y
    · simp [h]
    · have : ¬ x + z = y + z := by omega
      rw [if_neg h, if_neg this]
      by_cases hl : x < y
      · rw [if_pos hl, if_pos (by omega)]
      · rw [if_neg hl, if_neg (by omega)]
theorem sgn_trans : ∀ {xs ys zs : List Int}, sgn xs ys < 0 → sgn ys zs < 0 → sgn xs zs < 0
  | [], [], _, h, _ => by simp [sgn] at h
  | [], _ :: _, [], _, h => by simp [sgn] at h
  | [], _ :: _, _ :: _, _, _ => by simp [sgn]
  | _ :: _, [], _, h, _ => by simp [sgn] at h
  | _ :: _, _ :: _, [], _, h => by simp [sgn] at h
  | x :: xs, y :: ys, z :: zs, h1, h2 => by
    have ih := sgn_trans (xs := xs) (ys := ys) (zs := zs)
    simp only [sgn] at h1 h2 ⊢
    by_cases a : x = y
    · subst a
      rw [if_pos rfl] at h1
      by_cases b : x = z
      · subst b
        rw [if_pos rfl] at h2 ⊢
        exact ih h1 h2
      · rw [if_neg b] at h2 ⊢
        exact h2
    · rw [if_neg a] at h1
      have hxy : x < y := by
        by_cases q : x < y
        · exact q
        · rw [if_neg q] at h1; simp at h1
      by_cases b : y = z
      · subst b
        rw [if_neg a, if_pos hxy]
        decide
      · rw [if_neg b] at h2
        have hyz : y < z := by
          by_cases q : y < z
          · exact q
          · rw [if_neg q] at h2; simp at h2
        rw [if_neg (by omega), if_pos (by omega)]
        decide
end L2.DL
/-! EN: stores of new lists side by side; list.insert; append of what another list gives up. -/
namespace L2.DL
open PySem PySem.Spec PyProof.Rows
section
variable {X : Cx} {e e1 e2 : Expr} {st : Stmt} {i j n m : Nat} {p2 apos cpos apos2 cpos2 pos : Pos}
/-! ### a, b = (new, []) and a, b = ([], k) -/
def sParOO (i j : Nat) (m : EM Cont) : SM := fun E dE env C => m E env C fun c env1 C1 => dE.nx ((env1.set i (.own c)).set j (.own (.lst []))) C1
def sParOS (i j : Nat) (d : D) : SM := fun E dE env C => dE.nx ((env.set i (.own (.lst []))).set j (.shr d)) C
/-! ### xs.append(ys.pop(e)) -/
def sAppPop (n m : Nat) (mi : EM D) : SM := fun E dE env C => (∃ xs, env[n]? = some (.own (.lst xs))) ∧ (∃ ys, env[m]? = some (.own (.lst ys))) ∧ mi E env C fun d env1 C1 =>
  ∃ xs ys i j y, env1[n]? = some (.own (.lst xs)) ∧ env1[m]? = some (.own (.lst ys)) ∧ d = .int i ∧ -(2 ^ 63) ≤ i ∧ i < 2 ^ 63 ∧ seqIndex? i ys.length = some j ∧ ys[j]? = some y ∧ xs.length < sizeLine ∧ dE.nx ((env1.set m (.own (.lst (ys.eraseIdx j)))).set n (.own (.lst (xs ++ [y])))) C1
/-! ### xs.insert(i, e) -/
def sIns (n : Nat) (ms : EM (List D)) : SM := fun E dE env C => (∃ xs, env[n]? = some (.own (.lst xs))) ∧ ms E env C fun ds env1 C1 =>
  ∃ xs i y, env1[n]? = some (.own (.lst xs)) ∧ ds = [.int i, y] ∧ 0 ≤ i ∧ i < 2 ^ 63 ∧ xs.length < sizeLine ∧ dE.nx (env1.set n (.own (.lst (xs.take i.toNat ++ [y] ++ xs.drop i.toNat)))) C1
end
/-! ### worked out -/
section
variable {E : EX} {env : DL.Env} {C : Cs} {n m i j : Nat} {mf : EM Cont} {mi : EM D} {ms : EM (List D)} {d : D} {xs ys : List D} {nx bk ct : DL.Env → Cs → Prop} {rt : Ret → Cs → Prop}
theorem j_parOO (q : mf E env C fun c env1 C1 => nx ((env1.set i (.own c)).set j (.own (.lst []))) C1) : sParOO i j mf E ⟨nx, rt, bk, ct⟩ env C := q
theorem j_parOS (q : nx ((env.set i (.own (.lst []))).set j (.shr d)) C) : sParOS i j d E ⟨nx, rt, bk, ct⟩ env C := q
def AppPop (n m : Nat) (nx : DL.Env → Cs → Prop) (d : D) (env1 : DL.Env) (C1 : Cs) : Prop := ∃ xs ys i j y, env1[n]? = some (.own (.lst xs)) ∧ env1[m]? = some (.own (.lst ys)) ∧ d = .int i ∧ -(2 ^ 63) ≤ i ∧ i < 2 ^ 63 ∧ seqIndex? i ys.length = some j ∧ ys[j]? = some y ∧ xs.length < sizeLine ∧ nx ((env1.set m (.own (.lst (ys.eraseIdx j)))).set n (.own (.lst (xs ++ [y])))) C1
theorem j_appPop (h1 : env[n]? = some (.own (.lst xs))) (h2 : env[m]? = some (.own (.lst ys))) (q : mi E env C fun d env1 C1 => AppPop n m nx d env1 C1) : sAppPop n m mi E ⟨nx, rt, bk, ct⟩ env C := ⟨⟨xs, h1⟩, ⟨ys, h2⟩, q⟩
def Ins (n : Nat) (nx : DL.Env → Cs → Prop) (ds : List D) (env1 : DL.Env) (C1 : Cs) : Prop := ∃ xs i y, env1[n]? = some (.own (.lst xs)) ∧ ds = [.int i, y] ∧ 0 ≤ i ∧ i < 2 ^ 63 ∧ xs.length < sizeLine ∧ nx (env1.set n (.own (.lst (xs.take i.toNat ++ [y] ++ xs.drop i.toNat)))) C1
theorem j_ins (h1 : env[n]? = some (.own (.lst xs))) (q : ms E env C fun ds env1 C1 => Ins n nx ds env1 C1) : sIns n ms E ⟨nx, rt, bk, ct⟩ env C := ⟨⟨xs, h1⟩, q⟩
end
end L2.DL
/-! EO: names, codes and situations as the laws draw them. -/
namespace L2.DL
open PySem PySem.Spec PyProof.Rows
/-- a code over the first k letters -/
def codeOk (k : Nat) (c : Txt) : Prop := 1 ≤ c.length ∧ c.length ≤ 3 ∧ ∀ x ∈ c, 97 ≤ x ∧ x < 97 + k
def nameOk (c : Txt) : Prop := 1 ≤ c.length ∧ c.length ≤ 12 ∧ ∀ x ∈ c, 97 ≤ x ∧ x ≤ 122
abbrev txs (ts : List Txt) : List D := ts.map .str
/-! ### situations -/
structure Cl where
  nm : Txt
  held : List Txt
  opts : List Txt
abbrev clD (c : Cl) : D := .tup [.str c.nm, .tupT c.held, .tupT c.opts]
abbrev sitD (S : List Cl) : D := .lst (S.map clD)
structure ClOk (m k : Nat) (c : Cl) : Prop where
  n : nameOk c.nm
  hl : c.held.length ≤ 2
  hd : c.held.Nodup
  hk : ∀ x ∈ c.held, codeOk k x
  ol : c.opts.length ≤ m + 2
  od : c.opts.Nodup
  ok : ∀ x ∈ c.opts, codeOk k x
end L2.DL
/-! EP: stores of flat values into several places; x.index(..) of texts. -/
namespace L2.DL
open PySem PySem.Spec PyProof.Rows
section
variable {X : Cx} {e t1 t2 : Expr} {es : List Expr} {pos apos cpos : Pos}
/-! ### a[i], b[j] = flat values -/
def gsConsF (m : GM) (ms : GMs) : GMs := fun ds P env C => match ds with
  | d :: r => r.all flD = true ∧ m d (fun env1 C1 => ms r P env1 C1) env C
  | [] => False
/-! ### a = b = a flat value -/
def sAsg2 (g1 g2 : GM) (m : EM D) : SM := fun E dE env C => m E env C fun d env1 C1 => flD d = true ∧ g1 d (fun env2 C2 => g2 d dE.nx env2 C2) env1 C1
end
/-! ### x.index(t) -/
def fstIx (s : Txt) : List Txt → Option Nat
  | [] => none
  | t :: r => if t = s then some 0 else (fstIx s r).map (· + 1)
theorem fstIx_get {s : Txt} : ∀ {ts : List Txt} {j : Nat}, fstIx s ts = some j → ts[j]? = some s ∧ ∀ m, m < j → ts[m]? ≠ some s
  | [], _, h => by cases h
  | t :: r, j, h => by
    unfold fstIx at h
    by_cases e : t = s
    · rw [if_pos e] at h
      cases h
      exact ⟨by simp [e], fun m hm => by omega⟩
    · rw [if_neg e] at h
      obtain ⟨i, hi, rfl⟩ := Option.map_eq_some_iff.mp h
      obtain ⟨a, b⟩ := fstIx_get hi
      refine ⟨by simpa using a, fun m hm => ?_⟩
      cases m with
      | zero => simpa using e
      | succ m => simpa using b m (by omega)
theorem fstIx_mem {s : Txt} : ∀ {ts : List Txt}, s ∈ ts → ∃ j, fstIx s ts = some j ∧ j < ts.length
  | [], h => by cases h
  | t :: r, h => by
    unfold fstIx
    by_cases e : t = s
    · exact ⟨0, by rw [if_pos e], by simp⟩
    · rcases List.mem_cons.mp h with h | h
      · exact absurd h.symm e
      · obtain ⟨j, hj, hl⟩ := fstIx_mem h
        exact ⟨j + 1, by rw [if_neg e, hj]; rfl, by simp; omega⟩
/-- g: what the texts are (of a list; of a tuple that tells its object) -/
def mIdx (g : D → Option (List Txt)) (mo : EM D) (ms : EM (List D)) : EM D := fun E env C Q => mo E env C fun d env1 C1 => ∃ ts, g d = some ts ∧ ms E env1 C1 fun ds env2 C2 => ∃ s j, ds = [.str s] ∧ fstIx s ts = some j ∧ Q (.int (j : Nat)) env2 C2
section
variable {E : EX} {env : DL.Env} {C : Cs} {d : D} {xs : List D} {ts : List Txt} {mo m : EM D} {ms : EM (List D)} {Q : D → DL.Env → Cs → Prop} {g1 g2 : GM} {nx bk ct : DL.Env → Cs → Prop} {rt : Ret → Cs → Prop}
theorem i_idx {g : D → Option (List Txt)} (q : mo E env C fun d env1 C1 => ∃ ts, g d = some ts ∧ ms E env1 C1 fun ds env2 C2 => ∃ s j, ds = [.str s] ∧ fstIx s ts = some j ∧ Q (.int (j : Nat)) env2 C2) : mIdx g mo ms E env C Q := q
theorem txtsOf_txs : ∀ ts : List Txt, txtsOf (txs ts) = some ts
  | [] => rfl
  | t :: r => by
    have := txtsOf_txs r
    simp only [txs] at this ⊢
    simp [txtsOf, this]
theorem j_asg2 (q : m E env C fun d env1 C1 => flD d = true ∧ g1 d (fun env2 C2 => g2 d nx env2 C2) env1 C1) : sAsg2 g1 g2 m E ⟨nx, rt, bk, ct⟩ env C := q
end
/-! ### tuple(xs): a tuple of texts tells its object -/
section
variable {X : Cx}
def gTupleX (ds : List D) (P : D → Prop) : Prop := match ds with
  | [.lst xs] => match txtsOf xs with
    | some ts => P (.tupT ts)
    | none => P (.tup xs)
  | [.tup xs] => P (.tup xs)
  | _ => False
theorem g_tupX {C : Cs} {ts : List Txt} {P : D → Prop} (q : P (.tupT ts)) : gTupleX ([D.lst (txs ts)].map (dr C)) P := by
  show (match txtsOf (txs ts) with
    | some ts => P (.tupT ts)
    | none => P (.tup (txs ts)))
  rw [txtsOf_txs]
  exact q
end
/-! ### a tuple of texts, read -/
section
variable {C : Cs} {ts : List Txt} {t : Txt} {i : Int} {R : D → Prop}
theorem g_eqNX {ng : Bool} (q : R (.bl (if ng then !ts.isEmpty else ts.isEmpty))) : gEqN ng (dr C (.tupT ts)) (dr C (.tup [])) R := by
  show R (.bl (if ng then !(ts.map D.str).isEmpty else (ts.map D.str).isEmpty))
  rw [List.isEmpty_map]
  exact q
theorem g_inX (q : R (.bl (decide (t ∈ ts)))) : gIn false (dr C (.str t)) (dr C (.tupT ts)) R := by
  refine ⟨⟨rfl, ?_⟩, ?_⟩
  · rw [List.all_map]
    exact List.all_eq_true.mpr fun _ _ => rfl
  · rw [dr_str, inD_str]
    exact q
theorem g_ninX (q : R (.bl (!decide (t ∈ ts)))) : gIn true (dr C (.str t)) (dr C (.tupT ts)) R := by
  refine ⟨⟨rfl, ?_⟩, ?_⟩
  · rw [List.all_map]
    exact List.all_eq_true.mpr fun _ _ => rfl
  · rw [dr_str, inD_str]
    exact q
theorem g_lenX (q : R (.int ts.length)) : gLen ([D.tupT ts].map (dr C)) R := by
  show R (.int ((ts.map D.str).length : Nat))
  rw [List.length_map]
  exact q
theorem o_tupX {R : List D → Prop} (q : R (txs ts)) : IterO (.tupT ts) R := q
end
/-! ### [..] * n, a list of one's own -/
end L2.DL
/-! EQ: plain facts: numbers of options, rows of costs. -/
namespace L2.DL
open PySem PySem.Spec PyProof.Rows
/-- the number of a code among a claim's codes -/
def numCl (c : Cl) (t : Txt) : Option Nat := if t ∈ c.held then fstIx t c.held else (fstIx t c.opts).map (2 + ·)
/-- 1 if the code changes the claim's name -/
def chg (c : Cl) (t : Txt) : Bool := !c.held.isEmpty && !decide (t ∈ c.held)
def chgI (c : Cl) (t : Txt) : Int := if chg c t = true then 1 else 0
/-- the numbers of the cost of giving t to the claim at the place p of n -/
def costRow (n p : Nat) (c : Cl) (t : Txt) (j : Nat) : List Int := (((List.replicate (2 * n + 1) (0 : Int)).set 0 (chgI c t)).set (p + 1) (chgI c t)).set (n + p + 1) (j : Int)
theorem costRow_len (n p : Nat) (c : Cl) (t : Txt) (j : Nat) : (costRow n p c t j).length = 2 * n + 1 := by simp [costRow]
theorem atI_nat {α : Type} {xs : List α} {k : Nat} {x : α} (h : xs[k]? = some x) : atI xs (k : Int) = some x := by
  obtain ⟨h1, h2⟩ := List.getElem?_eq_some_iff.mp h
  rw [atI_lt h1, h2]
theorem numCl_some {c : Cl} {t : Txt} (h : t ∈ c.opts) : ∃ j, numCl c t = some j := by
  unfold numCl
  by_cases hm : t ∈ c.held
  · rw [if_pos hm]; obtain ⟨j, hj, _⟩ := fstIx_mem hm; exact ⟨j, hj⟩
  · rw [if_neg hm]; obtain ⟨j, hj, _⟩ := fstIx_mem h; exact ⟨2 + j, by rw [hj]; rfl⟩
/-! ### ways that meet again -/
/-! ### stores into a container of a slot -/
def PutO (n : Nat) (i d : D) (P : DL.Env → Cs → Prop) (env : DL.Env) (C : Cs) : Prop := match env[n]? with
  | some (.own (.lst xs)) => ∃ k j, i = .int k ∧ ixN xs.length k = some j ∧ P (env.set n (.own (.lst (xs.set j d)))) C
  | some (.own (.dct kvs)) => ∃ k, dkOf i = some k ∧ kvs.length < sizeLine ∧ P (env.set n (.own (.dct (putD kvs k d)))) C
  | _ => False
section
variable {env : DL.Env} {C : Cs} {d i : D} {n : Nat} {c : Cont} {P : DL.Env → Cs → Prop} {mi : EM D} {xs : List D} {kvs : List (DK × D)}
theorem j_putO (h : env[n]? = some (.own c)) (q : mi E0 env C fun i env1 C1 => PutO n i d P env1 C1) : gPutO n mi d P env C := ⟨⟨c, h⟩, q⟩
theorem a_putOD {k : DK} (h : env[n]? = some (.own (.dct kvs))) (hk : dkOf i = some k) (hl : kvs.length < sizeLine) (q : P (env.set n (.own (.dct (putD kvs k d)))) C) : PutO n i d P env C := by
  unfold PutO
  rw [h]
  exact ⟨k, hk, hl, q⟩
end
/-! ### targets -/
section
variable {env : DL.Env} {C : Cs} {d : D} {r : List D} {n i : Nat} {P : DL.Env → Cs → Prop} {g : GM} {ms : GMs}
theorem j_tupD (h : r.length = n) (q : ms r P env C) : gTupD n ms (.tup r) P env C := ⟨h, q⟩
theorem j_gsF (h : r.all flD = true) (q : g d (fun env1 C1 => ms r P env1 C1) env C) : gsConsF g ms (d :: r) P env C := ⟨h, q⟩
theorem j_gsC (q : ms r P (env.set i (.shr d)) C) : gsCons (gN i) ms (d :: r) P env C := q
theorem j_gsNil (q : P env C) : gsNil [] P env C := ⟨rfl, q⟩
end
/-! ### isinstance -/
theorem i_isHd {C : Cs} {c : Addr} {b : Bool} {r : List (Addr × Bool)} {fs : List (Str × D)} {R : Bool → Prop} (q : R b) : ∃ b', isiB ((c, b) :: r) (dr C (.obj c fs)) = some b' ∧ R b' := ⟨b, by simp [isiB, List.lookup], q⟩
end L2.DL
/-! ER: situations may be shown, may be compared. -/
namespace L2.DL
open PySem PySem.Spec PyProof.Rows
theorem shw_str {k w : Nat} {t : Txt} (h : t.length ≤ w) (hc : ∀ c ∈ t, c < 128) : Shw k w (.str t) := by
  refine ⟨rfl, by simp [toP, PyData.showable], ?_, by simp [toP, PyData.depth], ?_⟩
  · simp only [toP, PyData.leavesShort, sV_cps, List.all_eq_true, decide_eq_true_eq]
    intro c hc'
    have := hc c hc'
    omega
  · have h3 : (toP (.str t)).weight = t.length := by simp [toP, PyData.weight, sV]
    omega
theorem shw_non {k : Nat} : Shw k 4 .non := ⟨rfl, by simp [toP, PyData.showable], by simp [toP, PyData.leavesShort], by simp [toP, PyData.depth], by simp [toP, PyData.weight]⟩
theorem shw_bl {k : Nat} (b : Bool) : Shw k 5 (.bl b) := ⟨rfl, by simp [toP, PyData.showable], by simp [toP, PyData.leavesShort], by simp [toP, PyData.depth], by simp [toP, PyData.weight]⟩
theorem toPs_txs : ∀ ts : List Txt, toPs (txs ts) = ts.map fun t => PyData.str (sV t)
  | [] => rfl
  | t :: r => by
    show toP (.str t) :: toPs (txs r) = _
    rw [toPs_txs r]
    rfl
theorem toP_tupT (ts : List Txt) : toP (.tupT ts) = toP (.tup (txs ts)) := by
  show PyData.tuple _ = PyData.tuple _
  rw [toPs_txs]
theorem Shw.tupT {k w : Nat} {ts : List Txt} (h : Shw k w (.tup (txs ts))) : Shw k w (.tupT ts) :=
  ⟨rfl, by rw [toP_tupT]; exact h.s, by rw [toP_tupT]; exact h.l, by rw [toP_tupT]; exact h.dp, by rw [toP_tupT]; exact h.wt⟩
theorem shws_txs {k m w : Nat} {ts : List Txt} (h : ∀ t ∈ ts, t.length ≤ w ∧ ∀ c ∈ t, c < 128) (hl : ts.length ≤ m) : Shws k ((w + 2) * m) (txs ts) := by
  have a := Shws.all (k := k) (w := w) (ds := txs ts) fun d hd => by
    obtain ⟨t, ht, rfl⟩ := List.mem_map.mp hd
    exact shw_str (h t ht).1 (h t ht).2
  rw [List.length_map] at a
  exact ⟨a.r, a.s, a.l, a.dp, Nat.le_trans a.wt (Nat.mul_le_mul_left _ hl)⟩
theorem code_asc {k : Nat} (hk : k ≤ 26) {t : Txt} (h : codeOk k t) : t.length ≤ 3 ∧ ∀ c ∈ t, c < 128 := ⟨h.2.1, fun c hc => by have := h.2.2 c hc; omega⟩
theorem name_asc {t : Txt} (h : nameOk t) : t.length ≤ 12 ∧ ∀ c ∈ t, c < 128 := ⟨h.2.1, fun c hc => by have := h.2.2 c hc; omega⟩
def asc (t : Txt) : Prop := ∀ c ∈ t, c < 128
theorem Lay.str {k : Nat} {t : Txt} (h : asc t) : Lay k (.str t) := ⟨rfl, by
  simp only [toP, PyData.canLay0, PyData.strOk, sV]
  rw [Array.all_eq_true']
  intro c hc
  have := h c (by simpa using hc)
  simp
  omega, by simp [toP, PyData.depth]⟩
theorem Lay.non {k : Nat} : Lay k .non := ⟨rfl, by simp [toP, PyData.canLay0], by simp [toP, PyData.depth]⟩
theorem Lay.txs {k : Nat} {ts : List Txt} (h : ∀ t ∈ ts, asc t) : ∀ d ∈ DL.txs ts, Lay k d := fun d hd => by
  obtain ⟨t, ht, rfl⟩ := List.mem_map.mp hd
  exact Lay.str (h t ht)
theorem Lay.tupT {k : Nat} {ts : List Txt} (h : ∀ t ∈ ts, asc t) : Lay (k + 1) (.tupT ts) := by
  have h : Lay (k + 1) (.tup (DL.txs ts)) := Lay.tup (Lay.txs h)
  exact ⟨rfl, by rw [toP_tupT]; exact h.c, by rw [toP_tupT]; exact h.dp⟩
theorem Lay.cl {k m n : Nat} (hn : n ≤ 26) {c : Cl} (h : ClOk m n c) : Lay (k + 2) (clD c) := Lay.tup fun d hd => by
  simp only [List.mem_cons, List.not_mem_nil, or_false] at hd
  rcases hd with rfl | rfl | rfl
  · exact .str (name_asc h.n).2
  · exact .tupT fun t ht => (code_asc hn (h.hk t ht)).2
  · exact .tupT fun t ht => (code_asc hn (h.ok t ht)).2
theorem fstIx_lt {t : Txt} {ts : List Txt} {j : Nat} (h : fstIx t ts = some j) : j < ts.length := (List.getElem?_eq_some_iff.mp (fstIx_get h).1).1
end L2.DL
/-! FA: tables that are walked: locked meanwhile. -/
namespace L2.DL
open PySem PySem.Spec PyProof.Rows
/-! ### at the level of readings -/
/-- the entry's heap tells of no locked thing at a -/
def NF (X : Cx) (a : Addr) : Prop := ∀ o u, X.H_0 a ≠ some (.frz o u)
def UL (X : Cx) (P : Hp → Prop) (H : Hp) : Prop := P H ∨ ∃ a o u, NF X a ∧ H a = some (.frz o u) ∧ P (upd H a u)
section
variable {X : Cx} {e : Expr} {st : Stmt} {te : TE} {ts : TS}
theorem UL.inv {pins : List (Addr × Obj)} {σ : St} {H : Hp} {s : Shared} {P : Hp → Prop} (I : Inv X pins σ H s) (h : UL X P H) : ∃ H', Inv X pins σ H' s ∧ P H' := by
  rcases h with h | ⟨a, o, u, n, e, h⟩
  · exact ⟨H, I, h⟩
  · exact ⟨_, I.unlock e n, h⟩
theorem ps_unlk (h : PS X st ts) : PS X st (fun D σ H => ts ⟨fun σ' => UL X (D.nx σ'), fun v => UL X (D.rt v), fun σ' => UL X (D.bk σ'), fun σ' => UL X (D.ct σ')⟩ σ H) := ⟨fun pins s σ H D I hw => by
  refine thn (h.run pins s σ H _ I hw) fun f s1 hq => ?_
  cases f with
  | next => obtain ⟨σ1, H1, I1, q⟩ := hq; obtain ⟨H2, I2, q2⟩ := UL.inv I1 q; exact ⟨σ1, H2, I2, q2⟩
  | brk => obtain ⟨σ1, H1, I1, q⟩ := hq; obtain ⟨H2, I2, q2⟩ := UL.inv I1 q; exact ⟨σ1, H2, I2, q2⟩
  | cont => obtain ⟨σ1, H1, I1, q⟩ := hq; obtain ⟨H2, I2, q2⟩ := UL.inv I1 q; exact ⟨σ1, H2, I2, q2⟩
  | ret u => obtain ⟨v, σ1, H1, I1, r, q⟩ := hq; obtain ⟨H2, I2, q2⟩ := UL.inv I1 q; exact ⟨v, σ1, H2, I2, r, q2⟩⟩
end
/-! ### what a lock does to the account of a state -/
theorem RepO.le {K : PySem.W.Frag} {H H' : Hp} {c : Cont} {o : HO} (l : Le K H H') (r : RepO K H c o) : RepO K H' c o := by
  cases c with
  | lst xs => obtain ⟨vs, e, r⟩ := r; exact ⟨vs, e, r.le l⟩
  | dct kvs => obtain ⟨vs, e, r⟩ := r; exact ⟨vs, e, r.le l⟩
  | obj C fs => obtain ⟨dx, vs, e, r⟩ := r; exact ⟨dx, vs, e, r.le l⟩
theorem RepC.le {K : PySem.W.Frag} {H H' : Hp} {c : Cell} {o : HO} (l : Le K H H') (r : RepC K H c o) : RepC K H' c o := by
  cases c with
  | pur b => exact r
  | lst xs => obtain ⟨vs, e, r⟩ := r; exact ⟨vs, e, r.le l⟩
  | dct kvs => obtain ⟨vs, e, r⟩ := r; exact ⟨vs, e, r.le l⟩
  | obj C fs => obtain ⟨dx, vs, e, r⟩ := r; exact ⟨dx, vs, e, r.le l⟩
  | lck od ws kvs => exact ⟨r.1, r.2.le l⟩
/-- one table's lock changes what is read in nothing -/
theorem Le.lock {K : PySem.W.Frag} {H : Hp} {a : Addr} {o : Obj} {ws : List (Key × V)} (h : H a = some (.dK ws)) : Le K H (upd H a (.frz o (.dK ws))) := by
  have ne : ∀ {b : Addr} {x : HO}, H b = some x → x ≠ .dK ws → b ≠ a := fun e n z => by rw [z, h] at e; cases e; exact n rfl
  refine ⟨fun b vs q => ?_, fun b vs q => ?_, fun b us q => ?_, fun b C dx us q => ?_, fun b vs q => ?_, fun b us q => ?_, fun b o' vs q => ?_⟩
  · rcases q with q | ⟨o', d, q⟩
    · exact .inl (by rw [upd_ne (ne q (by intro z; cases z))]; exact q)
    · exact .inr ⟨o', d, by rw [upd_ne (ne q (by intro z; cases z))]; exact q⟩
  · rw [upd_ne (ne q (by intro z; cases z))]; exact q
  · by_cases hb : b = a
    · subst hb
      rcases q with q | ⟨o', q⟩
      · rw [h] at q; cases q; exact .inr ⟨o, upd_same⟩
      · rw [h] at q; cases q
    · rcases q with q | ⟨o', q⟩
      · exact .inl (by rw [upd_ne hb]; exact q)
      · exact .inr ⟨o', by rw [upd_ne hb]; exact q⟩
  · rw [upd_ne (ne q (by intro z; cases z))]; exact q
  · rcases q with (q | ⟨o', q⟩) | q
    · exact .inl (.inl (by rw [upd_ne (ne q (by intro z; cases z))]; exact q))
    · exact .inl (.inr ⟨o', by rw [upd_ne (ne q (by intro z; cases z))]; exact q⟩)
    · exact .inr q
  · rw [upd_ne (ne q (by intro z; cases z))]; exact q
  · rw [upd_ne (ne q (by intro z; cases z))]; exact q
theorem Le.unlock {K : PySem.W.Frag} {H : Hp} {a : Addr} {o : Obj} {ws : List (Key × V)} (h : H a = some (.frz o (.dK ws))) : Le K H (upd H a (.dK ws)) := by
  have ne : ∀ {b : Addr} {x : HO}, H b = some x → x ≠ .frz o (.dK ws) → b ≠ a := fun e n z => by rw [z, h] at e; cases e; exact n rfl
  refine ⟨fun b vs q => ?_, fun b vs q => ?_, fun b us q => ?_, fun b C dx us q => ?_, fun b vs q => ?_, fun b us q => ?_, fun b o' vs q => ?_⟩
  · rcases q with q | ⟨o', d, q⟩
    · exact .inl (by rw [upd_ne (ne q (by intro z; cases z))]; exact q)
    · exact .inr ⟨o', d, by rw [upd_ne (ne q (by intro z; cases z))]; exact q⟩
  · rw [upd_ne (ne q (by intro z; cases z))]; exact q
  · by_cases hb : b = a
    · subst hb
      rcases q with q | ⟨o', q⟩
      · rw [h] at q; cases q
      · rw [h] at q; cases q; exact .inl upd_same
    · rcases q with q | ⟨o', q⟩
      · exact .inl (by rw [upd_ne hb]; exact q)
      · exact .inr ⟨o', by rw [upd_ne hb]; exact q⟩
  · rw [upd_ne (ne q (by intro z; cases z))]; exact q
  · rcases q with (q | ⟨o', q⟩) | q
    · exact .inl (.inl (by rw [upd_ne (ne q (by intro z; cases z))]; exact q))
    · exact .inl (.inr ⟨o', by rw [upd_ne (ne q (by intro z; cases z))]; exact q⟩)
    · exact .inr q
  · rw [upd_ne (ne q (by intro z; cases z))]; exact q
  · rw [upd_ne (ne q (by intro z; cases z))]; exact q
/-- a lock: Z', Hs', H', C' the account while it holds; G what holds of the cells meanwhile; uHs, uH, uC the way back -/
structure Lkd (K : PySem.W.Frag) (Z Z' : Z0) (Hs H Hs' H' : Hp) (C C' : Cs) (G : Cs → Prop) (uC : Cs → Cs) (uHs uH : Hp → Hp) : Prop where
  inn : ∀ σ env, SR K Z σ Hs H env C → SR K Z' σ Hs' H' env C'
  fl : Z'.F = Hs'
  g0 : G C'
  fit : ∀ Hs2 H2 C2, Fits K Hs2 H2 C2 → Bas Z' Hs2 H2 C2 → G C2 → Fits K (uHs Hs2) (uH H2) (uC C2) ∧ Bas Z (uHs Hs2) (uH H2) (uC C2)
  zH : ∀ p, Z'.H p = none → Z.H p = none
  le : ∀ Hs2, Same Hs' Hs2 → Le K Hs2 (uHs Hs2)
  off : ∀ Hs2 H2 C2 p x, Fits K Hs2 H2 C2 → Same Hs' Hs2 → G C2 → Hs2 p = none → C2 p = none → H2 p = some x → uHs Hs2 p = none ∧ uC C2 p = none ∧ uH H2 p = some x
  same : ∀ Hs2, Same Hs' Hs2 → Same Hs (uHs Hs2)
  kp : ∀ Hs2 H2 C2 b x, Fits K Hs2 H2 C2 → Same Hs' Hs2 → G C2 → H b = some x → C b = none → (H' b = some x → C' b = none → H2 b = some x ∧ C2 b = none) → uH H2 b = some x ∧ uC C2 b = none
section
variable {K : PySem.W.Frag} {Z Z' : Z0} {Hs H Hs' H' : Hp} {C C' : Cs} {G : Cs → Prop} {uC : Cs → Cs} {uHs uH : Hp → Hp} {σ : St} {env : DL.Env}
theorem Lkd.tr (L : Lkd K Z Z' Hs H Hs' H' C C' G uC uHs uH) {Hs2 H2 : Hp} {C2 : Cs} (f : Fits K Hs2 H2 C2) (g : G C2) (t : Tr Hs' H' C' Hs2 H2 C2) : Tr Hs H C (uHs Hs2) (uH H2) (uC C2) :=
  ⟨L.same _ t.fr, fun b x e c => L.kp _ _ _ b x f t.fr g e c fun e1 c1 => t.kp b x e1 c1⟩
theorem Lkd.out (L : Lkd K Z Z' Hs H Hs' H' C C' G uC uHs uH) {Hs2 H2 : Hp} {C2 : Cs} (r : SR K Z' σ Hs2 H2 env C2) (g : G C2) : SR K Z σ (uHs Hs2) (uH H2) env (uC C2) := by
  obtain ⟨f, b⟩ := L.fit _ _ _ r.fit r.bas g
  have fr : Same Hs' Hs2 := by have := r.bas.fl; rw [L.fl] at this; exact this
  refine ⟨f, b, r.slt.len, fun i d e => ?_, fun i c e => ?_, r.slt.sep⟩
  · obtain ⟨v, e1, q⟩ := r.slt.shr i d e
    exact ⟨v, e1, q.le (L.le _ fr)⟩
  · obtain ⟨p, o, e1, e2, q, n1, n2, n3⟩ := r.slt.own i c e
    obtain ⟨m1, m2, m3⟩ := L.off _ _ _ p o r.fit fr g n1 n2 e2
    exact ⟨p, o, e1, m3, q.le (L.le _ fr), m1, m2, L.zH p n3⟩
theorem Lkd.ret (L : Lkd K Z Z' Hs H Hs' H' C C' G uC uHs uH) {Hs2 H2 : Hp} {C2 : Cs} {r : Ret} {v : V} (f : Fits K Hs2 H2 C2) (fr : Same Hs' Hs2) (g : G C2) (q : RRet K Z' Hs2 H2 C2 r v) : RRet K Z (uHs Hs2) (uH H2) (uC C2) r v := by
  cases r with
  | shr d => exact Rep.le (L.le _ fr) q
  | frs c =>
    obtain ⟨p, o, e, e2, r1, n1, n2, n3⟩ := q
    obtain ⟨m1, m2, m3⟩ := L.off _ _ _ p o f fr g n1 n2 e2
    exact ⟨p, o, e, m3, r1.le (L.le _ fr), m1, m2, L.zH p n3⟩
/-- nothing is locked -/
theorem Lkd.no (b0 : Bas Z Hs H C) : Lkd K Z { Z with F := Hs } Hs H Hs H C C (fun _ => True) id id id where
  inn := fun σ env r => r.raise
  fl := rfl
  g0 := trivial
  fit := fun Hs2 H2 C2 f b _ => ⟨f, ⟨fun x y e => b.fl x y (b0.fl x y e), b.kp, b.th⟩⟩
  zH := fun p h => h
  le := fun Hs2 _ => Le.of fun _ _ e => e
  off := fun Hs2 H2 C2 p x _ _ _ h1 h2 h3 => ⟨h1, h2, h3⟩
  same := fun Hs2 s => s
  kp := fun Hs2 H2 C2 b x _ _ _ e c k => k e c
/-- the heap with the lock, where the thing was there -/
def lkH (a : Addr) (F : HO) (H : Hp) : Hp := fun b => if b = a then (match H a with
  | .none => Option.none
  | some _ => some F) else H b
theorem lkH_ne {a b : Addr} {F : HO} {H : Hp} (h : b ≠ a) : lkH a F H b = H b := by unfold lkH; rw [if_neg h]
theorem lkH_at {a : Addr} {F y : HO} {H : Hp} (h : H a = some y) : lkH a F H a = some F := by unfold lkH; rw [if_pos rfl, h]
theorem lkH_no {a : Addr} {F : HO} {H : Hp} (h : H a = none) : lkH a F H a = none := by unfold lkH; rw [if_pos rfl, h]
theorem cel_not {Hs2 H2 : Hp} {C2 : Cs} {a : Addr} {x : HO} (f : Fits K Hs2 H2 C2) (h : Hs2 a = some x) : C2 a = none := by
  cases e : C2 a with
  | none => rfl
  | some c => have := (f.cel a c e).1; rw [h] at this; cases this
/-- a table that stays -/
theorem Lkd.shr {a : Addr} {ws : List (Key × V)} (f0 : Fits K Hs H C) (b0 : Bas Z Hs H C) (h : Hs a = some (.dK ws)) (o : Obj) :
    Lkd K Z ⟨Z.Hs, lkH a (.frz o (.dK ws)) Z.H, Z.C, upd Hs a (.frz o (.dK ws))⟩ Hs H (upd Hs a (.frz o (.dK ws))) (upd H a (.frz o (.dK ws))) C C (fun _ => True) id (fun Hs2 => upd Hs2 a (.dK ws)) (fun H2 => upd H2 a (.dK ws)) := by
  have ha : H a = some (.dK ws) := f0.sub _ _ h
  have ca : ∀ {Hs2 H2 C2}, Fits K Hs2 H2 C2 → Same (upd Hs a (.frz o (.dK ws))) Hs2 → Hs2 a = some (.frz o (.dK ws)) ∧ H2 a = some (.frz o (.dK ws)) ∧ C2 a = none := fun f s => ⟨s _ _ upd_same, f.sub _ _ (s _ _ upd_same), cel_not f (s _ _ upd_same)⟩
  refine ⟨fun σ env r => ⟨⟨fun b x e => ?_, fun b c e => ?_⟩, ⟨fun b x e => e, fun b x e c => ?_, fun b x e => ?_⟩, ⟨r.slt.len, fun i d e => ?_, fun i c e => ?_, r.slt.sep⟩⟩, rfl, trivial, fun Hs2 H2 C2 f b _ => ?_, fun p e => ?_, fun Hs2 s => Le.unlock (s _ _ upd_same), fun Hs2 H2 C2 p x f s _ h1 h2 h3 => ?_, fun Hs2 s b x e => ?_, fun Hs2 H2 C2 b x f s _ e c k => ?_⟩
  · by_cases hb : b = a
    · subst hb; rw [upd_same] at e ⊢; exact e
    · rw [upd_ne hb] at e ⊢; exact r.fit.sub b x e
  · obtain ⟨n, x, e1, q⟩ := r.fit.cel b c e
    have hb : b ≠ a := fun z => by rw [z, h] at n; cases n
    exact ⟨by rw [upd_ne hb]; exact n, x, by rw [upd_ne hb]; exact e1, q.le (Le.lock h)⟩
  · dsimp only at e c ⊢
    by_cases hb : b = a
    · subst hb
      cases hz : Z.H b with
      | none => rw [lkH_no hz] at e; cases e
      | some y =>
        rw [lkH_at hz] at e
        obtain ⟨k1, k2, k3⟩ := r.bas.kp b y hz c
        exact ⟨by rw [upd_same]; exact e, k2, fun z => by have := k3 z; rw [h] at this; cases this⟩
    · rw [lkH_ne hb] at e
      obtain ⟨k1, k2, k3⟩ := r.bas.kp b x e c
      exact ⟨by rw [upd_ne hb]; exact k1, k2, fun z => by rw [upd_ne hb]; exact k3 z⟩
  · dsimp only at e ⊢
    by_cases hb : b = a
    · subst hb; exact ⟨_, upd_same⟩
    · rw [lkH_ne hb] at e
      obtain ⟨o', e'⟩ := r.bas.th b x e
      exact ⟨o', by rw [upd_ne hb]; exact e'⟩
  · obtain ⟨v, e1, q⟩ := r.slt.shr i d e
    exact ⟨v, e1, q.le (Le.lock h)⟩
  · obtain ⟨p, x, e1, e2, q, n1, n2, n3⟩ := r.slt.own i c e
    have hp : p ≠ a := fun z => by rw [z, h] at n1; cases n1
    exact ⟨p, x, e1, by rw [upd_ne hp]; exact e2, q.le (Le.lock h), by rw [upd_ne hp]; exact n1, n2, (lkH_ne hp).trans n3⟩
  · obtain ⟨s1, h1, c1⟩ := ca f b.fl
    refine ⟨⟨fun x y e => ?_, fun x c e => ?_⟩, ⟨fun x y e => ?_, fun x y e c => ?_, fun x y e => ?_⟩⟩
    · by_cases hx : x = a
      · subst hx; rw [upd_same] at e ⊢; exact e
      · rw [upd_ne hx] at e ⊢; exact f.sub x y e
    · obtain ⟨n, y, e1, q⟩ := f.cel x c e
      have hx : x ≠ a := fun z => by rw [z, s1] at n; cases n
      exact ⟨by rw [upd_ne hx]; exact n, y, by rw [upd_ne hx]; exact e1, q.le (Le.unlock s1)⟩
    · have e0 := b0.fl x y e
      by_cases hx : x = a
      · subst hx; rw [h] at e0; rw [upd_same]; exact e0
      · rw [upd_ne hx]; exact b.fl x y (by dsimp only; rw [upd_ne hx]; exact e0)
    · by_cases hx : x = a
      · subst hx
        obtain ⟨k1, k2, k3⟩ := b0.kp x y e c
        rw [ha] at k1
        exact ⟨by rw [upd_same]; exact k1, c1, fun z => by have := k3 z; rw [h] at this; cases this⟩
      · obtain ⟨k1, k2, k3⟩ := b.kp x y ((lkH_ne hx).trans e) c
        exact ⟨by rw [upd_ne hx]; exact k1, k2, fun z => by rw [upd_ne hx]; exact k3 z⟩
    · by_cases hx : x = a
      · subst hx; exact ⟨_, upd_same⟩
      · obtain ⟨o', e'⟩ := b.th x y ((lkH_ne hx).trans e)
        exact ⟨o', by rw [upd_ne hx]; exact e'⟩
  · by_cases hp : p = a
    · subst hp
      cases hz : Z.H p with
      | none => rfl
      | some y => have e' : lkH p _ Z.H p = _ := e; rw [lkH_at hz] at e'; cases e'
    · exact (lkH_ne hp).symm.trans e
  · have hp : p ≠ a := fun z => by rw [z, (ca f s).1] at h1; cases h1
    exact ⟨by rw [upd_ne hp]; exact h1, h2, by rw [upd_ne hp]; exact h3⟩
  · by_cases hb : b = a
    · subst hb; rw [h] at e; rw [upd_same]; exact e
    · rw [upd_ne hb]; exact s b x (by rw [upd_ne hb]; exact e)
  · by_cases hb : b = a
    · subst hb; rw [ha] at e; exact ⟨by rw [upd_same]; exact e, (ca f s).2.2⟩
    · obtain ⟨k1, k2⟩ := k (by rw [upd_ne hb]; exact e) c
      exact ⟨by rw [upd_ne hb]; exact k1, k2⟩
/-- a table that is a cell -/
theorem Lkd.cel {a : Addr} {ws : List (Key × V)} {kvs : List (DK × D)} (f0 : Fits K Hs H C) (b0 : Bas Z Hs H C) (hc : C a = some (.dct kvs)) (ha : H a = some (.dK ws)) (o : Obj) :
    Lkd K Z { Z with F := Hs } Hs H Hs (upd H a (.frz o (.dK ws))) C (cput C a (.lck o ws kvs)) (fun C2 => C2 a = some (.lck o ws kvs)) (fun C2 => cput C2 a (.dct kvs)) id (fun H2 => upd H2 a (.dK ws)) := by
  have at0 : ∀ {Hs2 H2 C2}, Fits K Hs2 H2 C2 → C2 a = some (.lck o ws kvs) → Hs2 a = none ∧ H2 a = some (.frz o (.dK ws)) ∧ RepKV K Hs2 kvs ws := fun f g => by
    obtain ⟨n, x, e1, e2, q⟩ := f.cel a _ g
    exact ⟨n, by rw [e1, e2], q⟩
  have hn : Hs a = none := (f0.cel a _ hc).1
  refine ⟨fun σ env r => ⟨⟨fun b x e => ?_, fun b c e => ?_⟩, ⟨fun b x e => e, fun b x e c => ?_, fun b x e => ?_⟩, ⟨r.slt.len, r.slt.shr, fun i c e => ?_, r.slt.sep⟩⟩, rfl, cput_same, fun Hs2 H2 C2 f b g => ?_, fun p e => e, fun Hs2 s => Le.of fun _ _ e => e, fun Hs2 H2 C2 p x f s g h1 h2 h3 => ?_, fun Hs2 s => s, fun Hs2 H2 C2 b x f s g e c k => ?_⟩
  · have hb : b ≠ a := fun z => by rw [z, hn] at e; cases e
    rw [upd_ne hb]; exact r.fit.sub b x e
  · by_cases hb : b = a
    · subst hb
      rw [cput_same] at e
      cases e
      obtain ⟨n, x, e1, us, e2, q⟩ := r.fit.cel b _ hc
      rw [e1] at ha
      cases ha
      cases e2
      exact ⟨n, _, upd_same, rfl, q⟩
    · rw [cput_ne hb] at e
      obtain ⟨n, x, e1, q⟩ := r.fit.cel b c e
      exact ⟨n, x, by rw [upd_ne hb]; exact e1, q⟩
  · obtain ⟨k1, k2, k3⟩ := r.bas.kp b x e c
    have hb : b ≠ a := fun z => by rw [z, hc] at k2; cases k2
    exact ⟨by rw [upd_ne hb]; exact k1, by rw [cput_ne hb]; exact k2, k3⟩
  · by_cases hb : b = a
    · subst hb; exact ⟨_, upd_same⟩
    · obtain ⟨o', e'⟩ := r.bas.th b x e
      exact ⟨o', by rw [upd_ne hb]; exact e'⟩
  · obtain ⟨p, x, e1, e2, q, n1, n2, n3⟩ := r.slt.own i c e
    have hp : p ≠ a := fun z => by rw [z, hc] at n2; cases n2
    exact ⟨p, x, e1, by rw [upd_ne hp]; exact e2, q, n1, by rw [cput_ne hp]; exact n2, n3⟩
  · obtain ⟨s1, h1, q1⟩ := at0 f g
    refine ⟨⟨fun x y e => ?_, fun x c e => ?_⟩, ⟨fun x y e => b.fl x y (b0.fl x y e), fun x y e c => ?_, fun x y e => ?_⟩⟩
    · have hx : x ≠ a := fun z => by rw [z] at e; exact absurd (e.symm.trans s1) (by intro z; cases z)
      rw [upd_ne hx]; exact f.sub x y e
    · by_cases hx : x = a
      · subst hx
        rw [cput_same] at e
        cases e
        exact ⟨s1, _, upd_same, ws, rfl, q1⟩
      · rw [cput_ne hx] at e
        obtain ⟨n, y, e1, q⟩ := f.cel x c e
        exact ⟨n, y, by rw [upd_ne hx]; exact e1, q⟩
    · obtain ⟨k1, k2, k3⟩ := b.kp x y e c
      have hx : x ≠ a := fun z => by rw [z, g] at k2; cases k2
      exact ⟨by rw [upd_ne hx]; exact k1, by rw [cput_ne hx]; exact k2, k3⟩
    · by_cases hx : x = a
      · subst hx; exact ⟨_, upd_same⟩
      · obtain ⟨o', e'⟩ := b.th x y e
        exact ⟨o', by rw [upd_ne hx]; exact e'⟩
  · have hp : p ≠ a := fun z => by rw [z, g] at h2; cases h2
    exact ⟨h1, by rw [cput_ne hp]; exact h2, by rw [upd_ne hp]; exact h3⟩
  · have hb : b ≠ a := fun z => by rw [z, hc] at c; cases c
    obtain ⟨k1, k2⟩ := k (by rw [upd_ne hb]; exact e) (by rw [cput_ne hb]; exact c)
    exact ⟨by rw [upd_ne hb]; exact k1, by rw [cput_ne hb]; exact k2⟩
end
end L2.DL
/-! FB: walks over tables: for, list and table comprehensions. -/
namespace L2.DL
open PySem PySem.Spec PyProof.Rows
def keyD : DK → D
  | .inl i => .int i
  | .inr s => .str s
inductive WK where
  | keys | vals | items
@[reducible] def oneW : WK → DK → D → D
  | .keys, k, _ => keyD k
  | .vals, _, d => d
  | .items, k, d => .tup [keyD k, d]
def walkD (w : WK) (kvs : List (DK × D)) : List D := kvs.map fun kv => oneW w kv.1 kv.2
theorem keyD_rep {K : PySem.W.Frag} {Hs : Hp} (k : DK) : Rep K Hs (keyD k) (kV (kOf k)) := by
  cases k with
  | inl i => exact .int i
  | inr s => exact .str s
theorem RepKV.get {K : PySem.W.Frag} {Hs : Hp} : ∀ {kvs : List (DK × D)} {ws : List (Key × V)} {i : Nat} {k : DK} {d : D}, RepKV K Hs kvs ws → kvs[i]? = some (k, d) → ∃ v, ws[i]? = some (kOf k, v) ∧ Rep K Hs d v
  | _, _, _, _, _, .nil, e => by simp at e
  | _, _, 0, _, _, .cons h _, e => by simp at e; obtain ⟨rfl, rfl⟩ := e; exact ⟨_, rfl, h⟩
  | _, _, i + 1, _, _, .cons _ r, e => RepKV.get (i := i) r (by simpa using e)
/-- what an iterator gives, while G holds of the cells -/
structure WalksX (K : PySem.W.Frag) (J : It) (ds : List D) (F : Hp) (G : Cs → Prop) : Prop where
  go : ∀ (i : Nat) (d : D) Hs H C, ds[i]? = some d → Same F Hs → Fits K Hs H C → G C → J.go i H
  yld : ∀ (i : Nat) (d : D) Hs H C x H', ds[i]? = some d → Same F Hs → Fits K Hs H C → G C → J.yld i H x H' → ∃ Hs', Rep K Hs' d x ∧ Same Hs Hs' ∧ ∀ Z σ env, SR K Z σ Hs H env C → SR K Z σ Hs' H' env C ∧ Tr Hs H C Hs' H' C
  stop : ∀ Hs H C, Same F Hs → Fits K Hs H C → G C → J.stop ds.length H
theorem WalksX.of {K : PySem.W.Frag} {J : It} {ds : List D} {F : Hp} (w : Walks K J ds F) : WalksX K J ds F (fun _ => True) :=
  ⟨fun i d Hs H C e s f _ => w.go i d Hs H C e s f, fun i d Hs H C x H' e s f _ y => w.yld i d Hs H C x H' e s f y, fun Hs H C s f _ => w.stop Hs H C s f⟩
/-! ### what is walked, with what holds meanwhile -/
abbrev WM := EX → DL.Env → Cs → (List D → (Cs → Prop) → (Cs → Cs) → DL.Env → Cs → Prop) → Prop
def ULok (X : Cx) (Hs' : Hp) (G : Cs → Prop) (uH : Hp → Hp) : Prop := ∀ Hs2 H2 C2 (P : Hp → Prop), Same Hs' Hs2 → Fits X.K Hs2 H2 C2 → G C2 → P (uH H2) → UL X P H2
def LIx (X : Cx) (Z : Z0) (m : DL.Env → Cs → (List D → (Cs → Prop) → (Cs → Cs) → DL.Env → Cs → Prop) → Prop) : TI := fun σ H R => ∃ Hs env C P, SR X.K Z σ Hs H env C ∧ m env C P ∧
  ∀ ds G uC env1 C1 C' Z' Hs1 H1 Hs' H' J uHs uH, P ds G uC env1 C' → Tr Hs H C Hs1 H1 C1 → SR X.K Z σ Hs1 H1 env1 C1 → Lkd X.K Z Z' Hs1 H1 Hs' H' C1 C' G uC uHs uH → ULok X Hs' G uH → WalksX X.K J ds Hs' G → R J H'
def DIx (X : Cx) (tg iter : Expr) (m : WM) : Prop := ∀ Z E, DX X Z E → PI X tg iter (LIx X Z (m E))
def mLift (mi : EM (List D)) : WM := fun E env C Q => mi E env C fun ds env1 C1 => Q ds (fun _ => True) id env1 C1
def mDw (w : WK) (mo : EM D) : WM := fun E env C Q => mo E env C fun d env1 C1 => match d with
  | .dct kvs => Q (walkD w kvs) (fun _ => True) id env1 C1
  | .cell a => match C1 a with
    | some (.dct kvs) => ∀ o ws, Q (walkD w kvs) (fun C2 => C2 a = some (.lck o ws kvs)) (fun C2 => cput C2 a (.dct kvs)) env1 (cput C1 a (.lck o ws kvs))
    | _ => False
  | _ => False
section
variable {X : Cx} {tg e : Expr} {apos cpos : Pos} {mo : EM D} {mi : EM (List D)}
theorem pi_weak {w w' : TI} (h : PI X tg e w) (k : ∀ σ H R, w' σ H R → w σ H R) : PI X tg e w' := ⟨fun pins s σ H R I q => h.run pins s σ H R I (k σ H R q)⟩
end
/-! ### for -/
def forG (G : Cs → Prop) (uC : Cs → Cs) (g : GM) (mb : SM) (dE : DEnds) : List D → DL.Env → Cs → Prop
  | [], env, C => G C ∧ dE.nx env (uC C)
  | d :: ds, env, C => G C ∧ g d (fun env1 C1 => mb E0 ⟨forG G uC g mb dE ds, fun r C2 => G C2 ∧ dE.rt r (uC C2), fun env2 C2 => G C2 ∧ dE.nx env2 (uC C2), forG G uC g mb dE ds⟩ env1 C1) env C
def sForX (g : GM) (mi : WM) (mb : SM) : SM := fun E dE env C => mi E env C fun ds G uC env1 C1 => forG G uC g mb dE ds env1 C1
section
variable {X : Cx} {pos : Pos}
theorem ds_forX {tg iter : Expr} {body : List Stmt} {g : GM} {mi : WM} {mb : SM} (hp : PassesOwn (model X.prog X.w) X.A X.env X.xe) (hc : X.calm = true) (hi : DIx X tg iter mi) (hg : DG X tg g) (hb : DSs X body mb)
    (hs : ∀ x, foldedSetIterable iter X.env x = pure x) : DS X (.For tg iter body [] pos) (sForX g mi mb) := fun Z E hE => by
  have hg' : PG X tg (fun v σ H Q => ∃ Z', LGt X.K Z' g v σ H Q) := ⟨fun pins s σ H v u Q I r ⟨Z', q⟩ => (hg Z').run pins s σ H v u Q I r q⟩
  have hb' : PSs X body (fun D σ H => ∃ Z', LS X.K Z' (mb E0) D σ H) := ⟨fun pins s σ H D I ⟨Z', q⟩ => (hb Z' E0 dx0).run pins s σ H D I q⟩
  refine ⟨fun pins s σ H D I ⟨Hs, env, C, dE, sr, ok, q⟩ => (ps_unlk (ps_for hp hc (hi Z E hE) hg' hb' hs)).run pins s σ H D I ?_⟩
  refine ⟨Hs, env, C, _, sr, q, fun ds G uC env1 C1 C' Z' Hs1 H1 Hs' H' J uHs uH q1 t1 s1 L ul wk => ?_⟩
  have s0 := L.inn _ _ s1
  have fl : ∀ {σ Hs2 H2 env2 C2}, SR X.K Z' σ Hs2 H2 env2 C2 → Same Hs' Hs2 := fun r => by have := r.bas.fl; rw [L.fl] at this; exact this
  have enx : ∀ {σ2 Hs2 H2 env2 C2}, SR X.K Z' σ2 Hs2 H2 env2 C2 → G C2 → dE.nx env2 (uC C2) → UL X (D.nx σ2) H2 := fun {σ2 Hs2 H2 env2 C2} r g z => ul Hs2 H2 C2 (D.nx σ2) (fl r) r.fit g (ok.1 _ _ _ _ _ (L.out r g) z)
  refine ⟨fun i m σ H => m = ds.length - i ∧ i ≤ ds.length ∧ ∃ Hs env C, SR X.K Z' σ Hs H env C ∧ forG G uC g mb dE (ds.drop i) env C, ⟨ds.length, by simp, Nat.zero_le _, Hs', env1, C', s0, by simpa using q1⟩, ?_⟩
  rintro i m σ2 H2 ⟨rfl, hi2, Hs2, env2, C2, s2, q2⟩
  by_cases hlt : i < ds.length
  · have hd : ds[i]? = some ds[i] := by simp [hlt]
    rw [List.drop_eq_getElem_cons hlt] at q2
    obtain ⟨g2, q2⟩ := q2
    refine .inr ⟨wk.go i _ Hs2 H2 C2 hd (fl s2) s2.fit g2, fun σ' H' => ∃ Hs env C, SR X.K Z' σ' Hs H' env C ∧ forG G uC g mb dE (ds.drop (i + 1)) env C, fun σ' H' ⟨Hs', env', C', s', q'⟩ => ⟨ds.length - (i + 1), by omega, rfl, hlt, Hs', env', C', s', q'⟩, fun x H' y => ?_⟩
    obtain ⟨Hs3, r3, l3, f3⟩ := wk.yld i _ Hs2 H2 C2 x H' hd (fl s2) s2.fit g2 y
    obtain ⟨s3, t3⟩ := f3 _ _ _ s2
    refine ⟨Z', Hs3, env2, C2, _, _, s3, r3, q2, fun σ' Hs' H' env' C' s' p => ⟨Z', Hs', env', C', _, s', ⟨?_, ?_, ?_, ?_⟩, p⟩⟩
    · exact fun σ Hs H env C r z => ⟨Hs, env, C, r, z⟩
    · rintro r v Hs4 H4 C4 f4 b4 rr ⟨g4, z4⟩
      have fr4 := b4.fl
      rw [L.fl] at fr4
      obtain ⟨f5, b5⟩ := L.fit _ _ _ f4 b4 g4
      exact ul Hs4 H4 C4 (D.rt v) fr4 f4 g4 (ok.2.1 r v _ _ _ f5 b5 (L.ret f4 fr4 g4 rr) z4)
    · rintro σ4 Hs4 H4 env4 C4 r4 ⟨g4, z4⟩
      exact enx r4 g4 z4
    · exact fun σ Hs H env C r z => ⟨Hs, env, C, r, z⟩
  · have e : i = ds.length := by omega
    subst e
    rw [List.drop_length] at q2
    exact .inl ⟨wk.stop Hs2 H2 C2 (fl s2) s2.fit q2.1, enx s2 q2.1 q2.2⟩
end
end L2.DL
/-! FC: list and table comprehensions over whatever is walked. -/
namespace L2.DL
open PySem PySem.Spec PyProof.Rows
/-- the loop of a comprehension: acc what is made so far, put how an item joins it -/
def compX {β : Type} (G : Cs → Prop) (uC : Cs → Cs) (vs : List Nat) (g : GM) (mc : EM Bool) (me : EM β) (put : List γ → β → (List γ → Prop) → Prop) (Q : List γ → Cs → Prop) : List D → List γ → DL.Env → Cs → Prop
  | [], acc, _, C => G C ∧ Q acc (uC C)
  | d :: ds, acc, env, C => G C ∧ g d (fun env1 C1 => wipeE env1 vs = env ∧ mc E0 env1 C1 fun b env2 C2 => env2 = env1 ∧
      if b = true then me E0 env1 C2 fun y env3 C3 => env3 = env1 ∧ acc.length < sizeLine ∧ put acc y fun acc' => compX G uC vs g mc me put Q ds acc' env C3 else compX G uC vs g mc me put Q ds acc env C2) env C
def putL (acc : List D) (y : D) (P : List D → Prop) : Prop := P (acc ++ [y])
def putKV (acc : List (DK × D)) (y : D × D) (P : List (DK × D) → Prop) : Prop := ∃ k, dkOf y.1 = some k ∧ P (putD acc k y.2)
def mCompX (vs : List Nat) (g : GM) (mi : WM) (mc : EM Bool) (me : EM D) : EM Cont := fun E env C Q => mi E env C fun ds G uC env1 C1 => noOwn env1 vs = true ∧ compX G uC vs g mc me putL (fun acc C2 => Q (.lst acc) env1 C2) ds [] (wipeE env1 vs) C1
/-- key, value -/
def mKV (mk mv : EM D) : EM (D × D) := fun E env C Q => mk E env C fun k env1 C1 => env1 = env ∧ mv E env1 C1 fun v env2 C2 => Q (k, v) env2 C2
def mCompD (vs : List Nat) (g : GM) (mi : WM) (mc : EM Bool) (mk mv : EM D) : EM Cont := fun E env C Q => mi E env C fun ds G uC env1 C1 => noOwn env1 vs = true ∧ compX G uC vs g mc (mKV mk mv) putKV (fun acc C2 => Q (.dct acc) env1 C2) ds [] (wipeE env1 vs) C1
section
variable {X : Cx} {Z : Z0}
/-- the account of the state within the comprehension; o what the new thing holds -/
structure InC (K : PySem.W.Frag) (Z' : Z0) (σ : St) (vs : List Nat) (env1 : DL.Env) (D : Addr) (H' : Hp) (C' : Cs) (o : HO) (Hs H : Hp) (C : Cs) : Prop where
  sr : SR K Z' (wipe σ vs) Hs H (wipeE env1 vs) C
  at0 : H D = some o
  hs : Hs D = none
  c : C D = none
  kp : ∀ a x, H' a = some x → C' a = none → H a = some x ∧ C a = none
theorem nod_wiped {σ : St} {vs : List Nat} {env1 : DL.Env} {D : Addr} (noD : ∀ (i : Nat) (c : Cont), env1[i]? = some (Slot.own c) → σ[i]? ≠ some (some (V.ref D))) : ∀ (i : Nat) (c : Cont), (wipeE env1 vs)[i]? = some (Slot.own c) → (wipe σ vs)[i]? ≠ some (some (V.ref D)) := fun i c e z => by
  rcases wipeE_get e with ⟨h1, h2⟩ | h1
  · rw [wipe_out h1] at z
    exact noD i c h2 z
  · cases h1
/-- the new thing is written -/
theorem InC.put {K : PySem.W.Frag} {Z' : Z0} {σ : St} {vs : List Nat} {env1 : DL.Env} {D : Addr} {H' : Hp} {C' : Cs} {o o' : HO} {Hs2 H2 : Hp} {C2 : Cs} (h : InC K Z' σ vs env1 D H' C' o Hs2 H2 C2)
    (noD : ∀ (i : Nat) (c : Cont), env1[i]? = some (Slot.own c) → σ[i]? ≠ some (some (V.ref D))) (zD : Z'.H D = none) (hD : H' D = none) : InC K Z' σ vs env1 D H' C' o' Hs2 (upd H2 D o') C2 :=
  ⟨h.sr.wrP h.hs h.c zD (nod_wiped noD), upd_same, h.hs, h.c, fun a x e c => by
    obtain ⟨k1, k2⟩ := h.kp a x e c
    have ha : a ≠ D := ne_of_none e hD
    exact ⟨by rw [upd_ne ha]; exact k1, k2⟩⟩
/-- the end -/
theorem InC.fin {K : PySem.W.Frag} {Z Z' : Z0} {σ : St} {vs : List Nat} {env1 : DL.Env} {D : Addr} {Hs1 H1 Hs' H' : Hp} {C1 C' : Cs} {G : Cs → Prop} {uC : Cs → Cs} {uHs uH : Hp → Hp} {o : HO} {Hs2 H2 : Hp} {C2 : Cs} {c : Cont} (L : Lkd K Z Z' Hs1 H1 Hs' H' C1 C' G uC uHs uH) (s1 : SR K Z σ Hs1 H1 env1 C1)
    (h : InC K Z' σ vs env1 D H' C' o Hs2 H2 C2) (noD : ∀ (i : Nat) (c : Cont), env1[i]? = some (Slot.own c) → σ[i]? ≠ some (some (V.ref D))) (zD : Z'.H D = none) (nO : noOwn env1 vs = true) (g : G C2) (ro : RepO K Hs2 c o) :
    SR K Z σ (uHs Hs2) (uH H2) env1 (uC C2) ∧ Tr Hs1 H1 C1 (uHs Hs2) (uH H2) (uC C2) ∧ RFr K Z σ (uHs Hs2) (uH H2) env1 (uC C2) c (.ref D) := by
  have fr : Same Hs' Hs2 := by have := h.sr.bas.fl; rw [L.fl] at this; exact this
  have s2 := L.out h.sr g
  obtain ⟨m1, m2, m3⟩ := L.off _ _ _ D o h.sr.fit fr g h.hs h.c h.at0
  exact ⟨SR.unwipe nO s1 (L.same _ fr) s2 s2.bas fun p e => e, L.tr h.sr.fit g ⟨fr, h.kp⟩, D, o, rfl, m3, ro.le (L.le _ fr), m1, m2, L.zH D zD, noD⟩
end
end L2.DL
/-! FD: table comprehensions of two clauses. -/
namespace L2.DL
open PySem PySem.Spec PyProof.Rows
end L2.DL
/-! FE: table comprehensions of two clauses, over trees. -/
namespace L2.DL
open PySem PySem.Spec PyProof.Rows
/-- the loops of two clauses -/
def compY {β γ : Type} (vs vb : List Nat) (ga : GM) (ma : EM Bool) (mj : EM (List D)) (gb : GM) (mb : EM Bool) (me : EM β) (put : List γ → β → (List γ → Prop) → Prop) (Q : List γ → Cs → Prop) : List D → List γ → DL.Env → Cs → Prop
  | [], acc, _, C => Q acc C
  | d :: ds, acc, env, C => ga d (fun env1 C1 => wipeE env1 vs = env ∧ ma E0 env1 C1 fun b env2 C2 => env2 = env1 ∧
      if b = true then mj E0 env1 C2 fun es env3 C3 => env3 = env1 ∧ compX (fun _ => True) id vb gb mb me put (fun acc' C4 => compY vs vb ga ma mj gb mb me put Q ds acc' env C4) es acc (wipeE env1 vb) C3
      else compY vs vb ga ma mj gb mb me put Q ds acc env C2) env C
def mCompD2 (vs vb : List Nat) (ga : GM) (mi : EM (List D)) (ma : EM Bool) (mj : EM (List D)) (gb : GM) (mb : EM Bool) (mk mv : EM D) : EM Cont := fun E env C Q => mi E env C fun ds env1 C1 => noOwn env1 vs = true ∧ compY vs vb ga ma mj gb mb (mKV mk mv) putKV (fun acc C2 => Q (.dct acc) env1 C2) ds [] (wipeE env1 vs) C1
end L2.DL
/-! FF: o[i] op= e of own operators; tables' get and pop; lists that are cells, walked; targets in targets. -/
namespace PySem.W
open PySem PySem.Spec PyProof.Rows
end PySem.W
namespace L2.DL
open PySem PySem.Spec PyProof.Rows
/-! ### o[i] op= e, o a cell, the operator an own one -/
def GetC (o i : D) (C : Cs) (R : D → Prop) : Prop := ∃ a, o = .cell a ∧ match C a with
  | some (.lst xs) => ∃ k x, i = .int k ∧ atI xs k = some x ∧ R x
  | some (.dct kvs) => ∃ k x, dkOf i = some k ∧ look k kvs = some x ∧ R x
  | _ => False
def sAugS (Cl : Addr) (spv : DSpV) (mo mi me : EM D) : SM := fun E dE env C => mo E env C fun o env1 C1 => mi E env1 C1 fun i env2 C2 => GetC o i C2 fun x => me E env2 C2 fun y env3 C3 =>
  isOb Cl (dr C3 x) ∧ isOb Cl (dr C3 y) ∧ spv [x, y] [] C3 (fun r C4 => PutC o i r.tree dE.nx env3 C4) fun xx C4 => E xx env3 C4
end L2.DL
/-! FG: tables' get, pop, ==; lists that are cells, walked; targets in targets. -/
namespace L2.DL
open PySem PySem.Spec PyProof.Rows
/-! ### d.get(k), d.pop(k) -/
def mDGet2 (mo me mx : EM D) : EM D := fun E env C Q => mo E env C fun d env1 C1 => (∃ kvs0, dr C1 d = .dct kvs0) ∧ me E env1 C1 fun k env2 C2 => mx E env2 C2 fun x env3 C3 => ∃ kvs key, dr C3 d = .dct kvs ∧ dkOf k = some key ∧ Q ((look key kvs).getD x) env3 C3
def dropD (kvs : List (DK × D)) (k : DK) : List (DK × D) := kvs.filter fun kv => decide (kv.1 ≠ k)
def mDPop (mo me : EM D) : EM D := fun E env C Q => mo E env C fun d env1 C1 => ∃ a, d = .cell a ∧ (∃ kvs0, C1 a = some (.dct kvs0)) ∧ me E env1 C1 fun k env2 C2 => ∃ kvs key x, C2 a = some (.dct kvs) ∧ dkOf k = some key ∧ look key kvs = some x ∧ Q x env2 (cput C2 a (.dct (dropD kvs key)))
theorem RepKV.drop {K : PySem.W.Frag} {Hs : Hp} {k : DK} : ∀ {kvs : List (DK × D)} {ws : List (Key × V)}, RepKV K Hs kvs ws → RepKV K Hs (dropD kvs k) (dropK ws (kOf k))
  | _, _, .nil => .nil
  | _, _, @RepKV.cons _ _ j d v ds vs h r => by
    unfold dropD dropK
    rw [List.filter_cons, List.filter_cons]
    by_cases e : j = k
    · subst e
      simp only [ne_eq, not_true_eq_false, decide_false, Bool.false_eq_true, if_false]
      exact RepKV.drop r
    · have e' : kOf j ≠ kOf k := fun z => e (kOf_inj z)
      simp only [ne_eq, e, e', not_false_eq_true, decide_true, if_true]
      exact .cons h (RepKV.drop r)
/-! ### lists that are cells, walked -/
theorem Lkd.noG {K : PySem.W.Frag} {Z : Z0} {Hs H : Hp} {C : Cs} {G : Cs → Prop} (b0 : Bas Z Hs H C) (g : G C) : Lkd K Z { Z with F := Hs } Hs H Hs H C C G id id id where
  inn := fun σ env r => r.raise
  fl := rfl
  g0 := g
  fit := fun Hs2 H2 C2 f b _ => ⟨f, ⟨fun x y e => b.fl x y (b0.fl x y e), b.kp, b.th⟩⟩
  zH := fun p h => h
  le := fun Hs2 _ => Le.of fun _ _ e => e
  off := fun Hs2 H2 C2 p x _ _ _ h1 h2 h3 => ⟨h1, h2, h3⟩
  same := fun Hs2 s => s
  kp := fun Hs2 H2 C2 b x _ _ _ e c k => k e c
def mDl (mo : EM D) : WM := fun E env C Q => mo E env C fun d env1 C1 => match d with
  | .cell a => match C1 a with
    | some (.lst xs) => Q xs (fun C2 => C2 a = some (.lst xs)) id env1 C1
    | _ => False
  | d => match iterD d with
    | some ds => Q ds (fun _ => True) id env1 C1
    | none => False
theorem dix_list {X : Cx} {tg e : Expr} {mo : EM D} (he : DE X RShr e mo) : DIx X tg e (mDl mo) := fun Z E hE => pi_weak (pi_seq (he Z E hE)) fun σ H R ⟨Hs, env, C, P, sr, q, k⟩ =>
  ⟨Hs, env, C, _, sr, q, fun d env1 C1 v Hs1 H1 q1 t1 s1 r1 => by
    have nolock : ∀ {ds : List D} {J : It}, (∀ G uC, P ds G uC env1 C1 → True) → Walks X.K J ds Hs1 → P ds (fun _ => True) id env1 C1 → R J H1 := fun _ wk p =>
      k _ _ _ _ _ _ _ _ _ _ _ _ _ _ p t1 s1 (Lkd.no s1.bas) (fun Hs2 H2 C2 P _ _ _ p => .inl p) (.of wk)
    cases r1 with
    | cell a =>
      dsimp only at q1
      split at q1
      · rename_i xs hc
        obtain ⟨_, ob, eb, vs, rfl, rl⟩ := s1.fit.cel a _ hc
        refine .inl ⟨a, rfl, ⟨_, SqL.of eb⟩, k _ _ _ _ _ _ _ _ _ _ _ _ _ _ q1 t1 s1 (Lkd.noG s1.bas hc) (fun Hs2 H2 C2 P _ _ _ p => .inl p) ⟨?_, ?_, ?_⟩⟩
        · intro i x Hs2 H2 C2 ei s f g
          obtain ⟨_, ob, eb, us, rfl, ru⟩ := f.cel a _ g
          obtain ⟨y, ey, ry⟩ := RepL.get' ru ei
          exact ⟨us, y, SqL.of eb, ey⟩
        · intro i x Hs2 H2 C2 y H' ei s f g hy
          obtain ⟨rfl, hy⟩ := hy
          obtain ⟨_, ob, eb, us, rfl, ru⟩ := f.cel a _ g
          obtain ⟨y', ey, ry⟩ := RepL.get' ru ei
          have := hy us (SqL.of eb)
          rw [ey] at this
          cases this
          exact ⟨Hs2, ry, fun _ _ z => z, fun Z σ env r => ⟨r, .refl⟩⟩
        · intro Hs2 H2 C2 s f g
          obtain ⟨_, ob, eb, us, rfl, ru⟩ := f.cel a _ g
          exact ⟨us, SqL.of eb, by rw [ru.length]; exact Nat.le_refl _⟩
      · exact q1.elim
    | lst h r => exact .inl ⟨_, rfl, ⟨_, SqL.of (s1.fit.sub _ _ h)⟩, nolock (fun _ _ _ => trivial) (rep_walk_list h r) q1⟩
    | tup h r => exact .inr (.inl ⟨_, rfl, ⟨_, TupA.sq s1.fit.sub h⟩, nolock (fun _ _ _ => trivial) (rep_walk_tup h r) q1⟩)
    | str s => exact .inr (.inr ⟨_, rfl, nolock (fun _ _ _ => trivial) walk_str q1⟩)
    | scr h => exact .inl ⟨_, rfl, ⟨_, s1.fit.sub.seq h⟩, nolock (fun _ _ _ => trivial) (rep_walk_scr h) q1⟩
    | tupT d h => exact .inr (.inl ⟨_, rfl, ⟨_, TupA.sq s1.fit.sub (.inr ⟨_, d, h⟩)⟩, nolock (fun _ _ _ => trivial) (rep_walk_tup (.inr ⟨_, d, h⟩) (repl_strs _)) q1⟩)
    | kt h => exact .inr (.inl ⟨_, rfl, ⟨_, h.sq⟩, nolock (fun _ _ _ => trivial) (rep_walk_kt h) q1⟩)
    | _ => exact q1.elim⟩
/-! ### targets in targets -/
/-! ### == of tables -/
end L2.DL
/-! FH: list(d.values()), list(d.items()), dict(d), list(d), dict(pairs). -/
namespace L2.DL
open PySem PySem.Spec PyProof.Rows
/-- the table that a tree is now -/
def mTab {α : Type} (mo : EM D) (g : List (DK × D) → (α → Prop) → Prop) : EM α := fun E env C Q => mo E env C fun d env1 C1 => ∃ kvs, dr C1 d = .dct kvs ∧ g kvs fun x => Q x env1 C1
def keysL (kvs : List (DK × D)) : List D := kvs.map fun kv => keyD kv.1
section
variable {X : Cx}
/-- dict(d): a copy; list(d): the keys -/
def gDictD (ds : List D) (P : Cont → Prop) : Prop := match ds with
  | [.dct kvs] => P (.dct kvs)
  | _ => False
def gListD (ds : List D) (P : Cont → Prop) : Prop := match ds with
  | [.dct kvs] => P (.lst (keysL kvs))
  | _ => False
theorem keys_repL {K : PySem.W.Frag} {Hs : Hp} : ∀ {kvs : List (DK × D)} {ws : List (Key × V)}, RepKV K Hs kvs ws → RepL K Hs (keysL kvs) (ws.map fun kv => kV kv.1)
  | _, _, .nil => .nil
  | _, _, .cons _ r => .cons (keyD_rep _) (keys_repL r)
theorem calld_listD (hc : X.calm = true) : CallD X (.type "list") RFr gListD := ⟨_, call_listD hc, fun Z σ Hs H env C ds vs P Q sr n g k => by
  cases n with
  | nil => exact g.elim
  | cons n1 n2 =>
    cases n2 with
    | cons _ _ => cases n1 <;> exact g.elim
    | nil => cases n1 with
      | dct h r => exact ⟨_, _, rfl, h, fun p hp => k _ _ Hs _ g (Tr.layP hp _) (sr.layP hp _) (fr_lay sr hp ⟨_, rfl, keys_repL r⟩)⟩
      | _ => exact g.elim⟩
end
end L2.DL
/-! FI: name = a comprehension of any kind, on one row. -/
namespace L2.DL
open PySem PySem.Spec PyProof.Rows
end L2.DL
/-! FJ: d.clear() of an own table. -/
namespace L2.DL
open PySem PySem.Spec PyProof.Rows
def sClrO (n : Nat) : SM := fun _ dE env C => ∃ kvs, env[n]? = some (.own (.dct kvs)) ∧ dE.nx (env.set n (.own (.dct []))) C
end L2.DL
/-! FK: d.get(k) where k may be None; what is no more wanted is let go at a def's end. -/
namespace L2.DL
open PySem PySem.Spec PyProof.Rows
def GetR (kvs : List (DK × D)) (k : D) (R : D → Prop) : Prop := match k with
  | .non => R .non
  | k => ∃ key, dkOf k = some key ∧ R ((look key kvs).getD .non)
def mDGet (mo me : EM D) : EM D := fun E env C Q => mo E env C fun d env1 C1 => (∃ kvs0, dr C1 d = .dct kvs0) ∧ me E env1 C1 fun k env2 C2 => ∃ kvs, dr C2 d = .dct kvs ∧ GetR kvs k fun x => Q x env2 C2
end L2.DL
/-! MA: rows of a size as an ordered group. -/
namespace L2.DL
def Vc (N : Nat) := {l : List Int // l.length = N}
namespace Vc
variable {N : Nat}
theorem ext' : ∀ {a b : Vc N}, a.1 = b.1 → a = b
  | ⟨_, _⟩, ⟨_, _⟩, rfl => rfl
instance : DecidableEq (Vc N) := fun a b => decidable_of_iff (a.1 = b.1) ⟨ext', fun h => h ▸ rfl⟩
instance : Zero (Vc N) := ⟨⟨List.replicate N 0, List.length_replicate⟩⟩
instance : Add (Vc N) := ⟨fun a b => ⟨List.zipWith (fun i j => i + j) a.1 b.1, by simp [a.2, b.2]⟩⟩
instance : Sub (Vc N) := ⟨fun a b => ⟨List.zipWith (fun i j => i - j) a.1 b.1, by simp [a.2, b.2]⟩⟩
instance : Neg (Vc N) := ⟨fun a => ⟨a.1.map fun n => -n, by simp [a.2]⟩⟩
instance : SMul Nat (Vc N) := ⟨fun k a => ⟨a.1.map fun n => (k : Int) * n, by simp [a.2]⟩⟩
instance : SMul Int (Vc N) := ⟨fun k a => ⟨a.1.map fun n => k * n, by simp [a.2]⟩⟩
instance : HSMul Nat (Vc N) (Vc N) := ⟨fun k a => k • a⟩
instance : HSMul Int (Vc N) (Vc N) := ⟨fun k a => k • a⟩
theorem add_val (a b : Vc N) : (a + b).1 = List.zipWith (fun i j => i + j) a.1 b.1 := rfl
def at' (a : Vc N) (i : Nat) (h : i < N) : Int := a.1[i]'(by rw [a.2]; exact h)
theorem ext_at {a b : Vc N} (h : ∀ i hi, a.at' i hi = b.at' i hi) : a = b := ext' (List.ext_getElem (by rw [a.2, b.2]) fun i h1 h2 => h i (by rw [← a.2]; exact h1))
theorem add_at (a b : Vc N) (i) (h) : (a + b).at' i h = a.at' i h + b.at' i h := List.getElem_zipWith ..
theorem sub_at (a b : Vc N) (i) (h) : (a - b).at' i h = a.at' i h - b.at' i h := List.getElem_zipWith ..
theorem neg_at (a : Vc N) (i) (h) : (-a).at' i h = - a.at' i h := List.getElem_map ..
theorem zero_at (i) (h) : (0 : Vc N).at' i h = 0 := List.getElem_replicate ..
theorem nsm_at (k : Nat) (a : Vc N) (i) (h) : (k • a).at' i h = k * a.at' i h := List.getElem_map ..
theorem zsm_at (k : Int) (a : Vc N) (i) (h) : (k • a).at' i h = k * a.at' i h := List.getElem_map ..
instance : Lean.Grind.IntModule (Vc N) where
  add_zero a := ext_at fun i h => by rw [add_at, zero_at]; omega
  add_comm a b := ext_at fun i h => by rw [add_at, add_at]; omega
  add_assoc a b c := ext_at fun i h => by simp only [add_at]; omega
  neg_add_cancel a := ext_at fun i h => by simp only [add_at, neg_at, zero_at]; omega
  sub_eq_add_neg a b := ext_at fun i h => by simp only [add_at, neg_at, sub_at]; omega
  zero_zsmul a := ext_at fun i h => by rw [zsm_at, zero_at]; omega
  one_zsmul a := ext_at fun i h => by rw [zsm_at]; omega
  add_zsmul n m a := ext_at fun i h => by simp only [zsm_at, add_at]; rw [Int.add_mul]
  zsmul_natCast_eq_nsmul n a := ext_at fun i h => by rw [zsm_at, nsm_at]
instance : _root_.LE (Vc N) := ⟨fun a b => sgn a.1 b.1 ≤ 0⟩
instance : _root_.LT (Vc N) := ⟨fun a b => sgn a.1 b.1 < 0⟩
theorem le_def (a b : Vc N) : a ≤ b ↔ sgn a.1 b.1 ≤ 0 := .rfl
theorem lt_def (a b : Vc N) : a < b ↔ sgn a.1 b.1 < 0 := .rfl
instance : DecidableLT (Vc N) := fun a b => inferInstanceAs (Decidable (sgn a.1 b.1 < 0))
instance : DecidableLE (Vc N) := fun a b => inferInstanceAs (Decidable (sgn a.1 b.1 ≤ 0))
theorem anti : ∀ xs ys : List Int, sgn ys xs = - sgn xs ys
  | [], [] => rfl
  | [], _ :: _ => rfl
  | _ :: _, [] => rfl
  | x :: xs, y :: ys => by
    have ih := anti xs ys
    simp only [sgn]
    by_cases h : x = y
    · subst h; simp [ih]
    · rw [if_neg h, if_neg (fun e => h e.symm)]
      by_cases h2 : x < y
      · rw [if_pos h2, if_neg (by omega)]; rfl
      · rw [if_neg h2, if_pos (by omega)]
instance : Std.IsLinearOrder (Vc N) where
  le_refl a := by rw [le_def, sgn_zero.mpr rfl]; exact Int.le_refl 0
  le_trans a b c h1 h2 := by
    rw [le_def] at h1 h2 ⊢
    by_cases e1 : sgn a.1 b.1 = 0
    · rw [sgn_zero.mp e1]; exact h2
    · by_cases e2 : sgn b.1 c.1 = 0
      · rw [← sgn_zero.mp e2]; exact h1
      · have := sgn_trans (xs := a.1) (ys := b.1) (zs := c.1) (by omega) (by omega)
        omega
  le_antisymm a b h1 h2 := by
    rw [le_def] at h1 h2
    rw [anti] at h2
    exact ext' (sgn_zero.mp (by omega))
  le_total a b := by rw [le_def, le_def, anti a.1 b.1]; omega
instance : Std.LawfulOrderLT (Vc N) where
  lt_iff a b := by rw [lt_def, le_def, le_def, anti a.1 b.1]; omega
instance : Lean.Grind.OrderedAdd (Vc N) where
  add_le_left_iff {a b} c := by
    rw [le_def, le_def, add_val, add_val, sgn_add (by rw [a.2, c.2]) (by rw [b.2, c.2])]
end Vc
end L2.DL
/-! MB: tables as lists of pairs. -/
namespace L2.AS
variable {κ α : Type} [DecidableEq κ]
abbrev Tb (κ α : Type) := List (κ × α)
def lk (c : κ) : Tb κ α → Option α
  | [] => none
  | (d, x) :: r => if d = c then some x else lk c r
def pt (l : Tb κ α) (c : κ) (x : α) : Tb κ α := if (l.any fun e => decide (e.1 = c)) = true then l.map (fun e => if e.1 = c then (e.1, x) else e) else l ++ [(c, x)]
def dp (l : Tb κ α) (c : κ) : Tb κ α := l.filter fun e => decide (e.1 ≠ c)
def ks (l : Tb κ α) : List κ := l.map (·.1)
theorem lk_none {c : κ} : ∀ {l : Tb κ α}, lk c l = none ↔ c ∉ ks l
  | [] => by simp [lk, ks]
  | (d, x) :: r => by
    have ih := lk_none (c := c) (l := r)
    simp only [lk, ks, List.map_cons, List.mem_cons, not_or] at ih ⊢
    split
    · rename_i h; simp [h]
    · rename_i h; rw [ih]; exact ⟨fun q => ⟨fun e => h e.symm, q⟩, fun q => q.2⟩
theorem lk_mem {c : κ} {x : α} : ∀ {l : Tb κ α}, lk c l = some x → (c, x) ∈ l
  | (d, y) :: r, h => by
    simp only [lk] at h
    split at h
    · rename_i e; cases h; subst e; exact .head _
    · exact .tail _ (lk_mem h)
theorem mem_ks {c : κ} {x : α} {l : Tb κ α} (h : (c, x) ∈ l) : c ∈ ks l := List.mem_map.mpr ⟨_, h, rfl⟩
theorem lk_of {c : κ} {x : α} : ∀ {l : Tb κ α}, (ks l).Nodup → (c, x) ∈ l → lk c l = some x
  | (d, y) :: r, n, h => by
    simp only [ks, List.map_cons, List.nodup_cons] at n
    simp only [lk]
    rcases List.mem_cons.mp h with e | e
    · cases e; rw [if_pos rfl]
    · rw [if_neg (fun z => n.1 (by rw [z]; exact mem_ks e))]; exact lk_of n.2 e
theorem lk_app {c : κ} {r : Tb κ α} : ∀ {l : Tb κ α}, lk c (l ++ r) = (lk c l).or (lk c r)
  | [] => rfl
  | (d, x) :: l => by
    simp only [List.cons_append, lk]
    split
    · rfl
    · exact lk_app
theorem lk_repl {c d : κ} {x : α} : ∀ {l : Tb κ α}, lk d (l.map fun e => if e.1 = c then (e.1, x) else e) = if d = c then (lk c l).map fun _ => x else lk d l
  | [] => by simp [lk]
  | (a, y) :: l => by
    have ih := lk_repl (c := c) (d := d) (x := x) (l := l)
    simp only [List.map_cons, lk] at ih ⊢
    by_cases h : a = c
    · subst h
      rw [if_pos rfl, if_pos rfl]
      simp only [lk]
      by_cases h2 : a = d
      · subst h2; simp
      · have h3 : ¬ d = a := fun e => h2 e.symm
        rw [if_neg h2, ih, if_neg h3, if_neg h3, if_neg h2]
    · rw [if_neg h, if_neg h]
      simp only [lk]
      by_cases h2 : a = d
      · subst h2; simp [h]
      · rw [if_neg h2, if_neg h2, ih]
theorem lk_some {c : κ} {l : Tb κ α} (h : c ∈ ks l) : ∃ x, lk c l = some x := by
  cases e : lk c l with
  | none => exact absurd h (lk_none.mp e)
  | some x => exact ⟨x, rfl⟩
theorem ks_of {c : κ} {x : α} {l : Tb κ α} (h : lk c l = some x) : c ∈ ks l := mem_ks (lk_mem h)
theorem lk_pt {l : Tb κ α} {c d : κ} {x : α} : lk d (pt l c x) = if d = c then some x else lk d l := by
  unfold pt
  have hk : (l.any fun e => decide (e.1 = c)) = true ↔ c ∈ ks l := by simp [ks, List.any_eq_true]
  by_cases h : c ∈ ks l
  · obtain ⟨y, hy⟩ := lk_some h
    rw [if_pos (hk.mpr h), lk_repl, hy]
    rfl
  · rw [if_neg (fun z => h (hk.mp z)), lk_app]
    by_cases h2 : d = c
    · subst h2; rw [if_pos rfl, lk_none.mpr h]; simp [lk]
    · have h3 : ¬ c = d := fun e => h2 e.symm
      rw [if_neg h2]; simp [lk, h3]
theorem ks_repl {c : κ} {x : α} {l : Tb κ α} : ks (l.map fun e => if e.1 = c then (e.1, x) else e) = ks l := by
  simp only [ks, List.map_map]
  refine List.map_congr_left fun e _ => ?_
  simp only [Function.comp]
  split <;> rfl
theorem pt_nd {l : Tb κ α} {c : κ} {x : α} (n : (ks l).Nodup) : (ks (pt l c x)).Nodup := by
  unfold pt
  have hk : (l.any fun e => decide (e.1 = c)) = true ↔ c ∈ ks l := by simp [ks, List.any_eq_true]
  by_cases h : c ∈ ks l
  · rw [if_pos (hk.mpr h), ks_repl]; exact n
  · rw [if_neg (fun z => h (hk.mp z))]
    simp only [ks, List.map_append, List.map_cons, List.map_nil]
    exact List.nodup_append.mpr ⟨n, by simp, by simp; exact fun a b h1 e => h (mem_ks (by rw [← e]; exact h1))⟩
end L2.AS
/-! MC: codes given at least cost; what holds within. -/
namespace L2.AS
open _root_.Lean.Grind
variable {κ : Type} [DecidableEq κ] {V : Type} [IntModule V] [_root_.LE V] [_root_.LT V] [Std.IsLinearOrder V] [Std.LawfulOrderLT V] [OrderedAdd V] [DecidableLT V] [DecidableEq V]
structure Prb (κ V : Type) where
  n : Nat
  opt : Nat → List κ
  k : Nat → κ → V
structure AInv (P : Prb κ V) (m : Nat) (U : Nat → V) (W : κ → V) (ow : Tb κ Nat) : Prop where
  feas : ∀ p c, p < P.n → c ∈ P.opt p → U p + W c ≤ P.k p c
  neg : ∀ c, W c ≤ 0
  zero : ∀ c, lk c ow = none → W c = 0
  own : ∀ c p, lk c ow = some p → p < m ∧ c ∈ P.opt p ∧ U p + W c = P.k p c
  inj : ∀ c d p, lk c ow = some p → lk d ow = some p → c = d
  sur : ∀ p, p < m → ∃ c, lk c ow = some p
  nd : (ks ow).Nodup
  le : m ≤ P.n
def sl (P : Prb κ V) (U : Nat → V) (W : κ → V) (p : Nat) (c : κ) : V := P.k p c - U p - W c
structure LInv (R : Nat → κ → Prop) (lb : Tb κ Nat) (sl : Nat → κ → V) (ls : Tb κ (V × Nat)) : Prop where
  key : ∀ c q, lk c lb = none → R q c → lk c ls ≠ none
  val : ∀ c s q, lk c ls = some (s, q) → lk c lb = none ∧ R q c ∧ s = sl q c ∧ ∀ q', R q' c → s ≤ sl q' c
  nd : (ks ls).Nodup
def lookStep (s : κ → V) (lb : Tb κ Nat) (p : Nat) (ls : Tb κ (V × Nat)) (c : κ) : Tb κ (V × Nat) := if (lk c lb).isSome then ls else match lk c ls with
  | none => pt ls c (s c, p)
  | some (s0, _) => if s c < s0 then pt ls c (s c, p) else ls
def lookF (s : κ → V) (lb : Tb κ Nat) (p : Nat) (os : List κ) (ls : Tb κ (V × Nat)) : Tb κ (V × Nat) := os.foldl (lookStep s lb p) ls
theorem LInv.mono {R R' : Nat → κ → Prop} {lb : Tb κ Nat} {sl : Nat → κ → V} {ls : Tb κ (V × Nat)} (h : LInv R lb sl ls) (e : ∀ q c, R q c ↔ R' q c) : LInv R' lb sl ls :=
  ⟨fun c q a b => h.key c q a ((e q c).mpr b), fun c s q a => by obtain ⟨h1, h2, h3, h4⟩ := h.val c s q a; exact ⟨h1, (e q c).mp h2, h3, fun q' b => h4 q' ((e q' c).mpr b)⟩, h.nd⟩
theorem LInv.step {R : Nat → κ → Prop} {lb : Tb κ Nat} {sl : Nat → κ → V} {ls : Tb κ (V × Nat)} (h : LInv R lb sl ls) (p : Nat) (c : κ) : LInv (fun q d => R q d ∨ q = p ∧ d = c) lb sl (lookStep (sl p) lb p ls c) := by
  unfold lookStep
  cases hl : lk c lb with
  | some x =>
    simp only [Option.isSome_some, if_true]
    refine ⟨fun d q a b => ?_, fun d s q a => ?_, h.nd⟩
    · rcases b with b | ⟨_, rfl⟩
      · exact h.key d q a b
      · rw [hl] at a; cases a
    · obtain ⟨h1, h2, h3, h4⟩ := h.val d s q a
      refine ⟨h1, .inl h2, h3, fun q' b => ?_⟩
      rcases b with b | ⟨_, rfl⟩
      · exact h4 q' b
      · rw [hl] at h1; cases h1
  | none =>
    have put : (∀ s q, lk c ls = some (s, q) → sl p c ≤ s) → LInv (fun q d => R q d ∨ q = p ∧ d = c) lb sl (pt ls c (sl p c, p)) := fun hs => by
      refine ⟨fun d q a b => ?_, fun d s q a => ?_, pt_nd h.nd⟩
      · rw [lk_pt]
        by_cases e : d = c
        · rw [if_pos e]; simp
        · rw [if_neg e]
          rcases b with b | ⟨_, rfl⟩
          · exact h.key d q a b
          · exact absurd rfl e
      · rw [lk_pt] at a
        by_cases e : d = c
        · subst e
          rw [if_pos rfl] at a
          cases a
          refine ⟨hl, .inr ⟨rfl, rfl⟩, rfl, fun q' b => ?_⟩
          rcases b with b | ⟨rfl, _⟩
          · cases hd : lk d ls with
            | none => exact absurd hd (h.key d q' hl b)
            | some x =>
              obtain ⟨s, q⟩ := x
              have h1 := hs s q hd
              have h2 := (h.val d s q hd).2.2.2 q' b
              grind
          · grind
        · rw [if_neg e] at a
          obtain ⟨h1, h2, h3, h4⟩ := h.val d s q a
          refine ⟨h1, .inl h2, h3, fun q' b => ?_⟩
          rcases b with b | ⟨_, rfl⟩
          · exact h4 q' b
          · exact absurd rfl e
    simp only [Option.isSome_none]
    rw [if_neg (by simp)]
    split
    · rename_i e0
      exact put fun s q e => by rw [e0] at e; cases e
    · rename_i s0 q0 e0
      split
      · rename_i hlt
        exact put fun s q e => by rw [e0] at e; cases e; grind
      · rename_i hlt
        refine ⟨fun d q a b => ?_, fun d s q a => ?_, h.nd⟩
        · rcases b with b | ⟨_, rfl⟩
          · exact h.key d q a b
          · rw [e0]; simp
        · obtain ⟨h1, h2, h3, h4⟩ := h.val d s q a
          refine ⟨h1, .inl h2, h3, fun q' b => ?_⟩
          rcases b with b | ⟨rfl, rfl⟩
          · exact h4 q' b
          · rw [e0] at a; cases a; grind
theorem LInv.look {lb : Tb κ Nat} {sl : Nat → κ → V} (p : Nat) : ∀ (os : List κ) {R : Nat → κ → Prop} {ls : Tb κ (V × Nat)}, LInv R lb sl ls → LInv (fun q d => R q d ∨ q = p ∧ d ∈ os) lb sl (lookF (sl p) lb p os ls)
  | [], R, ls, h => h.mono fun q d => by simp
  | c :: os, R, ls, h => (LInv.look p os (h.step p c)).mono fun q d => by simp only [List.mem_cons]; constructor <;> rintro (h | h) <;> grind
structure SInv (P : Prb κ V) (m : Nat) (U : Nat → V) (W : κ → V) (ow : Tb κ Nat) (pl : List Nat) (lb : Tb κ Nat) : Prop where
  lt : m < P.n
  len : pl.length = lb.length + 1
  hd : pl[0]? = some m
  nd : pl.Nodup
  lbO : ∀ i c q, lb[i]? = some (c, q) → ∃ p, pl[i + 1]? = some p ∧ lk c ow = some p ∧ (∃ j, j ≤ i ∧ pl[j]? = some q) ∧ c ∈ P.opt q ∧ U q + W c = P.k q c
variable {P : Prb κ V} {m : Nat} {U : Nat → V} {W : κ → V} {ow : Tb κ Nat} {pl : List Nat} {lb : Tb κ Nat} {ls : Tb κ (V × Nat)}
theorem lk_get {c : κ} {q : Nat} {l : Tb κ Nat} (h : lk c l = some q) : ∃ i : Nat, l[i]? = some (c, q) := List.mem_iff_getElem?.mp (lk_mem h)
theorem SInv.lbN (S : SInv P m U W ow pl lb) {i j : Nat} {c : κ} {q r : Nat} (h : lb[i]? = some (c, q)) (h' : lb[j]? = some (c, r)) : i = j := by
  obtain ⟨p, e1, e2, _⟩ := S.lbO i c q h
  obtain ⟨p', e1', e2', _⟩ := S.lbO j c r h'
  rw [e2] at e2'; cases e2'
  have h1 := (List.getElem?_eq_some_iff.mp e1).1
  have h2 := (List.getElem?_eq_some_iff.mp e1').1
  have := (List.getElem?_inj h1 S.nd).mp (e1.trans e1'.symm)
  omega
end L2.AS
/-! MD: one more code given; crowds; what is best. -/
namespace L2.AS
open _root_.Lean.Grind
variable {κ : Type} [DecidableEq κ] {V : Type} [IntModule V] [_root_.LE V] [_root_.LT V] [Std.IsLinearOrder V] [Std.LawfulOrderLT V] [OrderedAdd V] [DecidableLT V] [DecidableEq V]
variable {P : Prb κ V} {m : Nat} {U : Nat → V} {W : κ → V} {ow : Tb κ Nat} {pl : List Nat} {lb : Tb κ Nat} {ls : Tb κ (V × Nat)}
theorem pt_new {α : Type} {l : Tb κ α} {c : κ} {x : α} (h : lk c l = none) : pt l c x = l ++ [(c, x)] := by
  unfold pt
  rw [if_neg]
  intro z
  have : c ∈ ks l := by simpa [ks, List.any_eq_true] using z
  exact lk_none.mp h this
/-! ### the change -/
structure CInv (P : Prb κ V) (m : Nat) (U : Nat → V) (W : κ → V) (Q : Nat → Prop) (pl : List Nat) (lb : Tb κ Nat) (i : Nat) (c : κ) (ow : Tb κ Nat) : Prop where
  at0 : ∃ p, pl[i]? = some p ∧ c ∈ P.opt p ∧ U p + W c = P.k p c
  nd : (ks ow).Nodup
  ent : ∀ d p, lk d ow = some p → d ≠ c → p < m ∧ d ∈ P.opt p ∧ U p + W d = P.k p d
  inj : ∀ d e p, lk d ow = some p → lk e ow = some p → d ≠ c → e ≠ c → d = e
  sur : ∀ p, p < m → Q p → ∃ d, d ≠ c ∧ lk d ow = some p
  lbs : ∀ j d q, j < i → lb[j]? = some (d, q) → lk d ow = pl[j + 1]? ∧ d ≠ c
  own : ∀ p, lk c ow = some p → ∀ j, j ≤ i → pl[j]? ≠ some p
theorem SInv.lk_lb (S : SInv P m U W ow pl lb) {i : Nat} {c : κ} {q : Nat} (h : lb[i]? = some (c, q)) : lk c lb = some q := by
  cases e : lk c lb with
  | none => exact absurd (mem_ks (List.mem_of_getElem? h)) (lk_none.mp e)
  | some r =>
    obtain ⟨j, hj⟩ := lk_get e
    have := S.lbN h hj
    subst this
    rw [h] at hj
    cases hj
    rfl
def codeOf (p : Nat) (ow : Tb κ Nat) : Option κ := (ow.find? fun e => decide (e.2 = p)).map (·.1)
theorem codeOf_some {p : Nat} {ow : Tb κ Nat} {c : κ} (n : (ks ow).Nodup) (h : codeOf p ow = some c) : lk c ow = some p := by
  unfold codeOf at h
  obtain ⟨⟨d, r⟩, e, rfl⟩ := Option.map_eq_some_iff.mp h
  have h1 := List.find?_some e
  have h2 := List.mem_of_find?_eq_some e
  simp at h1
  subst h1
  exact lk_of n h2
theorem codeOf_none {p : Nat} {ow : Tb κ Nat} {c : κ} (h : codeOf p ow = none) : lk c ow ≠ some p := fun e => by
  unfold codeOf at h
  rw [Option.map_eq_none_iff, List.find?_eq_none] at h
  have := h _ (lk_mem e)
  simp at this
variable {U0 : Nat → V} {W0 : κ → V} {ow0 : Tb κ Nat} {Q : Nat → Prop} {i : Nat} {c : κ}
/-- the last turn -/
theorem CInv.last (S : SInv P m U0 W0 ow0 pl lb) (I : CInv P m U W Q pl lb 0 c ow) : codeOf m ow = none := by
  cases e : codeOf m ow with
  | none => rfl
  | some d =>
    have h := codeOf_some I.nd e
    by_cases hd : d = c
    · subst hd; exact absurd S.hd (I.own m h 0 (Nat.le_refl _))
    · have := (I.ent d m h hd).1; omega
/-- one turn more -/
theorem CInv.turn (S : SInv P m U0 W0 ow0 pl lb) (hT : ∀ (i : Nat) (c : κ) (q : Nat), lb[i]? = some (c, q) → c ∈ P.opt q ∧ U q + W c = P.k q c) {p : Nat} (hp : pl[i + 1]? = some p) (I : CInv P m U W Q pl lb (i + 1) c ow) :
    ∃ d q j, lb[i]? = some (d, q) ∧ codeOf p ow = some d ∧ lk d lb = some q ∧ j ≤ i ∧ pl[j]? = some q ∧ CInv P m U W Q pl lb j d (pt ow c p) := by
  have hi := (List.getElem?_eq_some_iff.mp hp).1
  have hl := S.len
  obtain ⟨⟨d, q⟩, hb⟩ : ∃ x, lb[i]? = some x := ⟨lb[i], List.getElem?_eq_getElem (by omega)⟩
  obtain ⟨p', e1, _, ⟨j, e3, e4⟩, _⟩ := S.lbO i d q hb
  obtain ⟨o1, o2⟩ := I.lbs i d q (Nat.lt_succ_self _) hb
  rw [hp] at o1
  obtain ⟨p2, a1, a2, a3⟩ := I.at0
  rw [hp] at a1; cases a1
  have only : ∀ e, lk e ow = some p → e = d := fun e h => by
    by_cases he : e = c
    · subst he; exact absurd hp (I.own p h (i + 1) (Nat.le_refl _))
    · exact I.inj e d p h o1 he o2
  have hc : codeOf p ow = some d := by
    cases e : codeOf p ow with
    | none => exact absurd o1 (codeOf_none e)
    | some e' => rw [only e' (codeOf_some I.nd e)]
  have pne : ∀ (a b : Nat), pl[a]? = pl[b]? → a < pl.length → a = b := fun a b e h => (List.getElem?_inj h S.nd).mp e
  obtain ⟨t1, t2⟩ := hT i d q hb
  refine ⟨d, q, j, hb, hc, S.lk_lb hb, e3, e4, ⟨q, e4, t1, t2⟩, pt_nd I.nd, fun e p' h hd => ?_, fun e f p' h h' he hf => ?_, fun p' hp' hq => ?_, fun j' e r hj h => ?_, fun p' h j' hj' => ?_⟩
  · rw [lk_pt] at h
    by_cases he : e = c
    · subst he; rw [if_pos rfl] at h; cases h
      have : p < m := (I.ent d p o1 o2).1
      exact ⟨this, a2, a3⟩
    · rw [if_neg he] at h; exact I.ent e p' h he
  · rw [lk_pt] at h h'
    by_cases h1 : e = c
    · by_cases h2 : f = c
      · rw [h1, h2]
      · rw [if_pos h1] at h; rw [if_neg h2] at h'; cases h
        exact absurd (only f h') hf
    · by_cases h2 : f = c
      · rw [if_neg h1] at h; rw [if_pos h2] at h'; cases h'
        exact absurd (only e h) he
      · rw [if_neg h1] at h; rw [if_neg h2] at h'; exact I.inj e f p' h h' h1 h2
  · obtain ⟨e, he, h⟩ := I.sur p' hp' hq
    by_cases h1 : e = d
    · subst h1
      rw [o1] at h; cases h
      exact ⟨c, fun z => o2 z.symm, by rw [lk_pt, if_pos rfl]⟩
    · exact ⟨e, h1, by rw [lk_pt, if_neg he]; exact h⟩
  · obtain ⟨g1, g2⟩ := I.lbs j' e r (by omega) h
    refine ⟨by rw [lk_pt, if_neg g2]; exact g1, fun z => ?_⟩
    subst z
    have := S.lbN h hb
    omega
  · rw [lk_pt, if_neg o2, o1] at h
    cases h
    intro z
    have := pne j' (i + 1) (z.trans hp.symm) ((List.getElem?_eq_some_iff.mp z).1)
    omega
/-- all places up to m -/
structure Owns (P : Prb κ V) (m : Nat) (U : Nat → V) (W : κ → V) (Q : Nat → Prop) (ow : Tb κ Nat) : Prop where
  nd : (ks ow).Nodup
  own : ∀ d p, lk d ow = some p → p ≤ m ∧ d ∈ P.opt p ∧ U p + W d = P.k p d
  inj : ∀ d e p, lk d ow = some p → lk e ow = some p → d = e
  sur : ∀ p, p < m → Q p → ∃ d, lk d ow = some p
  surm : ∃ d, lk d ow = some m
theorem CInv.fin (S : SInv P m U0 W0 ow0 pl lb) (I : CInv P m U W Q pl lb 0 c ow) : Owns P m U W Q (pt ow c m) := by
  obtain ⟨p2, a1, a2, a3⟩ := I.at0
  rw [S.hd] at a1; cases a1
  have only : ∀ e, lk e ow = some m → e = c := fun e h => by
    by_cases hd : e = c
    · exact hd
    · have := (I.ent e m h hd).1; omega
  refine ⟨pt_nd I.nd, fun d p h => ?_, fun d e p h h' => ?_, fun p hp hq => ?_, c, by rw [lk_pt, if_pos rfl]⟩
  · rw [lk_pt] at h
    by_cases he : d = c
    · subst he; rw [if_pos rfl] at h; cases h; exact ⟨Nat.le_refl _, a2, a3⟩
    · rw [if_neg he] at h
      obtain ⟨g1, g2⟩ := I.ent d p h he
      exact ⟨by omega, g2⟩
  · rw [lk_pt] at h h'
    by_cases h1 : d = c
    · by_cases h2 : e = c
      · rw [h1, h2]
      · rw [if_pos h1] at h; rw [if_neg h2] at h'; cases h
        exact absurd (only e h') h2
    · by_cases h2 : e = c
      · rw [if_neg h1] at h; rw [if_pos h2] at h'; cases h'
        exact absurd (only d h) h1
      · rw [if_neg h1] at h; rw [if_neg h2] at h'; exact I.inj d e p h h' h1 h2
  · obtain ⟨d, h1, h2⟩ := I.sur p hp hq
    exact ⟨d, by rw [lk_pt, if_neg h1]; exact h2⟩
/-- the change goes through -/
theorem CInv.go (S : SInv P m U0 W0 ow0 pl lb) (hT : ∀ (i : Nat) (c : κ) (q : Nat), lb[i]? = some (c, q) → c ∈ P.opt q ∧ U q + W c = P.k q c) : ∀ (i : Nat) {c : κ} {ow : Tb κ Nat}, CInv P m U W Q pl lb i c ow → ∃ ow', Owns P m U W Q ow' := fun i => by
  induction i using Nat.strongRecOn with
  | ind i ih =>
    intro c ow I
    cases i with
    | zero => exact ⟨_, I.fin S⟩
    | succ i =>
      obtain ⟨p, hp, _⟩ := I.at0
      obtain ⟨d, q, j, _, _, _, hj, _, I'⟩ := CInv.turn S hT hp I
      exact ih j (by omega) I'
/-! ### crowds -/
structure Cd (P : Prb κ V) (Q : Nat → Prop) (M : Nat → κ) : Prop where
  opt : ∀ p, Q p → M p ∈ P.opt p
  inj : ∀ p q, Q p → Q q → M p = M q → p = q
theorem nd_le {α : Type} [DecidableEq α] : ∀ {l r : List α}, l.Nodup → (∀ x ∈ l, x ∈ r) → l.length ≤ r.length
  | [], r, _, _ => Nat.zero_le _
  | a :: l, r, n, h => by
    rw [List.nodup_cons] at n
    have ha := h a (.head _)
    have := nd_le (l := l) (r := r.erase a) n.2 fun x hx => (List.mem_erase_of_ne (fun e : x = a => n.1 (e ▸ hx))).mpr (h x (.tail _ hx))
    rw [List.length_erase_of_mem ha] at this
    have h0 : 0 < r.length := List.length_pos_of_mem ha
    simp only [List.length_cons]
    omega
theorem nd_map {α β : Type} {f : α → β} : ∀ {l : List α}, l.Nodup → (∀ a b, a ∈ l → b ∈ l → f a = f b → a = b) → (l.map f).Nodup
  | [], _, _ => by simp
  | a :: l, n, h => by
    rw [List.nodup_cons] at n
    rw [List.map_cons, List.nodup_cons]
    refine ⟨fun z => ?_, nd_map n.2 fun x y hx hy => h x y (.tail _ hx) (.tail _ hy)⟩
    obtain ⟨b, hb, e⟩ := List.mem_map.mp z
    exact n.1 (h a b (.head _) (.tail _ hb) e.symm ▸ hb)
structure Crowd (P : Prb κ V) (m : Nat) (pl : List Nat) : Prop where
  lt : m < P.n
  hd : m ∈ pl
  le : ∀ p ∈ pl, p ≤ m
  pre : ∃ M, Cd P (fun p => p < m) M
  no : ∀ Q : Nat → Prop, (∀ p ∈ pl, Q p) → ∀ M, ¬ Cd P Q M
  one : ∀ q ∈ pl, ∃ M, Cd P (fun p => p ≤ m ∧ p ≠ q) M
/-! ### what is best -/
def sm (f : Nat → V) : Nat → V
  | 0 => 0
  | n + 1 => sm f n + f n
theorem sm_le {f g : Nat → V} : ∀ {n : Nat}, (∀ p, p < n → f p ≤ g p) → sm f n ≤ sm g n
  | 0, _ => by unfold sm; grind
  | n + 1, h => by
    have h1 := sm_le (n := n) fun p hp => h p (by omega)
    have h2 := h n (by omega)
    unfold sm; grind
theorem sm_eq {f g : Nat → V} : ∀ {n : Nat}, (∀ p, p < n → f p = g p) → sm f n = sm g n
  | 0, _ => rfl
  | n + 1, h => by unfold sm; rw [sm_eq (n := n) fun p hp => h p (by omega), h n (by omega)]
end L2.AS
/-! FL: what is no more wanted is let go at a def's end; walks and tables worked out. -/
namespace L2.DL
open PySem PySem.Spec PyProof.Rows
/-! ### less cells -/
def Sub (C0 C : Cs) : Prop := ∀ b c, C0 b = some c → C b = some c
theorem Sub.refl (C : Cs) : Sub C C := fun _ _ h => h
theorem Sub.none {C0 C : Cs} (h : Sub C0 C) {b : Addr} (e : C b = none) : C0 b = none := by
  cases q : C0 b with
  | none => rfl
  | some c => rw [h b c q] at e; cases e
/-! ### worked out -/
section
variable {E : EX} {env : DL.Env} {C : Cs} {d e x : D} {a Cl : Addr} {f m : Str} {fs : List (Str × D)} {i j : Nat} {c : Cont} {xs ys : List D} {kvs : List (DK × D)} {k : DK}
variable {Q : D → DL.Env → Cs → Prop} {QL : List D → DL.Env → Cs → Prop} {QB : Bool → DL.Env → Cs → Prop} {QC : Cont → DL.Env → Cs → Prop} {R : D → Prop} {RL : List D → Prop} {mo mi me mx : EM D} {mf : EM Cont} {ms : EM (List D)} {nx bk ct : DL.Env → Cs → Prop} {rt : Ret → Cs → Prop} {P : DL.Env → Cs → Prop} {g : GM} {mb : SM} {wm : WM} {spv : DSpV}
/-- what is walked -/
def Dw (w : WK) (Q : List D → (Cs → Prop) → (Cs → Cs) → DL.Env → Cs → Prop) (env : DL.Env) (C : Cs) (d : D) : Prop := match d with
  | .dct kvs => Q (walkD w kvs) (fun _ => True) id env C
  | .cell a => match C a with
    | some (.dct kvs) => ∀ o ws, Q (walkD w kvs) (fun C2 => C2 a = some (.lck o ws kvs)) (fun C2 => cput C2 a (.dct kvs)) env (cput C a (.lck o ws kvs))
    | _ => False
  | _ => False
variable {QW : List D → (Cs → Prop) → (Cs → Cs) → DL.Env → Cs → Prop}
theorem i_dw {w : WK} (q : mo E env C fun d env1 C1 => Dw w QW env1 C1 d) : mDw w mo E env C QW := q
theorem w_dct {w : WK} (q : QW (walkD w kvs) (fun _ => True) id env C) : Dw w QW env C (.dct kvs) := q
theorem i_lift {mi : EM (List D)} (q : mi E env C fun ds env1 C1 => QW ds (fun _ => True) id env1 C1) : mLift mi E env C QW := q
def Dl (Q : List D → (Cs → Prop) → (Cs → Cs) → DL.Env → Cs → Prop) (env : DL.Env) (C : Cs) (d : D) : Prop := match d with
  | .cell a => match C a with
    | some (.lst xs) => Q xs (fun C2 => C2 a = some (.lst xs)) id env C
    | _ => False
  | d => match iterD d with
    | some ds => Q ds (fun _ => True) id env C
    | none => False
theorem i_dl (q : mo E env C fun d env1 C1 => Dl QW env1 C1 d) : mDl mo E env C QW := q
theorem l_lst (q : QW xs (fun _ => True) id env C) : Dl QW env C (.lst xs) := q
theorem l_tup (q : QW xs (fun _ => True) id env C) : Dl QW env C (.tup xs) := q
theorem j_forX (q : wm E env C fun ds G uC env1 C1 => forG G uC g mb ⟨nx, rt, bk, ct⟩ ds env1 C1) : sForX g wm mb E ⟨nx, rt, bk, ct⟩ env C := q
/-- a walk by an invariant -/
theorem forG_inv {G : Cs → Prop} {uC : Cs → Cs} {ds : List D} (I : Nat → DL.Env → Cs → Prop) (h0 : I 0 env C) (hG : ∀ k env C, I k env C → G C)
    (step : ∀ (k : Nat) (d : D) (env : DL.Env) (C : Cs) (nx' : DL.Env → Cs → Prop), ds[k]? = some d → I k env C → (∀ env C, I (k + 1) env C → nx' env C) →
      g d (fun env1 C1 => mb E0 ⟨nx', fun r C2 => G C2 ∧ rt r (uC C2), fun env2 C2 => G C2 ∧ nx env2 (uC C2), nx'⟩ env1 C1) env C)
    (fin : ∀ env C, I ds.length env C → nx env (uC C)) : forG G uC g mb ⟨nx, rt, bk, ct⟩ ds env C := by
  suffices h : ∀ (es : List D) (k : Nat) (env : DL.Env) (C : Cs), ds.drop k = es → k ≤ ds.length → I k env C → forG G uC g mb ⟨nx, rt, bk, ct⟩ es env C from h ds 0 env C rfl (Nat.zero_le _) h0
  intro es
  induction es with
  | nil =>
    intro k env C hk hl hI
    have e : k = ds.length := by
      have := congrArg List.length hk
      simp at this
      omega
    subst e
    exact ⟨hG _ _ _ hI, fin env C hI⟩
  | cons d es ih =>
    intro k env C hk hl hI
    have hd : ds[k]? = some d := by
      have := congrArg (fun l => l[0]?) hk
      simpa using this
    have hk' : k < ds.length := (List.getElem?_eq_some_iff.mp hd).1
    have hk2 : ds.drop (k + 1) = es := by
      have := congrArg List.tail hk
      simpa using this
    exact ⟨hG _ _ _ hI, step k d env C (forG G uC g mb ⟨nx, rt, bk, ct⟩ es) hd hI fun env C hI' => ih (k + 1) env C hk2 hk' hI'⟩
theorem i_compX {vs : List Nat} {mc : EM Bool} (q : wm E env C fun ds G uC env1 C1 => noOwn env1 vs = true ∧ compX G uC vs g mc me putL (fun acc C2 => QC (.lst acc) env1 C2) ds [] (wipeE env1 vs) C1) : mCompX vs g wm mc me E env C QC := q
theorem i_compD {vs : List Nat} {mc : EM Bool} {mk mv : EM D} (q : wm E env C fun ds G uC env1 C1 => noOwn env1 vs = true ∧ compX G uC vs g mc (mKV mk mv) putKV (fun acc C2 => QC (.dct acc) env1 C2) ds [] (wipeE env1 vs) C1) : mCompD vs g wm mc mk mv E env C QC := q
theorem i_kv {QK : D × D → DL.Env → Cs → Prop} {mk mv : EM D} (q : mk E env C fun k env1 C1 => env1 = env ∧ mv E env1 C1 fun v env2 C2 => QK (k, v) env2 C2) : mKV mk mv E env C QK := q
theorem p_l {acc : List D} {PP : List D → Prop} (q : PP (acc ++ [d])) : putL acc d PP := q
theorem i_dget (q : mo E env C fun d env1 C1 => (∃ kvs0, dr C1 d = .dct kvs0) ∧ me E env1 C1 fun k env2 C2 => ∃ kvs, dr C2 d = .dct kvs ∧ GetR kvs k fun x => Q x env2 C2) : mDGet mo me E env C Q := q
theorem r_none (q : R .non) : GetR kvs .non R := q
theorem r_str {t : Txt} (q : R ((look (.inr t) kvs).getD .non)) : GetR kvs (.str t) R := ⟨_, rfl, q⟩
theorem i_dpop (q : mo E env C fun d env1 C1 => ∃ a, d = .cell a ∧ (∃ kvs0, C1 a = some (.dct kvs0)) ∧ me E env1 C1 fun k env2 C2 => ∃ kvs key x, C2 a = some (.dct kvs) ∧ dkOf k = some key ∧ look key kvs = some x ∧ Q x env2 (cput C2 a (.dct (dropD kvs key)))) : mDPop mo me E env C Q := q
theorem i_tab {α : Type} {gg : List (DK × D) → (α → Prop) → Prop} {QA : α → DL.Env → Cs → Prop} (q : mo E env C fun d env1 C1 => ∃ kvs, dr C1 d = .dct kvs ∧ gg kvs fun x => QA x env1 C1) : mTab mo gg E env C QA := q
theorem j_augS (q : mo E env C fun o env1 C1 => mi E env1 C1 fun i env2 C2 => GetC o i C2 fun x => me E env2 C2 fun y env3 C3 => isOb Cl (dr C3 x) ∧ isOb Cl (dr C3 y) ∧ spv [x, y] [] C3 (fun r C4 => PutC o i r.tree nx env3 C4) fun xx C4 => E xx env3 C4) : sAugS Cl spv mo mi me E ⟨nx, rt, bk, ct⟩ env C := q
theorem j_appC (q : mo E env C fun d0 env0 C0 => ∃ a xs0, d0 = .cell a ∧ C0 a = some (.lst xs0) ∧ me E env0 C0 fun d env1 C1 => ∃ xs, C1 a = some (.lst xs) ∧ xs.length < sizeLine ∧ nx env1 (cput C1 a (.lst (xs ++ [d])))) : sAppC mo me E ⟨nx, rt, bk, ct⟩ env C := q
theorem i_truO (q : mo E env C fun d env1 C1 => isOb Cl (dr C1 d) ∧ spv [d] [] C1 (fun r C2 => ∃ b, r = .shr (.bl b) ∧ QB b env1 C2) fun _ _ => False) : mTruO Cl spv mo E env C QB := q
theorem j_clrO (h : env[i]? = some (.own (.dct kvs))) (q : nx (env.set i (.own (.dct []))) C) : sClrO i E ⟨nx, rt, bk, ct⟩ env C := ⟨kvs, h, q⟩
end
section
variable {env : DL.Env} {C : Cs} {d : D} {r : List D} {P : DL.Env → Cs → Prop} {g : GM} {ms : GMs}
theorem j_gsG (q : g d (fun env1 C1 => ms r P env1 C1) env C) : gsCons g ms (d :: r) P env C := q
end
theorem i_compD2 {vs vb : List Nat} {ga gb : GM} {mi : EM (List D)} {ma mb : EM Bool} {mj : EM (List D)} {mk mv : EM D} {E : EX} {env : DL.Env} {C : Cs} {QC : Cont → DL.Env → Cs → Prop} (q : mi E env C fun ds env1 C1 => noOwn env1 vs = true ∧ compY vs vb ga ma mj gb mb (mKV mk mv) putKV (fun acc C2 => QC (.dct acc) env1 C2) ds [] (wipeE env1 vs) C1) : mCompD2 vs vb ga mi ma mj gb mb mk mv E env C QC := q
/-! ### tables by texts -/
open L2.AS
def tD {α : Type} (f : α → D) (l : Tb Txt α) : List (DK × D) := l.map fun e => (.inr e.1, f e.2)
section
variable {α : Type} {f : α → D}
theorem look_tD {c : Txt} : ∀ {l : Tb Txt α}, look (.inr c) (tD f l) = (lk c l).map f
  | [] => rfl
  | (d, x) :: l => by
    have ih := look_tD (c := c) (l := l)
    simp only [tD, List.map_cons, look, lk] at ih ⊢
    by_cases h : d = c
    · subst h; rw [if_pos rfl, if_pos rfl]; rfl
    · rw [if_neg h, if_neg (fun z => h (Sum.inr.inj z))]; exact ih
theorem put_tD {c : Txt} {x : α} {l : Tb Txt α} : putD (tD f l) (.inr c) (f x) = tD f (pt l c x) := by
  unfold putD pt
  have e : ((tD f l).any fun kv => decide (kv.1 = .inr c)) = l.any fun e => decide (e.1 = c) := by
    unfold tD
    rw [List.any_map]
    congr 1
    funext e
    simp
  rw [e]
  split
  · unfold tD
    rw [List.map_map, List.map_map]
    refine List.map_congr_left fun e _ => ?_
    simp only [Function.comp, Sum.inr.injEq]
    split <;> rfl
  · unfold tD; rw [List.map_append]; rfl
theorem tD_len {l : Tb Txt α} : (tD f l).length = l.length := List.length_map ..
end
end L2.DL
/-! ME: the assigner's and the search's cells. -/
namespace L2.DL
open PySem PySem.Spec PyProof.Rows L2.AS
/-! ### cells that are written, others stay -/
def Fx (L : List Addr) (C C' : Cs) : Prop := ∀ b c, b ∉ L → C b = some c → C' b = some c
theorem Fx.refl {L : List Addr} {C : Cs} : Fx L C C := fun _ _ _ h => h
theorem Fx.trans {L : List Addr} {C C1 C2 : Cs} (h : Fx L C C1) (h' : Fx L C1 C2) : Fx L C C2 := fun b c hb e => h' b c hb (h b c hb e)
theorem Fx.mono {L L' : List Addr} {C C' : Cs} (h : Fx L C C') (s : ∀ a ∈ L, a ∈ L') : Fx L' C C' := fun b c hb e => h b c (fun z => hb (s b z)) e
theorem Fx.put {L : List Addr} {C C' : Cs} {a : Addr} {x : Cell} (h : Fx L C C') (ha : a ∈ L) : Fx L C (cput C' a x) := fun b c hb e => by
  rw [cput_ne (fun z : b = a => hb (by rw [z]; exact ha))]; exact h b c hb e
theorem Fx.sub {C C' : Cs} (h : Fx [] C C') : Sub C C' := fun b c e => h b c (by simp) e
/-- what was not there is written at will -/
theorem Fx.cut {L : List Addr} {C C' : Cs} {a : Addr} (h : Fx (a :: L) C C') (ha : C a = none) : Fx L C C' := fun b c hb e => by
  refine h b c (fun z => ?_) e
  rcases List.mem_cons.mp z with z | z
  · rw [z, ha] at e; cases e
  · exact hb z
/-! ### the problem of a situation -/
abbrev VS (S : List Cl) := Vc (2 * S.length + 1)
def kst (S : List Cl) (p : Nat) (t : Txt) : VS S := match S[p]? with
  | some c => (match numCl c t with
    | some j => ⟨costRow S.length p c t j, costRow_len _ _ _ _ _⟩
    | none => 0)
  | none => 0
def opS (S : List Cl) (p : Nat) : List Txt := match S[p]? with
  | some c => c.opts
  | none => []
abbrev prb (S : List Cl) : Prb Txt (VS S) := ⟨S.length, opS S, kst S⟩
theorem kst_val {S : List Cl} {p : Nat} {t : Txt} {c : Cl} {j : Nat} (h : S[p]? = some c) (h' : numCl c t = some j) : (kst S p t).1 = costRow S.length p c t j := by
  unfold kst; rw [h]; dsimp only; rw [h']
theorem opS_some {S : List Cl} {p : Nat} {c : Cl} (h : S[p]? = some c) : opS S p = c.opts := by unfold opS; rw [h]
abbrev cV (cC : Addr) {N : Nat} (x : Vc N) : D := costI cC x.1
abbrev natD (p : Nat) : D := .int p
structure SGd (S : List Cl) : Prop where
  n : S.length ≤ 400
  o : ∀ c ∈ S, c.opts.length ≤ 1000
  nd : (S.map (·.nm)).Nodup
def allC (S : List Cl) : List Txt := S.flatMap (·.opts)
/-! ### the cells -/
structure Adr where
  (a o nc cc s pc bc lc : Addr)
structure ASt (cA cC : Addr) (S : List Cl) (A : Adr) (u : List (VS S)) (v : Tb Txt (VS S)) (ow : Tb Txt Nat) (C : Cs) : Prop where
  ob : C A.a = some (.obj cA [("rows", sitD S), ("size", .int ((2 * S.length + 1 : Nat))), ("owners", .cell A.o), ("name_costs", .cell A.nc), ("code_costs", .cell A.cc)])
  ow : C A.o = some (.dct (tD natD ow))
  nc : C A.nc = some (.lst (u.map (cV cC)))
  cc : C A.cc = some (.dct (tD (cV cC) v))
  nd : [A.a, A.o, A.nc, A.cc].Nodup
  ul : u.length = S.length
  vk : ∀ c ∈ allC S, ∃ y, lk c v = some y
  vn : (ks v).Nodup
  va : ∀ c, lk c v ≠ none → c ∈ allC S
/-! ### the options looked at -/
/-! ### the first option that costs nothing more, the code of a place -/
def optD : Option Txt → D
  | none => .non
  | some t => .str t
/-! ### a crowd's names -/
def crowdT : Nat → List Cl → List Nat → List Txt
  | _, [], _ => []
  | i, c :: r, pl => if i ∈ pl then c.nm :: crowdT (i + 1) r pl else crowdT (i + 1) r pl
/-- no own slot -/
def NOw (s : Slot) : Prop := ∀ c, s ≠ .own c
theorem nOw_non : NOw .non := fun _ h => by cases h
/-! ### all that holds within a search -/
structure AEq (A A' : Adr) : Prop where
  a : A'.a = A.a
  o : A'.o = A.o
  nc : A'.nc = A.nc
  cc : A'.cc = A.cc
theorem AEq.symm {A A' : Adr} (e : AEq A A') : AEq A' A := ⟨e.a.symm, e.o.symm, e.nc.symm, e.cc.symm⟩
theorem AEq.trans {A A' A'' : Adr} (e : AEq A A') (e' : AEq A' A'') : AEq A A'' := ⟨e'.a.trans e.a, e'.o.trans e.o, e'.nc.trans e.nc, e'.cc.trans e.cc⟩
theorem ASt.no {cA cC : Addr} {S : List Cl} {A : Adr} {u : List (VS S)} {v : Tb Txt (VS S)} {ow : Tb Txt Nat} {C : Cs} (h : ASt cA cC S A u v ow C) {b : Addr} (hb : C b = none) : b ∉ [A.a, A.o, A.nc, A.cc] := fun z => by
  simp only [List.mem_cons, List.not_mem_nil, or_false] at z
  rcases z with rfl | rfl | rfl | rfl
  · rw [h.ob] at hb; cases hb
  · rw [h.ow] at hb; cases hb
  · rw [h.nc] at hb; cases hb
  · rw [h.cc] at hb; cases hb
theorem Fx.none {L : List Addr} {C C' : Cs} (f : Fx L C C') {b : Addr} (hL : b ∉ L) (h : C' b = none) : C b = none := by
  cases e : C b with
  | none => rfl
  | some c => rw [f b c hL e] at h; cases h
instance : Inhabited Txt := ⟨[]⟩
theorem sgn_nonneg : ∀ {xs : List Int}, (∀ x ∈ xs, 0 ≤ x) → sgn (List.replicate xs.length 0) xs ≤ 0
  | [], _ => by simp [sgn]
  | x :: xs, h => by
    have h1 := h x (.head _)
    have ih := sgn_nonneg (xs := xs) fun y hy => h y (.tail _ hy)
    rw [List.length_cons, List.replicate_succ]
    unfold sgn
    split
    · exact ih
    · rw [if_pos (by omega)]; omega
theorem costRow_nonneg {n p : Nat} {c : Cl} {t : Txt} {j : Nat} : ∀ x ∈ costRow n p c t j, 0 ≤ x := fun x hx => by
  unfold costRow at hx
  have hc : 0 ≤ chgI c t := by unfold chgI; split <;> omega
  rcases List.mem_or_eq_of_mem_set hx with hx | rfl
  · rcases List.mem_or_eq_of_mem_set hx with hx | rfl
    · rcases List.mem_or_eq_of_mem_set hx with hx | rfl
      · have := List.eq_of_mem_replicate hx; omega
      · exact hc
    · exact hc
  · omega
theorem kst_nonneg (S : List Cl) (p : Nat) (t : Txt) : 0 ≤ kst S p t := by
  unfold kst
  split
  · split
    · rename_i c _ _ j _
      show sgn (List.replicate (2 * S.length + 1) 0) (costRow S.length p c t j) ≤ 0
      have := sgn_nonneg (costRow_nonneg (n := S.length) (p := p) (c := c) (t := t) (j := j))
      rwa [costRow_len] at this
    · exact Std.le_refl _
  · exact Std.le_refl _
/-! ### the coding -/
/-- a coding of a situation: the codes in order -/
structure Cod (S : List Cl) (M : List Txt) : Prop where
  len : M.length = S.length
  opt : ∀ p c, M[p]? = some c → c ∈ opS S p
  nd : M.Nodup
def rowSum (S : List Cl) (M : List Txt) : VS S := sm (fun p => kst S p (M.getD p [])) S.length
structure Best (S : List Cl) (M : List Txt) : Prop where
  cod : Cod S M
  best : ∀ M', Cod S M' → rowSum S M ≤ rowSum S M'
theorem Cod.cd {S : List Cl} {M : List Txt} (h : Cod S M) : Cd (prb S) (fun p => p < S.length) (fun p => M.getD p []) where
  opt := fun p hp => by
    have hp' : p < M.length := by rw [h.len]; exact hp
    rw [List.getD_eq_getElem?_getD, List.getElem?_eq_getElem hp']
    exact h.opt p _ (List.getElem?_eq_getElem hp')
  inj := fun p q hp hq e => by
    have hp' : p < M.length := by rw [h.len]; exact hp
    have hq' : q < M.length := by rw [h.len]; exact hq
    rw [List.getD_eq_getElem?_getD, List.getD_eq_getElem?_getD, List.getElem?_eq_getElem hp', List.getElem?_eq_getElem hq'] at e
    exact (List.getElem?_inj hp' h.nd).mp (by rw [List.getElem?_eq_getElem hp', List.getElem?_eq_getElem hq']; exact congrArg some e)
theorem Cd.cod {S : List Cl} {M : Nat → Txt} (h : Cd (prb S) (fun p => p < S.length) M) : Cod S ((List.range S.length).map M) where
  len := by simp
  opt := fun p c e => by
    rw [List.getElem?_map] at e
    obtain ⟨q, e1, rfl⟩ := Option.map_eq_some_iff.mp e
    have hp : p < S.length := by have := (List.getElem?_eq_some_iff.mp e1).1; simpa using this
    rw [List.getElem?_range hp] at e1
    cases e1
    exact h.opt p hp
  nd := nd_map List.nodup_range fun a b ha hb e => h.inj a b (by simpa using ha) (by simpa using hb) e
end L2.DL
/-! MF: the row of a coding, the only best one, all codings. -/
namespace L2.DL
open PySem PySem.Spec PyProof.Rows L2.AS
/-! ### sums of numbers -/
def isum (g : Nat → Int) : Nat → Int
  | 0 => 0
  | n + 1 => isum g n + g n
theorem isum_eq {f g : Nat → Int} : ∀ {n : Nat}, (∀ p, p < n → f p = g p) → isum f n = isum g n
  | 0, _ => rfl
  | n + 1, h => by unfold isum; rw [isum_eq (n := n) fun p hp => h p (by omega), h n (by omega)]
theorem isum_cons {g : Nat → Int} : ∀ {n : Nat}, isum g (n + 1) = g 0 + isum (fun p => g (p + 1)) n
  | 0 => by simp [isum]
  | n + 1 => by
    have := isum_cons (g := g) (n := n)
    unfold isum at this ⊢
    unfold isum
    omega
theorem isum_one {x : Nat → Int} {q : Nat} : ∀ {n : Nat}, isum (fun p => if p = q then x p else 0) n = if q < n then x q else 0
  | 0 => by simp [isum]
  | n + 1 => by
    unfold isum
    rw [isum_one (n := n)]
    by_cases h : n = q
    · subst h; simp
    · rw [if_neg h]
      by_cases h2 : q < n
      · rw [if_pos h2, if_pos (by omega)]; omega
      · rw [if_neg h2, if_neg (by omega)]; omega
theorem sum_isum : ∀ l : List Int, l.sum = isum (fun p => l.getD p 0) l.length
  | [] => rfl
  | x :: l => by
    rw [List.sum_cons, List.length_cons, isum_cons, sum_isum l]
    simp
theorem sm_at {N : Nat} {f : Nat → Vc N} {i : Nat} {h : i < N} : ∀ {n : Nat}, (sm f n).at' i h = isum (fun p => (f p).at' i h) n
  | 0 => Vc.zero_at i h
  | n + 1 => by
    show (sm f n + f n).at' i h = _
    rw [Vc.add_at, sm_at]; rfl
/-! ### the row -/
def chs (S : List Cl) (M : List Txt) : List Int := List.zipWith chgI S M
def nmb (c : Cl) (t : Txt) : Int := (((numCl c t).getD 0 : Nat) : Int)
def nms (S : List Cl) (M : List Txt) : List Int := List.zipWith nmb S M
def rowL (S : List Cl) (M : List Txt) : List Int := (chs S M).sum :: (chs S M ++ nms S M)
theorem costRow_at {n p : Nat} {c : Cl} {t : Txt} {j i : Nat} (h : i < (costRow n p c t j).length) : (costRow n p c t j)[i] = if i = n + p + 1 then (j : Int) else if i = p + 1 then chgI c t else if i = 0 then chgI c t else 0 := by
  simp only [costRow, List.getElem_set, List.getElem_replicate]
  by_cases h1 : n + p + 1 = i
  · rw [if_pos h1, if_pos h1.symm]
  · rw [if_neg h1, if_neg (fun e : i = n + p + 1 => h1 e.symm)]
    by_cases h2 : p + 1 = i
    · rw [if_pos h2, if_pos h2.symm]
    · rw [if_neg h2, if_neg (fun e : i = p + 1 => h2 e.symm)]
      by_cases h3 : 0 = i
      · rw [if_pos h3, if_pos h3.symm]
      · rw [if_neg h3, if_neg (fun e : i = 0 => h3 e.symm)]
theorem kst_at {S : List Cl} {p : Nat} {t : Txt} {c : Cl} (hc : S[p]? = some c) (ht : t ∈ c.opts) {i : Nat} (h : i < 2 * S.length + 1) : (kst S p t).at' i h = if i = S.length + p + 1 then nmb c t else if i = p + 1 then chgI c t else if i = 0 then chgI c t else 0 := by
  obtain ⟨j, hj⟩ := numCl_some ht
  have e := kst_val hc hj
  unfold Vc.at'
  have : ∀ (l : List Int) (hl : i < l.length), l = costRow S.length p c t j → l[i] = if i = S.length + p + 1 then nmb c t else if i = p + 1 then chgI c t else if i = 0 then chgI c t else 0 := fun l hl e => by
    subst e
    rw [costRow_at hl]
    unfold nmb
    rw [hj]; rfl
  exact this _ _ e
theorem rowSum_val {S : List Cl} {M : List Txt} (h : Cod S M) : (rowSum S M).1 = rowL S M := by
  have hl := h.len
  have l1 : (chs S M).length = S.length := by unfold chs; rw [List.length_zipWith]; omega
  have l2 : (nms S M).length = S.length := by unfold nms; rw [List.length_zipWith]; omega
  refine List.ext_getElem (by rw [(rowSum S M).2]; unfold rowL; rw [List.length_cons, List.length_append]; omega) fun i h1 h2 => ?_
  have hi : i < 2 * S.length + 1 := by rw [(rowSum S M).2] at h1; exact h1
  show (rowSum S M).at' i hi = _
  unfold rowSum
  rw [sm_at]
  have gm : ∀ p, p < S.length → ∃ c t, S[p]? = some c ∧ M[p]? = some t ∧ M.getD p [] = t ∧ t ∈ c.opts := fun p hp => by
    have hp' : p < M.length := by omega
    refine ⟨S[p], M[p], List.getElem?_eq_getElem hp, List.getElem?_eq_getElem hp', by simp [List.getD_eq_getElem?_getD, hp'], ?_⟩
    have := h.opt p _ (List.getElem?_eq_getElem hp')
    rwa [opS_some (List.getElem?_eq_getElem hp)] at this
  have gc : ∀ p, p < S.length → ∀ c t, S[p]? = some c → M[p]? = some t → (chs S M).getD p 0 = chgI c t ∧ (nms S M).getD p 0 = nmb c t := fun p hp c t e1 e2 => by
    unfold chs nms
    simp [List.getD_eq_getElem?_getD, List.getElem?_zipWith, e1, e2]
  have main : ∀ p, p < S.length → (kst S p (M.getD p [])).at' i hi = if i = S.length + p + 1 then (nms S M).getD p 0 else if i = p + 1 then (chs S M).getD p 0 else if i = 0 then (chs S M).getD p 0 else 0 := fun p hp => by
    obtain ⟨c, t, e1, e2, e3, e4⟩ := gm p hp
    obtain ⟨g1, g2⟩ := gc p hp c t e1 e2
    rw [e3, kst_at e1 e4, g1, g2]
  rw [isum_eq main]
  suffices key : ∀ (l : List Int) (hl : i < l.length), l = (chs S M).sum :: (chs S M ++ nms S M) → isum (fun p => if i = S.length + p + 1 then (nms S M).getD p 0 else if i = p + 1 then (chs S M).getD p 0 else if i = 0 then (chs S M).getD p 0 else 0) S.length = l[i] from key _ h2 rfl
  clear h1 h2 main
  rintro l hl' rfl
  cases i with
  | zero =>
    rw [List.getElem_cons_zero, sum_isum, l1]
    refine isum_eq fun p hp => ?_
    rw [if_neg (by omega), if_neg (by omega), if_pos rfl]
  | succ i =>
    rw [List.getElem_cons_succ]
    by_cases hi2 : i < S.length
    · rw [List.getElem_append_left (by omega)]
      have e : isum (fun p => if i + 1 = S.length + p + 1 then (nms S M).getD p 0 else if i + 1 = p + 1 then (chs S M).getD p 0 else if i + 1 = 0 then (chs S M).getD p 0 else 0) S.length = isum (fun p => if p = i then (chs S M).getD p 0 else 0) S.length := isum_eq fun p hp => by
        rw [if_neg (by omega)]
        by_cases e : p = i
        · rw [if_pos (by omega), if_pos e]
        · rw [if_neg (by omega), if_neg (by omega), if_neg e]
      rw [e, isum_one, if_pos hi2]
      simp [List.getD_eq_getElem?_getD, l1, hi2]
    · rw [List.getElem_append_right (by omega)]
      have e : isum (fun p => if i + 1 = S.length + p + 1 then (nms S M).getD p 0 else if i + 1 = p + 1 then (chs S M).getD p 0 else if i + 1 = 0 then (chs S M).getD p 0 else 0) S.length = isum (fun p => if p = i - S.length then (nms S M).getD p 0 else 0) S.length := isum_eq fun p hp => by
        by_cases e : p = i - S.length
        · rw [if_pos (by omega), if_pos e]
        · rw [if_neg (by omega), if_neg (by omega), if_neg (by omega), if_neg e]
      rw [e, isum_one, if_pos (by omega)]
      have hq : i - S.length < (nms S M).length := by omega
      simp [List.getD_eq_getElem?_getD, l1, hq]
/-! ### the only best one -/
theorem numCl_inj {c : Cl} (h2 : c.held.length ≤ 2) {t t' : Txt} {j : Nat} (h : numCl c t = some j) (h' : numCl c t' = some j) : t = t' := by
  unfold numCl at h h'
  by_cases e : t ∈ c.held
  · rw [if_pos e] at h
    by_cases e' : t' ∈ c.held
    · rw [if_pos e'] at h'
      have a := (fstIx_get h).1
      have b := (fstIx_get h').1
      rw [a] at b; exact Option.some.inj b
    · rw [if_neg e'] at h'
      obtain ⟨i, _, rfl⟩ := Option.map_eq_some_iff.mp h'
      have := fstIx_lt h
      omega
  · rw [if_neg e] at h
    obtain ⟨i, hi, rfl⟩ := Option.map_eq_some_iff.mp h
    by_cases e' : t' ∈ c.held
    · rw [if_pos e'] at h'
      have := fstIx_lt h'
      omega
    · rw [if_neg e'] at h'
      obtain ⟨k, hk, e2⟩ := Option.map_eq_some_iff.mp h'
      have : k = i := by omega
      subst this
      have a := (fstIx_get hi).1
      have b := (fstIx_get hk).1
      rw [a] at b; exact Option.some.inj b
theorem Best.only {S : List Cl} (hh : ∀ c ∈ S, c.held.length ≤ 2) {M M' : List Txt} (h : Best S M) (h' : Best S M') : M = M' := by
  have e : rowSum S M = rowSum S M' := by
    have a := h.best M' h'.cod
    have b := h'.best M h.cod
    grind
  have e2 : rowL S M = rowL S M' := by rw [← rowSum_val h.cod, ← rowSum_val h'.cod, e]
  unfold rowL at e2
  have l1 : (chs S M).length = S.length := by unfold chs; rw [List.length_zipWith, h.cod.len]; omega
  have l1' : (chs S M').length = S.length := by unfold chs; rw [List.length_zipWith, h'.cod.len]; omega
  have e3 : nms S M = nms S M' := (List.append_inj (List.cons.inj e2).2 (by rw [l1, l1'])).2
  refine List.ext_getElem (by rw [h.cod.len, h'.cod.len]) fun p h1 h2 => ?_
  have hp : p < S.length := by rw [h.cod.len] at h1; exact h1
  have o1 := h.cod.opt p _ (List.getElem?_eq_getElem h1)
  have o2 := h'.cod.opt p _ (List.getElem?_eq_getElem h2)
  rw [opS_some (List.getElem?_eq_getElem hp)] at o1 o2
  obtain ⟨j, hj⟩ := numCl_some o1
  obtain ⟨k, hk⟩ := numCl_some o2
  have e4 : (nms S M)[p]? = (nms S M')[p]? := by rw [e3]
  unfold nms at e4
  rw [List.getElem?_zipWith, List.getElem?_zipWith, List.getElem?_eq_getElem hp, List.getElem?_eq_getElem h1, List.getElem?_eq_getElem h2] at e4
  have e5 : nmb S[p] M[p] = nmb S[p] M'[p] := Option.some.inj e4
  unfold nmb at e5
  rw [hj, hk] at e5
  have e6 : j = k := by simp at e5; omega
  subst e6
  exact numCl_inj (hh _ (List.getElem_mem hp)) hj hk
/-! ### all codings -/
/-! ### tables of texts -/
theorem g_inTL {C : Cs} {ng : Bool} {t : Txt} {M : List Txt} {R : D → Prop} (q : R (.bl (if ng then !decide (t ∈ M) else decide (t ∈ M)))) : gIn ng (dr C (.str t)) (dr C (.lst (txs M))) R := by
  refine ⟨.inl ⟨rfl, ?_⟩, ?_⟩
  · rw [List.all_map]
    exact List.all_eq_true.mpr fun _ _ => rfl
  · show R (.bl (if ng then !inD (.str t) (txs M) else inD (.str t) (txs M)))
    rw [inD_str]; exact q
theorem j_tryO {yes no : List Addr} {mb ms : SM} {E : EX} {dE : DEnds} {env : DL.Env} {C : Cs} (q : mb (CatchO yes no ms E dE) dE env C) : sTryO yes no mb ms E dE env C := q
theorem g_eqBB {C : Cs} {a b : Bool} {P : D → Prop} (q : P (.bl (decide (a = b)))) : gEq false (dr C (.bl a)) (dr C (.bl b)) P := by
  refine ⟨.inl rfl, ?_⟩
  have : eqv (.bl a) (.bl b) = decide (a = b) := by cases a <;> cases b <;> rfl
  show P (.bl (eqv (.bl a) (.bl b)))
  rw [this]; exact q
end L2.DL
/-! FM: a written tuple of texts tells its object. -/
namespace L2.DL
open PySem PySem.Spec PyProof.Rows
section
variable {X : Cx} {es : List Expr} {pos : Pos}
def TupX (ds : List D) (R : D → Prop) : Prop := match txtsOf ds with
  | some ts => R (.tupT ts)
  | none => R (.tup ds)
def mTupX (ms : EM (List D)) : EM D := fun E env C Q => ms E env C fun ds env1 C1 => ds.length ≤ sizeLine ∧ TupX ds fun x => Q x env1 C1
end
section
variable {E : EX} {env : DL.Env} {C : Cs} {Q : D → DL.Env → Cs → Prop} {ms : EM (List D)} {R : D → Prop}
theorem i_tupX (q : ms E env C fun ds env1 C1 => ds.length ≤ sizeLine ∧ TupX ds fun x => Q x env1 C1) : mTupX ms E env C Q := q
theorem x_txs {ts : List Txt} (q : R (.tupT ts)) : TupX (txs ts) R := by unfold TupX; rw [txtsOf_txs]; exact q
theorem x_nil (q : R (.tupT [])) : TupX [] R := q
theorem x_one {t : Txt} (q : R (.tupT [t])) : TupX [.str t] R := q
end
end L2.DL
namespace L2.DL
open PySem PySem.Spec PyProof.Rows L2.AS
/-- a list comprehension by an invariant -/
theorem compL_inv {vs : List Nat} {g : GM} {mc : EM Bool} {me : EM D} {QQ : Cont → Cs → Prop} {ds : List D} {env : DL.Env} {C : Cs} (I : Nat → List D → Cs → Prop) {acc : List D} (h0 : I 0 acc C)
    (step : ∀ (k : Nat) (d : D) (acc : List D) (C : Cs) (nxt : List D → Cs → Prop), ds[k]? = some d → I k acc C → (∀ acc' C', I (k + 1) acc' C' → nxt acc' C') →
      g d (fun env1 C1 => wipeE env1 vs = env ∧ mc E0 env1 C1 fun b env2 C2 => env2 = env1 ∧ if b = true then me E0 env1 C2 fun y env3 C3 => env3 = env1 ∧ acc.length < sizeLine ∧ nxt (acc ++ [y]) C3 else nxt acc C2) env C)
    (fin : ∀ acc C, I ds.length acc C → QQ (.lst acc) C) : compL vs g mc me QQ ds acc env C := by
  suffices h : ∀ (es : List D) (k : Nat) (acc : List D) (C : Cs), ds.drop k = es → k ≤ ds.length → I k acc C → compL vs g mc me QQ es acc env C from h ds 0 acc C rfl (Nat.zero_le _) h0
  intro es
  induction es with
  | nil =>
    intro k acc C hk hl hI
    have e : k = ds.length := by
      have := congrArg List.length hk
      simp at this
      omega
    subst e
    exact fin acc C hI
  | cons d es ih =>
    intro k acc C hk hl hI
    have hd : ds[k]? = some d := by
      have := congrArg (fun l => l[0]?) hk
      simpa using this
    have hk' : k < ds.length := (List.getElem?_eq_some_iff.mp hd).1
    have hk2 : ds.drop (k + 1) = es := by
      have := congrArg List.tail hk
      simpa using this
    exact step k d acc C (fun acc' C' => compL vs g mc me QQ es acc' env C') hd hI fun acc' C' hI' => ih (k + 1) acc' C' hk2 hk' hI'
/-! ### sums of rows -/
/-! ### all hold their codes -/
structure Own1 (S : List Cl) (M : List Txt) : Prop where
  h : ∀ (p : Nat) (c : Cl) (t : Txt), S[p]? = some c → M[p]? = some t → c.held = [t]
theorem costRow_zero {n p : Nat} {c : Cl} {t : Txt} (h : c.held = [t]) : costRow n p c t 0 = List.replicate (2 * n + 1) 0 := by
  have hc : chgI c t = 0 := by unfold chgI chg; rw [h]; simp
  refine List.ext_getElem (by rw [costRow_len, List.length_replicate]) fun i h1 h2 => ?_
  rw [costRow_at h1, List.getElem_replicate, hc]
  split
  · rfl
  · split
    · rfl
    · split <;> rfl
theorem kst_zero {S : List Cl} {p : Nat} {c : Cl} {t : Txt} (hc : S[p]? = some c) (h : c.held = [t]) : kst S p t = 0 := by
  refine Vc.ext' ?_
  rw [kst_val (j := 0) hc (by unfold numCl; rw [h]; simp [fstIx]), costRow_zero h]
  rfl
theorem sm_zero {N : Nat} {f : Nat → Vc N} : ∀ {n : Nat}, (∀ p, p < n → f p = 0) → sm f n = 0
  | 0, _ => rfl
  | n + 1, h => by
    have h1 := sm_zero (n := n) fun p hp => h p (by omega)
    have h2 := h n (by omega)
    unfold sm
    rw [h1, h2]
    grind
theorem Own1.sum {S : List Cl} {M : List Txt} (c : Cod S M) (o : Own1 S M) : rowSum S M = 0 := sm_zero fun p hp => by
  have hM : p < M.length := by rw [c.len]; exact hp
  rw [show M.getD p [] = M[p] by simp [List.getD_eq_getElem?_getD, hM]]
  exact kst_zero (List.getElem?_eq_getElem hp) (o.h p _ _ (List.getElem?_eq_getElem hp) (List.getElem?_eq_getElem hM))
theorem Own1.best {S : List Cl} {M : List Txt} (c : Cod S M) (o : Own1 S M) : Best S M := ⟨c, fun M' _ => by
  rw [o.sum c]
  have h := sm_le (f := fun _ => (0 : VS S)) (g := fun p => kst S p (M'.getD p [])) (n := S.length) fun p _ => kst_nonneg S p _
  rw [sm_zero (f := fun _ => (0 : VS S)) fun _ _ => rfl] at h
  exact h⟩
end L2.DL
namespace L2.DL
open PySem PySem.Spec PyProof.Rows L2.AS
/-! ### claims beside their codes -/
end L2.DL
namespace L2.DL
open PySem PySem.Spec PyProof.Rows
end L2.DL
/-! FN: dict(zip(a, b)). -/
namespace L2.DL
open PySem PySem.Spec PyProof.Rows
end L2.DL
/-! FO: a, b = new, constant by ordinary stores. -/
namespace L2.DL
open PySem PySem.Spec PyProof.Rows
section
variable {X : Cx} {st : Stmt} {e1 e2 : Expr}
def sParF (i j : Nat) (mf : EM Cont) (d : D) : SM := fun E dE env C => mf E env C fun c env1 C1 => dE.nx ((env1.set i (.own c)).set j (.shr d)) C1
theorem j_parF {i j : Nat} {mf : EM Cont} {d : D} {E : EX} {nx bk ct : DL.Env → Cs → Prop} {rt : Ret → Cs → Prop} {env : DL.Env} {C : Cs} (q : mf E env C fun c env1 C1 => nx ((env1.set i (.own c)).set j (.shr d)) C1) : sParF i j mf d E ⟨nx, rt, bk, ct⟩ env C := q
end
end L2.DL
/-! MG: crowds found from any coding of the names ahead; there is one first crowd. -/
namespace L2.AS
open _root_.Lean.Grind
section
variable {κ : Type} [DecidableEq κ] {V : Type} [IntModule V] [_root_.LE V] [_root_.LT V] [Std.IsLinearOrder V] [Std.LawfulOrderLT V] [OrderedAdd V] [DecidableLT V] [DecidableEq V]
variable {P : Prb κ V} {m : Nat} {U : Nat → V} {W : κ → V} {ow : Tb κ Nat} {pl : List Nat} {lb : Tb κ Nat}
theorem SInv.push (A : AInv P m U W ow) (S : SInv P m U W ow pl lb) {c : κ} {q p : Nat} (ho : lk c ow = some p) (hp : p ∉ pl) (hq : q ∈ pl) (hc : c ∈ P.opt q) (ht : U q + W c = P.k q c) : SInv P m U W ow (pl ++ [p]) (lb ++ [(c, q)]) := by
  refine ⟨S.lt, by rw [List.length_append, List.length_append, S.len]; rfl, ?_, ?_, ?_⟩
  · have := S.len
    rw [List.getElem?_append_left (by omega)]; exact S.hd
  · exact List.nodup_append.mpr ⟨S.nd, by simp, by simp; exact fun a ha e => hp (e ▸ ha)⟩
  · intro i d r e
    by_cases hi : i < lb.length
    · rw [List.getElem?_append_left hi] at e
      obtain ⟨p', e1, e2, ⟨j, e3, e4⟩, e5⟩ := S.lbO i d r e
      have hl := S.len
      exact ⟨p', by rw [List.getElem?_append_left (by omega)]; exact e1, e2, ⟨j, e3, by rw [List.getElem?_append_left (by have := (List.getElem?_eq_some_iff.mp e4).1; omega)]; exact e4⟩, e5⟩
    · have hi2 : i = lb.length := by
        have := (List.getElem?_eq_some_iff.mp e).1
        simp at this; omega
      subst hi2
      rw [List.getElem?_append_right (Nat.le_refl _)] at e
      simp at e
      obtain ⟨rfl, rfl⟩ := e
      have hl := S.len
      obtain ⟨j, hj, ej⟩ := List.getElem_of_mem hq
      exact ⟨p, by rw [← hl, List.getElem?_append_right (Nat.le_refl _)]; simp, ho, ⟨j, by omega, by rw [List.getElem?_append_left hj, List.getElem?_eq_getElem hj, ej]⟩, hc, ht⟩
theorem Crowd.only {pl' : List Nat} {m' : Nat} (h : Crowd P m pl) (h' : Crowd P m' pl') : m = m' ∧ ∀ q, q ∈ pl ↔ q ∈ pl' := by
  have le : ∀ {a b : Nat} {l l' : List Nat}, Crowd P a l → Crowd P b l' → a ≤ b := fun {a b l l'} h h' => Nat.le_of_not_lt fun z => by
    obtain ⟨M, hM⟩ := h.pre
    exact h'.no (fun p => p < a) (fun p hp => by have := h'.le p hp; omega) M hM
  have e : m = m' := Nat.le_antisymm (le h h') (le h' h)
  subst e
  have sub : ∀ {l l' : List Nat}, Crowd P m l → Crowd P m l' → ∀ q, q ∈ l → q ∈ l' := fun {l l'} h h' q hq => Classical.byContradiction fun z => by
    obtain ⟨M, hM⟩ := h.one q hq
    exact h'.no (fun p => p ≤ m ∧ p ≠ q) (fun p hp => ⟨h'.le p hp, fun e => z (e ▸ hp)⟩) M hM
  exact ⟨rfl, fun q => ⟨sub h h' q, sub h' h q⟩⟩
end
end L2.AS
namespace L2.DL
open PySem PySem.Spec PyProof.Rows L2.AS
end L2.DL
/-! GA: sets of texts of any number, and their sorting. -/
namespace L2.DL
open PySem PySem.Spec PyProof.Rows
/-- the text of an entry -/
def entT (e : Int × Value) : Str := match e.2 with
  | .str x _ => x
  | _ => Str.empty
def EntOk (w : World) (e : Int × Value) : Prop := ∃ (x : Str) (tk : Tok), e.2 = Value.str x tk ∧ e.1 = hashStr w x
/-- what stands in the table of a set of texts -/
structure TsE (w : World) (L : List Str) (es : Array (Int × Value)) (t : SetTable) : Prop where
  good : ∀ e ∈ es.toList, EntOk w e
  perm : (es.toList.map entT).Perm L
  few : es.size < scanBound
  fits : t.fits es.size = true
  ris : Ris t.place.toList
  led : w.params.followText "set-order" = true ∨ t.led = true
/-- at a stands a set of the texts L -/
def TSet (w : World) (h : Heap) (a : Addr) (L : List Str) : Prop :=
  ∃ (o : Obj) (es : Array (Int × Value)) (ep : Nat) (t : SetTable), h.get? a = some o ∧ o.ExactSet ∧ o.data = .set es ep t ∧ TsE w L es t
section
variable {P : Program} {w : World} {h h' : Heap} {a : Addr} {L : List Str}
theorem TSet.keep (R : TSet w h a L) (k : ∀ o, h.get? a = some o → h'.get? a = some o) : TSet w h' a L := by
  obtain ⟨o, es, ep, t, q0, q⟩ := R
  exact ⟨o, es, ep, t, k o q0, q⟩
theorem TSet.perm {L' : List Str} (R : TSet w h a L) (p : L.Perm L') : TSet w h a L' := by
  obtain ⟨o, es, ep, t, q0, q1, q2, q⟩ := R
  exact ⟨o, es, ep, t, q0, q1, q2, { q with perm := q.perm.trans p }⟩
theorem TsE.elems {es : Array (Int × Value)} {t : SetTable} (q : TsE w L es t) : ElemsOf (strKind P w) es.toList := fun e me => by
  obtain ⟨x, tk, e1, e2⟩ := q.good e me
  exact ⟨⟨x, by rw [e1]; exact strKind_is P w x tk, e2⟩, by rw [e1]; rfl⟩
theorem entOk_is {e : Int × Value} (g : EntOk w e) (x : Str) : (strKind P w).is x e.2 = true ↔ entT e = x := by
  obtain ⟨y, tk, e1, _⟩ := g
  unfold entT
  rw [e1]
  constructor
  · intro z
    exact Value.isStrOf_inj (.str y tk) y x (strKind_is P w y tk) z
  · rintro rfl
    exact strKind_is P w _ tk
theorem TsE.mem {es : Array (Int × Value)} {t : SetTable} (q : TsE w L es t) (x : Str) : x ∈ L ↔ ∃ e ∈ es.toList, (strKind P w).is x e.2 = true := by
  rw [← q.perm.mem_iff, List.mem_map]
  constructor
  · rintro ⟨e, me, z⟩
    exact ⟨e, me, (entOk_is (q.good e me) x).mpr z⟩
  · rintro ⟨e, me, z⟩
    exact ⟨e, me, (entOk_is (q.good e me) x).mp z⟩
end
section
variable {P : Program} {w : World} {A : Around} {E : Value → Shared → Prop} {s : Shared} {a : Addr} {L : List Str}
theorem tset_tail {g : Bool → Sem Unit} (hg : ∀ (b : Bool) (s₁ : Shared) (Q' : Unit → Shared → Prop), Q' () s₁ → wpAny (model P w) A (g b) Q' E s₁) {o : Obj} {es es1 : Array (Int × Value)} {ep : Nat} {t t2 : SetTable} (q0 : s.heap.get? a = some o)
    (q1 : o.ExactSet) (q2 : o.data = .set es ep t) (T : TsE w L es1 t2) {wd : Bool} {R : Option Bool → Shared → Prop} (hR : ∀ h', Heap.SameBut a s.heap h' → TSet w h' a L → R (some true) { s with heap := h' }) :
    wpAny (model P w) A (storeSet a es1 t2 >>= fun _ => if (!wd && t2.tooFull) = true then (g (relayAll t2 es1 (SetTable.grown es1.size)).2.2 >>= fun _ => storeSet a (relayAll t2 es1 (SetTable.grown es1.size)).1 (relayAll t2 es1 (SetTable.grown es1.size)).2.1 >>= fun _ => pure (some true)) else pure (some true)) R E s := by
  have sb := Heap.SameBut.update s.heap a (Obj.putSet es1 t2)
  have n1 := store_at (es' := es1) (t' := t2) q0 q2
  refine wpAny_bind (wpAny_storeSet_of q0 q2 ?_ (fits_of_scanBound T.few))
  split
  · have p1 := relayAll_perm t2 es1 (SetTable.grown es1.size)
    have p2 := relayAll_fits t2 es1 (SetTable.grown es1.size)
    have p3 := relayAll_ris t2 es1 (SetTable.grown es1.size)
    have p4 := relayAll_led t2 es1 (SetTable.grown es1.size)
    generalize relayAll t2 es1 (SetTable.grown es1.size) = Z at p1 p2 p3 p4 ⊢
    obtain ⟨es2, t3, gave⟩ := Z
    dsimp only at p1 p2 p3 p4 ⊢
    have sz : es2.size = es1.size := by simpa using p1.length_eq
    have few2 : es2.size < scanBound := sz ▸ T.few
    refine wpAny_bind (hg _ _ _ ?_)
    refine wpAny_bind (wpAny_storeSet_of n1 rfl ?_ (fits_of_scanBound few2))
    have n2 := store_at (es' := es2) (t' := t3) n1 rfl
    exact wpAny_pure (hR _ (sb.trans (Heap.SameBut.update _ a _)) ⟨_, es2, _, t3, n2, q1, rfl, fun e me => T.good e (p1.mem_iff.mp me), (p1.map entT).trans T.perm, few2, p2, p3, T.led.imp id fun z => p4.trans z⟩)
  · exact wpAny_pure (hR _ sb ⟨_, es1, _, t2, n1, q1, rfl, T⟩)
/-- a text more -/
theorem tset_add {x : Str} {tk : Tok} {Q : Bool → Shared → Prop} (R : TSet w s.heap a L) (room : L.length + 1 < scanBound)
    (hQ : ∀ h' b, Heap.SameBut a s.heap h' → TSet w h' a (if x ∈ L then L else L ++ [x]) → Q b { s with heap := h' }) :
    wpAny (model P w) A (setAddHashed a (.str x tk) (hashStr w x)) Q E s := by
  obtain ⟨o, es, ep, t, q0, q1, q2, T⟩ := R
  have isx : (strKind P w).is x (.str x tk) = true := strKind_is P w x tk
  have scn : (Value.str x tk).scannable = true := rfl
  have hel : ElemsOf (strKind P w) es.toList := T.elems
  show wpAny (model P w) A (setAddHashed a (.str x tk) ((strKind P w).hash x)) Q E s
  unfold setAddHashed setAddHashedIn
  refine wpAny_holding (wpAny_bind (wpAny_setState_of q0 q2 T.fits ?_))
  dsimp only
  rw [byScan_of scn T.few hel, if_pos rfl]
  unfold setAddByScan
  refine wpAny_bind (wpAny_bind (wpAny_rule ?_))
  refine wpAny_bind (wpAny_setScan_of isx q0 q2 T.fits hel ?_)
  cases hfi : List.findIdx? (fun e => (strKind P w).is x e.2) es.toList with
  | some j =>
    dsimp only
    obtain ⟨hj, pj, _⟩ := List.findIdx?_eq_some_iff_getElem.mp hfi
    have hx : x ∈ L := (T.mem (P := P) x).mpr ⟨_, List.getElem_mem hj, pj⟩
    refine wpAny_pure (wpAny_pure (hQ _ _ (Heap.SameBut.refl a s.heap) ?_))
    rw [if_pos hx]
    exact ⟨o, es, ep, t, q0, q1, q2, T⟩
  | none =>
    dsimp only
    have hx : x ∉ L := fun z => by
      obtain ⟨e, me, q⟩ := (T.mem (P := P) x).mp z
      exact absurd (List.findIdx?_eq_none_iff.mp hfi e me) (by rw [q]; decide)
    have hQ' : ∀ h', Heap.SameBut a s.heap h' → TSet w h' a (L ++ [x]) → Q true { s with heap := h' } := fun h' sb z => hQ h' true sb (by rw [if_neg hx]; exact z)
    have gw : ∀ (b : Bool) {s₁ : Shared} {Q' : Unit → Shared → Prop}, Q' () s₁ → wpAny (model P w) A (match b with | true => rule "set.scan.the-table-gave-way" | false => pure ()) Q' E s₁ := fun b s₁ Q' q => match b with
      | true => wpAny_rule q
      | false => wpAny_pure q
    have p1 := layNew_perm t es ((strKind P w).hash x) (.str x tk)
    have p2 := layNew_fits t es ((strKind P w).hash x) (.str x tk)
    have p3 := layNew_ris t es ((strKind P w).hash x) (.str x tk) T.ris
    have p4 := layNew_led t es ((strKind P w).hash x) (.str x tk)
    generalize layNew t es ((strKind P w).hash x) (.str x tk) = Z at p1 p2 p3 p4 ⊢
    obtain ⟨es1, t1, wd, gave⟩ := Z
    dsimp only at p1 p2 p3 p4 ⊢
    rw [Array.toList_push] at p1
    have sz : es1.size = es.size + 1 := by simpa using p1.length_eq
    have szL : es.size = L.length := by simpa using T.perm.length_eq
    have T1 : ∀ t' : SetTable, t'.fits es1.size = true → Ris t'.place.toList → t'.led = t1.led → TsE w (L ++ [x]) es1 t' := fun t' f1 f2 f3 => {
      good := fun e me => by
        rcases List.mem_append.mp (p1.mem_iff.mp me) with z | z
        · exact T.good e z
        · rw [List.mem_singleton.mp z]; exact ⟨x, tk, rfl, rfl⟩
      perm := by
        have := p1.map entT
        rw [List.map_append] at this
        exact this.trans (T.perm.append_right _)
      few := by rw [sz, szL]; exact room
      fits := f1
      ris := f2
      led := T.led.imp id fun z => by rw [f3, p4]; exact z }
    refine wpAny_bind (gw _ ?_)
    split
    · refine wpAny_bind ?_
      rw [hashByValue_scannable 8 scn]
      refine wpAny_pure ?_
      refine tset_tail (L := L ++ [x]) ?_ q0 q1 q2 (T1 _ ?_ ?_ ?_) ?_
      · intro b s₁ Q' q; cases b <;> first | exact wpAny_pure q | exact wpAny_rule q
      · first | (split <;> first | exact p2 | exact SetTable.fits_plain_off p2) | exact p2
      · first | (split <;> exact p3) | exact p3
      · first | (split <;> rfl) | rfl
      · intro h' sb r; dsimp only; exact wpAny_pure (hQ' h' sb r)
    · refine wpAny_bind (wpAny_pure ?_)
      rw [if_pos rfl]
      refine tset_tail (L := L ++ [x]) ?_ q0 q1 q2 (T1 _ p2 p3 rfl) ?_
      · intro b s₁ Q' q; cases b <;> first | exact wpAny_pure q | exact wpAny_rule q
      · intro h' sb r; dsimp only; exact wpAny_pure (hQ' h' sb r)
/-! ### set(list), set(tuple) -/
/-- a new set -/
abbrev set0 (w : World) : Obj := { cls := .type "set", dict := none, data := .set #[] 0 (.fresh 0 0 (!w.params.followText "set-order")) }
theorem set_led0 (w : World) : w.params.followText "set-order" = true ∨ (!w.params.followText "set-order") = true := by
  cases w.params.followText "set-order" <;> simp
theorem tset_fresh {h : Heap} {a : Addr} (q : h.get? a = some (set0 w)) : TSet w h a [] :=
  ⟨_, #[], 0, _, q, ⟨rfl, rfl, rfl⟩, rfl, { good := fun e me => by simp at me, perm := by simp, few := by decide, fits := rfl, ris := List.Pairwise.nil, led := set_led0 w }⟩
theorem code_set0 (x : Value) {Q₁ : Value → Shared → Prop} (q : Q₁ (.ref s.heap.objs.size) { s with heap := s.heap.push (set0 w) }) : codeAny (model P w) A (.call (.builtin "set.__new__") ⟨[.type "set", x], []⟩) (wants Q₁ E) s := by
  refine codeAny_of_tree ?_
  show wpAny _ A.in1 (checkBuiltinCall "set.__new__" ⟨[.type "set", x], []⟩ >>= fun _ => again (.builtin "set.__new__" ⟨[.type "set", x], []⟩)) _ _ s
  refine wpAny_bind (wpAny_of_eq (PySem.F.newCall_set_1 x) (wpAny_pure ⟨plainId_quiet PySem.F.plain_set_new _, codeAny_builtin PySem.F.entry_set_new ?_⟩))
  rw [Around.under_plainId PySem.F.plain_set_new _]
  unfold Builtin.«set.__new__» Builtin.Frozenset.newClass
  have hsub := sub_set_self; obtain ⟨hp, g, d, tk, os⟩ := s
  dsimp only
  wp_walk
  refine wpAny_askSetting (wpAny_pure ?_)
  dsimp only
  simp only [newObj]
  exact wpAny_bind (wpAny_alloc (wpAny_pure (wpAny_pure q)))
/-- the texts of a list, each once -/
def oneS (L : List Str) (x : Str) : List Str := if x ∈ L then L else L ++ [x]
def uniS (xs : List Str) : List Str := xs.foldl oneS []
theorem uniS_len (xs : List Str) : ∀ L : List Str, (xs.foldl oneS L).length ≤ L.length + xs.length := by
  induction xs with
  | nil => intro L; simp
  | cons x xs ih =>
    intro L
    have h1 := ih (oneS L x)
    have h2 : (oneS L x).length ≤ L.length + 1 := by unfold oneS; split <;> simp
    simp only [List.foldl_cons, List.length_cons]
    omega
end
section
variable {P : Program} {w : World} {A : Around} {R : Result → Shared → Prop} {I : Addr} {fp wr : List Addr} {G : Array GenState → Array GenState → Prop} {n : Nat} {Pv : Nat → Value → Prop} {St : Nat → Shared → Prop}
theorem tset_loop (W : WalksS P w A.in1 I fp wr G n Pv St) (S : Addr) (no : S ∉ fp) (xs : List Str) (hn : xs.length = n) (room : n + 1 < scanBound) (hv : ∀ i v, Pv i v → ∃ t, v = .str (xs.getD i Str.empty) t) :
    ∀ (k i : Nat) (s : Shared), n - i = k → i ≤ n → St i s → TSet w s.heap S (uniS (xs.take i)) → (∀ s', Moved (S :: wr) G s s' → TSet w s'.heap S (uniS xs) → R (.ok (.ret .none)) s') →
      codeAny (model P w) A (.builtin "set.update.loop" ⟨[.ref S, .ref I], []⟩) R s
  | 0, i, s, hk, hi, st, T, fin => by
    have e : i = n := by omega
    subst e
    have sw : S ∉ wr := fun h => no (W.sub _ h)
    refine codeAny_builtin PyProof.Rows.F.entry_set_update_loop ?_
    rw [Around.under_plainId PyProof.Rows.F.plain_set_update_loop _]
    show wpAny _ A.in1 (pyNext (.ref I) >>= _) _ _ s
    refine wpAny_bind (W.done s _ _ st fun s' hm => ?_)
    show wpAny _ A.in1 (ret Value.none) _ _ s'
    have q := T.keep fun o e => hm.heap S o sw e
    rw [← hn, List.take_length] at q
    exact wpAny_pure (fin s' (hm.mono fun b hb => .tail _ hb) q)
  | k + 1, i, s, hk, hi, st, T, fin => by
    have lt : i < n := by omega
    have sw : S ∉ wr := fun h => no (W.sub _ h)
    refine codeAny_builtin PyProof.Rows.F.entry_set_update_loop ?_
    rw [Around.under_plainId PyProof.Rows.F.plain_set_update_loop _]
    show wpAny _ A.in1 (pyNext (.ref I) >>= _) _ _ s
    refine wpAny_bind (W.item i s _ _ lt st fun v s' hP st' hm => ?_)
    obtain ⟨t, rfl⟩ := hv i v hP
    show wpAny _ A.in1 (holding [Value.str (xs.getD i Str.empty) t] (setAdd S (.str (xs.getD i Str.empty) t)) >>= _) _ _ s'
    refine wpAny_bind (wpAny_holding ?_)
    unfold setAdd
    refine wpAny_holding ?_
    refine wpAny_bind ((PySem.strKind P w).pyHash (k := xs.getD i Str.empty) (strKind_is _ _ _ _) ?_)
    have room' : (uniS (xs.take i)).length + 1 < scanBound := by
      have := uniS_len (xs.take i) []
      have h2 : (xs.take i).length ≤ n := by rw [List.length_take]; omega
      have h3 : (uniS (xs.take i)).length ≤ n := by unfold uniS; simp only [List.length_nil] at this; omega
      omega
    refine tset_add (P := P) (s := { s' with toks := s'.toks + 1 }) (T.keep fun o e => hm.heap S o sw e) room' fun h' b sb T2 => ?_
    have T3 : TSet w h' S (uniS (xs.take (i + 1))) := by
      have hx : xs[i]? = some (xs.getD i Str.empty) := by rw [List.getD_eq_getElem?_getD, List.getElem?_eq_getElem (by omega)]; rfl
      have e : uniS (xs.take (i + 1)) = oneS (uniS (xs.take i)) (xs.getD i Str.empty) := by
        unfold uniS
        rw [List.take_add_one, hx, List.foldl_append]; rfl
      rw [e]; exact T2
    refine wpAny_pure ⟨plainId_quiet PyProof.Rows.F.plain_set_update_loop _, tset_loop W S no xs hn room hv k (i + 1) _ (by omega) lt (W.frame _ s' _ _ st' (Nat.le_succ _) fun b hb o e => ?_) T3 fun s2 hm2 T4 => ?_⟩
    · exact (sb.2 b fun z : b = S => no (z ▸ hb)).trans e
    · exact fin s2 (Moved.trans W.gtrans ((hm.mono fun b hb => .tail _ hb).then_heap (Nat.le_succ _) fun b o hb e => (sb.2 b fun z : b = S => hb (z ▸ .head _)).trans e) hm2) T4
end
section
variable {P : Program} {w : World} {A : Around} {E : Value → Shared → Prop} {s : Shared}
theorem strs_nth : ∀ {us : List Value} {xs : List Str}, StrsAre us xs → ∀ (i : Nat) (v : Value), us[i]? = some v → ∃ t, v = .str (xs.getD i Str.empty) t
  | _, _, .nil, i, v, h => by cases h
  | _, _, .cons n t _, 0, v, h => ⟨t, (Option.some.inj h).symm⟩
  | _, _, .cons _ _ r, i + 1, v, h => strs_nth r i v h
theorem tset_init_list {l a : Addr} {its : Array Value} {xs : List Str} {F : PySem.Fin → Shared → Prop} (hd : A.handled = none) (hS : s.heap.get? a = some (set0 w)) (hl : s.heap.IsList l its) (la : l ≠ a) (hx : StrsAre its.toList xs) (room : xs.length + 1 < scanBound)
    (fin : ∀ (h' : Heap) (tk : Nat), TSet w h' a (uniS xs) → (∀ b o, b ≠ a → s.heap.get? b = some o → h'.get? b = some o) → F (.done (.ret .none)) { s with heap := h', toks := tk }) : wpAny (model P w) A (Builtin.«set.__init__» ⟨[.ref a] ++ [.ref l], []⟩) F E s := by
  have hT : s.TypeIs (.ref a) "set" := ⟨_, hS, rfl⟩
  have hl1 := hl
  obtain ⟨⟨ocls, odict, odata, oslots⟩, hol, hcl, nl, hdl⟩ := hl
  simp only at hcl hdl
  subst hcl; subst hdl
  have hsls := PySem.F.sub_list_set; have hslf := PySem.F.sub_list_frozenset; have hne : (Value.type "list" == Value.type "dict") = false := by decide
  unfold Builtin.«set.__init__» noKeywords Builtin.Frozenset.updateFrom
  generalize hPI : pyIter = PI
  wp_walk
  subst hPI
  refine wpAny_pyIter_list hl1 (wpAny_bind (wpAny_runValue ?_))
  have lS : l < s.heap.objs.size := Heap.lt_size hol
  have aS : a < s.heap.objs.size := Heap.lt_size hS
  have hd3 : A.in1.handled = none := by simp [hd]
  have no : a ∉ [s.heap.objs.size, l] := fun z => by
    rcases List.mem_cons.mp z with z | z
    · exact Nat.ne_of_lt aS z
    · exact la (List.mem_singleton.mp z).symm
  have hn : xs.length = its.size := by rw [← StrsAre.len_eq hx, Array.length_toList]
  have hv : ∀ (i : Nat) (v : Value), its[i]? = some v → ∃ t, v = .str (xs.getD i Str.empty) t := fun i v q => strs_nth hx i v (by rw [Array.getElem?_toList]; exact q)
  refine tset_loop ((Walks.list hd3 _ l (Nat.ne_of_lt lS) its).toS) a no xs hn (by omega) hv (its.size - 0) 0 _ (by omega) (Nat.zero_le _) ⟨⟨_, Heap.get?_push_size _ rfl, rfl, rfl⟩, (hl1.push _)⟩ ?goA ?goB
  case goA => exact tset_fresh (Heap.get?_push_of_some _ hS)
  case goB =>
    intro s' hm T
    obtain ⟨h', g', d', tk', os'⟩ := s'
    have eg : g' = s.gens := hm.gens
    have ed : d' = s.drawn := hm.drawn
    have eo : os' = s.os := hm.os
    subst eg ed eo
    show wpAny _ _ _ _ _ _
    refine wpAny_pure ?_
    show wpAny _ _ (ret Value.none) _ _ _
    refine wpAny_pure (fin _ _ T fun b o hb e => hm.heap b o (fun z => ?_) (Heap.get?_push_of_some _ e))
    rcases List.mem_cons.mp z with z | z
    · exact hb z
    · exact Nat.ne_of_lt (Heap.lt_size e) (List.mem_singleton.mp z)
theorem tset_init_tuple {l a : Addr} {its : Array Value} {xs : List Str} {F : PySem.Fin → Shared → Prop} (hd : A.handled = none) (hS : s.heap.get? a = some (set0 w)) (hl : s.heap.IsTuple l its) (la : l ≠ a) (hx : StrsAre its.toList xs) (room : xs.length + 1 < scanBound)
    (fin : ∀ (h' : Heap) (tk : Nat), TSet w h' a (uniS xs) → (∀ b o, b ≠ a → s.heap.get? b = some o → h'.get? b = some o) → F (.done (.ret .none)) { s with heap := h', toks := tk }) : wpAny (model P w) A (Builtin.«set.__init__» ⟨[.ref a] ++ [.ref l], []⟩) F E s := by
  have hT : s.TypeIs (.ref a) "set" := ⟨_, hS, rfl⟩
  have hl1 := hl
  obtain ⟨⟨ocls, odict, odata, oslots⟩, hol, hcl, nl, hdl⟩ := hl
  simp only at hcl hdl
  subst hcl; subst hdl
  have hsls := PySem.F.sub_tuple_set; have hslf := PySem.F.sub_tuple_frozenset; have hne : (Value.type "tuple" == Value.type "dict") = false := by decide
  unfold Builtin.«set.__init__» noKeywords Builtin.Frozenset.updateFrom
  generalize hPI : pyIter = PI
  wp_walk
  subst hPI
  refine wpAny_pyIter_tuple hl1 (wpAny_bind (wpAny_runValue ?_))
  have lS : l < s.heap.objs.size := Heap.lt_size hol
  have aS : a < s.heap.objs.size := Heap.lt_size hS
  have hd3 : A.in1.handled = none := by simp [hd]
  have no : a ∉ [s.heap.objs.size, l] := fun z => by
    rcases List.mem_cons.mp z with z | z
    · exact Nat.ne_of_lt aS z
    · exact la (List.mem_singleton.mp z).symm
  have hn : xs.length = its.size := by rw [← StrsAre.len_eq hx, Array.length_toList]
  have hv : ∀ (i : Nat) (v : Value), its[i]? = some v → ∃ t, v = .str (xs.getD i Str.empty) t := fun i v q => strs_nth hx i v (by rw [Array.getElem?_toList]; exact q)
  refine tset_loop ((Walks.tuple hd3 _ l (Nat.ne_of_lt lS) its).toS) a no xs hn (by omega) hv (its.size - 0) 0 _ (by omega) (Nat.zero_le _) ⟨⟨_, Heap.get?_push_size _ rfl, rfl, rfl⟩, (hl1.push _)⟩ ?goA ?goB
  case goA => exact tset_fresh (Heap.get?_push_of_some _ hS)
  case goB =>
    intro s' hm T
    obtain ⟨h', g', d', tk', os'⟩ := s'
    have eg : g' = s.gens := hm.gens
    have ed : d' = s.drawn := hm.drawn
    have eo : os' = s.os := hm.os
    subst eg ed eo
    show wpAny _ _ _ _ _ _
    refine wpAny_pure ?_
    show wpAny _ _ (ret Value.none) _ _ _
    refine wpAny_pure (fin _ _ T fun b o hb e => hm.heap b o (fun z => ?_) (Heap.get?_push_of_some _ e))
    rcases List.mem_cons.mp z with z | z
    · exact hb z
    · exact Nat.ne_of_lt (Heap.lt_size e) (List.mem_singleton.mp z)
set_option maxHeartbeats 8000000 in
/-- set(x), by what the filling of a new set does -/
theorem tset_call {x : Value} {xs : List Str} {Q : Value → Shared → Prop} (hd : A.handled = none)
    (ini : ∀ (A1 : Around) (E1 : Value → Shared → Prop) (s₁ : Shared) (F : PySem.Fin → Shared → Prop), A1.handled = none → s₁.heap.get? s.heap.objs.size = some (set0 w) → (∀ b o, s.heap.get? b = some o → s₁.heap.get? b = some o) →
      (∀ (h' : Heap) (tk : Nat), TSet w h' s.heap.objs.size (uniS xs) → (∀ b o, b ≠ s.heap.objs.size → s₁.heap.get? b = some o → h'.get? b = some o) → F (.done (.ret .none)) { s₁ with heap := h', toks := tk }) → wpAny (model P w) A1 (Builtin.«set.__init__» ⟨[.ref s.heap.objs.size] ++ [x], []⟩) F E1 s₁)
    (fin : ∀ (h' : Heap) (tk : Nat), TSet w h' s.heap.objs.size (uniS xs) → (∀ b o, b < s.heap.objs.size → s.heap.get? b = some o → h'.get? b = some o) → Q (.ref s.heap.objs.size) { s with heap := h', toks := tk }) : wpAny (model P w) A (call (.type "set") [x]) Q E s := by
  obtain ⟨c, tl, hmro⟩ := PySem.F.called_set.mro; have hmade := PySem.F.called_set.made; have hsub := PySem.F.called_set.sub
  refine wpAny_call (codeAny_of_tree ?_)
  show wpAny _ _ (callAny (.type "set") _) _ _ _
  refine wpAny_pure ⟨Code.quiet_builtin _ (by decide +kernel), codeAny_builtin PySem.F.entry_type_call ?_⟩
  rw [Around.under_plain (weight_type_call_type "set" [x] []) rfl]
  have h1 := PySem.F.called_set.notType; have h2 := PySem.F.called_set.canCreate; have hct := PySem.F.typeCall_set_1 x
  repeat (any_goals (first | assumption | wp_step))
  refine codeAny_mono (code_set0 x (E := E) (Q₁ := fun obj s₁ => obj = .ref s.heap.objs.size ∧ s₁ = { s with heap := s.heap.push (set0 w) }) ⟨rfl, rfl⟩) fun r s₁ hr => ?_
  cases r with
  | error e => exact hr
  | ok fl =>
    cases fl with
    | ret obj =>
      obtain ⟨rfl, e1⟩ := hr
      have hS : s₁.heap.get? s.heap.objs.size = some (set0 w) := by rw [e1]; exact Heap.get?_push_size _ rfl
      have k1 : ∀ b o, s.heap.get? b = some o → s₁.heap.get? b = some o := fun b o e => by rw [e1]; exact Heap.get?_push_of_some _ e
      have fin1 : ∀ (h' : Heap) (tk : Nat), TSet w h' s.heap.objs.size (uniS xs) → (∀ b o, b < s.heap.objs.size → s.heap.get? b = some o → h'.get? b = some o) → Q (.ref s.heap.objs.size) { s₁ with heap := h', toks := tk } := fun h' tk T k => by rw [e1]; exact fin h' tk T k
      clear e1
      have hT : s₁.TypeIs (.ref s.heap.objs.size) "set" := ⟨_, hS, rfl⟩
      have hli := PySem.F.called_set.init.lookup; have hbi := PySem.F.called_set.init.bind (.ref s.heap.objs.size)
      repeat (any_goals (first | assumption | wp_step))
      refine codeAny_mono (codeAny_call_builtin (R := wants (fun r s₂ => r = .none ∧ ∃ h' tk, s₂ = { s₁ with heap := h', toks := tk } ∧ TSet w h' s.heap.objs.size (uniS xs) ∧ (∀ b o, b < s.heap.objs.size → s.heap.get? b = some o → h'.get? b = some o)) E)
        PySem.F.called_set.init.plain PySem.F.entry_set_init (check_set_init_1 hT ?_)) fun r₂ s₂ hr₂ => ?_
      · exact ini _ _ s₁ _ (by simp [hd]) hS k1 fun h' tk T k => ⟨rfl, h', tk, rfl, T, fun b o hb e => k b o (Nat.ne_of_lt hb) (k1 b o e)⟩
      · cases r₂ with
        | error e => exact hr₂
        | ok fl₂ =>
          cases fl₂ with
          | ret r =>
            obtain ⟨rfl, h', tk, rfl, T, hk⟩ := hr₂
            repeat (any_goals (first | assumption | wp_step))
            exact fin1 _ _ T hk
          | _ => exact hr₂.elim
    | _ => exact hr.elim
theorem tset_list {l : Addr} {its : Array Value} {xs : List Str} {Q : Value → Shared → Prop} (hd : A.handled = none) (hl : s.heap.IsList l its) (hx : StrsAre its.toList xs) (room : xs.length + 1 < scanBound)
    (fin : ∀ (h' : Heap) (tk : Nat), TSet w h' s.heap.objs.size (uniS xs) → (∀ b o, b < s.heap.objs.size → s.heap.get? b = some o → h'.get? b = some o) → Q (.ref s.heap.objs.size) { s with heap := h', toks := tk }) : wpAny (model P w) A (call (.type "set") [.ref l]) Q E s :=
  tset_call hd (fun A1 E1 s₁ F hd1 hS k1 fin1 => tset_init_list hd1 hS (by obtain ⟨o, z, r⟩ := hl; exact ⟨o, k1 _ _ z, r⟩) (by obtain ⟨o, z, r⟩ := hl; exact Nat.ne_of_lt (Heap.lt_size z)) hx room fin1) fin
theorem tset_tuple {l : Addr} {its : Array Value} {xs : List Str} {Q : Value → Shared → Prop} (hd : A.handled = none) (hl : s.heap.IsTuple l its) (hx : StrsAre its.toList xs) (room : xs.length + 1 < scanBound)
    (fin : ∀ (h' : Heap) (tk : Nat), TSet w h' s.heap.objs.size (uniS xs) → (∀ b o, b < s.heap.objs.size → s.heap.get? b = some o → h'.get? b = some o) → Q (.ref s.heap.objs.size) { s with heap := h', toks := tk }) : wpAny (model P w) A (call (.type "set") [.ref l]) Q E s :=
  tset_call hd (fun A1 E1 s₁ F hd1 hS k1 fin1 => tset_init_tuple hd1 hS (by obtain ⟨o, z, r⟩ := hl; exact ⟨o, k1 _ _ z, r⟩) (by obtain ⟨o, z, r⟩ := hl; exact Nat.ne_of_lt (Heap.lt_size z)) hx room fin1) fin
theorem strs_of : ∀ (l : List Value), (∀ v ∈ l, ∃ x tk, v = Value.str x tk) → ∃ xs, StrsAre l xs
  | [], _ => ⟨[], .nil⟩
  | v :: l, q => by
    obtain ⟨x, tk, rfl⟩ := q v (.head _)
    obtain ⟨xs, r⟩ := strs_of l fun u hu => q u (.tail _ hu)
    exact ⟨x :: xs, .cons x tk r⟩
theorem strs_ent : ∀ {l : List Value} {xs : List Str}, StrsAre l xs → (l.map fun v => entT (0, v)) = xs
  | _, _, .nil => rfl
  | _, _, .cons n t r => by rw [List.map_cons, strs_ent r]; rfl
/-- sorted(set of texts) -/
theorem tset_sorted {a : Addr} {L : List Str} {Q : Value → Shared → Prop} (R : TSet w s.heap a L) (hd : A.handled = none)
    (fin : ∀ s' p (out : List Value) (c : Nat) (ys : List Str), (∀ b o, s.heap.get? b = some o → s'.heap.get? b = some o) → s'.gens = s.gens → s'.os = s.os → s.heap.objs.size ≤ p → s'.heap.get? p = some (seqObj "list" out.toArray c) → StrsAre out ys → ys.Perm L → sortedS ys = true → Q (.ref p) s') :
    wpAny (model P w) A (call (.builtin "sorted") [.ref a]) Q E s := by
  obtain ⟨o, es, ep, t, q0, q1, q2, T⟩ := R
  refine Calls.call_function_entry kind_sorted plain_sorted entry_sorted (args_sorted1 _) ?_
  unfold Builtin.«sorted»
  refine wpAny_bind (m := checkCount "sorted" 1 1 _) (wpAny_pure ?_)
  refine wpAny_bind (collect_set (A := A.in1) hd ⟨o, q0, q1.1, q2⟩ T.fits T.few T.ris T.led fun s1 vs k1 hz g1 o1 pm => ?_)
  have hvl : vs.length = es.size := by rw [pm.length_eq, List.length_map, Array.length_toList]
  obtain ⟨xs, hxs⟩ := strs_of vs fun v hv => by
    obtain ⟨e, me, q⟩ := List.mem_map.mp (pm.mem_iff.mp hv)
    obtain ⟨x, tk, e1, _⟩ := T.good e me
    exact ⟨x, tk, by rw [← q]; exact e1⟩
  have pk : xs.Perm L := by
    rw [← strs_ent hxs]
    refine (pm.map _).trans ?_
    rw [List.map_map]
    exact T.perm
  have hv2 : vs.length ≤ sizeLine := by rw [hvl]; exact fits_of_scanBound T.few
  refine wpAny_bind (wpAny_newList ?_ hv2)
  have hoL : (s1.heap.push (seqObj "list" vs.toArray 0)).get? s1.heap.objs.size = some (seqObj "list" vs.toArray 0) := Heap.get?_push_size _ rfl
  refine wpAny_bind (wpAny_holding (wpAny_call_entry slot_list_sort ⟨_, hoL, rfl⟩ entry_list_sort (list_sort_treeKAny strKind_oneLt hoL hxs.keysOf (fun v₁ v₂ rest e => keyKind_strs (by rw [← e]; exact hxs)) hv2 fun st' a1 a2 => ⟨_, rfl, ?_⟩) (args_list_sort _)))
  obtain ⟨ys, b1, b2, b3⟩ := sorted_out_str hxs a1 a2
  obtain ⟨c, hc⟩ := sortedHeap_at (vs := vs) (out := (arrOf st').map (·.2)) hoL
  refine wpAny_pure ⟨_, rfl, fin _ s1.heap.objs.size _ c ys (fun b u e => ?_) g1 o1 hz ?_ b1 (b2.trans pk) b3⟩
  · have q := k1 b u e
    have lt := Heap.lt_size q
    show (sortedHeap (s1.heap.push (seqObj "list" vs.toArray 0)) s1.heap.objs.size vs ((arrOf st').map (·.2))).get? b = some u
    rw [sortedHeap_old (Nat.ne_of_lt lt) (by rw [size_push']; exact Nat.lt_succ_of_lt lt)]
    exact Heap.get?_push_of_some _ q
  · exact hc
end
/-! ### len(set(..)), sorted(set(..)) -/
theorem strsAre_vals : ∀ {ys : List Str} {us : List Value}, Vals (ys.map V.str) us → StrsAre us ys
  | [], _, .nil => .nil
  | y :: ys, _, .cons (b := u) r t => by
    obtain ⟨k, rfl⟩ := r
    exact .cons y k (strsAre_vals t)
section
variable {X : Cx}
def SqS (K : PySem.W.Frag) (H : Hp) (x : V) (xs : List Str) : Prop := ∃ l, x = V.ref l ∧ (SqL K H l (xs.map V.str) ∨ SqT K H l (xs.map V.str)) ∧ xs.length + 1 < 4096
/-- the call of set by a list or a tuple of texts -/
theorem set_of {pins : List (Addr × Obj)} {σ : St} {H : Hp} {s : Shared} {x : V} {u : Value} {xs : List Str} {A : Around} {E : Value → Shared → Prop} {Q : Value → Shared → Prop} (I : Inv X pins σ H s) (hd : A.handled = none) (r : RelV x u) (h : SqS X.K H x xs)
    (k : ∀ (h' : Heap) (tk : Nat), TSet X.w h' s.heap.objs.size (uniS xs) → Inv X pins σ H { s with heap := h', toks := tk } → (∀ b o, s.heap.get? b = some o → h'.get? b = some o) → Q (.ref s.heap.objs.size) { s with heap := h', toks := tk }) : wpAny (model X.prog X.w) A (call (.type "set") [u]) Q E s := by
  obtain ⟨l, rfl, hq, room⟩ := h
  cases r
  have k2 : ∀ (h' : Heap) (tk : Nat), TSet X.w h' s.heap.objs.size (uniS xs) → (∀ b o, b < s.heap.objs.size → s.heap.get? b = some o → h'.get? b = some o) → Q (.ref s.heap.objs.size) { s with heap := h', toks := tk } := fun h' tk T q =>
    have q' : ∀ b o, s.heap.get? b = some o → h'.get? b = some o := fun b o e => q b o (Heap.lt_size e) e
    k h' tk T (I.kept q') q'
  rcases hq with hq | hq
  · obtain ⟨its, r, pl, hz⟩ := I.list hq
    exact tset_list hd pl.isList (by simpa using strsAre_vals r) (by unfold scanBound; exact room) k2
  · obtain ⟨its, r, pl, hz⟩ := I.tuple hq
    exact tset_tuple hd pl (by simpa using strsAre_vals r) (by unfold scanBound; exact room) k2
def tSetSort (K : PySem.W.Frag) (ta : TE) : TE := fun σ H Q => ta σ H fun x H1 => ∃ xs, SqS K H1 x xs ∧ ∀ (ys : List Str) (p : Addr), ys.Perm (uniS xs) → sortedS ys = true → H1 p = none → Q (.ref p) (upd H1 p (.lst (ys.map V.str)))
theorem pe_setSort {a : Expr} {ta : TE} {p p2 q pos : Pos} (hc : X.calm = true) (hg : Gl X "sorted") (hm : X.mg "sorted" = none) (hv : bootBuiltins "sorted" = some (.builtin "sorted")) (hg2 : Gl X "set") (hm2 : X.mg "set" = none) (ha : PE X a ta) (na : starEach [a] X.env = (false, eval a X.env) :: starEach [] X.env) :
    PE X (.Call (.Name "sorted" p) [.Call (.Name "set" p2) [a] [] q] [] pos) (tSetSort X.K ta) := by
  refine ⟨fun pins s σ H Q I h => Call_ (ld_blt I hg hm hv (PyProof.Rows.callWith_builtin1 (PyProof.Rows.args_cons ?_ rfl) rfl rfl))⟩
  refine Call_ (ld_blt I hg2 hm2 boot_set (PyProof.Rows.callWith_type1 (PyProof.Rows.args_cons (thn (ha.run pins s σ H _ I h) fun v s1 ⟨x, H1, I1, r1, xs, hs, q1⟩ => PyProof.Rows.args_nil ?_) na) na rfl))
  refine set_of I1 (I1.ok.hd hc) r1 hs fun h' tk T I2 hk => PyProof.Rows.args_nil ?_
  refine tset_sorted T (I2.ok.hd hc) fun s' p out c ys k g o hp hgt hi pm so => ?_
  have hlen : (ys.map V.str).length ≤ sizeLine := by
    rw [List.length_map, pm.length_eq]
    have := uniS_len xs []
    obtain ⟨_, _, _, room⟩ := hs
    simp only [List.length_nil] at this
    unfold uniS
    rw [sizeLine_eq]; omega
  have hn : H1 p = none := I2.hok.fresh hp
  have J : Inv X pins σ (upd H1 p (.lst (ys.map V.str))) { s1 with heap := s'.heap, gens := s'.gens, drawn := s'.drawn, toks := s'.toks } :=
    Inv.call (s := { s1 with heap := h', toks := tk }) I2 (ch := []) (Un.laid k hp hn) (I2.hok.laid k hp ⟨hlen, out, c, vals_of_strs hi, hgt⟩) (by rw [g]; exact I2.bare) (fun _ z => nomatch z)
  have e : s' = { s1 with heap := s'.heap, gens := s'.gens, drawn := s'.drawn, toks := s'.toks } := by
    cases s'; cases s1; cases o; rfl
  rw [e]
  exact ⟨.ref p, _, J, rfl, q1 ys p pm so hn⟩
end
end L2.DL
/-! GB: sorted texts, sets of texts, over trees. -/
namespace L2.DL
open PySem PySem.Spec PyProof.Rows
/-! ### sorting of texts -/
def leT (a b : Txt) : Prop := ¬ b < a
instance (a b : Txt) : Decidable (leT a b) := inferInstanceAs (Decidable (¬ b < a))
theorem leT_anti {a b : Txt} (h : leT a b) (h' : leT b a) : a = b := List.le_antisymm (List.not_lt.mp h) (List.not_lt.mp h')
theorem leT_total (a b : Txt) : leT a b ∨ leT b a := by
  rcases List.le_total a b with h | h
  · exact .inl (List.not_lt.mpr h)
  · exact .inr (List.not_lt.mpr h)
theorem leT_trans {a b c : Txt} (h : leT a b) (h' : leT b c) : leT a c := List.not_lt.mpr (List.le_trans (List.not_lt.mp h) (List.not_lt.mp h'))
def insT (x : Txt) : List Txt → List Txt
  | [] => [x]
  | y :: r => if leT x y then x :: y :: r else y :: insT x r
def sortT : List Txt → List Txt
  | [] => []
  | x :: r => insT x (sortT r)
theorem insT_perm (x : Txt) : ∀ l : List Txt, (insT x l).Perm (x :: l)
  | [] => List.Perm.refl _
  | y :: r => by
    unfold insT
    split
    · exact List.Perm.refl _
    · exact ((insT_perm x r).cons y).trans (List.Perm.swap _ _ _)
theorem sortT_perm : ∀ l : List Txt, (sortT l).Perm l
  | [] => List.Perm.refl _
  | x :: r => (insT_perm x _).trans ((sortT_perm r).cons x)
theorem insT_pw (x : Txt) : ∀ {l : List Txt}, l.Pairwise leT → (insT x l).Pairwise leT
  | [], _ => List.pairwise_singleton _ _
  | y :: r, h => by
    unfold insT
    rw [List.pairwise_cons] at h
    split
    · rename_i e
      rw [List.pairwise_cons, List.pairwise_cons]
      refine ⟨fun z hz => ?_, h⟩
      rcases List.mem_cons.mp hz with rfl | hz
      · exact e
      · exact leT_trans e (h.1 z hz)
    · rename_i e
      rw [List.pairwise_cons]
      refine ⟨fun z hz => ?_, insT_pw x h.2⟩
      rcases List.mem_cons.mp ((insT_perm x r).mem_iff.mp hz) with rfl | hz
      · exact (leT_total z y).resolve_left e
      · exact h.1 z hz
theorem sortT_pw : ∀ l : List Txt, (sortT l).Pairwise leT
  | [] => List.Pairwise.nil
  | x :: r => insT_pw x (sortT_pw r)
theorem sortT_only {l r : List Txt} (p : r.Perm l) (h : r.Pairwise leT) : r = sortT l :=
  List.Perm.eq_of_pairwise (fun _ _ _ _ a b => leT_anti a b) h (sortT_pw l) (p.trans (sortT_perm l).symm)
theorem sortT_id {l : List Txt} (h : l.Pairwise leT) : sortT l = l := (sortT_only (List.Perm.refl l) h).symm
theorem mem_sortT {l : List Txt} {t : Txt} : t ∈ sortT l ↔ t ∈ l := (sortT_perm l).mem_iff
theorem sortT_len (l : List Txt) : (sortT l).length = l.length := (sortT_perm l).length_eq
/-! ### each once -/
def oneT (L : List Txt) (x : Txt) : List Txt := if x ∈ L then L else L ++ [x]
def uniT (xs : List Txt) : List Txt := xs.foldl oneT []
theorem oneT_nd {L : List Txt} {x : Txt} (h : L.Nodup) : (oneT L x).Nodup := by
  unfold oneT
  split
  · exact h
  · rename_i e
    rw [List.nodup_append]
    refine ⟨h, List.pairwise_singleton _ _, fun a ha b hb => ?_⟩
    rw [List.mem_singleton.mp hb]
    intro z; exact e (z ▸ ha)
theorem mem_oneT {L : List Txt} {x t : Txt} : t ∈ oneT L x ↔ t ∈ L ∨ t = x := by
  unfold oneT
  split
  · rename_i e
    exact ⟨.inl, fun h => h.elim id fun z => z ▸ e⟩
  · simp
theorem fold_oneT_nd : ∀ (xs L : List Txt), L.Nodup → (xs.foldl oneT L).Nodup
  | [], L, h => h
  | x :: xs, L, h => fold_oneT_nd xs _ (oneT_nd h)
theorem mem_fold_oneT {t : Txt} : ∀ (xs L : List Txt), t ∈ xs.foldl oneT L ↔ t ∈ L ∨ t ∈ xs
  | [], L => by simp
  | x :: xs, L => by
    rw [List.foldl_cons, mem_fold_oneT xs, mem_oneT, List.mem_cons, or_assoc]
theorem uniT_nd (xs : List Txt) : (uniT xs).Nodup := fold_oneT_nd xs [] List.nodup_nil
theorem mem_uniT {xs : List Txt} {t : Txt} : t ∈ uniT xs ↔ t ∈ xs := by
  unfold uniT; rw [mem_fold_oneT]; simp
theorem uniT_len (xs : List Txt) : (uniT xs).length ≤ xs.length := L2.AS.nd_le (uniT_nd xs) fun t h => mem_uniT.mp h
theorem uniS_map (ts : List Txt) : uniS (ts.map sV) = (uniT ts).map sV := by
  have : ∀ (ts L : List Txt), (ts.map sV).foldl oneS (L.map sV) = (ts.foldl oneT L).map sV := by
    intro ts
    induction ts with
    | nil => intro L; rfl
    | cons t ts ih =>
      intro L
      rw [List.map_cons, List.foldl_cons, List.foldl_cons, ← ih]
      congr 1
      unfold oneS oneT
      have e : (sV t ∈ L.map sV) ↔ t ∈ L := by
        rw [List.mem_map]
        exact ⟨fun ⟨a, h, e⟩ => sV_inj e ▸ h, fun h => ⟨t, h, rfl⟩⟩
      by_cases h : t ∈ L
      · rw [if_pos h, if_pos (e.mpr h)]
      · rw [if_neg h, if_neg fun z => h (e.mp z)]; simp
  exact this ts []
theorem rising_pw : ∀ (p : Str) (l : List Str), risingS p l = true → l.Pairwise (fun a b => ltCps b.cps.toList a.cps.toList = false) ∧ ∀ b ∈ l, leT p.cps.toList b.cps.toList
  | p, [], _ => ⟨List.Pairwise.nil, fun b hb => by cases hb⟩
  | p, x :: r, h => by
    have h' : (!ltCps x.cps.toList p.cps.toList && risingS x r) = true := h
    rw [Bool.and_eq_true, Bool.not_eq_true'] at h'
    obtain ⟨h1, h2⟩ := h'
    obtain ⟨i1, i2⟩ := rising_pw x r h2
    have hp : leT p.cps.toList x.cps.toList := by rw [ltCps_eq] at h1; exact of_decide_eq_false h1
    refine ⟨List.pairwise_cons.mpr ⟨fun b hb => ?_, i1⟩, fun b hb => ?_⟩
    · rw [ltCps_eq]; exact decide_eq_false (i2 b hb)
    · rcases List.mem_cons.mp hb with rfl | hb
      · exact hp
      · exact leT_trans hp (i2 b hb)
theorem sorted_is {ys : List Str} {ts : List Txt} (p : ys.Perm (ts.map sV)) (h : sortedS ys = true) : ys = (sortT ts).map sV := by
  have hp : ys.Pairwise (fun a b => ltCps b.cps.toList a.cps.toList = false) := by
    cases ys with
    | nil => exact List.Pairwise.nil
    | cons x r =>
      obtain ⟨i1, i2⟩ := rising_pw x r h
      exact List.pairwise_cons.mpr ⟨fun b hb => by rw [ltCps_eq]; exact decide_eq_false (i2 b hb), i1⟩
  have e : ys = (ys.map fun y => y.cps.toList).map sV := by
    rw [List.map_map]
    have : (sV ∘ fun y : Str => y.cps.toList) = id := funext fun y => sV_of y
    rw [this, List.map_id]
  rw [e]
  congr 1
  refine sortT_only ?_ ?_
  · have := p.map fun y : Str => y.cps.toList
    rw [List.map_map] at this
    have e2 : ((fun y : Str => y.cps.toList) ∘ sV) = id := funext fun y => sV_cps y
    rw [e2, List.map_id] at this
    exact this
  · rw [List.pairwise_map]
    exact hp.imp fun {a b} q => by rw [ltCps_eq] at q; exact of_decide_eq_false q
/-! ### over trees -/
def sqD : D → Option (List D)
  | .lst xs => some xs
  | .tup xs => some xs
  | .kt => some []
  | _ => none
def gSetSort (d : D) (P : Cont → Prop) : Prop := ∃ xs ts, sqD d = some xs ∧ txtsOf xs = some ts ∧ ts.length < 4000 ∧ P (.lst ((sortT (uniT ts)).map D.str))
def mUnF (g : D → (Cont → Prop) → Prop) (ma : EM D) : EM Cont := fun E env C Q => ma E env C fun d env1 C1 => g (dr C1 d) fun x => Q x env1 C1
section
variable {X : Cx} {a : Expr} {p p2 q pos : Pos} {ma : EM D}
theorem now_sqs {K : PySem.W.Frag} {Hs H : Hp} {d : D} {v : V} {xs : List D} {ts : List Txt} (sub : Same Hs H) (n : RNow K Hs H d v) (h1 : sqD d = some xs) (h2 : txtsOf xs = some ts) (h3 : ts.length < 4000) : SqS K H v (ts.map sV) := by
  have room : (ts.map sV).length + 1 < 4096 := by rw [List.length_map]; omega
  cases n with
  | lst e r => cases h1; rw [txts_rep r h2] at e; exact ⟨_, rfl, .inl (SqL.of e), room⟩
  | tup e r => cases h1; rw [txts_rep r h2] at e; exact ⟨_, rfl, .inr (TupA.sq sub e), room⟩
  | kt e => cases h1; cases h2; exact ⟨_, rfl, .inr e.sq, room⟩
  | _ => cases h1
theorem repL_txts {K : PySem.W.Frag} {H : Hp} : ∀ ts : List Txt, RepL K H (ts.map D.str) ((ts.map sV).map V.str)
  | [] => .nil
  | t :: ts => .cons (.str t) (repL_txts ts)
theorem d_setSort (ha : DE X RPk a ma) (hc : X.calm = true) (hg : Gl X "sorted") (hm : X.mg "sorted" = none) (hv : bootBuiltins "sorted" = some (.builtin "sorted")) (hg2 : Gl X "set") (hm2 : X.mg "set" = none) (na : starEach [a] X.env = (false, eval a X.env) :: starEach [] X.env) :
    DE X RFr (.Call (.Name "sorted" p) [.Call (.Name "set" p2) [a] [] q] [] pos) (mUnF gSetSort ma) := fun Z E hE => by
  refine ⟨fun pins s σ H Q I ⟨Hs, env, C, P, sr, q0, k⟩ => (pe_setSort hc hg hm hv hg2 hm2 (ha Z E hE) na).run pins s σ H Q I ?_⟩
  refine ⟨Hs, env, C, _, sr, q0, fun d env1 C1 v Hs1 H1 q1 t1 s1 r1 => ?_⟩
  obtain ⟨xs, ts, h1, h2, h3, q1⟩ := q1
  refine ⟨ts.map sV, now_sqs s1.fit.sub (r1.now s1.fit) h1 h2 h3, fun ys p pm so hp => ?_⟩
  rw [uniS_map] at pm
  rw [sorted_is pm so]
  exact k _ _ _ _ Hs1 _ q1 (t1.trans (Tr.layP hp _)) (s1.layP hp _) (fr_lay s1 hp ⟨_, rfl, repL_txts _⟩)
/-! ### sorted(list of texts) -/
def gSorted (ds : List D) (P : Cont → Prop) : Prop := match ds with
  | [.lst xs] => ∃ ts, txtsOf xs = some ts ∧ P (.lst ((sortT ts).map D.str))
  | _ => False
end
section
variable {E : EX} {env : DL.Env} {C : Cs} {ts : List Txt} {P : D → Prop} {PC : Cont → Prop}
theorem i_unF {g : D → (Cont → Prop) → Prop} {ma : EM D} {R : Cont → DL.Env → Cs → Prop} (q : ma E env C fun d env1 C1 => g (dr C1 d) fun x => R x env1 C1) : mUnF g ma E env C R := q
theorem g_setSortL (h : ts.length < 4000) (q : PC (.lst (txs (sortT (uniT ts))))) : gSetSort (dr C (.lst (txs ts))) PC := ⟨_, ts, rfl, txtsOf_txs ts, h, q⟩
theorem g_setSortK (q : PC (.lst [])) : gSetSort (dr C .kt) PC := ⟨_, [], rfl, rfl, by decide, q⟩
theorem g_sortedL (q : PC (.lst (txs (sortT ts)))) : gSorted ([D.lst (txs ts)].map (dr C)) PC := ⟨ts, txtsOf_txs ts, q⟩
end
end L2.DL
/-! GC: results of either kind; a, b = e1, e2 of any kinds; xs.extend(e); o.f += e; str(text). -/
namespace L2.DL
open PySem PySem.Spec PyProof.Rows
section
variable {X : Cx} {e e1 e2 : Expr} {es : List Expr} {st : Stmt} {pos : Pos} {K : PySem.W.Frag} {Z : Z0}
def mCallR (sp : DSp) (dfl : List D) (ms : EM (List D)) : EM Ret := fun E env C Q => ms E env C fun ds env1 C1 => sp (ds ++ dfl) C1 (fun r C2 => Q r env1 C2) fun x C2 => E x env1 C2
/-! ### two results one after the other -/
theorem RFr.setS {σ : St} {Hs H : Hp} {env : DL.Env} {C : Cs} {c : Cont} {v w : V} {i : Nat} {d : D} (h : RFr K Z σ Hs H env C c v) : RFr K Z (σ.set i (some w)) Hs H (env.set i (.shr d)) C c v := by
  obtain ⟨p, o, rfl, a1, a2, a3, a4, a5, no⟩ := h
  refine ⟨p, o, rfl, a1, a2, a3, a4, a5, fun k c' y z => ?_⟩
  by_cases q : k = i
  · subst q
    rw [List.getElem?_set] at y
    split at y
    · split at y
      · cases y
      · cases y
    · rename_i n; exact n rfl
  · rw [List.getElem?_set_ne (Ne.symm q)] at y z
    exact no k c' y z
/-- a, b = e1, e2 by the stores swapped -/
def sPar2 (i j : Nat) (m1 m2 : EM Ret) : SM := fun E dE env C => m1 E env C fun r1 env1 C1 => m2 E env1 C1 fun r2 env2 C2 => dE.nx ((env2.set i (slotR r1)).set j (slotR r2)) C2
theorem j_par2 {i j : Nat} {m1 m2 : EM Ret} {E : EX} {nx bk ct : DL.Env → Cs → Prop} {rt : Ret → Cs → Prop} {env : DL.Env} {C : Cs} (q : m1 E env C fun r1 env1 C1 => m2 E env1 C1 fun r2 env2 C2 => nx ((env2.set i (slotR r1)).set j (slotR r2)) C2) : sPar2 i j m1 m2 E ⟨nx, rt, bk, ct⟩ env C := q
theorem i_callR {E : EX} {env : DL.Env} {C : Cs} {Q : Ret → DL.Env → Cs → Prop} {sp : DSp} {dfl : List D} {ms : EM (List D)} (q : ms E env C fun ds env1 C1 => sp (ds ++ dfl) C1 (fun r C2 => Q r env1 C2) fun x C2 => E x env1 C2) : mCallR sp dfl ms E env C Q := q
/-! ### xs.extend(e) -/
def sExt (n : Nat) (me : EM D) : SM := fun E dE env C => (∃ xs, env[n]? = some (.own (.lst xs))) ∧ me E env C fun d env1 C1 => ∃ xs ys, env1[n]? = some (.own (.lst xs)) ∧ dr C1 d = .lst ys ∧ xs.length + ys.length ≤ sizeLine ∧ dE.nx (env1.set n (.own (.lst (xs ++ ys)))) C1
theorem ds_ext {n : Nat} {o : Expr} {me : EM D} {apos cpos : Pos} (ho : PE X o (tVar n)) (he : DE X RPk e me) (hs : swapsWith (.Call (.Attribute o "extend" apos) [e] [] cpos) none pos.line X.env = pure false) (hb : attributeBase o "extend" X.env (eval o X.env) = eval o X.env)
    (hst : starEach [e] X.env = (false, eval e X.env) :: starEach [] X.env)
    (hf : ((backTo cpos (starEach [e] X.env)).all (fun x => !x.1) && (backToKw cpos (keywordEach [] X.env)).all (fun x => x.1.isSome) && decide (([e] : List Expr).length + ([] : List Keyword).length + (if ([] : List Keyword).isEmpty then 0 else 1) < 30)) = true) (hline : (apos.endLine == cpos.line) = true) :
    DS X (.Expr (.Call (.Attribute o "extend" apos) [e] [] cpos) pos) (sExt n me) := fun Z E hE => ⟨fun pins s σ H D I ⟨Hs, env, C, dE, sr, ok, ⟨xs, e0⟩, q⟩ => by
  refine (ps_expr (pe_bm PySem.F.plainAttrs_list PySem.F.slot_list_extend PySem.F.type_list_extend mt_extend ho (pa_cons (he Z E hE) pa_nil hst) hb hf hline hst rfl) hs).run pins s σ H D I ?_
  obtain ⟨p0, o0, x0, h0, ⟨vs0, rfl, r0⟩, _⟩ := sr.slt.own n _ e0
  refine ⟨_, x0, .inl ⟨rfl, _, SqL.of h0⟩, Hs, env, C, _, sr, q, fun d env1 C1 v Hs1 H1 q1 t1 s1 r1 => ?_⟩
  obtain ⟨ys, zs, f1, f2, hl, q1⟩ := q1
  obtain ⟨p1, o1, x1, h1, ⟨vs1, rfl, r2⟩, _⟩ := s1.slt.own n _ f1
  rw [x0] at x1
  cases x1
  have nn := r1.now s1.fit
  rw [f2] at nn
  cases nn with
  | lst h2 r3 => exact ⟨_, _, _, _, rfl, rfl, h1, h2, by rw [← r2.length, ← r3.length]; exact hl, ok.1 _ _ _ _ _ (s1.wrO f1 x0 (c' := .lst (ys ++ zs)) ⟨_, rfl, r2.append r3⟩) q1⟩⟩
def Ext (n : Nat) (nx : DL.Env → Cs → Prop) (d : D) (env1 : DL.Env) (C1 : Cs) : Prop := ∃ xs ys, env1[n]? = some (.own (.lst xs)) ∧ dr C1 d = .lst ys ∧ xs.length + ys.length ≤ sizeLine ∧ nx (env1.set n (.own (.lst (xs ++ ys)))) C1
theorem j_ext {n : Nat} {xs : List D} {me : EM D} {E : EX} {nx bk ct : DL.Env → Cs → Prop} {rt : Ret → Cs → Prop} {env : DL.Env} {C : Cs} (h : env[n]? = some (.own (.lst xs))) (q : me E env C fun d env1 C1 => Ext n nx d env1 C1) : sExt n me E ⟨nx, rt, bk, ct⟩ env C := ⟨⟨xs, h⟩, q⟩
theorem a_ext {n : Nat} {xs ys : List D} {nx : DL.Env → Cs → Prop} {env : DL.Env} {C : Cs} (h : env[n]? = some (.own (.lst xs))) (hl : xs.length + ys.length ≤ sizeLine) (q : nx (env.set n (.own (.lst (xs ++ ys)))) C) : Ext n nx (.lst ys) env C := ⟨xs, ys, h, rfl, hl, q⟩
/-! ### o.f += e -/
def sAugF (C : Addr) (f : Str) (g : Int → Int → Int) (mo me : EM D) : SM := fun E dE env C0 => mo E env C0 fun o env1 C1 => ∃ a fs i, o = .cell a ∧ C1 a = some (.obj C fs) ∧ fs.lookup f = some (.int i) ∧ me E env1 C1 fun d env2 C2 => ∃ j, dr C2 d = .int j ∧ StF C f (.cell a) (.int (g i j)) dE.nx env2 C2
theorem j_augF {C : Addr} {f : Str} {g : Int → Int → Int} {mo me : EM D} {E : EX} {nx bk ct : DL.Env → Cs → Prop} {rt : Ret → Cs → Prop} {env : DL.Env} {C0 : Cs} (q : mo E env C0 fun o env1 C1 => ∃ a fs i, o = .cell a ∧ C1 a = some (.obj C fs) ∧ fs.lookup f = some (.int i) ∧ me E env1 C1 fun d env2 C2 => ∃ j, dr C2 d = .int j ∧ StF C f (.cell a) (.int (g i j)) nx env2 C2) : sAugF C f g mo me E ⟨nx, rt, bk, ct⟩ env C0 := q
/-! ### str(text) -/
def gStr (ds : List D) (P : D → Prop) : Prop := match ds with
  | [.str s] => P (.str s)
  | _ => False
theorem g_str {C : Cs} {s : Txt} {P : D → Prop} (q : P (.str s)) : gStr ([D.str s].map (dr C)) P := q
end
end L2.DL
/-! SC: x in d.values(), as a test. -/
namespace L2.DL
open PySem PySem.Spec PyProof.Rows
end L2.DL
/-! SA: generators with a loop and tests in their body. -/
namespace L2.DL
open PySem PySem.Spec PyProof.Rows GenW L2
end L2.DL
/-! SB: generators over trees; list(g(..)). -/
namespace L2.DL
open PySem PySem.Spec PyProof.Rows GenW L2
/-- what is wanted behind a statement of a generator; the list: the trees handed out so far -/
structure GDE where
  nx : List D → DL.Env → Cs → Prop
  bk : List D → DL.Env → Cs → Prop := fun _ _ _ => False
  ct : List D → DL.Env → Cs → Prop := fun _ _ _ => False
def GEndsOk (K : PySem.W.Frag) (Z : Z0) (dE : GDE) (D : GEnds) : Prop :=
  (∀ ds ys σ Hs H env C, SR K Z σ Hs H env C → RepL K Hs ds ys → dE.nx ds env C → D.nx ys σ H) ∧
  (∀ ds ys σ Hs H env C, SR K Z σ Hs H env C → RepL K Hs ds ys → dE.bk ds env C → D.bk ys σ H) ∧
  (∀ ds ys σ Hs H env C, SR K Z σ Hs H env C → RepL K Hs ds ys → dE.ct ds env C → D.ct ys σ H)
theorem GEndsOk.up {K : PySem.W.Frag} {Z Z' : Z0} {dE : GDE} {D : GEnds} (u : Up Z Z') (h : GEndsOk K Z dE D) : GEndsOk K Z' dE D :=
  ⟨fun ds ys σ Hs H env C r => h.1 ds ys σ Hs H env C (r.up u), fun ds ys σ Hs H env C r => h.2.1 ds ys σ Hs H env C (r.up u), fun ds ys σ Hs H env C r => h.2.2 ds ys σ Hs H env C (r.up u)⟩
/-! ### the promise of a generator def -/
/-! ### list(g(..)) -/
end L2.DL
/-! SD: sorted(d) of keys that are texts or ints; min(list of ints). -/
namespace L2.DL
open PySem PySem.Spec PyProof.Rows
end L2.DL
/-! SE: a generator's meaning by steps. -/
namespace L2.DL
open PySem PySem.Spec PyProof.Rows
end L2.DL
/-! GD: a def that calls itself. -/
namespace L2.DL
open PySem PySem.Spec PyProof.Rows
/-- the promise of nothing -/
def spNo : DSp := fun _ _ _ _ => False
def spPrev (f : Nat → DSp) : Nat → DSp
  | 0 => spNo
  | n + 1 => f n
section
variable {P : Program} {w : World} {K : PySem.W.Frag} {mg : Str → Option Value} {base : Heap} {k : Nat} {f : Addr} {fd : FuncData} {ps : List Str}
theorem dfn_no : DFn P w K mg base k f fd ps spNo :=
  ⟨fun vs H Q E ⟨_, _, _, _, _, _, _, q, _⟩ => q.elim, fun _ _ _ _ _ _ _ _ _ _ _ _ _ _ ⟨_, _, _, _, _, _, _, q, _⟩ => q.elim⟩
end
/-! ### list(x) of a list or a tuple, within an except suite too -/
def gListN (ds : List D) (P : Cont → Prop) : Prop := match ds with
  | [.lst xs] => P (.lst xs)
  | [.tup xs] => P (.lst xs)
  | _ => False
section
variable {X : Cx}
theorem g_listNL {C : Cs} {xs : List D} {P : Cont → Prop} (q : P (.lst xs)) : gListN ([D.lst xs].map (dr C)) P := q
theorem g_listNT {C : Cs} {xs : List D} {P : Cont → Prop} (q : P (.lst xs)) : gListN ([D.tup xs].map (dr C)) P := q
/-! ### o.m(*e) -/
structure MeSV (X : Cx) (C : Addr) (m : Str) (spv : DSpV) : Prop where
  ex : ∃ k g, DCal X.prog X.w X.K X.mg X.base k (.ref g) [] spv ∧ Room k X.A ∧ Cls X.K C ∧ BMeth X.K C m g
end
section
variable (P : Program) (w : World) (K : PySem.W.Frag) (mg : Str → Option Value) (base : Heap) (k : Nat)
structure QMs (C : Addr) (m : Str) (spv : DSpV) : Prop where
  ex : ∃ g, DCal P w K mg base k (.ref g) [] spv ∧ Cls K C ∧ BMeth K C m g
end
theorem QMs.to {X : Cx} {j k : Nat} {C : Addr} {m : Str} {spv : DSpV} (c : QMs X.prog X.w X.K X.mg X.base k C m spv) (hr : Room j X.A) (h : k ≤ j) : MeSV X C m spv := let ⟨g, d, a, b⟩ := c.ex; ⟨k, g, d, hr.mono h, a, b⟩
/-! ### a, b, c = e1, e2, e3 by the stores swapped -/
def sPar3 (i j l : Nat) (ms : EM (List D)) : SM := fun E dE env C => ms E env C fun ds env1 C1 => match ds with
  | [d, e, f] => dE.nx (((env1.set i (.shr d)).set j (.shr e)).set l (.shr f)) C1
  | _ => False
def Par3 (ds : List D) (R : D → D → D → Prop) : Prop := match ds with
  | [d, e, f] => R d e f
  | _ => False
theorem p_par3 {d e f : D} {R : D → D → D → Prop} (q : R d e f) : Par3 [d, e, f] R := q
theorem j_par3 {i j l : Nat} {ms : EM (List D)} {E : EX} {nx bk ct : DL.Env → Cs → Prop} {rt : Ret → Cs → Prop} {env : DL.Env} {C : Cs} (q : ms E env C fun ds env1 C1 => Par3 ds fun d e f => nx (((env1.set i (.shr d)).set j (.shr e)).set l (.shr f)) C1) : sPar3 i j l ms E ⟨nx, rt, bk, ct⟩ env C := q
end L2.DL
/-! MH: which of two lists of ints comes first. -/
namespace L2.DL
open PySem PySem.Spec PyProof.Rows
end L2.DL
/-! MI: rows of codings put in order, names that keep their codes. -/
namespace L2.DL
open PySem PySem.Spec PyProof.Rows L2.AS
theorem chs_len {S : List Cl} {M : List Txt} (h : M.length = S.length) : (chs S M).length = S.length := by unfold chs; rw [List.length_zipWith, h]; omega
theorem row_inj {S : List Cl} (hh : ∀ c ∈ S, c.held.length ≤ 2) {M M' : List Txt} (h : Cod S M) (h' : Cod S M') (e2 : rowL S M = rowL S M') : M = M' := by
  unfold rowL at e2
  have e3 : nms S M = nms S M' := (List.append_inj (List.cons.inj e2).2 (by rw [chs_len h.len, chs_len h'.len])).2
  refine List.ext_getElem (by rw [h.len, h'.len]) fun p h1 h2 => ?_
  have hp : p < S.length := by rw [h.len] at h1; exact h1
  have o1 := h.opt p _ (List.getElem?_eq_getElem h1)
  have o2 := h'.opt p _ (List.getElem?_eq_getElem h2)
  rw [opS_some (List.getElem?_eq_getElem hp)] at o1 o2
  obtain ⟨j, hj⟩ := numCl_some o1
  obtain ⟨k, hk⟩ := numCl_some o2
  have e4 : (nms S M)[p]? = (nms S M')[p]? := by rw [e3]
  unfold nms at e4
  rw [List.getElem?_zipWith, List.getElem?_zipWith, List.getElem?_eq_getElem hp, List.getElem?_eq_getElem h1, List.getElem?_eq_getElem h2] at e4
  have e5 : nmb S[p] M[p] = nmb S[p] M'[p] := Option.some.inj e4
  unfold nmb at e5
  rw [hj, hk] at e5
  have e6 : j = k := by simp at e5; omega
  subst e6
  exact numCl_inj (hh _ (List.getElem_mem hp)) hj hk
/-! ### names that keep their codes -/
def keptT (S : List Cl) (M : List Txt) : List Txt := ((S.zip M).filter fun x => decide (x.2 ∈ x.1.held)).map (·.1.nm)
theorem kept_len : ∀ (S : List Cl) (M : List Txt), M.length = S.length → (((keptT S M).length : Nat) : Int) + (chs S M).sum = ((S.filter fun c => !c.held.isEmpty).length : Nat)
  | [], [], _ => rfl
  | [], _ :: _, h => by simp at h
  | _ :: _, [], h => by simp at h
  | c :: S, t :: M, h => by
    have ih := kept_len S M (by simpa using h)
    have e1 : keptT (c :: S) (t :: M) = if t ∈ c.held then c.nm :: keptT S M else keptT S M := by
      unfold keptT
      rw [List.zip_cons_cons, List.filter_cons]
      by_cases e : t ∈ c.held <;> simp [e]
    have e2 : (chs (c :: S) (t :: M)).sum = chgI c t + (chs S M).sum := by unfold chs; rw [List.zipWith_cons_cons, List.sum_cons]
    rw [e1, e2, List.filter_cons]
    unfold chgI chg
    by_cases e : t ∈ c.held
    · have hne : c.held.isEmpty = false := by cases hh : c.held with
        | nil => rw [hh] at e; cases e
        | cons _ _ => rfl
      simp only [e, hne, if_pos]
      simp
      omega
    · cases hh : c.held.isEmpty
      · simp [e]
        omega
      · simp [e]
        omega
/-! ### two codings told apart -/
/-! ### comprehensions over a list -/
end L2.DL
/-! MJ: two tuples of texts joined, the new one's object told. -/
namespace L2.DL
open PySem PySem.Spec PyProof.Rows
end L2.DL
/-! MK: a best coding where options are fewer, or more. -/
namespace L2.DL
open PySem PySem.Spec PyProof.Rows L2.AS
theorem ix_app {t : Txt} : ∀ {l : List Txt} (x : List Txt), t ∈ l → fstIx t (l ++ x) = fstIx t l
  | [], _, h => by cases h
  | a :: l, x, h => by
    show (if a = t then some 0 else (fstIx t (l ++ x)).map (· + 1)) = (if a = t then some 0 else (fstIx t l).map (· + 1))
    by_cases e : a = t
    · rw [if_pos e, if_pos e]
    · rw [if_neg e, if_neg e, ix_app x (by rcases List.mem_cons.mp h with h | h; exact absurd h.symm e; exact h)]
theorem num_mo {c m : Cl} {x : List Txt} (hh : m.held = c.held) (ho : m.opts = c.opts ++ x) {t : Txt} (ht : t ∈ c.opts) : nmb m t = nmb c t := by
  unfold nmb numCl
  rw [hh, ho, ix_app x ht]
theorem chs_eq : ∀ (S F : List Cl) (M : List Txt), F.map (·.held) = S.map (·.held) → chs F M = chs S M
  | [], [], _, _ => rfl
  | [], _ :: _, _, h => by simp at h
  | _ :: _, [], _, h => by simp at h
  | _ :: _, _ :: _, [], _ => rfl
  | c :: S, f :: F, t :: M, h => by
    obtain ⟨h1, h2⟩ := List.cons.inj h
    show chgI f t :: chs F M = chgI c t :: chs S M
    have e : f.held = c.held := h1
    rw [chs_eq S F M h2]
    unfold chgI chg
    rw [e]
theorem nms_eq : ∀ (S F : List Cl) (M : List Txt), F.length = S.length → (∀ (p : Nat) (c f : Cl) (t : Txt), S[p]? = some c → F[p]? = some f → M[p]? = some t → nmb f t = nmb c t) → nms F M = nms S M
  | [], [], _, _, _ => rfl
  | [], _ :: _, _, h, _ => by simp at h
  | _ :: _, [], _, h, _ => by simp at h
  | _ :: _, _ :: _, [], _, _ => rfl
  | c :: S, f :: F, t :: M, h, hn => by
    show nmb f t :: nms F M = nmb c t :: nms S M
    rw [nms_eq S F M (by simpa using h) fun p c' f' t' a b d => hn (p + 1) c' f' t' a b d, hn 0 c f t rfl rfl rfl]
/-- more options, behind the others -/
structure MoS (S G : List Cl) : Prop where
  len : G.length = S.length
  nm : G.map (·.nm) = S.map (·.nm)
  held : G.map (·.held) = S.map (·.held)
  at_ : ∀ (p : Nat) (c g : Cl), S[p]? = some c → G[p]? = some g → ∃ x, g.opts = c.opts ++ x
theorem held_at {S F : List Cl} (h : F.map (·.held) = S.map (·.held)) {p : Nat} {c f : Cl} (hc : S[p]? = some c) (hf : F[p]? = some f) : f.held = c.held := by
  have := congrArg (fun l => l[p]?) h
  simp only [List.getElem?_map, hc, hf, Option.map_some] at this
  exact Option.some.inj this
theorem get_of_len {α β : Type} {a : List α} {b : List β} (h : a.length = b.length) {p : Nat} {y : β} (hy : b[p]? = some y) : ∃ x, a[p]? = some x := ⟨_, List.getElem?_eq_getElem (by rw [h]; exact (List.getElem?_eq_some_iff.mp hy).1)⟩
theorem MoS.cod {S G : List Cl} {M : List Txt} (mo : MoS S G) (h : Cod S M) : Cod G M := ⟨by rw [h.len, mo.len], fun p t ht => by
    have h1 := h.opt p t ht
    obtain ⟨c, hc⟩ := get_of_len h.len.symm ht
    obtain ⟨g, hg⟩ := get_of_len mo.len hc
    obtain ⟨x, hx⟩ := mo.at_ p c g hc hg
    rw [opS_some hc] at h1
    rw [opS_some hg, hx]
    exact List.mem_append.mpr (.inl h1), h.nd⟩
theorem MoS.row {S G : List Cl} {M : List Txt} (mo : MoS S G) (h : Cod S M) : rowL G M = rowL S M := by
  unfold rowL
  rw [chs_eq S G M mo.held, nms_eq S G M mo.len fun p c g t hc hg ht => ?_]
  obtain ⟨x, hx⟩ := mo.at_ p c g hc hg
  have h1 := h.opt p t ht
  rw [opS_some hc] at h1
  exact num_mo (held_at mo.held hc hg) hx h1
/-- and where it serves without them, it is the one -/
theorem Best.same {S G : List Cl} {M N : List Txt} (hl : ∀ c ∈ S, c.held.length ≤ 2) (h : Best S M) (mo : MoS S G) (h' : Best G N) (hN : Cod S N) : N = M := by
  have b := h'.best M (mo.cod h.cod)
  rw [Vc.le_def, rowSum_val h'.cod, rowSum_val (mo.cod h.cod), mo.row h.cod, mo.row hN] at b
  have a := h.best N hN
  rw [Vc.le_def, rowSum_val h.cod, rowSum_val hN] at a
  have e := Vc.anti (rowL S M) (rowL S N)
  exact row_inj hl hN h.cod (sgn_zero.mp (by omega))
end L2.DL
/-! NA: spellings; what a register holds; its changes. -/
namespace L2.DL
open PySem PySem.Spec PyProof.Rows L2.AS
/-! ### lists of places, spellings -/
def frst (ps : List Nat) : Nat := match ps.getLast? with
  | some l => l + 1
  | none => 0
def plsF (size : Nat) (ps : List Nat) : List (List Nat) := (List.range' (frst ps) (size - frst ps)).map fun p => ps ++ [p]
def pls (size : Nat) : Nat → List (List Nat)
  | 0 => [[]]
  | n + 1 => (pls size n).flatMap (plsF size)
theorem pls_mem {size : Nat} : ∀ {n : Nat} {ps : List Nat}, ps ∈ pls size n → ps.length = n ∧ ∀ p ∈ ps, p < size
  | 0, ps, h => by
    unfold pls at h
    rw [List.mem_singleton] at h
    subst h
    exact ⟨rfl, fun p hp => by cases hp⟩
  | n + 1, ps, h => by
    unfold pls at h
    obtain ⟨qs, hq, h⟩ := List.mem_flatMap.mp h
    obtain ⟨p, hp, rfl⟩ := List.mem_map.mp h
    obtain ⟨i1, i2⟩ := pls_mem hq
    refine ⟨by simp [i1], fun x hx => ?_⟩
    rcases List.mem_append.mp hx with hx | hx
    · exact i2 x hx
    · rw [List.mem_singleton.mp hx]
      have := (List.mem_range'_1.mp hp)
      omega
theorem pls_all : ((List.range 13).all fun s => (List.range 4).all fun n => decide ((pls s n).length ≤ 220)) = true := by decide +kernel
theorem pls_len {s n : Nat} (hs : s ≤ 12) (hn : n ≤ 3) : (pls s n).length ≤ 220 := by
  have h := pls_all
  rw [List.all_eq_true] at h
  have h := h s (List.mem_range.mpr (by omega))
  rw [List.all_eq_true] at h
  exact of_decide_eq_true (h n (List.mem_range.mpr (by omega)))
def cdAt (name : Txt) (ps : List Nat) : Txt := ps.map fun p => name.getD p 0
def spellS (name : Txt) (n : Nat) : List Txt := uniT ((pls name.length n).map (cdAt name))
theorem spellS_len {name : Txt} {n : Nat} (hs : name.length ≤ 12) (hn : n ≤ 3) : (spellS name n).length ≤ 220 := by
  have h1 := uniT_len ((pls name.length n).map (cdAt name))
  have h2 := pls_len hs hn
  rw [List.length_map] at h1
  unfold spellS; omega
theorem spellS_mem {name t : Txt} {n : Nat} (h : t ∈ spellS name n) : t.length = n ∧ ∀ c ∈ t, c ∈ name := by
  obtain ⟨ps, hp, rfl⟩ := List.mem_map.mp (mem_uniT.mp h)
  obtain ⟨h1, h2⟩ := pls_mem hp
  refine ⟨by simp [cdAt, h1], fun c hc => ?_⟩
  obtain ⟨p, hp, rfl⟩ := List.mem_map.mp hc
  have := h2 p hp
  simp [List.getD_eq_getElem?_getD, this]
/-! ### rows, states, registers -/
structure Row where
  b : Nat
  nm : Txt
  cd : Option Txt
structure RSt where
  tk : Nat
  nx : Nat
  bar : List Txt
  rows : List Row
  slp : Tb Txt (Txt × Nat)
structure Reg where
  span : Nat
  pause : Nat
  sts : List RSt
  spot : Nat
abbrev rowD (r : Row) : D := .tup [.int r.b, .str r.nm, optD r.cd]
abbrev slD (x : Txt × Nat) : D := .tup [.str x.1, .int x.2]
abbrev stD (cS : Addr) (s : RSt) : D := .obj cS [("ticks", .int s.tk), ("following", .int s.nx), ("barred", .lst (txs s.bar)), ("rows", .lst (s.rows.map rowD)), ("asleep", .dct (tD slD s.slp))]
abbrev regC (cR cS : Addr) (r : Reg) : Cell := .obj cR [("span", .int r.span), ("pause", .int r.pause), ("states", .lst (r.sts.map (stD cS))), ("spot", .int r.spot)]
def slpOk (slp : Tb Txt (Txt × Nat)) (nm o : Txt) : Bool := match lk o slp with
  | some x => decide (x.1 = nm)
  | none => true
def optsR (span : Nat) (bar : List Txt) (slp : Tb Txt (Txt × Nat)) (nm : Txt) : List Txt := (spellS nm span).filter fun o => !decide (o ∈ bar) && slpOk slp nm o
def claimR (span : Nat) (bar : List Txt) (slp : Tb Txt (Txt × Nat)) (r : Row) : Cl := ⟨r.nm, r.cd.toList, optsR span bar slp r.nm⟩
abbrev sitR (span : Nat) (bar : List Txt) (slp : Tb Txt (Txt × Nat)) (rows : List Row) : List Cl := rows.map (claimR span bar slp)
/-- a code of a length -/
def cdOk (n : Nat) (c : Txt) : Prop := c.length = n ∧ ∀ x ∈ c, 97 ≤ x ∧ x ≤ 122
/-! ### what holds of rows and states -/
structure RwOk (nx : Nat) (rows : List Row) : Prop where
  len : rows.length ≤ 44
  nd : (rows.map (·.nm)).Nodup
  bn : (rows.map (·.b)).Nodup
  lt : ∀ r ∈ rows, r.b < nx
  nm : ∀ r ∈ rows, nameOk r.nm
structure StOk (n span : Nat) (s : RSt) : Prop where
  rws : RwOk s.nx s.rows
  cd : ∀ r ∈ s.rows, ∃ c, r.cd = some c ∧ cdOk span c
  bar : ∀ c ∈ s.bar, cdOk span c
  barL : s.bar.length ≤ 8 * n + 8
  slpN : (ks s.slp).Nodup
  slpK : ∀ e ∈ s.slp, cdOk span e.1 ∧ nameOk e.2.1
  slpL : s.slp.length ≤ 44 * n + 44
structure ROk (n : Nat) (r : Reg) : Prop where
  n1 : n ≤ 100
  s1 : 1 ≤ r.span
  s3 : r.span ≤ 3
  p : r.pause ≤ 20
  spot : r.spot < r.sts.length
  len : r.sts.length ≤ n + 1
  st : ∀ s ∈ r.sts, StOk n r.span s
theorem StOk.mono {n m span : Nat} {s : RSt} (h : StOk n span s) (l : n ≤ m) : StOk m span s := ⟨h.rws, h.cd, h.bar, Nat.le_trans h.barL (by omega), h.slpN, h.slpK, Nat.le_trans h.slpL (by omega)⟩
theorem held_sitR {span : Nat} {bar : List Txt} {slp : Tb Txt (Txt × Nat)} {rows : List Row} : ∀ c ∈ sitR span bar slp rows, c.held.length ≤ 2 := fun c hc => by
  obtain ⟨r, hr, rfl⟩ := List.mem_map.mp hc
  show r.cd.toList.length ≤ 2
  cases r.cd <;> simp
/-! ### a change -/
def setCd (rows : List Row) (M : List Txt) : List Row := List.zipWith (fun r t => { r with cd := some t }) rows M
def restF (pause t1 : Nat) (M : List Txt) (slp : Tb Txt (Txt × Nat)) (r : Row) : Tb Txt (Txt × Nat) := match r.cd with
  | some c => if c ∉ M ∧ 0 < pause then pt slp c (r.nm, t1 + pause) else slp
  | none => slp
def restIn (pause t1 : Nat) (M : List Txt) (slp : Tb Txt (Txt × Nat)) (rows : List Row) : Tb Txt (Txt × Nat) := rows.foldl (restF pause t1 M) slp
def slpCut (t1 : Nat) (M : List Txt) (slp : Tb Txt (Txt × Nat)) : Tb Txt (Txt × Nat) := slp.filter fun e => decide (t1 < e.2.2) && !decide (e.1 ∈ M)
def chgR (pause : Nat) (s : RSt) (nx : Nat) (bar : List Txt) (rows : List Row) (M : List Txt) : RSt := ⟨s.tk + 1, nx, bar, setCd rows M, restIn pause (s.tk + 1) M (slpCut (s.tk + 1) M s.slp) s.rows⟩
def Reg.push (r : Reg) (s : RSt) : Reg := { r with sts := r.sts.take (r.spot + 1) ++ [s], spot := r.spot + 1 }
def oldOf (rows : List Row) (b : Nat) : Option Txt := (rows.find? fun r => decide (r.b = b)).bind (·.cd)
def toldR (o n : List Row) : List Row := n.filter fun r => !decide (oldOf o r.b = r.cd)
abbrev tolD (o : List Row) (r : Row) : D := .tup [.str r.nm, optD (oldOf o r.b), optD r.cd]
abbrev toldD (o n : List Row) : D := .lst ((toldR o n).map (tolD o))
abbrev toldC (o n : List Row) : Cont := .lst ((toldR o n).map (tolD o))
/-- handed over as a new list -/
def frsD (x : D) (PR : Ret → Cs → Prop) (C : Cs) : Prop := ∀ xs, x = .lst xs → PR (.frs (.lst xs)) C
theorem setCd_mem {rows : List Row} {M : List Txt} {x : Row} (h : x ∈ setCd rows M) : ∃ (i : Nat) (r : Row) (t : Txt), rows[i]? = some r ∧ M[i]? = some t ∧ x = { r with cd := some t } := by
  obtain ⟨i, hi⟩ := List.mem_iff_getElem?.mp h
  unfold setCd at hi
  rw [List.getElem?_zipWith] at hi
  cases h1 : rows[i]? with
  | none => rw [h1] at hi; cases hi
  | some r =>
    cases h2 : M[i]? with
    | none => rw [h1, h2] at hi; cases hi
    | some t => rw [h1, h2] at hi; exact ⟨i, r, t, h1, h2, (Option.some.inj hi).symm⟩
theorem setCd_len {rows : List Row} {M : List Txt} (h : M.length = rows.length) : (setCd rows M).length = rows.length := by
  unfold setCd; rw [List.length_zipWith, h]; simp
theorem pt_len {κ α : Type} [DecidableEq κ] {l : Tb κ α} {c : κ} {x : α} : (pt l c x).length ≤ l.length + 1 := by
  unfold pt
  split <;> simp
theorem pt_mem {κ α : Type} [DecidableEq κ] {l : Tb κ α} {c : κ} {x : α} {e : κ × α} (h : e ∈ pt l c x) : e ∈ l ∨ e = (c, x) := by
  unfold pt at h
  split at h
  · obtain ⟨y, hy, rfl⟩ := List.mem_map.mp h
    split
    · rename_i q; right; rw [q]
    · exact .inl hy
  · rcases List.mem_append.mp h with h | h
    · exact .inl h
    · exact .inr (List.mem_singleton.mp h)
theorem restF_mem {pause t1 : Nat} {M : List Txt} {slp : Tb Txt (Txt × Nat)} {r : Row} {e : Txt × (Txt × Nat)} (h : e ∈ restF pause t1 M slp r) : e ∈ slp ∨ ∃ c, r.cd = some c ∧ e = (c, (r.nm, t1 + pause)) := by
  unfold restF at h
  split at h
  · rename_i c hc
    split at h
    · rcases pt_mem h with h | h
      · exact .inl h
      · exact .inr ⟨c, hc, h⟩
    · exact .inl h
  · exact .inl h
theorem ROk.push {n : Nat} {r : Reg} {s : RSt} (h : ROk n r) (hn : n + 1 ≤ 100) (hs : StOk (n + 1) r.span s) : ROk (n + 1) (r.push s) where
  n1 := hn
  s1 := h.s1
  s3 := h.s3
  p := h.p
  spot := by have := h.spot; show r.spot + 1 < (r.sts.take (r.spot + 1) ++ [s]).length; rw [List.length_append, List.length_take]; simp; omega
  len := by have := h.len; have := h.spot; show (r.sts.take (r.spot + 1) ++ [s]).length ≤ _; rw [List.length_append, List.length_take]; simp; omega
  st := fun x hx => by
    rcases List.mem_append.mp hx with hx | hx
    · exact (h.st x (List.mem_of_mem_take hx)).mono (by omega)
    · rw [List.mem_singleton.mp hx]; exact hs
theorem ROk.mono {n m : Nat} {r : Reg} (h : ROk n r) (l : n ≤ m) (hm : m ≤ 100) : ROk m r := { h with n1 := hm, len := Nat.le_trans h.len (by omega), st := fun s hs => (h.st s hs).mono l }
/-- another of its states -/
theorem ROk.go {n k : Nat} {r : Reg} (h : ROk n r) (hk : k < r.sts.length) : ROk n { r with spot := k } := { h with spot := hk }
/-! ### pure comprehensions -/
theorem compL_of {α : Type} {vs : List Nat} {g : GM} {mc : EM Bool} {me : EM D} {QQ : Cont → Cs → Prop} {env : DL.Env} {C : Cs} (l : List α) (enc : α → D) (f : α → Option D) (hl : l.length ≤ sizeLine)
    (step : ∀ a ∈ l, ∀ (acc : List D) (nxt : List D → Cs → Prop), acc.length < sizeLine → nxt (acc ++ (f a).toList) C → g (enc a) (fun env1 C1 => wipeE env1 vs = env ∧ mc E0 env1 C1 fun b env2 C2 => env2 = env1 ∧ if b = true then me E0 env1 C2 fun y env3 C3 => env3 = env1 ∧ acc.length < sizeLine ∧ nxt (acc ++ [y]) C3 else nxt acc C2) env C)
    (fin : QQ (.lst (l.filterMap f)) C) : compL vs g mc me QQ (l.map enc) [] env C := by
  refine compL_inv (fun k acc C' => C' = C ∧ acc = (l.take k).filterMap f) ⟨rfl, by simp⟩ ?_ ?_
  · rintro k d acc C' nxt hd ⟨rfl, rfl⟩ hx
    rw [List.getElem?_map] at hd
    obtain ⟨a, ha, rfl⟩ := Option.map_eq_some_iff.mp hd
    have hk := (List.getElem?_eq_some_iff.mp ha).1
    have hlen : ((l.take k).filterMap f).length < sizeLine := by
      have := List.length_filterMap_le f (l.take k)
      rw [List.length_take] at this; omega
    refine step a (List.mem_of_getElem? ha) _ nxt hlen (hx _ _ ⟨rfl, ?_⟩)
    rw [List.take_add_one, ha, List.filterMap_append]
    simp only [Option.toList_some, List.filterMap_cons, List.filterMap_nil]
    cases f a <;> rfl
  · rintro acc C' ⟨rfl, rfl⟩
    rw [List.length_map, List.take_length]
    exact fin
/-- the same, all kept -/
theorem compL_map {α : Type} {vs : List Nat} {g : GM} {mc : EM Bool} {me : EM D} {QQ : Cont → Cs → Prop} {env : DL.Env} {C : Cs} (l : List α) (enc : α → D) (f : α → D) (hl : l.length ≤ sizeLine)
    (step : ∀ a ∈ l, ∀ (acc : List D) (nxt : List D → Cs → Prop), acc.length < sizeLine → nxt (acc ++ [f a]) C → g (enc a) (fun env1 C1 => wipeE env1 vs = env ∧ mc E0 env1 C1 fun b env2 C2 => env2 = env1 ∧ if b = true then me E0 env1 C2 fun y env3 C3 => env3 = env1 ∧ acc.length < sizeLine ∧ nxt (acc ++ [y]) C3 else nxt acc C2) env C)
    (fin : QQ (.lst (l.map f)) C) : compL vs g mc me QQ (l.map enc) [] env C :=
  compL_of l enc (fun a => some (f a)) hl (fun a ha acc nxt h1 h2 => step a ha acc nxt h1 h2) (by rw [show (fun a => some (f a)) = some ∘ f from rfl, List.filterMap_eq_map]; exact fin)
/-- the same, some kept -/
theorem compL_flt {α : Type} {vs : List Nat} {g : GM} {mc : EM Bool} {me : EM D} {QQ : Cont → Cs → Prop} {env : DL.Env} {C : Cs} (l : List α) (enc f : α → D) (keep : α → Bool) (hl : l.length ≤ sizeLine)
    (step : ∀ a ∈ l, ∀ (acc : List D) (nxt : List D → Cs → Prop), acc.length < sizeLine → (keep a = true → nxt (acc ++ [f a]) C) → (keep a = false → nxt acc C) → g (enc a) (fun env1 C1 => wipeE env1 vs = env ∧ mc E0 env1 C1 fun b env2 C2 => env2 = env1 ∧ if b = true then me E0 env1 C2 fun y env3 C3 => env3 = env1 ∧ acc.length < sizeLine ∧ nxt (acc ++ [y]) C3 else nxt acc C2) env C)
    (fin : QQ (.lst ((l.filter keep).map f)) C) : compL vs g mc me QQ (l.map enc) [] env C :=
  compL_of l enc (fun a => if keep a = true then some (f a) else none) hl (fun a ha acc nxt h1 h2 => step a ha acc nxt h1 (fun h => by rw [if_pos h] at h2; exact h2) (fun h => by rw [h, if_neg (by decide)] at h2; simpa using h2))
    (by
      have : ∀ l : List α, l.filterMap (fun a => if keep a = true then some (f a) else none) = (l.filter keep).map f := by
        intro l
        induction l with
        | nil => rfl
        | cons a l ih =>
          rw [List.filterMap_cons, List.filter_cons]
          split
          · rename_i h
            split at h
            · cases h
            · rename_i n; rw [if_neg n, ih]
          · rename_i b h
            split at h
            · rename_i y; cases h; rw [if_pos y, List.map_cons, ih]
            · cases h
      rw [this]; exact fin)
end L2.DL
/-! NB: pure comprehensions of tables; words at hand for registers. -/
namespace L2.DL
open PySem PySem.Spec PyProof.Rows L2.AS
/-! ### tables of rows -/
abbrev nmKV (rows : List Row) : List (DK × D) := rows.map fun r => (.inr r.nm, optD r.cd)
abbrev bKV (rows : List Row) : List (DK × D) := rows.map fun r => (.inl (r.b : Int), optD r.cd)
theorem name_in {t : Txt} (h : nameOk t) : okIn (.str t) := by
  refine ⟨⟨_, rfl⟩, fun s e => ?_, fun s e => ?_⟩
  · cases e; have := h.2.1; omega
  · cases e; intro c hc; have := h.2.2 c hc; omega
theorem cd_in {n : Nat} (hn : n ≤ 3) {t : Txt} (h : cdOk n t) : okIn (.str t) := by
  refine ⟨⟨_, rfl⟩, fun s e => ?_, fun s e => ?_⟩
  · cases e; have := h.1; omega
  · cases e; intro c hc; have := h.2 c hc; omega
theorem name_word {t : Txt} (h : nameOk t) : isWord (.str t) 1 12 = true := by
  show (decide ((1 : Int) ≤ (t.length : Int)) && (decide ((t.length : Int) ≤ 12) && t.all fun c => decide (97 ≤ c) && decide (c ≤ 122))) = true
  rw [decide_eq_true (by have := h.1; omega), decide_eq_true (by have := h.2.1; omega)]
  simp only [Bool.true_and, List.all_eq_true]
  intro c hc
  have := h.2.2 c hc
  simp [this]
theorem cd_word {n : Nat} {t : Txt} (h : cdOk n t) : isWord (.str t) n n = true := by
  show (decide ((n : Int) ≤ (t.length : Int)) && (decide ((t.length : Int) ≤ (n : Int)) && t.all fun c => decide (97 ≤ c) && decide (c ≤ 122))) = true
  rw [decide_eq_true (by rw [h.1]; omega), decide_eq_true (by rw [h.1]; omega)]
  simp only [Bool.true_and, List.all_eq_true]
  intro c hc
  have := h.2 c hc
  simp [this]
/-! ### lists of places -/
abbrev natsD (ps : List Nat) : D := .lst (ps.map natD)
theorem intsFrom_natD : ∀ (n a : Nat), intsFrom (a : Int) n = (List.range' a n).map natD
  | 0, a => rfl
  | n + 1, a => by
    have ih := intsFrom_natD n (a + 1)
    rw [List.range'_succ, List.map_cons, ← ih]
    show D.int a :: intsFrom ((a : Int) + 1) n = _
    congr 1
theorem cells_join (name : Txt) (ps : List Nat) : (ps.map fun p => D.str [name.getD p 0]) = (cdAt name ps).map fun c => D.str [c] := by
  unfold cdAt; rw [List.map_map]; rfl
theorem dfn_ex {P : Program} {w : World} {K : PySem.W.Frag} {mg : Str → Option Value} {base : Heap} {k B : Nat} {f : Addr} {fd : FuncData} {ps : List Str} {sp : Nat → DSp} (h : ∀ n, n ≤ B → DFn P w K mg base k f fd ps (sp n)) : DFn P w K mg base k f fd ps (fun ds C PR PX => ∃ n, n ≤ B ∧ sp n ds C PR PX) where
  len := fun vs H Q E ⟨Hs, C, ds, PR, PX, a1, a2, ⟨n, hn, a3⟩, a4⟩ => (h n hn).len vs H Q E ⟨Hs, C, ds, PR, PX, a1, a2, a3, a4⟩
  run := fun A fr s H ar us vs Q E gd hr e0 b r ⟨Hs, C, ds, PR, PX, a1, a2, ⟨n, hn, a3⟩, a4⟩ => (h n hn).run A fr s H ar us vs Q E gd hr e0 b r ⟨Hs, C, ds, PR, PX, a1, a2, a3, a4⟩
theorem dfn_mono {P : Program} {w : World} {K : PySem.W.Frag} {mg : Str → Option Value} {base : Heap} {k j : Nat} {f : Addr} {fd : FuncData} {ps : List Str} {sp : DSp} (h : DFn P w K mg base k f fd ps sp) (l : k ≤ j) : DFn P w K mg base j f fd ps sp where
  len := h.len
  run := fun A fr s H ar us vs Q E gd hr => h.run A fr s H ar us vs Q E gd (hr.mono l)
theorem i_dget2 {mo me mx : EM D} {E : EX} {env : DL.Env} {C : Cs} {Q : D → DL.Env → Cs → Prop} (q : mo E env C fun d env1 C1 => (∃ kvs0, dr C1 d = .dct kvs0) ∧ me E env1 C1 fun k env2 C2 => mx E env2 C2 fun x env3 C3 => ∃ kvs key, dr C3 d = .dct kvs ∧ dkOf k = some key ∧ Q ((look key kvs).getD x) env3 C3) : mDGet2 mo me mx E env C Q := q
end L2.DL
/-! NC: what each change makes of the rows and the banned codes. -/
namespace L2.DL
open PySem PySem.Spec PyProof.Rows L2.AS
/-- a register at hand -/
structure RAt (cR cS a : Addr) (r : Reg) (n : Nat) (s : RSt) (C : Cs) : Prop where
  c : C a = some (regC cR cS r)
  ok : ROk n r
  n1 : n + 1 ≤ 100
  s : r.sts[r.spot]? = some s
theorem RAt.st {cR cS a : Addr} {r : Reg} {n : Nat} {s : RSt} {C : Cs} (h : RAt cR cS a r n s C) : StOk n r.span s := h.ok.st s (List.mem_of_getElem? h.s)
def newR : Nat → List Txt → List Row
  | _, [] => []
  | b, t :: r => ⟨b, t, none⟩ :: newR (b + 1) r
abbrev dropR (rows : List Row) (ts : List Txt) : List Row := rows.filter fun r => !decide (r.nm ∈ ts)
def renR (old new : Txt) (r : Row) : Row := if r.nm = old then { r with nm := new } else r
abbrev banL (bar ts : List Txt) : List Txt := sortT (uniT (bar ++ ts))
theorem ban_mem {bar ts : List Txt} {t : Txt} : t ∈ banL bar ts ↔ t ∈ bar ∨ t ∈ ts := by rw [mem_sortT, mem_uniT, List.mem_append]
theorem ban_len {bar ts : List Txt} : (banL bar ts).length ≤ bar.length + ts.length := by
  rw [sortT_len]; refine Nat.le_trans (uniT_len _) ?_; rw [List.length_append]; exact Nat.le_refl _
abbrev alwL (bar ts : List Txt) : List Txt := bar.filter fun t => !decide (t ∈ ts)
end L2.DL
/-! GE: enumerate of a tuple. -/
namespace L2.DL
open PySem PySem.Spec PyProof.Rows
open AutoSeq1 (wpAny_loadPart')
def mEnumT (ms : EM (List D)) : EM (List D) := fun E env C Q => ms E env C fun ds env1 C1 => match ds with
  | [.lst xs] => Q (enumD 0 xs) env1 C1
  | [.tup xs] => Q (enumD 0 xs) env1 C1
  | _ => False
def EnumO (ds : List D) (R : List D → Prop) : Prop := match ds with
  | [.lst xs] => R (enumD 0 xs)
  | [.tup xs] => R (enumD 0 xs)
  | _ => False
theorem i_enumT {ms : EM (List D)} {E : EX} {env : DL.Env} {C : Cs} {Q : List D → DL.Env → Cs → Prop} (q : ms E env C fun ds env1 C1 => EnumO ds fun l => Q l env1 C1) : mEnumT ms E env C Q := q
theorem e_lst {xs : List D} {R : List D → Prop} (q : R (enumD 0 xs)) : EnumO [.lst xs] R := q
theorem e_tup {xs : List D} {R : List D → Prop} (q : R (enumD 0 xs)) : EnumO [.tup xs] R := q
end L2.DL
/-! ND: deeds done with a register and with the law's own account of it. -/
namespace L2.DL
open PySem PySem.Spec PyProof.Rows L2.AS
inductive Deed where
  | add (ts : List Txt) | drop (ts : List Txt) | ren (o n : Txt) | ban (ts : List Txt) | alw (ts : List Txt) | undo | redo
def wAdd : Txt := [97, 100, 100]
def wDrop : Txt := [100, 114, 111, 112]
def wRen : Txt := [114, 101, 110, 97, 109, 101]
def wBan : Txt := [98, 97, 110]
def wAlw : Txt := [97, 108, 108, 111, 119]
def wUndo : Txt := [117, 110, 100, 111]
def wRedo : Txt := [114, 101, 100, 111]
def Deed.w : Deed → Txt
  | .add _ => wAdd | .drop _ => wDrop | .ren _ _ => wRen | .ban _ => wBan | .alw _ => wAlw | .undo => wUndo | .redo => wRedo
def Deed.vals : Deed → List Txt
  | .add ts => ts | .drop ts => ts | .ren o n => [o, n] | .ban ts => ts | .alw ts => ts | .undo => [] | .redo => []
def DeedOk (r : Reg) (s : RSt) : Deed → Prop
  | .add ts => (∀ t ∈ ts, nameOk t) ∧ (s.rows.map (·.nm) ++ ts).Nodup ∧ s.rows.length + ts.length ≤ 44 ∧ ts.length ≤ 2
  | .drop ts => (∀ t ∈ ts, t ∈ s.rows.map (·.nm)) ∧ ts.Nodup ∧ ts.length ≤ 2
  | .ren o n => o ∈ s.rows.map (·.nm) ∧ nameOk n ∧ n ∉ s.rows.map (·.nm)
  | .ban ts => (∀ t ∈ ts, cdOk r.span t) ∧ 0 ≤ ts.length ∧ ts.length ≤ 2
  | .alw ts => (∀ t ∈ ts, cdOk r.span t) ∧ 0 ≤ ts.length ∧ ts.length ≤ 2
  | .undo => 0 < r.spot
  | .redo => r.spot + 1 < r.sts.length
/-- next birth number, banned codes and rows behind a change -/
def Deed.nx (s : RSt) : Deed → Nat
  | .add ts => s.nx + ts.length
  | _ => s.nx
def Deed.bar (s : RSt) : Deed → List Txt
  | .ban ts => banL s.bar ts
  | .alw ts => alwL s.bar ts
  | _ => s.bar
def Deed.rows (s : RSt) : Deed → List Row
  | .add ts => s.rows ++ newR s.nx ts
  | .drop ts => dropR s.rows ts
  | .ren o n => s.rows.map (renR o n)
  | _ => s.rows
/-- how a deed ends: no coding, or another register and what is told -/
def DeedOut (r : Reg) (n : Nat) (s : RSt) (d : Deed) (no : List Txt → Prop) (go : Reg → D → Prop) : Prop := match d with
  | .undo => ∀ sn, r.sts[r.spot - 1]? = some sn → go { r with spot := r.spot - 1 } (toldD s.rows sn.rows)
  | .redo => ∀ sn, r.sts[r.spot + 1]? = some sn → go { r with spot := r.spot + 1 } (toldD s.rows sn.rows)
  | d => (∀ (m : Nat) (pl : List Nat), L2.AS.Crowd (prb (sitR r.span (d.bar s) s.slp (d.rows s))) m pl → no (crowdT 0 (sitR r.span (d.bar s) s.slp (d.rows s)) pl)) ∧
    (∀ (M : List Txt), Best (sitR r.span (d.bar s) s.slp (d.rows s)) M → ROk (n + 1) (r.push (chgR r.pause s (d.nx s) (d.bar s) (d.rows s) M)) → go (r.push (chgR r.pause s (d.nx s) (d.bar s) (d.rows s) M)) (toldD s.rows (setCd (d.rows s) M)))
theorem DeedOut.imp {r : Reg} {n : Nat} {s : RSt} {d : Deed} {no no' : List Txt → Prop} {go go' : Reg → D → Prop} (h : DeedOut r n s d no go) (h1 : ∀ l, no l → no' l) (h2 : ∀ r' x, go r' x → go' r' x) : DeedOut r n s d no' go' := by
  cases d <;> first | exact fun sn e => h2 _ _ (h sn e) | exact ⟨fun m pl c => h1 _ (h.1 m pl c), fun M b o => h2 _ _ (h.2 M b o)⟩
theorem DeedOk.bar {r : Reg} {n : Nat} {s : RSt} {d : Deed} (h : DeedOk r s d) (so : StOk n r.span s) : (∀ c ∈ d.bar s, cdOk r.span c) ∧ (d.bar s).length ≤ 8 * n + 16 := by
  have hb := so.barL
  cases d with
  | ban ts => exact ⟨fun c hc => (ban_mem.mp hc).elim (so.bar c) (h.1 c), by have := ban_len (bar := s.bar) (ts := ts); have := h.2.2; show (banL s.bar ts).length ≤ _; omega⟩
  | alw ts => exact ⟨fun c hc => so.bar c (List.mem_filter.mp hc).1, by have := List.length_filter_le (fun t => !decide (t ∈ ts)) s.bar; show (s.bar.filter fun t => !decide (t ∈ ts)).length ≤ _; omega⟩
  | _ => exact ⟨so.bar, by show s.bar.length ≤ _; omega⟩
theorem crowd_no {S : List Cl} {m : Nat} {pl : List Nat} (cr : L2.AS.Crowd (prb S) m pl) (M : List Txt) : ¬ Cod S M := fun h => cr.no (fun p => p < S.length) (fun p hp => by have h1 := cr.le p hp; have h2 : m < S.length := cr.lt; show p < S.length; omega) _ h.cd
end L2.DL
/-! NE: dict(pairs) of rows; codes or nothing compared. -/
namespace L2.DL
open PySem PySem.Spec PyProof.Rows L2.AS
theorem setCd_map {rows : List Row} {M : List Txt} (h : M.length = rows.length) : (setCd rows M).map (fun r => D.str (r.cd.getD [])) = txs M := by
  unfold setCd
  rw [List.map_zipWith]
  induction rows generalizing M with
  | nil => cases M with
    | nil => rfl
    | cons t M => simp at h
  | cons r rows ih =>
    cases M with
    | nil => simp at h
    | cons t M => simp only [List.zipWith_cons_cons, List.map_cons]; rw [ih (by simpa using h)]; rfl
theorem txs_inj : ∀ {l m : List Txt}, txs l = txs m → l = m
  | [], [], _ => rfl
  | [], _ :: _, h => by cases h
  | _ :: _, [], h => by cases h
  | a :: l, b :: m, h => by
    simp only [txs, List.map_cons, List.cons.injEq, D.str.injEq] at h
    rw [h.1, txs_inj h.2]
theorem setCd_cds {rows : List Row} {M : List Txt} (h : M.length = rows.length) : (setCd rows M).map (fun r => r.cd.getD []) = M := by
  refine txs_inj ?_
  rw [← setCd_map h]; unfold txs; rw [List.map_map]; rfl
end L2.DL
/-! NF: keyword-only parameters that are not given. -/
namespace L2.DL
open PySem PySem.Spec PyProof.Rows L2.AS
theorem kb_kw {K : PySem.W.Frag} {fd : FuncData} {ps ks : List Str} {n : Nat} {perm : List Nat} {kd : Addr} {ms : List (Str × Value)} (hk : ∀ q ∈ ms, PySem.W.nsIn K kd q.1 = some (some q.2))
    (h : ∀ us ws : List Value, us.length = n → ws.length = ks.length → KwChain kd ms (bindArgs fd ⟨us, ks.zip ws⟩) (ps.zip (pick perm (us ++ ws ++ ms.map (·.2))))) : KB K fd ps ks n perm (ms.map (·.2)) :=
  fun s us ws X h1 h2 => BindsTo.of_looks fun _ => KwChain.looks X hk (h us ws h1 h2)
theorem kf_nil {K : PySem.W.Frag} {kd : Addr} : ∀ q ∈ ([] : List (Str × Value)), PySem.W.nsIn K kd q.1 = some (some q.2) := fun _ h => by cases h
theorem kf_cons {K : PySem.W.Frag} {kd : Addr} {x : Str} {v : Value} {l : List (Str × Value)} (h : PySem.W.nsIn K kd x = some (some v)) (hl : ∀ q ∈ l, PySem.W.nsIn K kd q.1 = some (some q.2)) : ∀ q ∈ (x, v) :: l, PySem.W.nsIn K kd q.1 = some (some q.2) := fun q hq => by
  rcases List.mem_cons.mp hq with rfl | hq
  · exact h
  · exact hl q hq
theorem rel_ref (a : Addr) : RelV (.ref a) (.ref a) := rfl
/-! ### results of methods of either kind; returned as they are -/
section
variable {X : Cx} {e o : Expr} {es : List Expr} {kws : List Keyword} {ks : List Str} {apos pos : Pos} {C : Addr} {m : Str} {spv : DSpV} {mo : EM D}
def mMethR (C : Addr) (m : Str) (spv : DSpV) (mo : EM D) (ma : EM (List D × List D)) : EM Ret := fun E env C0 Q => mo E env C0 fun d env1 C1 => IsO C m (dr C1 d) ∧ ma E env1 C1 fun p env2 C2 => spv (d :: p.1) p.2 C2 (fun r C3 => Q r env2 C3) fun x C3 => E x env2 C3
def sRetR (m : EM Ret) : SM := fun E dE env C => m E env C fun r _ C1 => dE.rt r C1
end
section
variable {E : EX} {env : DL.Env} {C0 : Cs} {C : Addr} {m : Str} {spv : DSpV} {mo : EM D} {m2 : EM (List D × List D)} {Q : Ret → DL.Env → Cs → Prop} {mr : EM Ret} {nx bk ct : DL.Env → Cs → Prop} {rt : Ret → Cs → Prop}
theorem i_methR (q : mo E env C0 fun d env1 C1 => IsO C m (dr C1 d) ∧ m2 E env1 C1 fun p env2 C2 => spv (d :: p.1) p.2 C2 (fun r C3 => Q r env2 C3) fun x C3 => E x env2 C3) : mMethR C m spv mo m2 E env C0 Q := q
theorem j_retR (q : mr E env C0 fun r _ C1 => rt r C1) : sRetR mr E ⟨nx, rt, bk, ct⟩ env C0 := q
theorem i_callL {i : Nat} {spv : DSpV} {Q : D → DL.Env → Cs → Prop} {Cl : Addr} (h : env[i]? = some (.shr (.cell Cl))) (q : m2 E env C0 fun p env1 C1 => spv p.1 p.2 C1 (fun r C2 => Q r.tree env1 C2) fun x C2 => E x env1 C2) : mCallL i Cl spv m2 E env C0 Q := ⟨h, q⟩
theorem o_kt {R : List D → Prop} (q : R []) : IterO .kt R := q
theorem g_dictD {kvs : List (DK × D)} {PC : Cont → Prop} (q : PC (.dct kvs)) : gDictD ([D.dct kvs].map (dr C0)) PC := q
end
/-! ### Cls.m(e, .., *e) -/
/-! ### a source of draws as an argument -/
def mCallP (sp : DSp) (dfl : List D) (ms : EM (List D)) : EM D := fun E env C Q => ms E env C fun ds env1 C1 => sp (ds ++ dfl) C1 (fun r C2 => match r with
  | .frs c => ∃ b, asPur c = some b ∧ ∀ a, C2 a = none → Q (.cell a) env1 (cput C2 a (.pur b))
  | .shr _ => False) fun x C2 => E x env1 C2
theorem i_callP {E : EX} {env : DL.Env} {C : Cs} {Q : D → DL.Env → Cs → Prop} {sp : DSp} {dfl : List D} {ms : EM (List D)} (q : ms E env C fun ds env1 C1 => sp (ds ++ dfl) C1 (fun r C2 => match r with
  | .frs c => ∃ b, asPur c = some b ∧ ∀ a, C2 a = none → Q (.cell a) env1 (cput C2 a (.pur b))
  | .shr _ => False) fun x C2 => E x env1 C2) : mCallP sp dfl ms E env C Q := q
/-! ### xs.clear() of an own list -/
def sClrL (n : Nat) : SM := fun _ dE env C => ∃ xs, env[n]? = some (.own (.lst xs)) ∧ dE.nx (env.set n (.own (.lst []))) C
theorem j_clrL {n : Nat} {xs : List D} {E : EX} {nx bk ct : DL.Env → Cs → Prop} {rt : Ret → Cs → Prop} {env : DL.Env} {C : Cs} (h : env[n]? = some (.own (.lst xs))) (q : nx (env.set n (.own (.lst []))) C) : sClrL n E ⟨nx, rt, bk, ct⟩ env C := ⟨xs, h, q⟩
end L2.DL
/-! NG: registers of merges' laws; what two registers make together. -/
namespace L2.DL
open PySem PySem.Spec PyProof.Rows L2.AS
/-! ### deeds that are done -/
theorem DeedOut.any {r : Reg} {n : Nat} {s : RSt} {d : Deed} {no : List Txt → Prop} {go : Reg → D → Prop} (hu : d ≠ .undo) (hr : d ≠ .redo) (so : StOk n r.span s) (dk : DeedOk r s d)
    (h1 : ∀ l, no l) (h2 : ∀ (M : List Txt) (x : List D), Cod (sitR r.span (d.bar s) s.slp (d.rows s)) M → ROk (n + 1) (r.push (chgR r.pause s (d.nx s) (d.bar s) (d.rows s) M)) → go (r.push (chgR r.pause s (d.nx s) (d.bar s) (d.rows s) M)) (.lst x)) : DeedOut r n s d no go := by
  cases d with
  | undo => exact absurd rfl hu
  | redo => exact absurd rfl hr
  | _ => exact ⟨fun _ _ _ => h1 _, fun M hM ok => h2 M _ hM.cod ok⟩
theorem sort_flt {l : List Txt} {p : Txt → Bool} (h : sortT l = l) : sortT (l.filter p) = l.filter p := by
  have := sortT_pw l
  rw [h] at this
  exact sortT_id (this.filter _)
theorem bar_sorted {r : Reg} {s : RSt} {d : Deed} (h : sortT s.bar = s.bar) : sortT (d.bar s) = d.bar s := by
  cases d with
  | ban ts => exact sortT_id (sortT_pw _)
  | alw ts => exact sort_flt h
  | _ => exact h
/-- what the merges' laws keep of a register -/
structure MOk (n : Nat) (r : Reg) : Prop where
  ok : ROk n r
  l7 : ∀ s ∈ r.sts, s.rows.length ≤ 7
  so : ∀ s ∈ r.sts, sortT s.bar = s.bar
theorem MOk.push {n : Nat} {r : Reg} {s : RSt} {d : Deed} {M : List Txt} (h : MOk n r) (hs : r.sts[r.spot]? = some s) (h7 : (d.rows s).length ≤ 7) (hM : Cod (sitR r.span (d.bar s) s.slp (d.rows s)) M) (ok : ROk (n + 1) (r.push (chgR r.pause s (d.nx s) (d.bar s) (d.rows s) M))) : MOk (n + 1) (r.push (chgR r.pause s (d.nx s) (d.bar s) (d.rows s) M)) := by
  have hm : ∀ s' ∈ (r.push (chgR r.pause s (d.nx s) (d.bar s) (d.rows s) M)).sts, s' ∈ r.sts ∨ s' = chgR r.pause s (d.nx s) (d.bar s) (d.rows s) M := fun s' h' => by
    rcases List.mem_append.mp h' with h' | h'
    · exact .inl (List.mem_of_mem_take h')
    · exact .inr (List.mem_singleton.mp h')
  refine ⟨ok, fun s' h' => ?_, fun s' h' => ?_⟩
  · rcases hm s' h' with h1 | rfl
    · exact h.l7 s' h1
    · show (setCd (d.rows s) M).length ≤ 7
      rw [setCd_len (by rw [hM.len, List.length_map])]; exact h7
  · rcases hm s' h' with h1 | rfl
    · exact h.so s' h1
    · exact bar_sorted (r := r) (h.so s (List.mem_of_getElem? hs))
theorem MOk.go {n k : Nat} {r : Reg} (h : MOk n r) (hk : k < r.sts.length) : MOk n { r with spot := k } := ⟨h.ok.go hk, h.l7, h.so⟩
theorem MOk.mono {n m : Nat} {r : Reg} (h : MOk n r) (l : n ≤ m) (hm : m ≤ 100) : MOk m r := ⟨h.ok.mono l hm, h.l7, h.so⟩
/-! ### what two registers make together -/
abbrev nmsR (s : RSt) : List Txt := s.rows.map (·.nm)
def cdR (s : RSt) (t : Txt) : Option Txt := (s.rows.find? fun r => decide (r.nm = t)).bind (·.cd)
theorem cdR_some {nx : Nat} {s : RSt} {r : Row} (h : RwOk nx s.rows) (hr : r ∈ s.rows) : cdR s r.nm = r.cd := by
  unfold cdR
  have : (s.rows.find? fun x => decide (x.nm = r.nm)) = some r := by
    have nd := h.nd
    generalize s.rows = l at nd hr
    induction l with
    | nil => cases hr
    | cons x l ih =>
      rw [List.map_cons, List.nodup_cons] at nd
      rw [List.find?_cons]
      rcases List.mem_cons.mp hr with rfl | hr
      · simp
      · have hne : x.nm ≠ r.nm := fun e => nd.1 (e ▸ List.mem_map_of_mem (f := (·.nm)) hr)
        simp only [hne, decide_false]
        exact ih nd.2 hr
  rw [this]; rfl
/-! ### shown -/
structure RFit (r : Row) : Prop where
  nm : nameOk r.nm
  cd : ∃ n c, n ≤ 3 ∧ r.cd = some c ∧ cdOk n c
theorem StOk.fit {n span : Nat} {s : RSt} (h : StOk n span s) (h3 : span ≤ 3) : ∀ r ∈ s.rows, RFit r := fun r hr => by
  obtain ⟨c, h1, h2⟩ := h.cd r hr
  exact ⟨h.rws.nm r hr, span, c, h3, h1, h2⟩
theorem Shws.len {k w b : Nat} {ds : List D} (h : ∀ d ∈ ds, Shw k w d) (hb : (w + 2) * ds.length ≤ b) : Shws k b ds := by
  have a := Shws.all h
  exact ⟨a.r, a.s, a.l, a.dp, Nat.le_trans a.wt hb⟩
/-! ### list(range(a, b)) -/
end L2.DL
/-! NH: the merged register. -/
namespace L2.DL
open PySem PySem.Spec PyProof.Rows L2.AS
end L2.DL
/-! SH: x in o, o with its own __contains__ that says a bool. -/
namespace L2.DL
open PySem PySem.Spec PyProof.Rows
def gOwnIn (neg : Bool) (C : Addr) (spv : DSpV) : EX → D → D → DL.Env → Cs → (D → DL.Env → Cs → Prop) → Prop := fun E d e env C0 P => isOb C (dr C0 e) ∧ spv [e, d] [] C0 (fun r C1 => ∃ b, r.tree = .bl b ∧ P (.bl (if neg then !b else b)) env C1) fun x C1 => E x env C1
section
variable {X : Cx} {C : Addr} {spv : DSpV}
theorem own_in (c : OwV X C "__contains__" spv) (gd : Gd X.A) : OpE X (compareOp .In) (gOwnIn false C spv) := by
  obtain ⟨k, g, F, hr, o⟩ := c.ex
  refine ⟨fun Z E hE pins s σ Hs H env C0 d e x y v u P Q I sr rd re rx ry ⟨h2, q⟩ kk => ?_⟩
  obtain ⟨b, dy, zs, rfl, eb⟩ := isOb_now sr re h2
  obtain rfl : u = Value.ref b := ry
  obtain ⟨od', J'⟩ := inst_at I eb
  obtain ⟨m, fr⟩ := I.fr
  refine PySem.W.in_K fr I.ok.mod.kin J' o.at_ o.fn (thn (own_call (P := fun r env' C' => ∃ b, r = .bl b ∧ P (.bl (if false then !b else b)) env' C') (Q := fun z H' => ∃ b, z = .bl b ∧ Q (.bl b) H') F gd (hr.mono (Nat.le_succ _)) hE I sr (.cons re (.cons rd .nil)) (.cons rfl (.cons rx .nil)) q ?_) fun w s' z => ?_)
  · rintro r env' C' z Hs' H' ⟨b, rfl, p⟩ t s1 rr
    cases rr
    exact ⟨b, rfl, kk _ _ _ _ _ _ p t s1 (.bl b)⟩
  · obtain ⟨v', H', I', rv, b, rfl, hq⟩ := z
    cases rv
    exact wpAny_truthy_bool ⟨.bl b, H', I', rfl, hq⟩
end
end L2.DL
/-! OC: slots that hold nothing of their own. -/
namespace L2.DL
open PySem PySem.Spec PyProof.Rows L2.AS
/-- a slot that holds nothing of its own -/
def Ns (s : Slot) : Prop := s = .non ∨ ∃ d, s = .shr d
end L2.DL
/-! OA: codes given up and codes that rest. -/
namespace L2.DL
open PySem PySem.Spec PyProof.Rows L2.AS
abbrev cds (s : RSt) : List Txt := s.rows.map fun r => r.cd.getD []
theorem lk_flt {α : Type} {q : Txt × α → Bool} : ∀ {l : Tb Txt α}, (ks l).Nodup → ∀ c, lk c (l.filter q) = (lk c l).bind fun x => if q (c, x) then some x else none
  | [], _, c => rfl
  | (d, x) :: r, n, c => by
    simp only [ks, List.map_cons, List.nodup_cons] at n
    have ih := lk_flt (q := q) (l := r) n.2 c
    rw [List.filter_cons]
    by_cases h : q (d, x) = true
    · rw [if_pos h]
      simp only [lk]
      by_cases e : d = c
      · subst e; rw [if_pos rfl, if_pos rfl]; simp [h]
      · rw [if_neg e, if_neg e]; exact ih
    · rw [if_neg h, ih]
      simp only [lk]
      by_cases e : d = c
      · subst e
        rw [if_pos rfl, lk_none.mpr n.1]; simp [h]
      · rw [if_neg e]
/-- what rests is what was given up not too long ago -/
def Rest (t p : Nat) (sl G : Tb Txt (Txt × Nat)) : Prop := ∀ c, lk c sl = (lk c G).bind fun x => if t < x.2 + p then some (x.1, x.2 + p) else none
structure GInv (p : Nat) (s : RSt) (G : Tb Txt (Txt × Nat)) : Prop where
  nd : (ks G).Nodup
  on : ∀ e ∈ G, e.1 ∉ cds s
  sl : Rest s.tk p s.slp G
def goneF (t1 : Nat) (M : List Txt) (G : Tb Txt (Txt × Nat)) (r : Row) : Tb Txt (Txt × Nat) := match r.cd with
  | some c => if c ∈ M then G else pt G c (r.nm, t1)
  | none => G
def gone (t1 : Nat) (M : List Txt) (rows : List Row) (G : Tb Txt (Txt × Nat)) : Tb Txt (Txt × Nat) := rows.foldl (goneF t1 M) G
abbrev gcut (M : List Txt) (G : Tb Txt (Txt × Nat)) : Tb Txt (Txt × Nat) := G.filter fun e => !decide (e.1 ∈ M)
theorem Rest.step {t1 p : Nat} {M : List Txt} {sl G : Tb Txt (Txt × Nat)} (hp : 0 < p) (h : Rest t1 p sl G) (r : Row) : Rest t1 p (restF p t1 M sl r) (goneF t1 M G r) := by
  unfold restF goneF
  cases r.cd with
  | none => exact h
  | some c =>
    by_cases e : c ∈ M
    · simp only [e, not_true, false_and, if_false, if_true]; exact h
    · simp only [e, not_false_iff, true_and, if_pos hp, if_false]
      intro d
      rw [lk_pt, lk_pt]
      by_cases e2 : d = c
      · rw [if_pos e2, if_pos e2]
        show _ = if t1 < t1 + p then _ else _
        rw [if_pos (by omega)]
      · rw [if_neg e2, if_neg e2]; exact h d
theorem Rest.fold {t1 p : Nat} {M : List Txt} (hp : 0 < p) : ∀ (rows : List Row) {sl G : Tb Txt (Txt × Nat)}, Rest t1 p sl G → Rest t1 p (restIn p t1 M sl rows) (gone t1 M rows G)
  | [], _, _, h => h
  | r :: rows, _, _, h => Rest.fold hp rows (h.step hp r)
theorem Rest.cut {t p : Nat} {M : List Txt} {sl G : Tb Txt (Txt × Nat)} (n1 : (ks sl).Nodup) (n2 : (ks G).Nodup) (h : Rest t p sl G) : Rest (t + 1) p (slpCut (t + 1) M sl) (gcut M G) := by
  intro c
  unfold slpCut
  rw [lk_flt n1, lk_flt n2, h c]
  cases lk c G with
  | none => rfl
  | some x =>
    show (if t < x.2 + p then some (x.1, x.2 + p) else none : Option (Txt × Nat)).bind _ = _
    by_cases e : c ∈ M
    · by_cases h1 : t < x.2 + p
      · simp [e, h1]
      · simp [e, h1]
    · by_cases h1 : t + 1 < x.2 + p
      · simp [e, h1, show t < x.2 + p by omega]
      · by_cases h2 : t < x.2 + p
        · simp [e, h1, h2]
        · simp [e, h1, h2]
theorem goneF_nd {t1 : Nat} {M : List Txt} {G : Tb Txt (Txt × Nat)} {r : Row} (n : (ks G).Nodup) (h : ∀ e ∈ G, e.1 ∉ M) : (ks (goneF t1 M G r)).Nodup ∧ ∀ e ∈ goneF t1 M G r, e.1 ∉ M := by
  unfold goneF
  cases r.cd with
  | none => exact ⟨n, h⟩
  | some c =>
    by_cases e : c ∈ M
    · simp only [e, if_true]; exact ⟨n, h⟩
    · simp only [e, if_false]
      have n' : (ks (pt G c (r.nm, t1))).Nodup := pt_nd n
      refine ⟨n', fun x hx z => ?_⟩
      have h1 : lk x.1 (pt G c (r.nm, t1)) = some x.2 := lk_of n' hx
      rw [lk_pt] at h1
      by_cases e2 : x.1 = c
      · exact e (e2 ▸ z)
      · rw [if_neg e2] at h1
        exact h _ (lk_mem h1) z
theorem gone_nd {t1 : Nat} {M : List Txt} : ∀ (rows : List Row) {G : Tb Txt (Txt × Nat)}, (ks G).Nodup → (∀ e ∈ G, e.1 ∉ M) → (ks (gone t1 M rows G)).Nodup ∧ ∀ e ∈ gone t1 M rows G, e.1 ∉ M
  | [], _, n, h => ⟨n, h⟩
  | r :: rows, _, n, h => by
    obtain ⟨n', h'⟩ := goneF_nd (t1 := t1) (r := r) n h
    exact gone_nd rows n' h'
theorem gcut_nd {M : List Txt} {G : Tb Txt (Txt × Nat)} (n : (ks G).Nodup) : (ks (gcut M G)).Nodup ∧ ∀ e ∈ gcut M G, e.1 ∉ M := by
  refine ⟨?_, fun e he => by simpa using (List.mem_filter.mp he).2⟩
  unfold ks gcut
  exact (List.Sublist.map _ List.filter_sublist).nodup n
theorem chg_cds {pause nx span : Nat} {s : RSt} {bar : List Txt} {rows : List Row} {M : List Txt} (hM : Cod (sitR span bar s.slp rows) M) : cds (chgR pause s nx bar rows M) = M := setCd_cds (by rw [hM.len, List.length_map])
theorem GInv.next {p nx span : Nat} {s : RSt} {G : Tb Txt (Txt × Nat)} {bar : List Txt} {rows : List Row} {M : List Txt} (h : GInv p s G) (hp : 0 < p) (n : (ks s.slp).Nodup) (hM : Cod (sitR span bar s.slp rows) M) : GInv p (chgR p s nx bar rows M) (gone (s.tk + 1) M s.rows (gcut M G)) := by
  obtain ⟨n1, h1⟩ := gcut_nd (M := M) h.nd
  obtain ⟨n2, h2⟩ := gone_nd (t1 := s.tk + 1) s.rows n1 h1
  exact ⟨n2, fun e he => by rw [chg_cds hM]; exact h2 e he, Rest.fold hp s.rows (h.sl.cut n h.nd)⟩
end L2.DL
/-! OB: crowds have fewer options than names; options of some names. -/
namespace L2.AS
open _root_.Lean.Grind
end L2.AS
namespace L2.DL
open PySem PySem.Spec PyProof.Rows L2.AS
/-! ### names of a crowd -/
theorem crowdT_mem (pl : List Nat) : ∀ (i : Nat) (S : List Cl) (t : Txt), t ∈ crowdT i S pl ↔ ∃ p c, S[p]? = some c ∧ i + p ∈ pl ∧ c.nm = t
  | _, [], t => by simp [crowdT]
  | i, c :: r, t => by
    have ih := crowdT_mem pl (i + 1) r t
    have key : (t ∈ crowdT i (c :: r) pl) ↔ ((i ∈ pl ∧ c.nm = t) ∨ t ∈ crowdT (i + 1) r pl) := by
      conv => lhs; unfold crowdT
      by_cases e : i ∈ pl
      · rw [if_pos e, List.mem_cons]; exact ⟨fun h => h.imp (fun h => ⟨e, h.symm⟩) id, fun h => h.imp (fun h => h.2.symm) id⟩
      · rw [if_neg e]; exact ⟨.inr, fun h => h.elim (fun h => absurd h.1 e) id⟩
    rw [key, ih]
    constructor
    · rintro (⟨h1, h2⟩ | ⟨p, d, h1, h2, h3⟩)
      · exact ⟨0, c, rfl, h1, h2⟩
      · exact ⟨p + 1, d, h1, by rw [show i + (p + 1) = i + 1 + p by omega]; exact h2, h3⟩
    · rintro ⟨p, d, h1, h2, h3⟩
      cases p with
      | zero => cases h1; exact .inl ⟨h2, h3⟩
      | succ p => exact .inr ⟨p, d, h1, by rw [show i + 1 + p = i + (p + 1) by omega]; exact h2, h3⟩
theorem crowdT_sub (pl : List Nat) : ∀ (i : Nat) (S : List Cl), (crowdT i S pl).Sublist (S.map (·.nm))
  | _, [] => List.Sublist.slnil
  | i, c :: r => by
    unfold crowdT
    by_cases e : i ∈ pl
    · rw [if_pos e]; exact (crowdT_sub pl (i + 1) r).cons₂ _
    · rw [if_neg e]; exact (crowdT_sub pl (i + 1) r).cons _
/-! ### options of some names -/
/-! ### parts of a situation -/
end L2.DL
/-! OD: the place of a text within a text. -/
namespace L2.DL
open PySem PySem.Spec PyProof.Rows L2.AS
end L2.DL
/-! OE: other names and codes. -/
namespace L2.DL
open PySem PySem.Spec PyProof.Rows L2.AS
/-- small letters -/
def low (t : Txt) : Prop := ∀ c ∈ t, 97 ≤ c ∧ c ≤ 122
def tnC (σ ρ : Txt → Txt) (c : Cl) : Cl := ⟨ρ c.nm, c.held.map σ, c.opts.map σ⟩
structure Turn (σ ρ : Txt → Txt) (S : List Cl) : Prop where
  inj : ∀ a b, low a → low b → σ a = σ b → a = b
  held : ∀ c ∈ S, ∀ t ∈ c.held, low t
  opts : ∀ c ∈ S, ∀ t ∈ c.opts, low t
open Classical in
noncomputable def bk (σ : Txt → Txt) (x : Txt) : Txt := if h : ∃ t, low t ∧ σ t = x then choose h else []
theorem bk_of {σ : Txt → Txt} (inj : ∀ a b, low a → low b → σ a = σ b → a = b) {t : Txt} (h : low t) : bk σ (σ t) = t := by
  have e : ∃ u, low u ∧ σ u = σ t := ⟨t, h, rfl⟩
  unfold bk
  rw [dif_pos e]
  exact inj _ _ (Classical.choose_spec e).1 h (Classical.choose_spec e).2
section
variable {σ ρ : Txt → Txt} {S : List Cl}
theorem tn_ops (p : Nat) : opS (S.map (tnC σ ρ)) p = (opS S p).map σ := by
  unfold opS
  rw [List.getElem?_map]
  cases S[p]? <;> rfl
theorem Turn.low_op (h : Turn σ ρ S) {p : Nat} {t : Txt} (ht : t ∈ opS S p) : low t := by
  unfold opS at ht
  cases hc : S[p]? with
  | none => rw [hc] at ht; cases ht
  | some c => rw [hc] at ht; exact h.opts c (List.mem_of_getElem? hc) t ht
theorem Turn.cod (h : Turn σ ρ S) {M : List Txt} (c : Cod S M) : Cod (S.map (tnC σ ρ)) (M.map σ) := by
  refine ⟨by rw [List.length_map, List.length_map, c.len], fun p x hx => ?_, ?_⟩
  · rw [List.getElem?_map] at hx
    obtain ⟨t, ht, rfl⟩ := Option.map_eq_some_iff.mp hx
    rw [tn_ops]
    exact List.mem_map_of_mem (c.opt p t ht)
  · refine nd_map c.nd fun a b ha hb e => ?_
    obtain ⟨i, hi⟩ := List.getElem?_of_mem ha
    obtain ⟨j, hj⟩ := List.getElem?_of_mem hb
    exact h.inj a b (h.low_op (c.opt i a hi)) (h.low_op (c.opt j b hj)) e
theorem Turn.back (h : Turn σ ρ S) {N : List Txt} (c : Cod (S.map (tnC σ ρ)) N) : ∃ M, N = M.map σ ∧ Cod S M := by
  have at_ : ∀ p x, N[p]? = some x → ∃ t, t ∈ opS S p ∧ σ t = x := fun p x hx => by
    have := c.opt p x hx
    rw [tn_ops] at this
    exact List.mem_map.mp this
  have e : ∀ p x, N[p]? = some x → bk σ x ∈ opS S p ∧ σ (bk σ x) = x := fun p x hx => by
    obtain ⟨t, h1, rfl⟩ := at_ p x hx
    rw [bk_of h.inj (h.low_op h1)]
    exact ⟨h1, rfl⟩
  refine ⟨N.map (bk σ), ?_, by rw [List.length_map, c.len, List.length_map], fun p x hx => ?_, ?_⟩
  · rw [List.map_map]
    conv => lhs; rw [← List.map_id N]
    refine List.map_congr_left fun x hx => ?_
    obtain ⟨i, hi⟩ := List.getElem?_of_mem hx
    exact (e i x hi).2.symm
  · rw [List.getElem?_map] at hx
    obtain ⟨y, hy, rfl⟩ := Option.map_eq_some_iff.mp hx
    exact (e p y hy).1
  · refine nd_map c.nd fun a b ha hb e2 => ?_
    obtain ⟨i, hi⟩ := List.getElem?_of_mem ha
    obtain ⟨j, hj⟩ := List.getElem?_of_mem hb
    rw [← (e i a hi).2, ← (e j b hj).2, e2]
theorem ix_map (inj : ∀ a b, low a → low b → σ a = σ b → a = b) {t : Txt} (ht : low t) : ∀ {l : List Txt}, (∀ u ∈ l, low u) → fstIx (σ t) (l.map σ) = fstIx t l
  | [], _ => rfl
  | a :: l, h => by
    have ih := ix_map inj ht (l := l) fun u hu => h u (List.mem_cons_of_mem _ hu)
    show (if σ a = σ t then some 0 else (fstIx (σ t) (l.map σ)).map (· + 1)) = (if a = t then some 0 else (fstIx t l).map (· + 1))
    by_cases e : a = t
    · rw [if_pos e, if_pos (by rw [e])]
    · rw [if_neg e, if_neg fun z => e (inj _ _ (h a List.mem_cons_self) ht z), ih]
theorem mem_tn (inj : ∀ a b, low a → low b → σ a = σ b → a = b) {t : Txt} (ht : low t) {l : List Txt} (h : ∀ u ∈ l, low u) : σ t ∈ l.map σ ↔ t ∈ l := by
  rw [List.mem_map]
  exact ⟨fun ⟨u, hu, e⟩ => by rwa [← inj u t (h u hu) ht e], fun h => ⟨t, h, rfl⟩⟩
theorem Turn.num (h : Turn σ ρ S) {c : Cl} (hc : c ∈ S) {t : Txt} (ht : low t) : chgI (tnC σ ρ c) (σ t) = chgI c t ∧ nmb (tnC σ ρ c) (σ t) = nmb c t := by
  have m := mem_tn h.inj ht (h.held c hc)
  refine ⟨?_, ?_⟩
  · unfold chgI chg
    have e : (tnC σ ρ c).held.isEmpty = c.held.isEmpty := by show (c.held.map σ).isEmpty = _; rw [List.isEmpty_map]
    rw [e, show decide (σ t ∈ (tnC σ ρ c).held) = decide (t ∈ c.held) from decide_eq_decide.mpr m]
  · unfold nmb numCl
    have e1 := ix_map h.inj ht (h.held c hc)
    have e2 := ix_map h.inj ht (h.opts c hc)
    show (((if σ t ∈ c.held.map σ then fstIx (σ t) (c.held.map σ) else (fstIx (σ t) (c.opts.map σ)).map (2 + ·)).getD 0 : Nat) : Int) = _
    by_cases e : t ∈ c.held
    · rw [if_pos e, if_pos (m.mpr e), e1]
    · rw [if_neg e, if_neg (fun z => e (m.mp z)), e2]
theorem zip_tn {β : Type} {f g : Cl → Txt → β} : ∀ {S : List Cl} {M : List Txt}, (∀ (p : Nat) (c : Cl) (t : Txt), S[p]? = some c → M[p]? = some t → f (tnC σ ρ c) (σ t) = g c t) → List.zipWith f (S.map (tnC σ ρ)) (M.map σ) = List.zipWith g S M
  | [], _, _ => by simp
  | _ :: _, [], _ => by simp
  | c :: S, t :: M, h => by
    simp only [List.map_cons, List.zipWith_cons_cons]
    rw [h 0 c t rfl rfl, zip_tn fun p c' t' a b => h (p + 1) c' t' a b]
theorem Turn.row (h : Turn σ ρ S) {M : List Txt} (c : Cod S M) : rowL (S.map (tnC σ ρ)) (M.map σ) = rowL S M := by
  have lw : ∀ (p : Nat) (d : Cl) (t : Txt), S[p]? = some d → M[p]? = some t → d ∈ S ∧ low t := fun p d t h1 h2 => ⟨List.mem_of_getElem? h1, h.low_op (c.opt p t h2)⟩
  unfold rowL chs nms
  rw [zip_tn (g := chgI) fun p d t h1 h2 => (h.num (lw p d t h1 h2).1 (lw p d t h1 h2).2).1, zip_tn (g := nmb) fun p d t h1 h2 => (h.num (lw p d t h1 h2).1 (lw p d t h1 h2).2).2]
theorem Turn.best (h : Turn σ ρ S) {M : List Txt} (b : Best S M) : Best (S.map (tnC σ ρ)) (M.map σ) := by
  refine ⟨h.cod b.cod, fun N hN => ?_⟩
  obtain ⟨M', rfl, hM'⟩ := h.back hN
  have := b.best M' hM'
  rw [Vc.le_def, rowSum_val b.cod, rowSum_val hM'] at this
  rw [Vc.le_def, rowSum_val (h.cod b.cod), rowSum_val hN, h.row b.cod, h.row hM']
  exact this
theorem Turn.cd (h : Turn σ ρ S) {Q : Nat → Prop} {M : Nat → Txt} (c : Cd (prb S) Q M) : Cd (prb (S.map (tnC σ ρ))) Q (fun p => σ (M p)) where
  opt := fun p hp => by
    show σ (M p) ∈ opS (S.map (tnC σ ρ)) p
    rw [tn_ops]; exact List.mem_map_of_mem (c.opt p hp)
  inj := fun p q hp hq e => c.inj p q hp hq (h.inj _ _ (h.low_op (c.opt p hp)) (h.low_op (c.opt q hq)) e)
theorem Turn.kept (h : Turn σ ρ S) : ∀ {T : List Cl} {M : List Txt}, (∀ c ∈ T, c ∈ S) → (∀ t ∈ M, low t) → keptT (T.map (tnC σ ρ)) (M.map σ) = (keptT T M).map ρ
  | [], _, _, _ => by simp [keptT]
  | _ :: _, [], _, _ => by simp [keptT]
  | c :: T, t :: M, hT, hM => by
    have ih := Turn.kept h (T := T) (M := M) (fun d hd => hT d (List.mem_cons_of_mem _ hd)) fun u hu => hM u (List.mem_cons_of_mem _ hu)
    have m := mem_tn h.inj (hM t List.mem_cons_self) (h.held c (hT c List.mem_cons_self))
    unfold keptT at ih ⊢
    simp only [List.map_cons, List.zip_cons_cons, List.filter_cons]
    by_cases e : t ∈ c.held
    · rw [if_pos (show decide (σ t ∈ (tnC σ ρ c).held) = true from decide_eq_true (m.mpr e)), if_pos (decide_eq_true e), List.map_cons, List.map_cons, List.map_cons, ih]; rfl
    · rw [if_neg (show ¬ decide (σ t ∈ (tnC σ ρ c).held) = true from fun z => e (m.mp (of_decide_eq_true z))), if_neg (by simpa using e), ih]
end
/-! ### letters moved on -/
end L2.DL
/-! RA: registers whose letters are exchanged. -/
namespace L2.DL
open PySem PySem.Spec PyProof.Rows L2.AS
/-- letters turned -/
def ltT (τ : Nat → Nat) (t : Txt) : Txt := t.map τ
structure LtOk (τ : Nat → Nat) : Prop where
  inj : ∀ a b, 97 ≤ a → a ≤ 122 → 97 ≤ b → b ≤ 122 → τ a = τ b → a = b
  lw : ∀ a, 97 ≤ a → a ≤ 122 → 97 ≤ τ a ∧ τ a ≤ 122
section
variable {τ : Nat → Nat}
theorem ltT_len {t : Txt} : (ltT τ t).length = t.length := by unfold ltT; rw [List.length_map]
theorem LtOk.lowT (h : LtOk τ) {t : Txt} (l : low t) : low (ltT τ t) := fun c hc => by
  obtain ⟨x, hx, rfl⟩ := List.mem_map.mp hc
  exact h.lw x (l x hx).1 (l x hx).2
theorem LtOk.name (h : LtOk τ) {t : Txt} (n : nameOk t) : nameOk (ltT τ t) := ⟨by rw [ltT_len]; exact n.1, by rw [ltT_len]; exact n.2.1, h.lowT n.2.2⟩
theorem LtOk.cd (h : LtOk τ) {n : Nat} {t : Txt} (c : cdOk n t) : cdOk n (ltT τ t) := ⟨by rw [ltT_len]; exact c.1, h.lowT c.2⟩
/-! ### lists of texts -/
/-! ### spellings and options -/
/-! ### rows, states, registers -/
/-! ### what changes make -/
/-! ### deeds -/
end
/-- the deed that a word and its texts mean -/
def DdOf (w one two : Txt) (d : Deed) : Prop := (w = wAdd ∧ d = .add [one]) ∨ (w = wDrop ∧ d = .drop [one]) ∨ (w = wRen ∧ d = .ren one two) ∨ (w = wBan ∧ d = .ban [one]) ∨ (w = wAlw ∧ d = .alw [one])
theorem DdOf.is {w one two : Txt} {d : Deed} (h : DdOf w one two d) : (w = wAdd → d = .add [one]) ∧ (w = wDrop → d = .drop [one]) ∧ (w = wRen → d = .ren one two) ∧ (w = wBan → d = .ban [one]) ∧ (w ≠ wAdd → w ≠ wDrop → w ≠ wRen → w ≠ wBan → d = .alw [one]) := by
  rcases h with ⟨rfl, rfl⟩ | ⟨rfl, rfl⟩ | ⟨rfl, rfl⟩ | ⟨rfl, rfl⟩ | ⟨rfl, rfl⟩ <;> simp [wAdd, wDrop, wRen, wBan, wAlw]
/-! ### a table of twelve letters -/
def tau92 (c : Nat) : Nat := ([(97, 113), (98, 109), (99, 122), (100, 120), (101, 107), (102, 121), (113, 97), (109, 98), (122, 99), (120, 100), (107, 101), (121, 102)].lookup c).getD c
theorem tau92_all : ((List.range 26).all fun i => decide (97 ≤ tau92 (97 + i)) && decide (tau92 (97 + i) ≤ 122) && (List.range 26).all fun j => decide (tau92 (97 + i) = tau92 (97 + j) → i = j)) = true := by decide +kernel
theorem tau92_ok : LtOk tau92 := by
  have h : ∀ a, 97 ≤ a → a ≤ 122 → (97 ≤ tau92 a ∧ tau92 a ≤ 122) ∧ ∀ b, 97 ≤ b → b ≤ 122 → tau92 a = tau92 b → a = b := fun a h1 h2 => by
    have q := List.all_eq_true.mp tau92_all (a - 97) (List.mem_range.mpr (by omega))
    rw [show 97 + (a - 97) = a from by omega, Bool.and_eq_true, Bool.and_eq_true] at q
    refine ⟨⟨of_decide_eq_true q.1.1, of_decide_eq_true q.1.2⟩, fun b h3 h4 e => ?_⟩
    have q2 := of_decide_eq_true (List.all_eq_true.mp q.2 (b - 97) (List.mem_range.mpr (by omega)))
    rw [show 97 + (b - 97) = b from by omega] at q2
    have := q2 e
    omega
  exact ⟨fun a b h1 h2 h3 h4 e => (h a h1 h2).2 b h3 h4 e, fun a h1 h2 => (h a h1 h2).1⟩
/-- of the first six letters -/
def inA (t : Txt) : Prop := ∀ c ∈ t, 97 ≤ c ∧ c ≤ 102
theorem inA.low {t : Txt} (h : inA t) : low t := fun c hc => by have := h c hc; omega
/-- all texts of a state are of such letters -/
structure StA (s : RSt) : Prop where
  nm : ∀ r ∈ s.rows, inA r.nm
  cd : ∀ r ∈ s.rows, ∀ c, r.cd = some c → inA c
  bar : ∀ c ∈ s.bar, inA c
  slp : ∀ e ∈ s.slp, inA e.1 ∧ inA e.2.1
theorem opts_inA {span : Nat} {bar : List Txt} {slp : Tb Txt (Txt × Nat)} {nm t : Txt} (h : inA nm) (ht : t ∈ optsR span bar slp nm) : inA t := fun c hc => h c ((spellS_mem (List.mem_filter.mp ht).1).2 c hc)
theorem cod_inA {span : Nat} {bar : List Txt} {slp : Tb Txt (Txt × Nat)} {rows : List Row} (h : ∀ r ∈ rows, inA r.nm) {M : List Txt} (hM : Cod (sitR span bar slp rows) M) : ∀ t ∈ M, inA t := fun t ht => by
  obtain ⟨i, hi⟩ := List.getElem?_of_mem ht
  have h1 := hM.opt i t hi
  unfold opS at h1
  rw [List.getElem?_map] at h1
  cases hr : rows[i]? with
  | none => rw [hr] at h1; cases h1
  | some r => rw [hr] at h1; exact opts_inA (h r (List.mem_of_getElem? hr)) h1
theorem StA.chg {s : RSt} (h : StA s) {span pause nx : Nat} {bar : List Txt} {rows : List Row} (hb : ∀ c ∈ bar, inA c) (hr : ∀ r ∈ rows, inA r.nm) {M : List Txt} (hM : Cod (sitR span bar s.slp rows) M) : StA (chgR pause s nx bar rows M) where
  nm := fun x hx => by
    obtain ⟨i, r, t, h1, h2, rfl⟩ := setCd_mem hx
    exact hr r (List.mem_of_getElem? h1)
  cd := fun x hx c hc => by
    obtain ⟨i, r, t, h1, h2, rfl⟩ := setCd_mem hx
    cases hc
    exact cod_inA hr hM _ (List.mem_of_getElem? h2)
  bar := hb
  slp := by
    have go : ∀ (rows : List Row) (slp : Tb Txt (Txt × Nat)), (∀ r ∈ rows, inA r.nm ∧ ∀ c, r.cd = some c → inA c) → (∀ e ∈ slp, inA e.1 ∧ inA e.2.1) → ∀ e ∈ restIn pause (s.tk + 1) M slp rows, inA e.1 ∧ inA e.2.1 := by
      intro rows
      induction rows with
      | nil => intro slp _ hs; exact hs
      | cons r rows ih =>
        intro slp h1 hs
        refine ih _ (fun x hx => h1 x (List.mem_cons_of_mem _ hx)) fun e he => ?_
        rcases restF_mem he with z | ⟨c, hc, rfl⟩
        · exact hs e z
        · exact ⟨(h1 r List.mem_cons_self).2 c hc, (h1 r List.mem_cons_self).1⟩
    exact go s.rows _ (fun r hr => ⟨h.nm r hr, h.cd r hr⟩) fun e he => h.slp e (List.mem_filter.mp he).1
/-- an item that is told, and the same one with other letters -/
inductive ItTw : D → D → Prop where
  | nm (t : Txt) (h : _root_.L2.DL.inA t) (l : t.length ≤ 100) : ItTw (.str t) (.str (ltT tau92 t))
  | row (t : Txt) (o : Option Txt) (c : Txt) (h : _root_.L2.DL.inA t) (ho : ∀ x, o = some x → _root_.L2.DL.inA x ∧ x.length ≤ 100) (hc : _root_.L2.DL.inA c) (l : t.length ≤ 100) (lc : c.length ≤ 100) :
      ItTw (.tup [.str t, optD o, .str c]) (.tup [.str (ltT tau92 t), optD (o.map (ltT tau92)), .str (ltT tau92 c)])
theorem asc_tau {t : Txt} (h : inA t) : asc (ltT tau92 t) := fun c hc => by
  have := tau92_ok.lowT h.low c hc
  omega
theorem ItTw.lay {d e : D} (h : ItTw d e) : Lay 1 e := by
  cases h with
  | nm t h l => exact Lay.str (k := 1) (asc_tau h)
  | row t o c h ho hc l lc =>
    refine Lay.tup (k := 0) fun x hx => ?_
    simp only [List.mem_cons, List.not_mem_nil, or_false] at hx
    rcases hx with rfl | rfl | rfl
    · exact Lay.str (asc_tau h)
    · cases o with
      | none => exact Lay.non
      | some x => exact Lay.str (asc_tau (ho x rfl).1)
    · exact Lay.str (asc_tau hc)
end L2.DL
/-! RB: target = ys.pop(e) of an own list. -/
namespace L2.DL
open PySem PySem.Spec PyProof.Rows
/-! ### worked out -/
end L2.DL
/-! RC: deeds that may be refused. -/
namespace L2.DL
open PySem PySem.Spec PyProof.Rows L2.AS
/-! ### a container of one's own that stays from here on -/
/-- the first text that is known or stands twice -/
def fstDup (known : List Txt) : List Txt → List Txt → Option Txt
  | _, [] => none
  | seen, t :: r => if t ∈ known ∨ t ∈ seen then some t else fstDup known (seen ++ [t]) r
/-- the first text that is not known or stands twice -/
def fstUn (known : List Txt) : List Txt → List Txt → Option Txt
  | _, [] => none
  | seen, t :: r => if t ∉ known ∨ t ∈ seen then some t else fstUn known (seen ++ [t]) r
/-- the first text that has not so many letters -/
def fstBad (n : Nat) (ts : List Txt) : Option Txt := ts.find? fun t => !decide (t.length = n)
theorem dup_none {known : List Txt} : ∀ {ts seen : List Txt}, fstDup known seen ts = none → (known ++ seen).Nodup → seen.Nodup → (known ++ (seen ++ ts)).Nodup
  | [], seen, _, h, _ => by rw [List.append_nil]; exact h
  | t :: r, seen, h, nd, ns => by
    unfold fstDup at h
    split at h
    · cases h
    · rename_i no
      have h1 : (known ++ (seen ++ [t])).Nodup := by
        rw [← List.append_assoc, List.nodup_append]
        refine ⟨nd, by simp, fun a ha b hb e => no ?_⟩
        rw [List.mem_singleton.mp hb] at e
        rw [← e]
        exact List.mem_append.mp ha
      have := dup_none (ts := r) (seen := seen ++ [t]) h h1 (List.nodup_append.mp h1).2.1
      rwa [List.append_assoc] at this
theorem un_none {known : List Txt} : ∀ {ts seen : List Txt}, fstUn known seen ts = none → seen.Nodup → (∀ t ∈ ts, t ∈ known) ∧ (seen ++ ts).Nodup
  | [], seen, _, h => ⟨fun t ht => (by cases ht), by rw [List.append_nil]; exact h⟩
  | t :: r, seen, h, nd => by
    unfold fstUn at h
    split at h
    · cases h
    · rename_i no
      have no1 : t ∈ known := Decidable.not_not.mp fun z => no (.inl z)
      have no2 : t ∉ seen := fun z => no (.inr z)
      have h1 : (seen ++ [t]).Nodup := by
        rw [List.nodup_append]
        refine ⟨nd, by simp, fun a ha b hb e => no2 ?_⟩
        rw [List.mem_singleton.mp hb] at e
        exact e ▸ ha
      obtain ⟨a, b⟩ := un_none (ts := r) (seen := seen ++ [t]) h h1
      refine ⟨fun u hu => ?_, by rwa [List.append_assoc] at b⟩
      rcases List.mem_cons.mp hu with rfl | z
      · exact no1
      · exact a u z
theorem bad_none {n : Nat} {ts : List Txt} (h : fstBad n ts = none) : ∀ t ∈ ts, t.length = n := fun t ht => by
  have := List.find?_eq_none.mp h t ht
  simpa using this
/-- how a deed is refused ahead of all codings -/
inductive Er where
  | taken (t : Txt) | unknown (t : Txt) | code (t : Txt) | nothing (w : Txt)
def Deed.err (r : Reg) (s : RSt) : Deed → Option Er
  | .add ts => (fstDup (nmsR s) [] ts).map .taken
  | .drop ts => (fstUn (nmsR s) [] ts).map .unknown
  | .ren o n => if o ∉ nmsR s then some (.unknown o) else if n ∈ nmsR s then some (.taken n) else none
  | .ban ts => (fstBad r.span ts).map .code
  | .alw ts => (fstBad r.span ts).map .code
  | .undo => if r.spot = 0 then some (.nothing wUndo) else none
  | .redo => if r.spot + 1 = r.sts.length then some (.nothing wRedo) else none
/-- the form that a deed's texts have -/
def DeedFit (s : RSt) : Deed → Prop
  | .add ts => (∀ t ∈ ts, nameOk t) ∧ s.rows.length + ts.length ≤ 44 ∧ ts.length ≤ 2
  | .drop ts => (∀ t ∈ ts, nameOk t) ∧ ts.length ≤ 2
  | .ren o n => nameOk o ∧ nameOk n
  | .ban ts => (∀ t ∈ ts, nameOk t) ∧ ts.length ≤ 2
  | .alw ts => (∀ t ∈ ts, nameOk t) ∧ ts.length ≤ 2
  | _ => True
theorem Deed.fine {n : Nat} {r : Reg} {s : RSt} {d : Deed} (ok : ROk n r) (so : StOk n r.span s) (f : DeedFit s d) (h : d.err r s = none) : DeedOk r s d := by
  have hsp := ok.spot
  cases d with
  | add ts =>
    have h : fstDup (nmsR s) [] ts = none := by simpa [Deed.err] using h
    exact ⟨f.1, by have := dup_none h (by rw [List.append_nil]; exact so.rws.nd) List.nodup_nil; simpa using this, f.2.1, f.2.2⟩
  | drop ts =>
    have h : fstUn (nmsR s) [] ts = none := by simpa [Deed.err] using h
    obtain ⟨a, b⟩ := un_none h List.nodup_nil
    exact ⟨a, by simpa using b, f.2⟩
  | ren o m =>
    have h : (if o ∉ nmsR s then some (Er.unknown o) else if m ∈ nmsR s then some (Er.taken m) else none) = none := h
    split at h
    · cases h
    · rename_i h1
      split at h
      · cases h
      · rename_i h2
        exact ⟨Decidable.not_not.mp h1, f.2, h2⟩
  | ban ts =>
    have h : fstBad r.span ts = none := by simpa [Deed.err] using h
    exact ⟨fun t ht => ⟨bad_none h t ht, (f.1 t ht).2.2⟩, Nat.zero_le _, f.2⟩
  | alw ts =>
    have h : fstBad r.span ts = none := by simpa [Deed.err] using h
    exact ⟨fun t ht => ⟨bad_none h t ht, (f.1 t ht).2.2⟩, Nat.zero_le _, f.2⟩
  | undo =>
    have h : (if r.spot = 0 then some (Er.nothing wUndo) else none) = none := h
    split at h
    · cases h
    · rename_i h1
      show 0 < r.spot
      omega
  | redo =>
    have h : (if r.spot + 1 = r.sts.length then some (Er.nothing wRedo) else none) = none := h
    split at h
    · cases h
    · rename_i h1
      show r.spot + 1 < r.sts.length
      omega
/-- how a deed ends that may be refused -/
def RegOut (cR cS cN cT cU cC cNo a : Addr) (r : Reg) (n : Nat) (s : RSt) (d : Deed) (C : Cs) (PR : Ret → Cs → Prop) (PX : XD → Cs → Prop) : Prop := match d.err r s with
  | some (.taken t) => PX (.own cT [("name", .str t)]) C
  | some (.unknown t) => PX (.own cU [("name", .str t)]) C
  | some (.code t) => PX (.own cC [("value", .str t)]) C
  | some (.nothing w) => PX (.own cNo [("action", .str w)]) C
  | none => DeedOut r n s d (fun l => PX (.own cN [("crowd", .lst (txs l))]) C) fun r' x => frsD x PR (cput C a (regC cR cS r'))
section
variable {cR cS cN cT cU cC cNo a : Addr} {r : Reg} {n : Nat} {s : RSt} {d : Deed} {C : Cs} {PR : Ret → Cs → Prop} {PX : XD → Cs → Prop}
theorem RegOut.taken {t : Txt} (q : RegOut cR cS cN cT cU cC cNo a r n s d C PR PX) (h : d.err r s = some (.taken t)) : PX (.own cT [("name", .str t)]) C := by unfold RegOut at q; rw [h] at q; exact q
theorem RegOut.unknown {t : Txt} (q : RegOut cR cS cN cT cU cC cNo a r n s d C PR PX) (h : d.err r s = some (.unknown t)) : PX (.own cU [("name", .str t)]) C := by unfold RegOut at q; rw [h] at q; exact q
theorem RegOut.code {t : Txt} (q : RegOut cR cS cN cT cU cC cNo a r n s d C PR PX) (h : d.err r s = some (.code t)) : PX (.own cC [("value", .str t)]) C := by unfold RegOut at q; rw [h] at q; exact q
theorem RegOut.nothing {t : Txt} (q : RegOut cR cS cN cT cU cC cNo a r n s d C PR PX) (h : d.err r s = some (.nothing t)) : PX (.own cNo [("action", .str t)]) C := by unfold RegOut at q; rw [h] at q; exact q
theorem RegOut.out (q : RegOut cR cS cN cT cU cC cNo a r n s d C PR PX) (h : d.err r s = none) : DeedOut r n s d (fun l => PX (.own cN [("crowd", .lst (txs l))]) C) fun r' x => frsD x PR (cput C a (regC cR cS r')) := by unfold RegOut at q; rw [h] at q; exact q
end
/-! ### with letters turned -/
/-! ### words and their texts -/
def wEnter : Txt := [101, 110, 116, 101, 114]
def WdOf (w : Txt) (ts : List Txt) (d : Deed) : Prop := 1 ≤ ts.length ∧ ts.length ≤ 2 ∧ ((w = wEnter ∧ d = .add ts) ∨ (w = wDrop ∧ d = .drop ts) ∨ (∃ o n, w = wRen ∧ ts = [o, n] ∧ d = .ren o n) ∨ (w = wBan ∧ d = .ban ts) ∨ (w = wAlw ∧ d = .alw ts))
theorem WdOf.is {w : Txt} {ts : List Txt} {d : Deed} (h : WdOf w ts d) : (w = wRen → ∃ o m, ts = [o, m] ∧ d = .ren o m) ∧ (w = wEnter → d = .add ts) ∧ (w = wDrop → d = .drop ts) ∧ (w = wBan → d = .ban ts) ∧ (w ≠ wRen → w ≠ wEnter → w ≠ wDrop → w ≠ wBan → d = .alw ts) := by
  rcases h.2.2 with ⟨rfl, rfl⟩ | ⟨rfl, rfl⟩ | ⟨o, m, rfl, rfl, rfl⟩ | ⟨rfl, rfl⟩ | ⟨rfl, rfl⟩ <;> simp [wEnter, wDrop, wRen, wBan, wAlw]
end L2.DL
/-! OJ: o[e] of an object with its own __getitem__. -/
namespace L2.DL
open PySem PySem.Spec PyProof.Rows
structure GetO (K : PySem.W.Frag) (C g : Addr) : Prop where
  at_ : PySem.W.findIn K (.ref C) "__getitem__" = some (some (.ref g))
  fn : PySem.W.isFn K (.ref g) = true
  fi : PySem.W.fnIn K g = true
structure GtV (X : Cx) (C : Addr) (spv : DSpV) : Prop where
  ex : ∃ k g, DCal X.prog X.w X.K X.mg X.base k (.ref g) [] spv ∧ Room (k + 1) X.A ∧ GetO X.K C g
structure QGt (P : Program) (w : World) (K : PySem.W.Frag) (mg : Str → Option Value) (base : Heap) (k : Nat) (C : Addr) (spv : DSpV) : Prop where
  ex : ∃ g, DCal P w K mg base k (.ref g) [] spv ∧ GetO K C g
theorem QGt.to {X : Cx} {j k : Nat} {C : Addr} {spv : DSpV} (c : QGt X.prog X.w X.K X.mg X.base k C spv) (hr : Room j X.A) (h : k + 1 ≤ j) : GtV X C spv := let ⟨g, d, a⟩ := c.ex; ⟨k, g, d, hr.mono h, a⟩
end L2.DL
/-! PA: codes that names hold stay; registers whose codes are options; merges with less. -/
namespace L2.DL
open PySem PySem.Spec PyProof.Rows L2.AS
theorem costRow_z0 {n p : Nat} {c : Cl} {t : Txt} (h : chgI c t = 0) : costRow n p c t 0 = List.replicate (2 * n + 1) 0 := by
  apply List.ext_getElem
  · rw [costRow_len, List.length_replicate]
  · intro i h1 h2
    rw [costRow_at h1, List.getElem_replicate, h]
    simp
theorem best_stay {S : List Cl} {M : List Txt} (c : Cod S M) (h : ∀ (p : Nat) (d : Cl) (t : Txt), S[p]? = some d → M[p]? = some t → d.held = [t]) : Best S M := by
  refine ⟨c, fun M' _ => ?_⟩
  have e : rowSum S M = sm (fun _ => (0 : VS S)) S.length := by
    unfold rowSum
    refine sm_eq fun p hp => ?_
    have hd : S[p]? = some S[p] := List.getElem?_eq_getElem hp
    have hm : M[p]? = some (M[p]'(by rw [c.len]; exact hp)) := List.getElem?_eq_getElem _
    have hh := h p _ _ hd hm
    rw [show M.getD p [] = M[p]'(by rw [c.len]; exact hp) from by rw [List.getD_eq_getElem?_getD, hm]; rfl]
    generalize M[p]'(by rw [c.len]; exact hp) = t at hh
    refine Vc.ext' ?_
    have hn : numCl S[p] t = some 0 := by
      unfold numCl
      rw [hh, if_pos (List.mem_singleton.mpr rfl)]
      show (if t = t then some 0 else _) = _
      rw [if_pos rfl]
    rw [kst_val hd hn, costRow_z0 (by unfold chgI chg; rw [hh]; simp)]
    rfl
  rw [e]
  exact sm_le fun p _ => kst_nonneg S p _
/-! ### codes that are options -/
structure OwnC (span : Nat) (s : RSt) : Prop where
  nd : (cds s).Nodup
  opt : ∀ r ∈ s.rows, ∀ c, r.cd = some c → c ∈ optsR span s.bar s.slp r.nm
theorem lk_restIn {pause t1 : Nat} {M : List Txt} {c : Txt} (h : c ∈ M) : ∀ (rows : List Row) {slp : Tb Txt (Txt × Nat)}, lk c (restIn pause t1 M slp rows) = lk c slp
  | [], _ => rfl
  | r :: rows, slp => by
    show lk c (restIn pause t1 M (restF pause t1 M slp r) rows) = _
    rw [lk_restIn h rows]
    unfold restF
    cases r.cd with
    | none => rfl
    | some d =>
      by_cases e : d ∈ M
      · simp only [e, not_true, false_and, if_false]
      · by_cases e2 : 0 < pause
        · simp only [e, not_false_iff, true_and, if_pos e2]
          rw [lk_pt, if_neg (fun z : c = d => e (z ▸ h))]
        · simp only [e, not_false_iff, true_and, if_neg e2]
theorem OwnC.chg {pause nx span : Nat} {s : RSt} {bar : List Txt} {rows : List Row} {M : List Txt} (n : (ks s.slp).Nodup) (hM : Cod (sitR span bar s.slp rows) M) : OwnC span (chgR pause s nx bar rows M) := by
  refine ⟨by rw [chg_cds hM]; exact hM.nd, fun r hr c hc => ?_⟩
  obtain ⟨i, r0, t, hr0, ht, rfl⟩ := setCd_mem hr
  have e : t = c := Option.some.inj hc
  subst e
  have ho := hM.opt i t ht
  rw [opS_some (c := claimR span bar s.slp r0) (by rw [List.getElem?_map, hr0]; rfl)] at ho
  obtain ⟨h1, h2⟩ := List.mem_filter.mp (show t ∈ (spellS r0.nm span).filter _ from ho)
  rw [Bool.and_eq_true] at h2
  refine List.mem_filter.mpr ⟨h1, ?_⟩
  rw [Bool.and_eq_true]
  refine ⟨h2.1, ?_⟩
  have hl : lk t (restIn pause (s.tk + 1) M (slpCut (s.tk + 1) M s.slp) s.rows) = none := by
    rw [lk_restIn (List.mem_of_getElem? ht)]
    unfold slpCut
    rw [lk_flt n]
    cases lk t s.slp with
    | none => rfl
    | some x => simp [List.mem_of_getElem? ht]
  show slpOk (restIn pause (s.tk + 1) M (slpCut (s.tk + 1) M s.slp) s.rows) r0.nm t = true
  unfold slpOk
  rw [hl]
structure MOkC (n : Nat) (r : Reg) : Prop where
  m : MOk n r
  own : ∀ s ∈ r.sts, OwnC r.span s
theorem MOkC.push {n : Nat} {r : Reg} {s : RSt} {d : Deed} {M : List Txt} (h : MOkC n r) (hs : r.sts[r.spot]? = some s) (h7 : (d.rows s).length ≤ 7) (hM : Cod (sitR r.span (d.bar s) s.slp (d.rows s)) M) (ok : ROk (n + 1) (r.push (chgR r.pause s (d.nx s) (d.bar s) (d.rows s) M))) : MOkC (n + 1) (r.push (chgR r.pause s (d.nx s) (d.bar s) (d.rows s) M)) :=
  ⟨h.m.push hs h7 hM ok, fun x hx => by
    rcases List.mem_append.mp (show x ∈ r.sts.take (r.spot + 1) ++ [_] from hx) with hx | hx
    · exact h.own x (List.mem_of_mem_take hx)
    · rw [List.mem_singleton.mp hx]; exact OwnC.chg (h.m.ok.st s (List.mem_of_getElem? hs)).slpN hM⟩
theorem MOkC.mono {n m : Nat} {r : Reg} (h : MOkC n r) (l : n ≤ m) (hm : m ≤ 100) : MOkC m r := ⟨h.m.mono l hm, h.own⟩
/-! ### names that are dropped -/
abbrev cdsR (rows : List Row) : List Txt := rows.map fun r => r.cd.getD []
theorem setCd_self : ∀ {rows : List Row}, (∀ r ∈ rows, r.cd ≠ none) → setCd rows (cdsR rows) = rows
  | [], _ => rfl
  | r :: rows, h => by
    have ih := setCd_self (rows := rows) fun x hx => h x (List.mem_cons_of_mem _ hx)
    have hr := h r List.mem_cons_self
    show { r with cd := some (r.cd.getD []) } :: setCd rows (cdsR rows) = _
    rw [ih]
    congr 1
    cases e : r.cd with
    | none => exact absurd e hr
    | some c => cases r; simp at e; subst e; rfl
theorem own_best {n span : Nat} {s : RSt} {rows : List Row} (so : StOk n span s) (o : OwnC span s) (h : rows.Sublist s.rows) : Best (sitR span s.bar s.slp rows) (cdsR rows) := by
  have at_ : ∀ (p : Nat) (r : Row), rows[p]? = some r → ∃ c, r.cd = some c ∧ c ∈ optsR span s.bar s.slp r.nm := fun p r hr => by
    have hm := h.subset (List.mem_of_getElem? hr)
    obtain ⟨c, hc, _⟩ := so.cd r hm
    exact ⟨c, hc, o.opt r hm c hc⟩
  refine best_stay ⟨by rw [List.length_map, List.length_map], fun p t ht => ?_, o.nd.sublist (h.map _)⟩ fun p d t hd ht => ?_
  · rw [List.getElem?_map] at ht
    obtain ⟨r, hr, rfl⟩ := Option.map_eq_some_iff.mp ht
    obtain ⟨c, hc, ho⟩ := at_ p r hr
    rw [opS_some (c := claimR span s.bar s.slp r) (by rw [List.getElem?_map, hr]; rfl), hc]
    exact ho
  · rw [List.getElem?_map] at ht hd
    obtain ⟨r, hr, rfl⟩ := Option.map_eq_some_iff.mp ht
    rw [hr] at hd
    cases hd
    obtain ⟨c, hc, _⟩ := at_ p r hr
    show r.cd.toList = [r.cd.getD []]
    rw [hc]; rfl
/-! ### merges with less -/
/-- a state with some of another one's names and bans -/
structure LessR (b s : RSt) : Prop where
  rows : s.rows.Sublist b.rows
  bar : ∀ t ∈ s.bar, t ∈ b.bar
theorem LessR.cd {nx : Nat} {b s : RSt} (h : LessR b s) (hb : RwOk nx b.rows) {t c : Txt} (hc : cdR s t = some c) : cdR b t = some c := by
  unfold cdR at hc
  cases hf : s.rows.find? (fun r => decide (r.nm = t)) with
  | none => rw [hf] at hc; cases hc
  | some r =>
    rw [hf] at hc
    have hn := List.find?_some hf
    have hm := h.rows.subset (List.mem_of_find?_eq_some hf)
    have e : r.nm = t := by simpa using hn
    subst e
    rw [cdR_some hb hm]
    exact hc
/-! ### what a register's names get -/
end L2.DL
/-! PB: best codings of small situations by going through all. -/
namespace L2.DL
open PySem PySem.Spec PyProof.Rows L2.AS
/-! ### abcd, bcda, cdab -/
def n1 : Txt := [97, 98, 99, 100]
def n2 : Txt := [98, 99, 100, 97]
def n3 : Txt := [99, 100, 97, 98]
end L2.DL
/-! PD: is True, is False. -/
namespace L2.DL
open PySem PySem.Spec PyProof.Rows
end L2.DL
/-! PE: [*d.values(), ..]. -/
namespace L2.DL
open PySem PySem.Spec PyProof.Rows
end L2.DL
/-! PF: what a certificate adds up to. -/
namespace L2.AS
open Lean.Grind
end L2.AS
namespace L2.DL
open PySem PySem.Spec PyProof.Rows L2.AS
end L2.DL
/-! PG: ts.count(t) of texts. -/
namespace L2.DL
open PySem PySem.Spec PyProof.Rows
end L2.DL
/-! PH: a container of one's own is read as if it were shared, while the cells stay hidden; what comes of it is a list of texts, and all is as it was. -/
namespace L2.DL
open PySem PySem.Spec PyProof.Rows
end L2.DL
/-! PJ: the same claims in another order: as many kept names. -/
namespace L2.DL
open PySem PySem.Spec PyProof.Rows L2.AS
/-- the code a coding gives to a name -/
def fnC (N M : List Txt) (t : Txt) : Txt := (lk t (N.zip M)).getD []
theorem fnC_map {N M : List Txt} (nd : N.Nodup) (hl : M.length = N.length) : N.map (fnC N M) = M := by
  refine List.ext_getElem (by rw [List.length_map, hl]) fun i h1 h2 => ?_
  have hi : i < N.length := by rw [List.length_map] at h1; exact h1
  rw [List.getElem_map]
  unfold fnC
  have hk : (ks (N.zip M)).Nodup := by
    unfold ks
    rw [List.map_fst_zip (by rw [hl]; exact Nat.le_refl _)]
    exact nd
  rw [lk_of hk (List.mem_iff_getElem?.mpr ⟨i, by
    rw [List.getElem?_zip_eq_some]
    exact ⟨List.getElem?_eq_getElem hi, List.getElem?_eq_getElem h2⟩⟩)]
  rfl
theorem cod_fn {N : List Txt} {c : Txt → Cl} {f : Txt → Txt} : Cod (N.map c) (N.map f) ↔ (∀ t ∈ N, f t ∈ (c t).opts) ∧ (N.map f).Nodup := by
  constructor
  · intro h
    refine ⟨fun t ht => ?_, h.nd⟩
    obtain ⟨i, hi⟩ := List.getElem?_of_mem ht
    have := h.opt i (f t) (by rw [List.getElem?_map, hi]; rfl)
    rwa [opS_some (by rw [List.getElem?_map, hi]; rfl)] at this
  · rintro ⟨h1, h2⟩
    refine ⟨by rw [List.length_map, List.length_map], fun p u hu => ?_, h2⟩
    rw [List.getElem?_map] at hu
    obtain ⟨t, ht, rfl⟩ := Option.map_eq_some_iff.mp hu
    rw [opS_some (by rw [List.getElem?_map, ht]; rfl)]
    exact h1 t (List.mem_of_getElem? ht)
theorem sgn_head {a b : Int} {x y : List Int} (h : sgn (a :: x) (b :: y) ≤ 0) : a ≤ b := by
  unfold sgn at h
  split at h
  · omega
  · omega
/-- a best coding keeps as many names as any -/
theorem best_keeps {S : List Cl} {M M' : List Txt} (h : Best S M) (h' : Cod S M') : (keptT S M').length ≤ (keptT S M).length := by
  have hb : sgn (rowSum S M).1 (rowSum S M').1 ≤ 0 := h.best M' h'
  rw [rowSum_val h.cod, rowSum_val h'] at hb
  have hs : (chs S M).sum ≤ (chs S M').sum := sgn_head hb
  have k1 := kept_len S M h.cod.len
  have k2 := kept_len S M' h'.len
  omega
/-! ### merges either way -/
end L2.DL
/-! PK: tuple(a text): a tuple of its signs that tells its object. -/
namespace L2.DL
open PySem PySem.Spec PyProof.Rows
end L2.DL
/-! QA: new containers within a tuple as cells; an expression that reads all cells as if they were laid, for a result without addresses. -/
namespace L2.DL
open PySem PySem.Spec PyProof.Rows
section
variable {X : Cx} {e e2 : Expr} {pos pos' : Pos}
/-- return (new, new): both are cells -/
def sRetC2 (m1 m2 : EM Cont) : SM := fun E dE env C => m1 E env C fun c1 env1 C1 => ∀ a, C1 a = none → m2 E env1 (cput C1 a (cellOf c1)) fun c2 _ C2 => ∀ b, C2 b = none → dE.rt (.shr (.tup [.cell a, .cell b])) (cput C2 b (cellOf c2))
end
/-- the tree with its cells read -/
inductive RdC (C : Cs) : D → D → Prop
  | same (d : D) : RdC C d d
  | lst {a : Addr} {xs : List D} : C a = some (.lst xs) → RdC C (.cell a) (.lst xs)
  | dct {a : Addr} {kvs : List (DK × D)} : C a = some (.dct kvs) → RdC C (.cell a) (.dct kvs)
  | two {d1 d2 e1 e2 : D} : RdC C d1 e1 → RdC C d2 e2 → RdC C (.tup [d1, d2]) (.tup [e1, e2])
/-- a result without addresses -/
def imm : D → Prop
  | .non | .bl _ | .int _ | .str _ => True
  | _ => False
/-- all cells laid -/
def hideH (Hs H : Hp) (C : Cs) : Hp := fun a => if (C a).isSome then H a else Hs a
def hideA (Z : Z0) (H : Hp) (C : Cs) : Z0 := { Z with Hs := hideH Z.Hs H C, H := fun a => if (C a).isSome then H a else Z.H a, C := fun a => if (C a).isSome then none else Z.C a }
theorem hideH_some {Hs H : Hp} {C : Cs} {a : Addr} {c : Cell} (h : C a = some c) : hideH Hs H C a = H a := by simp [hideH, h]
theorem hideH_none {Hs H : Hp} {C : Cs} {a : Addr} (h : C a = none) : hideH Hs H C a = Hs a := by simp [hideH, h]
theorem RdC.rep {K : PySem.W.Frag} {Hs H : Hp} {C : Cs} {d d' : D} (f : Fits K Hs H C) (sH : Same Hs (hideH Hs H C)) (r : RdC C d d') : ∀ {v : V}, Rep K Hs d v → Rep K (hideH Hs H C) d' v := by
  induction r with
  | same d => exact fun h => h.same sH
  | lst hc =>
    intro v h
    cases h
    obtain ⟨_, o, h2, vs, rfl, h3⟩ := f.cel _ _ hc
    exact .lst (by rw [hideH_some hc]; exact h2) (h3.same sH)
  | dct hc =>
    intro v h
    cases h
    obtain ⟨_, o, h2, vs, rfl, h3⟩ := f.cel _ _ hc
    exact .dct (.inl (by rw [hideH_some hc]; exact h2)) (h3.same sH)
  | two _ _ i1 i2 =>
    intro v h
    cases h with
    | tup ht hr =>
      cases hr with
      | cons h1 hr =>
        cases hr with
        | cons h2 hr =>
          cases hr
          exact .tup (TupA.same sH ht) (.cons (i1 h1) (.cons (i2 h2) .nil))
section
variable {env : DL.Env} {C : Cs} {E : EX} {m1 m2 : EM Cont}
theorem j_retC2 {nx bk ct : DL.Env → Cs → Prop} {rt : Ret → Cs → Prop} (q : m1 E env C fun c1 env1 C1 => ∀ a, C1 a = none → m2 E env1 (cput C1 a (cellOf c1)) fun c2 _ C2 => ∀ b, C2 b = none → rt (.shr (.tup [.cell a, .cell b])) (cput C2 b (cellOf c2))) : sRetC2 m1 m2 E ⟨nx, rt, bk, ct⟩ env C := q
end
/-! ### clear of a table that is a cell -/
def sClrD (mo : EM D) : SM := fun E dE env C => mo E env C fun d env1 C1 => ∃ a kvs, d = .cell a ∧ C1 a = some (.dct kvs) ∧ dE.nx env1 (cput C1 a (.dct []))
theorem j_clrD {env : DL.Env} {C : Cs} {E : EX} {mo : EM D} {nx bk ct : DL.Env → Cs → Prop} {rt : Ret → Cs → Prop} (q : mo E env C fun d env1 C1 => ∃ a kvs, d = .cell a ∧ C1 a = some (.dct kvs) ∧ nx env1 (cput C1 a (.dct []))) : sClrD mo E ⟨nx, rt, bk, ct⟩ env C := q
/-! ### two cells of a written pair are laid: nobody writes them any more -/
end L2.DL
/-! QC: try with two except clauses, the first with a name. -/
namespace L2.DL
open PySem PySem.Spec PyProof.Rows
/-! ### over trees -/
def CatchT (yes no yes2 no2 : List Addr) (i : Nat) (ms : Addr → Value → Option Addr → SM) (ms2 : SM) (E : EX) (dE : DEnds) (x : XD) (env : DL.Env) (C : Cs) : Prop := match x with
  | .own B fs => (B ∈ yes ∧ ∀ a dd, C a = none → ms a (.ref B) (some dd) E0 (dE.gone i) (env.set i (.shr (.exc a B dd fs))) C) ∨ (B ∈ no ∧ ((B ∈ yes2 ∧ ms2 E0 dE env C) ∨ (B ∈ no2 ∧ E (.own B fs) env C)))
  | .blt _ => False
def sTryT (yes no yes2 no2 : List Addr) (i : Nat) (mb : SM) (ms : Addr → Value → Option Addr → SM) (ms2 : SM) : SM := fun E dE env C => mb (CatchT yes no yes2 no2 i ms ms2 E dE) dE env C
section
variable {X : Cx} {x y n : Str} {c c2 : Addr} {i : Nat} {body suite suite2 : List Stmt} {b₀ b₁ : Stmt} {np nq pos pos' pos2 : Pos}
theorem j_tryT {E : EX} {env : DL.Env} {C : Cs} {yes no yes2 no2 : List Addr} {mb ms2 : SM} {ms : Addr → Value → Option Addr → SM} {nx bk ct : DL.Env → Cs → Prop} {rt : Ret → Cs → Prop} (q : mb (CatchT yes no yes2 no2 i ms ms2 E ⟨nx, rt, bk, ct⟩) ⟨nx, rt, bk, ct⟩ env C) : sTryT yes no yes2 no2 i mb ms ms2 E ⟨nx, rt, bk, ct⟩ env C := q
end
end L2.DL
/-! QB: states that may be compared; what merges tell, compared. -/
namespace L2.DL
open PySem PySem.Spec PyProof.Rows L2.AS
theorem push_at2 (r : Reg) (s : RSt) (h : r.spot < r.sts.length) : (r.push s).sts[(r.push s).spot]? = some s := by
  show (r.sts.take (r.spot + 1) ++ [s])[r.spot + 1]? = _
  rw [List.getElem?_append_right (by rw [List.length_take]; omega), List.length_take, Nat.min_eq_left (by omega)]
  simp
/-- few names, whose codes are options -/
structure H8 (span : Nat) (s : RSt) : Prop where
  n : s.rows.length ≤ 8
  o : OwnC span s
end L2.DL
/-! QD: match with a pattern of three names and a guard, and a last case for the rest. -/
namespace L2.DL
open PySem PySem.Spec PyProof.Rows
/-- what a thing is for a pattern of a sequence: nothing known, no sequence, a sequence -/
def mseqD : D → Option (Option (List D))
  | .non | .bl _ | .int _ | .str _ | .dct _ => some none
  | .tup xs | .lst xs => some (some xs)
  | _ => none
def MSeq (d : D) (no : Prop) (yes : D → D → D → Prop) : Prop := match mseqD d with
  | some (some [x, y, z]) => yes x y z
  | some _ => no
  | none => False
section
variable {X : Cx} {e g : Expr} {body rest : List Stmt} {n1 n2 n3 : Str} {p1 p2 p3 p4 p5 pos : Pos} {i j l : Nat}
theorem len_cases {α : Type} (xs : List α) : (∃ x y z, xs = [x, y, z]) ∨ xs.length ≠ 3 := by
  cases xs with
  | nil => exact .inr (by simp)
  | cons x xs => cases xs with
    | nil => exact .inr (by simp)
    | cons y xs => cases xs with
      | nil => exact .inr (by simp)
      | cons z xs => cases xs with
        | nil => exact .inl ⟨x, y, z, rfl⟩
        | cons w xs => exact .inr (by simp)
theorem MSeq.no {d : D} {no : Prop} {yes : D → D → D → Prop} {xs : List D} (h : mseqD d = some (some xs)) (hl : xs.length ≠ 3) (q : MSeq d no yes) : no := by
  unfold MSeq at q
  rw [h] at q
  rcases len_cases xs with ⟨x, y, z, rfl⟩ | _
  · exact absurd rfl hl
  · split at q
    · rename_i e; cases e; exact absurd rfl hl
    · exact q
    · rename_i e; cases e
end
end L2.DL
/-! QE: right claims. -/
namespace L2.DL
open PySem PySem.Spec PyProof.Rows L2.AS
end L2.DL
/-! QF: registers at rest: changes that change nothing; two accounts of a deed with registers that are alike up to now. -/
namespace L2.DL
open PySem PySem.Spec PyProof.Rows L2.AS
theorem sitR_bar {span : Nat} {b1 b2 : List Txt} {slp : Tb Txt (Txt × Nat)} {rows : List Row} (h : ∀ t, t ∈ b1 ↔ t ∈ b2) : sitR span b1 slp rows = sitR span b2 slp rows := by
  refine List.map_congr_left fun r _ => ?_
  show (⟨_, _, optsR span b1 slp r.nm⟩ : Cl) = ⟨_, _, optsR span b2 slp r.nm⟩
  have : optsR span b1 slp r.nm = optsR span b2 slp r.nm := by
    unfold optsR
    refine List.filter_congr fun o _ => ?_
    rw [decide_eq_decide.mpr (h o)]
  rw [this]
theorem rest_best {n span : Nat} {s : RSt} {bar : List Txt} (so : StOk n span s) (o : OwnC span s) (h : ∀ t, t ∈ bar ↔ t ∈ s.bar) : Best (sitR span bar s.slp s.rows) (cdsR s.rows) := by
  rw [sitR_bar h]; exact own_best so o (List.Sublist.refl _)
theorem old_self {rows : List Row} (h : (rows.map (·.b)).Nodup) : ∀ r ∈ rows, oldOf rows r.b = r.cd := by
  induction rows with
  | nil => intro r hr; cases hr
  | cons x rows ih =>
    rw [List.map_cons, List.nodup_cons] at h
    intro r hr
    unfold oldOf
    rw [List.find?_cons]
    rcases List.mem_cons.mp hr with rfl | hr
    · simp
    · have hne : x.b ≠ r.b := fun e => h.1 (e ▸ List.mem_map_of_mem (f := (·.b)) hr)
      simp only [hne, decide_false]
      exact ih h.2 r hr
theorem told_self {rows : List Row} (h : (rows.map (·.b)).Nodup) : toldD rows rows = .lst [] := by
  show D.lst ((toldR rows rows).map _) = _
  have : toldR rows rows = [] := by
    unfold toldR
    rw [List.filter_eq_nil_iff]
    intro r hr
    simp [old_self h r hr]
  rw [this]; rfl
/-- the state behind a change that changes nothing -/
abbrev calmS (p nx : Nat) (bar : List Txt) (s : RSt) : RSt := chgR p s nx bar s.rows (cdsR s.rows)
theorem calm_rows {n span p nx : Nat} {bar : List Txt} {s : RSt} (so : StOk n span s) : (calmS p nx bar s).rows = s.rows := setCd_self fun x hx => by
  obtain ⟨c', hc', _⟩ := so.cd x hx
  rw [hc']; simp
theorem calm_told {n span : Nat} {s : RSt} (so : StOk n span s) : toldC s.rows (setCd s.rows (cdsR s.rows)) = .lst [] := by
  rw [setCd_self fun x hx => by
    obtain ⟨c', hc', _⟩ := so.cd x hx
    rw [hc']; simp]
  have := told_self so.rws.bn
  show Cont.lst _ = _
  have h2 : (toldR s.rows s.rows).map (tolD s.rows) = [] := by
    have h3 : D.lst ((toldR s.rows s.rows).map (tolD s.rows)) = D.lst [] := this
    injection h3
  rw [h2]
theorem calm_h8 {n span p nx : Nat} {bar : List Txt} {s : RSt} (so : StOk n span s) (h : H8 span s) (hb : ∀ t, t ∈ bar ↔ t ∈ s.bar) : H8 span (calmS p nx bar s) :=
  ⟨by rw [calm_rows so]; exact h.n, OwnC.chg so.slpN (rest_best so h.o hb).cod⟩
/-- registers that are alike up to now -/
structure Alike (r1 r : Reg) : Prop where
  sp : r1.span = r.span
  p : r1.pause = r.pause
  st : r1.spot = r.spot
  tk : r1.sts.take (r1.spot + 1) = r.sts.take (r.spot + 1)
theorem Alike.push {r1 r : Reg} (h : Alike r1 r) (s : RSt) : r1.push s = r.push s := by
  unfold Reg.push
  obtain ⟨a, b, c, d⟩ := r1
  obtain ⟨a', b', c', d'⟩ := r
  obtain ⟨h1, h2, h3, h4⟩ := h
  simp only at h1 h2 h3 h4
  subst h1 h2 h3
  simp only [h4]
theorem Alike.refl (r : Reg) : Alike r r := ⟨rfl, rfl, rfl, rfl⟩
theorem Alike.at {r1 r : Reg} (h : Alike r1 r) : r1.sts[r1.spot]? = r.sts[r.spot]? := by
  have e : ∀ x : Reg, x.sts[x.spot]? = (x.sts.take (x.spot + 1))[x.spot]? := fun x => by rw [List.getElem?_take]; simp
  rw [e r1, e r, h.tk, h.st]
/-- two accounts of a deed, of registers that are alike -/
theorem DeedOut.two {r1 r : Reg} {n1 n : Nat} {s : RSt} {d : Deed} {P1 : Prop} {P2 : Reg → Prop} {X Y : Reg → Prop} (h : Alike r1 r) (hu : d ≠ .undo) (hr : d ≠ .redo) (h1 : P1)
    (h2 : ∀ M, Cod (sitR r.span (d.bar s) s.slp (d.rows s)) M → ROk (n1 + 1) (r.push (chgR r.pause s (d.nx s) (d.bar s) (d.rows s) M)) → ROk (n + 1) (r.push (chgR r.pause s (d.nx s) (d.bar s) (d.rows s) M)) → P2 (r.push (chgR r.pause s (d.nx s) (d.bar s) (d.rows s) M))) :
    DeedOut r1 n1 s d (fun _ => DeedOut r n s d (fun _ => P1) (fun r' _ => X r')) (fun r1' _ => DeedOut r n s d (fun _ => Y r1') (fun r' _ => r1' = r' ∧ P2 r')) := by
  have key : ∀ (nx : Nat) (bar : List Txt) (rows : List Row), (∀ M, Cod (sitR r.span bar s.slp rows) M → ROk (n1 + 1) (r.push (chgR r.pause s nx bar rows M)) → ROk (n + 1) (r.push (chgR r.pause s nx bar rows M)) → P2 (r.push (chgR r.pause s nx bar rows M))) →
      (∀ (m : Nat) (pl : List Nat), L2.AS.Crowd (prb (sitR r1.span bar s.slp rows)) m pl → (∀ (m' : Nat) (pl' : List Nat), L2.AS.Crowd (prb (sitR r.span bar s.slp rows)) m' pl' → P1) ∧ ∀ M, Best (sitR r.span bar s.slp rows) M → ROk (n + 1) (r.push (chgR r.pause s nx bar rows M)) → X (r.push (chgR r.pause s nx bar rows M))) ∧
      (∀ M, Best (sitR r1.span bar s.slp rows) M → ROk (n1 + 1) (r1.push (chgR r1.pause s nx bar rows M)) → (∀ (m' : Nat) (pl' : List Nat), L2.AS.Crowd (prb (sitR r.span bar s.slp rows)) m' pl' → Y (r1.push (chgR r1.pause s nx bar rows M))) ∧
        ∀ M', Best (sitR r.span bar s.slp rows) M' → ROk (n + 1) (r.push (chgR r.pause s nx bar rows M')) → r1.push (chgR r1.pause s nx bar rows M) = r.push (chgR r.pause s nx bar rows M') ∧ P2 (r.push (chgR r.pause s nx bar rows M'))) := fun nx bar rows h2 => by
    have eq : ∀ M, r1.push (chgR r1.pause s nx bar rows M) = r.push (chgR r.pause s nx bar rows M) := fun M => by rw [h.p]; exact h.push _
    rw [h.sp]
    refine ⟨fun m pl cr => ⟨fun _ _ _ => h1, fun M hM _ => absurd hM.cod (crowd_no cr M)⟩, fun M hM okM => ⟨fun m' pl' cr' => absurd hM.cod (crowd_no cr' M), fun M' hM' okM' => ?_⟩⟩
    have := hM.only held_sitR hM'
    subst this
    rw [eq] at okM ⊢
    exact ⟨rfl, h2 _ hM.cod okM okM'⟩
  cases d with
  | undo => exact absurd rfl hu
  | redo => exact absurd rfl hr
  | add ts => exact key _ _ _ h2
  | drop ts => exact key _ _ _ h2
  | ren o n => exact key _ _ _ h2
  | ban ts => exact key _ _ _ h2
  | alw ts => exact key _ _ _ h2
/-- i changes that changed nothing behind the state s0 of r0 -/
structure Calm (r0 : Reg) (s0 : RSt) (i N : Nat) (r : Reg) (s : RSt) : Prop where
  ok : ROk N r
  hs : r.sts[r.spot]? = some s
  all : ∀ x ∈ r.sts, H8 r.span x
  sp : r.span = r0.span
  p : r.pause = r0.pause
  st : r.spot = r0.spot + i
  tk : r.sts.take (r0.spot + 1) = r0.sts.take (r0.spot + 1)
  rows : s.rows = s0.rows
  c : s.tk = s0.tk + i
theorem Calm.no {r0 r : Reg} {s0 s : RSt} {i N : Nat} {bar : List Txt} (K : Calm r0 s0 i N r s) (hb : ∀ t, t ∈ bar ↔ t ∈ s.bar) {m : Nat} {pl : List Nat} (cr : L2.AS.Crowd (prb (sitR r.span bar s.slp s.rows)) m pl) : False :=
  crowd_no cr _ (rest_best (K.ok.st s (List.mem_of_getElem? K.hs)) (K.all s (List.mem_of_getElem? K.hs)).o hb).cod
theorem Calm.step {r0 r : Reg} {s0 s : RSt} {i N nx : Nat} {bar : List Txt} {M : List Txt} (K : Calm r0 s0 i N r s) (hb : ∀ t, t ∈ bar ↔ t ∈ s.bar) (hM : Best (sitR r.span bar s.slp s.rows) M) (okM : ROk (N + 1) (r.push (chgR r.pause s nx bar s.rows M))) :
    toldC s.rows (setCd s.rows M) = .lst [] ∧ ∃ s', Calm r0 s0 (i + 1) (N + 1) (r.push (chgR r.pause s nx bar s.rows M)) s' := by
  have so := K.ok.st s (List.mem_of_getElem? K.hs)
  have h8 := K.all s (List.mem_of_getElem? K.hs)
  have e := hM.only held_sitR (rest_best so h8.o hb)
  subst e
  refine ⟨calm_told so, calmS r.pause nx bar s, okM, push_at2 r _ K.ok.spot, fun x hx => ?_, K.sp, K.p, ?_, ?_, (calm_rows so).trans K.rows, ?_⟩
  · rcases List.mem_append.mp hx with hx | hx
    · exact K.all x (List.mem_of_mem_take hx)
    · rw [List.mem_singleton.mp hx]; exact calm_h8 so h8 hb
  · show r.spot + 1 = _
    have := K.st; omega
  · show (r.sts.take (r.spot + 1) ++ [_]).take (r0.spot + 1) = _
    have h1 := K.ok.spot
    have h2 := K.st
    rw [List.take_append_of_le_length (by rw [List.length_take]; omega), List.take_take, Nat.min_eq_left (by omega)]
    exact K.tk
  · show s.tk + 1 = _
    have := K.c; omega
/-- going back -/
theorem Calm.back {r0 r : Reg} {s0 s : RSt} {i N : Nat} (K : Calm r0 s0 i N r s) : Alike { r with spot := r.spot - i } r0 := by
  have h := K.st
  have e : r.spot - i = r0.spot := by omega
  exact ⟨K.sp, K.p, e, by show r.sts.take (r.spot - i + 1) = _; rw [e]; exact K.tk⟩
end L2.DL
/-! QI: a newcomer among names that hold their codes: rows of names, and what the best coding changes. -/
namespace L2.DL
open PySem PySem.Spec PyProof.Rows L2.AS
/-- names N, each but nc with a code of its own, g, which is one of its options, op -/
structure NewC (N : List Txt) (nc : Txt) (g : Txt → Txt) (op : Txt → List Txt) : Prop where
  nd : N.Nodup
  hn : nc ∈ N
  inj : ∀ x ∈ N, ∀ y ∈ N, x ≠ nc → y ≠ nc → g x = g y → x = y
  ok : ∀ x ∈ N, x ≠ nc → g x ∈ op x
def newCl (nc : Txt) (g : Txt → Txt) (op : Txt → List Txt) (x : Txt) : Cl := ⟨x, if x = nc then [] else [g x], op x⟩
section
variable {N : List Txt} {nc : Txt} {g : Txt → Txt} {op : Txt → List Txt}
def EdgeN (N : List Txt) (nc : Txt) (g : Txt → Txt) (op : Txt → List Txt) (a b : Txt) : Prop := b ∈ N ∧ b ≠ nc ∧ g b ∈ op a
def FreeN (N : List Txt) (nc : Txt) (g : Txt → Txt) (op : Txt → List Txt) (a : Txt) : Prop := ∃ o ∈ op a, ∀ y ∈ N, y ≠ nc → g y ≠ o
inductive PathL (N : List Txt) (nc : Txt) (g : Txt → Txt) (op : Txt → List Txt) : Txt → List Txt → Prop
  | one : PathL N nc g op nc [nc]
  | step {n m : Txt} {R : List Txt} : PathL N nc g op n R → EdgeN N nc g op n m → PathL N nc g op m (R ++ [m])
theorem PathL.mem (hn : nc ∈ N) {n : Txt} {R : List Txt} (h : PathL N nc g op n R) : ∀ x ∈ R, x ∈ N := by
  induction h with
  | one => intro x hx; rw [List.mem_singleton.mp hx]; exact hn
  | step _ e ih =>
    intro x hx
    rcases List.mem_append.mp hx with hx | hx
    · exact ih x hx
    · rw [List.mem_singleton.mp hx]; exact e.1
theorem PathL.pre {n : Txt} {R : List Txt} (h : PathL N nc g op n R) : ∀ x ∈ R, ∃ R', PathL N nc g op x R' ∧ R'.length ≤ R.length := by
  induction h with
  | one => intro x hx; rw [List.mem_singleton.mp hx]; exact ⟨_, .one, Nat.le_refl _⟩
  | step p e ih =>
    intro x hx
    rcases List.mem_append.mp hx with hx | hx
    · obtain ⟨R', h1, h2⟩ := ih x hx
      exact ⟨R', h1, by rw [List.length_append]; omega⟩
    · rw [List.mem_singleton.mp hx]; exact ⟨_, .step p e, Nat.le_refl _⟩
theorem PathL.nodup {n : Txt} {R : List Txt} (h : PathL N nc g op n R) : (∀ R', PathL N nc g op n R' → R.length ≤ R'.length) → R.Nodup := by
  induction h with
  | one => intro _; simp
  | @step n m R p e ih =>
    intro hm
    have h1 : R.Nodup := ih fun R' h' => by
      have := hm _ (.step h' e)
      simp at this; omega
    refine List.nodup_append.mpr ⟨h1, by simp, fun a ha b hb z => ?_⟩
    rw [List.mem_singleton.mp hb] at z
    subst z
    obtain ⟨R', h2, h3⟩ := p.pre a ha
    have := hm R' h2
    simp at this; omega
/-- a row is moved up: each name takes the next one's code, the last one o -/
def shf (g : Txt → Txt) (o : Txt) : List Txt → Txt → Txt
  | [], x => g x
  | [a], x => if x = a then o else g x
  | a :: b :: r, x => if x = a then g b else shf g o (b :: r) x
theorem shf_out {o : Txt} : ∀ {R : List Txt} {x : Txt}, x ∉ R → shf g o R x = g x
  | [], _, _ => rfl
  | [a], x, h => by unfold shf; rw [if_neg (by simpa using h)]
  | a :: b :: r, x, h => by
    have hx : x ≠ a := fun e => h (e ▸ List.mem_cons_self)
    rw [shf, if_neg hx]
    exact shf_out fun z => h (List.mem_cons_of_mem _ z)
theorem shf_inj {o : Txt} {T : Txt → Prop} (inj : ∀ x y, T x → T y → g x = g y → x = y) (ho : ∀ x, T x → g x ≠ o) : ∀ {b : Txt} {r : List Txt}, (∀ x ∈ b :: r, T x) → (b :: r).Nodup →
    (∀ x y, T x → T y → shf g o (b :: r) x = shf g o (b :: r) y → x = y) ∧ ∀ x, T x → shf g o (b :: r) x ≠ g b
  | b, [], hT, _ => by
    have hb := hT b List.mem_cons_self
    refine ⟨fun x y hx hy e => ?_, fun x hx e => ?_⟩
    · unfold shf at e
      by_cases e1 : x = b
      · by_cases e2 : y = b
        · rw [e1, e2]
        · rw [if_pos e1, if_neg e2] at e; exact absurd e.symm (ho y hy)
      · by_cases e2 : y = b
        · rw [if_neg e1, if_pos e2] at e; exact absurd e (ho x hx)
        · rw [if_neg e1, if_neg e2] at e; exact inj x y hx hy e
    · unfold shf at e
      by_cases e1 : x = b
      · rw [if_pos e1] at e; exact ho b hb e.symm
      · rw [if_neg e1] at e; exact e1 (inj x b hx hb e)
  | b, b' :: r, hT, nd => by
    rw [List.nodup_cons] at nd
    have hb := hT b List.mem_cons_self
    have hb' := hT b' (List.mem_cons_of_mem _ List.mem_cons_self)
    obtain ⟨i1, i2⟩ := shf_inj inj ho (b := b') (r := r) (fun x hx => hT x (List.mem_cons_of_mem _ hx)) nd.2
    have hout : shf g o (b' :: r) b = g b := shf_out nd.1
    refine ⟨fun x y hx hy e => ?_, fun x hx e => ?_⟩
    · rw [shf, shf] at e
      by_cases e1 : x = b
      · by_cases e2 : y = b
        · rw [e1, e2]
        · rw [if_pos e1, if_neg e2] at e; exact absurd e.symm (i2 y hy)
      · by_cases e2 : y = b
        · rw [if_neg e1, if_pos e2] at e; exact absurd e (i2 x hx)
        · rw [if_neg e1, if_neg e2] at e; exact i1 x y hx hy e
    · rw [shf] at e
      by_cases e1 : x = b
      · rw [if_pos e1] at e
        exact nd.1 (by rw [inj b' b hb' hb e]; exact List.mem_cons_self)
      · rw [if_neg e1, ← hout] at e
        exact e1 (i1 x b hx hb e)
/-- consecutive names of a path -/
inductive Ch (N : List Txt) (nc : Txt) (g : Txt → Txt) (op : Txt → List Txt) : List Txt → Prop
  | one (a : Txt) : Ch N nc g op [a]
  | cons {a b : Txt} {r : List Txt} : EdgeN N nc g op a b → Ch N nc g op (b :: r) → Ch N nc g op (a :: b :: r)
theorem Ch.snoc {m : Txt} : ∀ {R : List Txt} {n : Txt}, Ch N nc g op R → R.getLast? = some n → EdgeN N nc g op n m → Ch N nc g op (R ++ [m])
  | _, n, .one a, h, e => by
    simp at h; subst h
    exact .cons e (.one m)
  | _, n, .cons (a := a) (b := b) (r := r) e1 c, h, e => by
    refine .cons e1 (Ch.snoc (R := b :: r) (n := n) c ?_ e)
    rw [List.getLast?_cons_cons] at h
    exact h
theorem PathL.ch {n : Txt} {R : List Txt} (h : PathL N nc g op n R) : Ch N nc g op R ∧ R.getLast? = some n ∧ ∃ r, R = nc :: r ∧ ∀ x ∈ r, x ∈ N ∧ x ≠ nc := by
  induction h with
  | one => exact ⟨.one _, rfl, [], rfl, fun x hx => by cases hx⟩
  | @step n m R p e ih =>
    obtain ⟨c, l, r, rfl, hr⟩ := ih
    refine ⟨c.snoc l e, List.getLast?_concat, r ++ [m], rfl, fun x hx => ?_⟩
    rcases List.mem_append.mp hx with hx | hx
    · exact hr x hx
    · rw [List.mem_singleton.mp hx]; exact ⟨e.1, e.2.1⟩
theorem shf_opt {o : Txt} : ∀ {R : List Txt} {n : Txt}, Ch N nc g op R → R.getLast? = some n → o ∈ op n → R.Nodup → ∀ x ∈ R, shf g o R x ∈ op x
  | _, n, .one a, h, ho, _, x, hx => by
    rw [List.mem_singleton.mp hx]
    simp at h; subst h
    unfold shf; rw [if_pos rfl]; exact ho
  | _, n, .cons (a := a) (b := b) (r := r) e c, h, ho, nd, x, hx => by
    rw [List.nodup_cons] at nd
    rw [List.getLast?_cons_cons] at h
    unfold shf
    by_cases e1 : x = a
    · rw [if_pos e1, e1]; exact e.2.2
    · rw [if_neg e1]
      exact shf_opt c h ho nd.2 x ((List.mem_cons.mp hx).resolve_left e1)
/-- moved up along a row whose last name has a free option: a coding, and who is not on the row keeps its code -/
theorem NewC.aug (h : NewC N nc g op) {n : Txt} {R : List Txt} (p : PathL N nc g op n R) (nd : R.Nodup) (hf : FreeN N nc g op n) : ∃ f, Cod (N.map (newCl nc g op)) (N.map f) ∧ ∀ x ∈ N, x ∉ R → f x = g x := by
  obtain ⟨o, ho, hfo⟩ := hf
  obtain ⟨c, l, r, rfl, hr⟩ := p.ch
  have hinj : ∀ x y, (x ∈ N ∧ x ≠ nc) → (y ∈ N ∧ y ≠ nc) → g x = g y → x = y := fun x y hx hy e => h.inj x hx.1 y hy.1 hx.2 hy.2 e
  have hno : ∀ x, (x ∈ N ∧ x ≠ nc) → g x ≠ o := fun x hx => hfo x hx.1 hx.2
  refine ⟨shf g o (nc :: r), cod_fn.mpr ⟨fun t ht => ?_, ?_⟩, fun x _ hx => shf_out hx⟩
  · by_cases hm : t ∈ nc :: r
    · exact shf_opt c l ho nd t hm
    · rw [shf_out hm]
      exact h.ok t ht fun e => hm (e ▸ List.mem_cons_self)
  · refine nd_map h.nd fun x y hx hy e => ?_
    cases r with
    | nil =>
      unfold shf at e
      by_cases e1 : x = nc
      · by_cases e2 : y = nc
        · rw [e1, e2]
        · rw [if_pos e1, if_neg e2] at e; exact absurd e.symm (hno y ⟨hy, e2⟩)
      · by_cases e2 : y = nc
        · rw [if_neg e1, if_pos e2] at e; exact absurd e (hno x ⟨hx, e1⟩)
        · rw [if_neg e1, if_neg e2] at e; exact hinj x y ⟨hx, e1⟩ ⟨hy, e2⟩ e
    | cons b r =>
      rw [List.nodup_cons] at nd
      obtain ⟨i1, i2⟩ := shf_inj hinj hno (b := b) (r := r) hr nd.2
      rw [shf, shf] at e
      by_cases e1 : x = nc
      · by_cases e2 : y = nc
        · rw [e1, e2]
        · rw [if_pos e1, if_neg e2] at e; exact absurd e.symm (i2 y ⟨hy, e2⟩)
      · by_cases e2 : y = nc
        · rw [if_neg e1, if_pos e2] at e; exact absurd e (i2 x ⟨hx, e1⟩)
        · rw [if_neg e1, if_neg e2] at e; exact i1 x y ⟨hx, e1⟩ ⟨hy, e2⟩ e
/-- the row of a coding f from the newcomer on: each next name had the code that the one before it gets -/
inductive RowF (N : List Txt) (nc : Txt) (g f : Txt → Txt) : Txt → List Txt → Prop
  | one : RowF N nc g f nc [nc]
  | step {n m : Txt} {R : List Txt} : RowF N nc g f n R → m ∈ N → m ≠ nc → g m = f n → RowF N nc g f m (R ++ [m])
theorem RowF.path {f : Txt → Txt} (hn : nc ∈ N) (hf : ∀ x ∈ N, f x ∈ op x) {n : Txt} {R : List Txt} (h : RowF N nc g f n R) : PathL N nc g op n R ∧ n ∈ N := by
  induction h with
  | one => exact ⟨.one, hn⟩
  | step _ h1 h2 h3 ih => exact ⟨.step ih.1 ⟨h1, h2, h3 ▸ hf _ ih.2⟩, h1⟩
theorem RowF.last {f : Txt → Txt} {n : Txt} {R : List Txt} (h : RowF N nc g f n R) : ∃ Q, R = Q ++ [n] := by
  cases h with
  | one => exact ⟨[], rfl⟩
  | step h _ _ _ => exact ⟨_, rfl⟩
theorem RowF.prev {f : Txt → Txt} {n : Txt} {R : List Txt} (h : RowF N nc g f n R) : ∀ x ∈ R, x ≠ nc → ∃ p ∈ R.dropLast, g x = f p := by
  induction h with
  | one => intro x hx hne; exact absurd (List.mem_singleton.mp hx) hne
  | @step n m R h h1 h2 h3 ih =>
    intro x hx hne
    obtain ⟨Q, eQ⟩ := h.last
    rw [List.dropLast_concat]
    rcases List.mem_append.mp hx with hx | hx
    · obtain ⟨p, hp, e⟩ := ih x hx hne
      exact ⟨p, (List.dropLast_sublist _).subset hp, e⟩
    · rw [List.mem_singleton.mp hx]
      exact ⟨n, by rw [eQ]; simp, h3⟩
theorem RowF.nodup {f : Txt → Txt} (hn : nc ∈ N) (hi : ∀ x ∈ N, ∀ y ∈ N, f x = f y → x = y) {n : Txt} {R : List Txt} (h : RowF N nc g f n R) : R.Nodup ∧ ∀ x ∈ R, x ∈ N := by
  induction h with
  | one => exact ⟨by simp, fun x hx => by rw [List.mem_singleton.mp hx]; exact hn⟩
  | @step n m R h h1 h2 h3 ih =>
    obtain ⟨i1, i2⟩ := ih
    obtain ⟨Q, eQ⟩ := h.last
    refine ⟨List.nodup_append.mpr ⟨i1, by simp, fun a ha b hb z => ?_⟩, fun x hx => ?_⟩
    · rw [List.mem_singleton.mp hb] at z
      subst z
      obtain ⟨p, hp, e⟩ := h.prev a ha h2
      rw [h3] at e
      have hnR : n ∈ R := by rw [eQ]; simp
      have : n = p := hi n (i2 n hnR) p (i2 p ((List.dropLast_sublist _).subset hp)) e
      rw [eQ] at i1 hp
      rw [List.dropLast_concat] at hp
      exact (List.nodup_append.mp i1).2.2 p hp n (by simp) this.symm
    · rcases List.mem_append.mp hx with hx | hx
      · exact i2 x hx
      · rw [List.mem_singleton.mp hx]; exact h1
theorem RowF.moved {f : Txt → Txt} (hi : ∀ x ∈ N, ∀ y ∈ N, f x = f y → x = y) (hn : nc ∈ N) {n : Txt} {R : List Txt} (h : RowF N nc g f n R) : ∀ x ∈ R, x ≠ nc → f x ≠ g x := by
  obtain ⟨nd, hm⟩ := h.nodup hn hi
  intro x hx hne e
  obtain ⟨p, hp, e2⟩ := h.prev x hx hne
  have hpx := hi x (hm x hx) p (hm p ((List.dropLast_sublist _).subset hp)) (e.trans e2)
  subst hpx
  -- x stands ahead of itself
  have key : ∀ {n : Txt} {R : List Txt}, RowF N nc g f n R → R.Nodup → ∀ x ∈ R, x ≠ nc → ¬ g x = f x := by
    intro n R h
    induction h with
    | one => intro _ x hx hne; exact absurd (List.mem_singleton.mp hx) hne
    | @step n m R h h1 h2 h3 ih =>
      intro nd x hx hne e
      have nd1 := (List.nodup_append.mp nd).1
      rcases List.mem_append.mp hx with hx | hx
      · exact ih nd1 x hx hne e
      · have hxm := List.mem_singleton.mp hx
        subst hxm
        obtain ⟨Q, eQ⟩ := h.last
        have hnR : n ∈ R := by rw [eQ]; simp
        have hR := (RowF.nodup hn hi h).2
        have : n = x := hi n (hR n hnR) x h1 (h3.symm.trans e)
        exact (List.nodup_append.mp nd).2.2 n hnR x (by simp) this
  exact key h nd x hx hne e.symm
theorem kept_eq {c : Txt → Cl} {f : Txt → Txt} (hc : ∀ t, (c t).nm = t) : ∀ N : List Txt, keptT (N.map c) (N.map f) = N.filter fun t => decide (f t ∈ (c t).held)
  | [] => rfl
  | t :: N => by
    have ih := kept_eq (c := c) (f := f) hc N
    unfold keptT at ih ⊢
    rw [List.map_cons, List.map_cons, List.zip_cons_cons, List.filter_cons, List.filter_cons]
    by_cases h : f t ∈ (c t).held
    · rw [if_pos (decide_eq_true h), if_pos (decide_eq_true h), List.map_cons, ih]
      show (c t).nm :: _ = _
      rw [hc]
    · rw [if_neg (by simpa using h), if_neg (by simpa using h), ih]
theorem filter_eq_of {α : Type} {p q : α → Bool} : ∀ {l : List α}, (∀ x ∈ l, p x = true → q x = true) → (l.filter q).length ≤ (l.filter p).length → l.filter p = l.filter q
  | [], _, _ => rfl
  | x :: l, h, hl => by
    have hle : (l.filter p).length ≤ (l.filter q).length := by
      rw [← List.countP_eq_length_filter, ← List.countP_eq_length_filter]
      exact List.countP_mono_left fun y hy => h y (List.mem_cons_of_mem _ hy)
    have h' : ∀ y ∈ l, p y = true → q y = true := fun y hy => h y (List.mem_cons_of_mem _ hy)
    rw [List.filter_cons, List.filter_cons] at hl ⊢
    by_cases hp : p x = true
    · have hq := h x List.mem_cons_self hp
      rw [if_pos hp, if_pos hq] at hl ⊢
      rw [filter_eq_of h' (by simpa using hl)]
    · by_cases hq : q x = true
      · rw [if_neg hp, if_pos hq] at hl
        simp at hl; omega
      · rw [if_neg hp, if_neg hq] at hl ⊢
        exact filter_eq_of h' hl
theorem flt_both {α : Type} (p : α → Bool) : ∀ l : List α, (l.filter p).length + (l.filter fun x => !p x).length = l.length
  | [] => rfl
  | x :: l => by
    have ih := flt_both p l
    rw [List.filter_cons, List.filter_cons]
    cases p x <;> simp <;> omega
theorem not_in_len {N R : List Txt} (hN : N.Nodup) (nd : R.Nodup) (hm : ∀ x ∈ R, x ∈ N) : (N.filter fun x => !decide (x ∈ R)).length + R.length = N.length := by
  have h1 : (N.filter fun x => decide (x ∈ R)).length = R.length := by
    refine Nat.le_antisymm (nd_le (hN.filter _) fun x hx => by simpa using (List.mem_filter.mp hx).2) (nd_le nd fun x hx => List.mem_filter.mpr ⟨hm x hx, by simpa using hx⟩)
  have h2 : (N.filter fun x => decide (x ∈ R)).length + (N.filter fun x => !decide (x ∈ R)).length = N.length := flt_both _ N
  omega
/-- the best coding with a newcomer: its row has the least length, and all others keep their codes -/
theorem NewC.best (h : NewC N nc g op) {M : List Txt} (hM : Best (N.map (newCl nc g op)) M) {n : Txt} {R : List Txt} (hR : RowF N nc g (fnC N M) n R) (hend : ∀ y ∈ N, y ≠ nc → g y ≠ fnC N M n)
    {n' : Txt} {R' : List Txt} (p : PathL N nc g op n' R') (hf : FreeN N nc g op n') (hmin : ∀ n'' R'', PathL N nc g op n'' R'' → FreeN N nc g op n'' → R'.length ≤ R''.length) :
    R.length = R'.length ∧ keptT (N.map (newCl nc g op)) M = N.filter fun x => !decide (x ∈ R) := by
  have hl : M.length = N.length := by rw [hM.cod.len, List.length_map]
  have eM := fnC_map h.nd hl
  obtain ⟨c1, c2⟩ := cod_fn.mp (show Cod (N.map (newCl nc g op)) (N.map (fnC N M)) by rw [eM]; exact hM.cod)
  have hi : ∀ x ∈ N, ∀ y ∈ N, fnC N M x = fnC N M y → x = y := fun x hx y hy e => by
    obtain ⟨i, hi⟩ := List.getElem?_of_mem hx
    obtain ⟨j, hj⟩ := List.getElem?_of_mem hy
    have e1 : (N.map (fnC N M))[i]? = some (fnC N M x) := by rw [List.getElem?_map, hi]; rfl
    have e2 : (N.map (fnC N M))[j]? = some (fnC N M x) := by rw [List.getElem?_map, hj, e]; rfl
    have hij : i = j := (List.getElem?_inj (List.getElem?_eq_some_iff.mp e1).1 c2).mp (e1.trans e2.symm)
    subst hij
    rw [hi] at hj
    exact Option.some.inj hj
  obtain ⟨nd, hm⟩ := hR.nodup h.hn hi
  obtain ⟨pR, nN⟩ := hR.path h.hn c1
  have le1 := hmin n R pR ⟨fnC N M n, c1 n nN, hend⟩
  have nd' : R'.Nodup := p.nodup fun R'' p'' => hmin n' R'' p'' hf
  obtain ⟨f', hc', hk'⟩ := h.aug p nd' hf
  have hm' := p.mem h.hn
  have bk := best_keeps hM hc'
  have kf : keptT (N.map (newCl nc g op)) (N.map f') = N.filter fun t => decide (f' t ∈ (newCl nc g op t).held) := kept_eq (fun _ => rfl) N
  have kM : keptT (N.map (newCl nc g op)) M = N.filter fun t => decide (fnC N M t ∈ (newCl nc g op t).held) := by
    conv => lhs; rw [← eM]
    exact kept_eq (fun _ => rfl) N
  have hncR : nc ∈ R := by
    obtain ⟨_, _, r, e, _⟩ := pR.ch
    rw [e]; exact List.mem_cons_self
  have hncR' : nc ∈ R' := by
    obtain ⟨_, _, r, e, _⟩ := p.ch
    rw [e]; exact List.mem_cons_self
  have sub1 : ∀ x ∈ N, decide (fnC N M x ∈ (newCl nc g op x).held) = true → (!decide (x ∈ R)) = true := fun x hx hd => by
    have hd := of_decide_eq_true hd
    unfold newCl at hd
    by_cases e : x = nc
    · simp [e] at hd
    · simp only [e, if_false] at hd
      have := List.mem_singleton.mp hd
      simp only [Bool.not_eq_true', decide_eq_false_iff_not]
      exact fun hxR => hR.moved hi h.hn x hxR e this
  have sub2 : (N.filter fun x => !decide (x ∈ R')).length ≤ (N.filter fun t => decide (f' t ∈ (newCl nc g op t).held)).length := by
    rw [← List.countP_eq_length_filter, ← List.countP_eq_length_filter]
    refine List.countP_mono_left fun x hx hd => ?_
    have hd : x ∉ R' := by simpa using hd
    have e : x ≠ nc := fun e => hd (e ▸ hncR')
    refine decide_eq_true ?_
    unfold newCl
    simp only [e, if_false]
    rw [hk' x hx hd]; simp
  have n1 := not_in_len h.nd nd hm
  have n2 := not_in_len h.nd nd' hm'
  rw [kf, kM] at bk
  have le2 : (N.filter fun t => decide (fnC N M t ∈ (newCl nc g op t).held)).length ≤ (N.filter fun x => !decide (x ∈ R)).length := by
    rw [← List.countP_eq_length_filter, ← List.countP_eq_length_filter]
    exact List.countP_mono_left sub1
  have eL : R.length = R'.length := by omega
  refine ⟨eL, ?_⟩
  rw [kM]
  exact filter_eq_of sub1 (by omega)
/-- a shortest row gives a coding -/
theorem NewC.cod (h : NewC N nc g op) {n : Txt} {R : List Txt} (p : PathL N nc g op n R) (hf : FreeN N nc g op n) (hmin : ∀ R'', PathL N nc g op n R'' → R.length ≤ R''.length) : ∃ M, Cod (N.map (newCl nc g op)) M := by
  obtain ⟨f, hc, _⟩ := h.aug p (p.nodup hmin) hf
  exact ⟨_, hc⟩
end
end L2.DL
/-! QJ: rows found round by round. -/
namespace L2.DL
open PySem PySem.Spec PyProof.Rows L2.AS
section
variable {N : List Txt} {nc : Txt} {g : Txt → Txt} {op : Txt → List Txt}
/-- after k rounds: the last names, those seen -/
structure Rnd (N : List Txt) (nc : Txt) (g : Txt → Txt) (op : Txt → List Txt) (L : List Txt) (k : Nat) (Sn : List Txt) : Prop where
  a : ∀ x ∈ L, ∃ R, PathL N nc g op x R ∧ R.length = k
  b : ∀ n R, PathL N nc g op n R → R.length ≤ k → n ∈ Sn
  c : ∀ n ∈ Sn, n ∉ L → ¬ FreeN N nc g op n ∧ ∀ m, EdgeN N nc g op n m → m ∈ Sn
  d : ∀ x ∈ L, ∀ R, PathL N nc g op x R → k ≤ R.length
  nd : Sn.Nodup
  sub : ∀ x ∈ Sn, x ∈ N
  ls : ∀ x ∈ L, x ∈ Sn
  k1 : 1 ≤ k
theorem PathL.pos {n : Txt} {R : List Txt} (h : PathL N nc g op n R) : 1 ≤ R.length := by
  cases h <;> simp
theorem Rnd.out {k : Nat} {Sn : List Txt} (h : Rnd N nc g op [] k Sn) : ∀ n R, PathL N nc g op n R → ¬ FreeN N nc g op n := fun n R p => by
  have : n ∈ Sn := by
    induction p with
    | one => exact h.b _ _ .one (by simpa using h.k1)
    | step p e ih => exact (h.c _ ih (by simp)).2 _ e
  exact (h.c n this (by simp)).1
theorem Rnd.go {L : List Txt} {k : Nat} {Sn : List Txt} (h : Rnd N nc g op L k Sn) (no : ∀ x ∈ L, ¬ FreeN N nc g op x) {L' : List Txt} (nd' : L'.Nodup) (hL : ∀ y, y ∈ L' ↔ (y ∈ N ∧ y ≠ nc ∧ (∃ x ∈ L, g y ∈ op x) ∧ y ∉ Sn)) :
    Rnd N nc g op L' (k + 1) (Sn ++ L') where
  a := fun y hy => by
    obtain ⟨h1, h2, ⟨x, hx, h3⟩, h4⟩ := (hL y).mp hy
    obtain ⟨R, p, e⟩ := h.a x hx
    exact ⟨R ++ [y], .step p ⟨h1, h2, h3⟩, by simp [e]⟩
  b := fun n R p hl => by
    cases p with
    | one => exact List.mem_append_left _ (h.b _ _ .one (by simpa using h.k1))
    | @step n' _ R' p e =>
      have hs := h.b _ _ p (by simp at hl; omega)
      by_cases hl' : n' ∈ L
      · by_cases hm : n ∈ Sn
        · exact List.mem_append_left _ hm
        · exact List.mem_append_right _ ((hL n).mpr ⟨e.1, e.2.1, ⟨n', hl', e.2.2⟩, hm⟩)
      · exact List.mem_append_left _ ((h.c _ hs hl').2 _ e)
  c := fun n hn hnl => by
    have hs := (List.mem_append.mp hn).resolve_right hnl
    by_cases hl' : n ∈ L
    · refine ⟨no n hl', fun m e => ?_⟩
      by_cases hm : m ∈ Sn
      · exact List.mem_append_left _ hm
      · exact List.mem_append_right _ ((hL m).mpr ⟨e.1, e.2.1, ⟨n, hl', e.2.2⟩, hm⟩)
    · exact ⟨(h.c n hs hl').1, fun m e => List.mem_append_left _ ((h.c n hs hl').2 m e)⟩
  d := fun y hy R p => by
    rcases Nat.lt_or_ge R.length (k + 1) with hl | hl
    · exact absurd (h.b y R p (by omega)) ((hL y).mp hy).2.2.2
    · exact hl
  nd := List.nodup_append.mpr ⟨h.nd, nd', fun a ha b hb e => ((hL b).mp hb).2.2.2 (e ▸ ha)⟩
  sub := fun x hx => (List.mem_append.mp hx).elim (h.sub x) fun hx => ((hL x).mp hx).1
  ls := fun x hx => List.mem_append_right _ hx
  k1 := by omega
end
end L2.DL
/-! QM: two situations as one. -/
namespace L2.DL
open PySem PySem.Spec PyProof.Rows L2.AS
/-- no code in common -/
def Apart (S T : List Cl) : Prop := ∀ c ∈ S, ∀ d ∈ T, ∀ x ∈ c.opts, x ∉ d.opts
theorem Apart.symm {S T : List Cl} (h : Apart S T) : Apart T S := fun d hd c hc x hx hy => h c hc d hd x hy hx
/-- two situations in one: where each one's claims stand -/
structure TwoS (S1 S2 T : List Cl) (e1 e2 : Nat → Nat) : Prop where
  m1 : ∀ i j, i < j → e1 i < e1 j
  m2 : ∀ i j, i < j → e2 i < e2 j
  a1 : ∀ i, i < S1.length → T[e1 i]? = S1[i]?
  a2 : ∀ i, i < S2.length → T[e2 i]? = S2[i]?
  all : ∀ p, p < T.length → (∃ i, i < S1.length ∧ e1 i = p) ∨ ∃ j, j < S2.length ∧ e2 j = p
  ap : ∀ i j, i < S1.length → j < S2.length → e1 i ≠ e2 j
theorem TwoS.swap {S1 S2 T : List Cl} {e1 e2 : Nat → Nat} (h : TwoS S1 S2 T e1 e2) : TwoS S2 S1 T e2 e1 := ⟨h.m2, h.m1, h.a2, h.a1, fun p hp => (h.all p hp).symm, fun i j hi hj e => h.ap j i hj hi e.symm⟩
theorem sub_filter : ∀ {l L : List Txt}, l.Sublist L → L.Nodup → L.filter (fun x => decide (x ∈ l)) = l := by
  intro l L h
  induction h with
  | slnil => intro _; rfl
  | @cons l L a h ih =>
    intro nd
    rw [List.nodup_cons] at nd
    rw [List.filter_cons, if_neg (by simpa using fun z => nd.1 (h.subset z))]
    exact ih nd.2
  | @cons_cons l L a h ih =>
    intro nd
    rw [List.nodup_cons] at nd
    rw [List.filter_cons, if_pos (by simp)]
    congr 1
    conv => rhs; rw [← ih nd.2]
    refine List.filter_congr fun x hx => decide_eq_decide.mpr ⟨fun z => (List.mem_cons.mp z).resolve_left fun e => nd.1 (e ▸ hx), fun z => List.mem_cons_of_mem _ z⟩
theorem sub_eq {l l' L : List Txt} (h : l.Sublist L) (h' : l'.Sublist L) (nd : L.Nodup) (m : ∀ x, x ∈ l ↔ x ∈ l') : l = l' := by
  rw [← sub_filter h nd, ← sub_filter h' nd]
  exact List.filter_congr fun x _ => decide_eq_decide.mpr (m x)
section
variable {S1 S2 T : List Cl} {e1 e2 : Nat → Nat}
theorem TwoS.inj (h : TwoS S1 S2 T e1 e2) {i j : Nat} (e : e1 i = e1 j) : i = j := by
  rcases Nat.lt_trichotomy i j with q | q | q
  · have := h.m1 i j q; omega
  · exact q
  · have := h.m1 j i q; omega
theorem TwoS.op (h : TwoS S1 S2 T e1 e2) {i : Nat} (hi : i < S1.length) : opS T (e1 i) = opS S1 i := by
  rw [opS_some (List.getElem?_eq_getElem hi)]
  exact opS_some (by rw [h.a1 i hi, List.getElem?_eq_getElem hi])
theorem TwoS.lt (h : TwoS S1 S2 T e1 e2) {i : Nat} (hi : i < S1.length) : e1 i < T.length := by
  have := h.a1 i hi
  rw [List.getElem?_eq_getElem hi] at this
  exact (List.getElem?_eq_some_iff.mp this).1
theorem TwoS.names (h : TwoS S1 S2 T e1 e2) (nd : (T.map (·.nm)).Nodup) (sb : (S1.map (·.nm)).Sublist (T.map (·.nm))) {pl pl1 : List Nat} (sd : ∀ q ∈ pl, ∃ k, k < S1.length ∧ e1 k = q) (hpl : ∀ k, k ∈ pl1 ↔ k < S1.length ∧ e1 k ∈ pl) : crowdT 0 T pl = crowdT 0 S1 pl1 := by
  refine sub_eq (crowdT_sub pl 0 T) ((crowdT_sub pl1 0 S1).trans sb) nd fun t => ?_
  rw [crowdT_mem, crowdT_mem]
  constructor
  · rintro ⟨p, c, h1, h2, h3⟩
    rw [Nat.zero_add] at h2
    obtain ⟨k, hk, rfl⟩ := sd p h2
    exact ⟨k, c, by rw [← h.a1 k hk]; exact h1, by rw [Nat.zero_add]; exact (hpl k).mpr ⟨hk, h2⟩, h3⟩
  · rintro ⟨k, c, h1, h2, h3⟩
    rw [Nat.zero_add] at h2
    obtain ⟨hk, hp⟩ := (hpl k).mp h2
    exact ⟨e1 k, c, by rw [h.a1 k hk]; exact h1, by rw [Nat.zero_add]; exact hp, h3⟩
end
end L2.DL
/-! SG: chains of changed names, where the second coding keeps as many names as it can. -/
namespace L2.DL
open PySem PySem.Spec PyProof.Rows L2.AS
/-- a first coding f of some names, a second one s of all; no names could go back to their first codes -/
structure Chn (N : List Txt) (f : Txt → Option Txt) (s : Txt → Txt) : Prop where
  nd : N.Nodup
  si : ∀ x ∈ N, ∀ y ∈ N, s x = s y → x = y
  fi : ∀ x ∈ N, ∀ y ∈ N, f x ≠ none → f x = f y → x = y
  cl : ∀ S : Txt → Prop, (∀ x, S x → x ∈ N ∧ f x ≠ none ∧ f x ≠ some (s x)) → (∀ o, S o → ∀ m ∈ N, f o = some (s m) → S m) → ∀ x, ¬ S x
def chgW (N : List Txt) (f : Txt → Option Txt) (s : Txt → Txt) : List Txt := N.filter fun n => decide (f n ≠ some (s n))
def nxW (N : List Txt) (f : Txt → Option Txt) (s : Txt → Txt) (n : Txt) : Option Txt := (chgW N f s).find? fun m => decide (f m = some (s n))
section
variable {N : List Txt} {f : Txt → Option Txt} {s : Txt → Txt}
theorem mem_chgW {n : Txt} : n ∈ chgW N f s ↔ n ∈ N ∧ f n ≠ some (s n) := by unfold chgW; rw [List.mem_filter]; simp
end
/-! ### reaches -/
inductive Rch (op : Txt → List Txt) (own : Txt → Option Txt) : Txt → Nat → Prop
  | one {n o : Txt} : o ∈ op n → own o = none → Rch op own n 1
  | step {n o m : Txt} {k : Nat} : o ∈ op n → own o = some m → Rch op own m k → Rch op own n (k + 1)
section
variable {op : Txt → List Txt} {own : Txt → Option Txt}
theorem Rch.pos {n : Txt} {k : Nat} (h : Rch op own n k) : 1 ≤ k := by cases h <;> omega
end
end L2.DL
/-! SI: the best coding of names that hold their codes: its chains. -/
namespace L2.DL
open PySem PySem.Spec PyProof.Rows L2.AS
/-- a claim that holds the first code, if there is one -/
def hCl (f : Txt → Option Txt) (op : Txt → List Txt) (x : Txt) : Cl := ⟨x, (f x).toList, op x⟩
end L2.DL
/-! SJ: registers without rest: many names entered at once or one by one; changes that change nothing. -/
namespace L2.DL
open PySem PySem.Spec PyProof.Rows L2.AS
theorem restIn0 {t1 : Nat} {M : List Txt} : ∀ (rows : List Row) (slp : Tb Txt (Txt × Nat)), restIn 0 t1 M slp rows = slp
  | [], _ => rfl
  | r :: rows, slp => by
    have e : restF 0 t1 M slp r = slp := by
      unfold restF
      cases r.cd with
      | none => rfl
      | some c => simp
    show restIn 0 t1 M (restF 0 t1 M slp r) rows = slp
    rw [e]; exact restIn0 rows slp
/-- registers without rest, of at most K names, whose codes are options -/
structure P0 (K : Nat) (r : Reg) : Prop where
  p : r.pause = 0
  slp : ∀ s ∈ r.sts, s.slp = []
  o : ∀ s ∈ r.sts, OwnC r.span s
  len : ∀ s ∈ r.sts, s.rows.length ≤ K
theorem chg_slp {s : RSt} {nx : Nat} {bar : List Txt} {rows : List Row} {M : List Txt} (h : s.slp = []) : (chgR 0 s nx bar rows M).slp = [] := by
  show restIn 0 _ M (slpCut _ M s.slp) s.rows = []
  rw [restIn0, h]; rfl
theorem P0.push {K L nx : Nat} {r : Reg} {s : RSt} {bar : List Txt} {rows : List Row} {M : List Txt} (h : P0 K r) (hs : r.sts[r.spot]? = some s) (hM : Cod (sitR r.span bar s.slp rows) M) (hl : rows.length ≤ L) (kl : K ≤ L) :
    P0 L (r.push (chgR r.pause s nx bar rows M)) := by
  have hm := List.mem_of_getElem? hs
  have ml : M.length = rows.length := by rw [hM.len, List.length_map]
  refine ⟨h.p, fun x hx => ?_, fun x hx => ?_, fun x hx => ?_⟩ <;> rcases List.mem_append.mp hx with hx | hx
  · exact h.slp x (List.mem_of_mem_take hx)
  · rw [List.mem_singleton.mp hx, h.p]; exact chg_slp (h.slp s hm)
  · exact h.o x (List.mem_of_mem_take hx)
  · rw [List.mem_singleton.mp hx]
    exact OwnC.chg (by rw [h.slp s hm]; exact List.nodup_nil) hM
  · exact Nat.le_trans (h.len x (List.mem_of_mem_take hx)) kl
  · rw [List.mem_singleton.mp hx]
    show (setCd rows M).length ≤ L
    rw [setCd_len ml]; exact hl
theorem P0.mono {K L : Nat} {r : Reg} (h : P0 K r) (kl : K ≤ L) : P0 L r := ⟨h.p, h.slp, h.o, fun s hs => Nat.le_trans (h.len s hs) kl⟩
/-! ### names and their codes -/
/-- some coding with these options -/
def AccN (op : Txt → List Txt) (N : List Txt) : Prop := ∃ g : Txt → Txt, (∀ t ∈ N, g t ∈ op t) ∧ (N.map g).Nodup
theorem AccN.no {op : Txt → List Txt} {N : List Txt} {f : Txt → Option Txt} {m : Nat} {pl : List Nat} (h : AccN op N) (cr : L2.AS.Crowd (prb (N.map (hCl f op))) m pl) : False := by
  obtain ⟨g, h1, h2⟩ := h
  exact crowd_no cr (N.map g) (cod_fn.mpr ⟨h1, h2⟩)
theorem AccN.perm {op : Txt → List Txt} {A B : List Txt} (p : A.Perm B) (h : AccN op A) : AccN op B := by
  obtain ⟨g, h1, h2⟩ := h
  exact ⟨g, fun t ht => h1 t (p.mem_iff.mpr ht), (p.map g).nodup_iff.mp h2⟩
/-! ### changes that change nothing -/
/-! ### the codes of a state as a table -/
/-! ### a deed -/
end L2.DL
/-! SK: d.pop(e) of an own table, as a statement. -/
namespace L2.DL
open PySem PySem.Spec PyProof.Rows
/-! ### rows in another sequence -/
end L2.DL
/-! SQ: a def called in an except suite, with the exception for its argument. -/
namespace L2.DL
open PySem PySem.Spec PyProof.Rows
/-- a promise of such a def: the exception's address, class and table are known -/
abbrev XSp := Addr → Value → Option Addr → Sp
structure FnX (P : Program) (w : World) (K : PySem.W.Frag) (mg : Str → Option Value) (base : Heap) (k : Nat) (f : Addr) (fd : FuncData) (ps : List Str) (sp : XSp) : Prop where
  len : ∀ a c d vs H Q E, sp a c d vs H Q E → vs.length = ps.length
  run : ∀ (A : Around) (fr : List PySem.Env) (s : Shared) (H : Hp) (ar : Args) (us : List Value) (vs : List V) (Q : VK) (E : XK) (p : Addr × Obj) (c : Value) (d : Option Addr), Gd A → L2H.RoomH k A → A.handled = some (.ref p.1) → Zc c d p.2 → (∃ xs, p.2.data = .fields xs) → L2H.PinOk fr H s p →
    Env0 P w K mg base A fr s H → BindsTo s fd ar (ps.zip us) → Vals vs us → sp p.1 c d vs H Q E → codeAny (model P w) A (.call (.ref f) ar) (CR (L2.CX P w) fr P w H s Q E) s
/-- the context of its body -/
abbrev HotB (P : Program) (w : World) (K : PySem.W.Frag) (mg : Str → Option Value) (base : Heap) (N : List Str) (qual : Str) (st : Stmt) (f : Addr) (cdv : Value) (A : Around) (fr : List PySem.Env) (s : Shared) (H : Hp) (E : XK) (a : Addr) (oe : Obj) : Cx :=
  (L2H.cxH (L2.CX P w) P w K mg base N qual (defScope st) f cdv A fr s H E (a, oe)).suite a [(a, oe)]
theorem marked {A : Around} {v : Value} (h : A.handled = some v) : A.mark (some v) = A := by
  cases A
  simp only at h
  subst h
  rfl
theorem fnX_of {P : Program} {w : World} {K : PySem.W.Frag} {mg : Str → Option Value} {base : Heap} {xn qual : Str} {st : Stmt} {f : Addr} {fd : FuncData} {N ps : List Str} {k : Nat} {sp : XSp} (F : Fun K xn qual st f fd) (S : FnScope N ps (defScope st))
    (len : ∀ a c d vs H Q E, sp a c d vs H Q E → vs.length = ps.length)
    (bd : ∀ (cdv : Value) (A : Around) (fr : List PySem.Env) (s : Shared) (H : Hp) (vs : List V) (Q : VK) (E : XK) (a : Addr) (oe : Obj) (c : Value) (d : Option Addr), Gd A → Zc c d oe → (∃ xs, oe.data = .fields xs) → L2H.RoomH k (A.deeper (envOfC qual (defScope st) s.heap.objs.size f cdv)) → sp a c d vs H Q E →
      ∃ t, PSs (HotB P w K mg base N qual st f cdv A fr s H E a oe) (defBody st) t ∧ t { nx := fun _ H' => Q .non H', rt := Q } (start N vs) H) : FnX P w K mg base (k + 1) f fd ps sp := by
  obtain ⟨oc, od, kV, doc, pm, an, cdv, ct, osl, rfl, lk, code⟩ := F.ex
  refine ⟨len, ?_⟩
  intro A fr s H ar us vs Q E p c d gd room hot zc fl0 pinned st0 bnd rel want
  have lenV := len _ _ _ _ _ _ _ want
  have kept : ∀ b o, base.get? b = some o → s.heap.get? b = some o := fun b o q => (st0.bs b o q).1
  have kin : K.In s.heap := st0.mod.kin.keeps kept
  have noLim : s.heap.NoLimit := st0.mod.nolimit.keeps kept
  refine codeAny_call_function room.depth (kin _ _ lk) rfl S.co S.gen rfl (PySem.W.codeRec_of kin code) (bnd _ _ _ _ ?_)
  refine wpAny_newFunctionEnv_cells S.kind (fun y hy => ?_) fun env eqv s1 there => ?_
  · rcases S.par y.1 (List.of_mem_zip (a := y.1) (b := y.2) hy).1 with loc | cel
    · exact .inl loc
    · exact .inr ⟨cel, PySem.W.cellsFrom_some _ _ _ (.inl cel)⟩
  subst eqv
  refine ⟨noLim.keeps there.toInCall.keep, codeAny_func ?_⟩
  obtain ⟨t, walked, end_⟩ := bd cdv A fr s H vs Q E p.1 p.2 c d gd zc fl0 (room.deeper _) want
  have inv0 := L2H.inv_startH (CX := L2.CX P w) (E := E) S pinned st0 lenV rel there
  have inv1 : Inv (HotB P w K mg base N qual st f cdv A fr s H E p.1 p.2) [] (start N vs) H s1 :=
    ⟨inv0.ok.suite p.1 [p], inv0.os, inv0.bare, inv0.base, inv0.loc, inv0.cell, inv0.free, inv0.freeC, fun q hq => inv0.pin q hq, inv0.hok, inv0.len⟩
  have go := walked.run [] s1 (start N vs) H _ inv1 end_
  have hA : (HotB P w K mg base N qual st f cdv A fr s H E p.1 p.2).A = A.deeper (envOfC qual (defScope st) s.heap.objs.size f cdv) := marked (A := A.deeper (envOfC qual (defScope st) s.heap.objs.size f cdv)) hot
  rw [hA] at go
  refine wpAny_mono go ?_ fun _ _ z => z.elim
  intro fl s2 res
  cases fl with
  | ret u => obtain ⟨v, _, H2, J, rv, q⟩ := res; exact ⟨v, H2, J.os, J.bare, J.base, J.hok, rv, q⟩
  | next => obtain ⟨_, H2, J, q⟩ := res; exact ⟨.non, H2, J.os, J.bare, J.base, J.hok, rfl, q⟩
  | brk => obtain ⟨_, _, _, q⟩ := res; exact q.elim
  | cont => obtain ⟨_, _, _, q⟩ := res; exact q.elim
/-! ### calls -/
section
variable {X : Cx} {k : Nat} {f a : Addr} {fd : FuncData} {ps : List Str} {oe : Obj} {cls : Value} {d : Option Addr} {pn : List (Addr × Obj)}
theorem run_fnX {sp : XSp} {E : XK} {ar : Args} {us : List Value} {vs : List V} {pins : List (Addr × Obj)} {σ : St} {H : Hp} {s : Shared} {Q : VK} (F : FnX X.prog X.w X.K X.mg X.base k f fd ps sp) (gd : Gd X.A) (hr : Room k X.A) (zc : Zc cls d oe) (fl0 : ∃ xs, oe.data = .fields xs)
    (hb : BindsTo s fd ar (ps.zip us)) (hx : PassesAt (L2.CX X.prog X.w) (X.suite a ((a, oe) :: pn)) σ E) (I : Inv (X.suite a ((a, oe) :: pn)) pins σ H s) (r : Vals vs us) (h : sp a cls d vs H Q E) :
    codeAny (model X.prog X.w) (X.suite a ((a, oe) :: pn)).A (.call (.ref f) ar) (fun q s' => match q with
      | .ok (.ret v) => EP (X.suite a ((a, oe) :: pn)) pins σ Q v s'
      | .ok _ => False
      | .error e => (X.suite a ((a, oe) :: pn)).xe e s') s := by
  have pin := I.pin (a, oe) (List.mem_append_left _ List.mem_cons_self)
  have hpin : L2H.PinOk X.stack H s (a, oe) := by
    obtain ⟨p1, p2, p3, p4, p5⟩ := pin
    refine ⟨p1, p2, fun hm => ?_, p5⟩
    rcases List.mem_cons.mp (I.stkSub a hm) with z | z
    · exact p3 z
    · exact p4 z
  refine codeAny_mono (F.run (X.suite a ((a, oe) :: pn)).A X.stack s H ar us vs Q E (a, oe) cls d gd ⟨hr.dp, hr.un⟩ rfl zc fl0 hpin I.env0 hb r h) fun q s' z => ?_
  cases q with
  | error e => exact hx pins H s e s' I z
  | ok fl => cases fl with
    | ret u => exact I.after z
    | next => exact z.elim
    | brk => exact z.elim
    | cont => exact z.elim
abbrev XDSp := Addr → Value → Option Addr → DSp
def liftX (K : PySem.W.Frag) (sp : XDSp) : XSp := fun a c d => lift K (sp a c d)
abbrev DFnX (P : Program) (w : World) (K : PySem.W.Frag) (mg : Str → Option Value) (base : Heap) (k : Nat) (f : Addr) (fd : FuncData) (ps : List Str) (sp : XDSp) : Prop := FnX P w K mg base k f fd ps (liftX K sp)
structure CalX (X : Cx) (x : Str) (sp : XDSp) : Prop where
  ex : ∃ k f fd ps, DFnX X.prog X.w X.K X.mg X.base k f fd ps sp ∧ Room k X.A ∧ X.mg x = some (.ref f) ∧ PySem.W.keepIn X.K (.ref f) = true ∧ Binds X.K fd ps []
theorem d_callX {e : Expr} {x : Str} {p pos : Pos} {sp : XDSp} {ms : EM (List D)} (c : CalX X x sp) (gd : Gd X.A) (zc : Zc cls d oe) (fl0 : ∃ xs, oe.data = .fields xs) (hg : Gl (X.suite a ((a, oe) :: pn)) x) (ha : DA (X.suite a ((a, oe) :: pn)) RShr [e] ms)
    (hdb : (x == ("__debug__" : Str)) = false) (he : starEach [e] X.env = (false, eval e X.env) :: starEach [] X.env) (hpl : (backTo pos (starEach [] X.env)).any (·.1) = false) :
    DE (X.suite a ((a, oe) :: pn)) RShr (.Call (.Name x p) [e] [] pos) (mCall (sp a cls d) [] ms) := fun Z E hE => by
  obtain ⟨k, f, fd, ps, F, hr, hm, hk, hb⟩ := c.ex
  refine ⟨fun pins s σ H Q I q => ?_⟩
  have h := call_shr (dvs := []) (fun _ => .nil) q
  refine wpAny_Call_Name_kw (ld_glob I hg hm (PySem.W.callWith_K (h₀ := X.base) I.ok.mod.kin hk (thn ((ha Z E hE).run pos pins s σ H _ I h) ?_) he hpl) hdb)
  intro us s1 ⟨vs, H1, J, r, q⟩
  have q : liftX X.K sp a cls d vs H1 Q (WE (DXw X.K Z E) σ) := by rw [← List.append_nil vs]; exact q
  have bnd := hb s1 us J.kIn (by rw [List.append_nil, ← r.length]; exact F.len _ _ _ _ _ _ _ q)
  rw [List.append_nil] at bnd
  exact ⟨J.kIn, wpAny_call (run_fnX (X := X) (a := a) (oe := oe) (pn := pn) F gd hr zc fl0 bnd (passAt hE σ) J r q)⟩
end
/-! ### its body -/
theorem dfnX_ok {P : Program} {w : World} {K : PySem.W.Frag} {mg : Str → Option Value} {base : Heap} {xn qual : Str} {st : Stmt} {f : Addr} {fd : FuncData} {N ps : List Str} {k : Nat} {sp : XDSp} {m : Addr → Value → Option Addr → SM} (F : Fun K xn qual st f fd) (S : FnScope N ps (defScope st))
    (hb : ∀ (cdv : Value) (A : Around) (fr : List PySem.Env) (s : Shared) (H : Hp) (E : XK) (a : Addr) (oe : Obj) (cls : Value) (d : Option Addr), Gd A → L2H.RoomH k (A.deeper (envOfC qual (defScope st) s.heap.objs.size f cdv)) → Zc cls d oe → (∃ vs, oe.data = .fields vs) → DSs (HotB P w K mg base N qual st f cdv A fr s H E a oe) (defBody st) (m a cls d))
    (hl : ps.length ≤ N.length) (hsp : ∀ a c d ds C PR PX, sp a c d ds C PR PX → ds.length = ps.length ∧ m a c d E0 { nx := fun _ C => PR (.shr .non) C, rt := PR } (slots0 N.length ds) C) : DFnX P w K mg base (k + 1) f fd ps sp := by
  refine fnX_of F S (fun a c d vs H Q E h => ?_) fun cdv A fr s H vs Q E a oe c d gd zc fl0 rm h => ?_
  · obtain ⟨Hs, C, ds, PR, PX, f1, r, q, _⟩ := h
    rw [← r.length]
    exact (hsp a c d ds C PR PX q).1
  · obtain ⟨Hs, C, ds, PR, PX, f1, r, q, k1, _⟩ := h
    obtain ⟨l1, q1⟩ := hsp a c d ds C PR PX q
    refine ⟨_, hb cdv A fr s H E a oe c d gd rm zc fl0 (zOf Hs H C) _ dx0, Hs, slots0 N.length ds, C, _, start_rep f1 r (by rw [← r.length, l1]; exact hl), ⟨fun σ Hs' H' env' C' sr p => ?_, fun rt v Hs' H' C' f' b' rr p => ?_, fun _ _ _ _ _ _ z => z, fun _ _ _ _ _ _ z => z⟩, q1⟩
    · exact k1 _ C' _ Hs' H' p sr.fit sr.bas Rep.non
    · exact k1 rt C' v Hs' H' p f' b' rr
/-! ### isinstance(e, C) of the exception -/
section
variable {X : Cx} {a : Addr} {oe : Obj} {cls : Value} {d : Option Addr} {pn : List (Addr × Obj)}
def rIsX (a C dd : Addr) (b : Bool) : List V → Hp → VK → Prop := fun xs H Q => xs = [.ref a, .ref C] ∧ (∃ ws, H dd = some (.xd ws)) ∧ Q (.bl b) H
theorem call_isX {B C dd : Addr} {b : Bool} (xc : ExcC X.K B) (hk : PySem.W.kitOne X.K (.ref B) (.ref C) = some b) (zc : Zc (.ref B) (some dd) oe) (fl0 : ∃ vs, oe.data = .fields vs) : CallR (X.suite a ((a, oe) :: pn)) (.builtin "isinstance") (rIsX a C dd b) := by
  intro pins s σ H xs us Q I r h
  obtain ⟨rfl, ⟨ws, hd⟩, q⟩ := h
  cases r with
  | cons rx rr =>
    cases rr with
    | cons rt rr =>
      cases rr
      cases rx
      cases rt
      have hget := (I.pin (a, oe) (List.mem_append_left _ List.mem_cons_self)).1
      obtain ⟨vs, hv⟩ := fl0
      obtain ⟨mA, hns, _⟩ : ObjOk X.prog X.w H s.heap dd (.xd ws) := I.hok dd _ hd
      obtain ⟨od, ho, _⟩ := lookIn_ns hns
      have J : PySem.W.InstAt s.heap a oe B (some od) := ⟨hget, zc.1, by unfold PySem.W.notCls; rw [hv] <;> rfl, by rw [zc.2]; exact ho⟩
      have hcl : (PySem.W.clsIn X.K B).isSome = true := by
        obtain ⟨cd, hc, _⟩ := PySem.W.any_some xc.hd
        rw [hc]; rfl
      exact PySem.W.kia_one (PySem.W.kitx_exc hcl xc.hg xc.hk xc.hs xc.ha xc.hn xc.ht xc.hm) I.kIn J hk (fun z => nomatch z) fun tk => ⟨.bl b, H, I.kept (t' := tk) fun _ _ z => z, rfl, q⟩
def mIsX (i : Nat) (tab : List (Addr × Bool)) (a : Addr) (cls : Value) (d : Option Addr) : EM D := fun E env C Q => ∃ B dd fs b, env[i]? = some (.shr (.exc a B dd fs)) ∧ cls = .ref B ∧ d = some dd ∧ (B, b) ∈ tab ∧ Q (.bl b) env C
theorem d_isX {C : Addr} {tab : List (Addr × Bool)} {i : Nat} {e : Expr} {x : Str} {p p' pos : Pos} (ht : ∀ q ∈ tab, ExcC X.K q.1 ∧ PySem.W.kitOne X.K (.ref q.1) (.ref C) = some q.2) (zc : Zc cls d oe) (fl0 : ∃ vs, oe.data = .fields vs) (he : PE (X.suite a ((a, oe) :: pn)) e (tVar i))
    (hg : Gl (X.suite a ((a, oe) :: pn)) "isinstance") (hm : X.mg "isinstance" = none) (hgx : Gl (X.suite a ((a, oe) :: pn)) x) (hmx : X.mg x = some (.ref C)) (hdx : (x == ("__debug__" : Str)) = false)
    (hst : starEach [e, .Name x p'] X.env = (false, eval e X.env) :: starEach [.Name x p'] X.env) (hst2 : starEach [.Name x p'] X.env = (false, eval (.Name x p') X.env) :: starEach [] X.env) (hpl : (backTo pos (starEach [.Name x p'] X.env)).any (·.1) = false) :
    DE (X.suite a ((a, oe) :: pn)) RShr (.Call (.Name "isinstance" p) [e, .Name x p'] [] pos) (mIsX i tab a cls d) := fun Z E hE => by
  refine ⟨fun pins s σ H Q I ⟨Hs, env, C0, P, sr, q, kk⟩ => ?_⟩
  obtain ⟨B, dd, fs, b, e0, rfl, rfl, hB, q1⟩ := q
  obtain ⟨xc, hk⟩ := ht _ hB
  refine (pe_callB (call_isX (pn := pn) xc hk zc fl0) hg hm (by decide +kernel) (pa_cons he (pa_cons (pe_glob (v := .ref C) hgx hmx rfl hdx) pa_nil hst2) hst) (by decide) (by decide) hst hpl).run pins s σ H Q I ?_
  obtain ⟨v, e1, rv⟩ := sr.slt.shr i _ e0
  cases rv with
  | exc hd rf => exact ⟨_, e1, rfl, ⟨_, sr.fit.sub _ _ hd⟩, kk _ _ _ _ _ _ q1 Tr.refl sr (.bl b)⟩
end
/-! ### for the texts that gen2.py prints -/
theorem _root_.L2H.RoomH.u60 {k : Nat} {A : Around} (r : L2H.RoomH k A) : A.units + 60 < cLine := by have := r.un; omega
theorem _root_.L2H.RoomH.u1 {k : Nat} {A : Around} (r : L2H.RoomH k A) : A.units + 1 < cLine := by have := r.un; omega
structure XCle (P : Program) (w : World) (K : PySem.W.Frag) (mg : Str → Option Value) (base : Heap) (k : Nat) (x : Str) (sp : XDSp) : Prop where
  ex : ∃ f fd ps, DFnX P w K mg base k f fd ps sp ∧ mg x = some (.ref f) ∧ PySem.W.keepIn K (.ref f) = true ∧ Binds K fd ps []
theorem XCle.to {X : Cx} {j k : Nat} {x : Str} {sp : XDSp} (c : XCle X.prog X.w X.K X.mg X.base k x sp) (hr : Room j X.A) (h : k ≤ j) : CalX X x sp := by
  obtain ⟨f, fd, ps, F, h1, h2, h3⟩ := c.ex
  exact ⟨k, f, fd, ps, F, hr.mono h, h1, h2, h3⟩
def PUX (m : Addr → Value → Option Addr → SM) (N n : Nat) (sp : XDSp) : Prop := ∀ a c d ds C PR PX, sp a c d ds C PR PX → ds.length = n ∧ m a c d E0 { nx := fun _ C => PR (.shr .non) C, rt := PR } (slots0 N ds) C
theorem kit_no {K : PySem.W.Frag} {B C : Addr} (it : IsT K C) (h : PySem.W.subIn K (.ref B) (.ref C) = some false) (h2 : PySem.W.subIn K (.ref C) (.ref C) = some true) : PySem.W.kitOne K (.ref B) (.ref C) = some false := by
  refine isi_sub it h ?_
  refine Bool.eq_false_iff.mpr fun z => ?_
  have e : B = C := Value.ref.inj (beq_iff_eq.mp z)
  subst e
  rw [h] at h2
  cases h2
theorem xis_nil {K : PySem.W.Frag} {C : Addr} : ∀ q ∈ ([] : List (Addr × Bool)), ExcC K q.1 ∧ PySem.W.kitOne K (.ref q.1) (.ref C) = some q.2 := fun q hq => by cases hq
theorem xis_cons {K : PySem.W.Frag} {B C : Addr} {b : Bool} {tab : List (Addr × Bool)} (h : ExcC K B ∧ PySem.W.kitOne K (.ref B) (.ref C) = some b) (r : ∀ q ∈ tab, ExcC K q.1 ∧ PySem.W.kitOne K (.ref q.1) (.ref C) = some q.2) :
    ∀ q ∈ (B, b) :: tab, ExcC K q.1 ∧ PySem.W.kitOne K (.ref q.1) (.ref C) = some q.2 := fun q hq => by
  rcases List.mem_cons.mp hq with rfl | hq
  · exact h
  · exact r q hq
end L2.DL
/-! SU: one text walked in two ways: a def called with books of two classes. -/
namespace L2.DL
open PySem PySem.Spec PyProof.Rows
/-- one of two walks serves -/
def sAlt (m1 m2 : SM) : SM := fun E dE env C => m1 E dE env C ∨ m2 E dE env C
end L2.DL
/-! SV: letters of registers; some letters turned into others. -/
namespace L2.DL
open PySem PySem.Spec PyProof.Rows L2.AS
/-- letters of a kind -/
abbrev ofL (G : Nat → Prop) (t : Txt) : Prop := ∀ c ∈ t, G c
structure StL (G : Nat → Prop) (s : RSt) : Prop where
  nm : ∀ r ∈ s.rows, ofL G r.nm
  cd : ∀ r ∈ s.rows, ∀ c, r.cd = some c → ofL G c
  bar : ∀ c ∈ s.bar, ofL G c
  slp : ∀ e ∈ s.slp, ofL G e.1 ∧ ofL G e.2.1
section
variable {G : Nat → Prop}
theorem opts_ofL {span : Nat} {bar : List Txt} {slp : Tb Txt (Txt × Nat)} {nm t : Txt} (h : ofL G nm) (ht : t ∈ optsR span bar slp nm) : ofL G t := fun c hc => h c ((spellS_mem (List.mem_filter.mp ht).1).2 c hc)
theorem cod_ofL {span : Nat} {bar : List Txt} {slp : Tb Txt (Txt × Nat)} {rows : List Row} (h : ∀ r ∈ rows, ofL G r.nm) {M : List Txt} (hM : Cod (sitR span bar slp rows) M) : ∀ t ∈ M, ofL G t := fun t ht => by
  obtain ⟨i, hi⟩ := List.getElem?_of_mem ht
  have h1 := hM.opt i t hi
  unfold opS at h1
  rw [List.getElem?_map] at h1
  cases hr : rows[i]? with
  | none => rw [hr] at h1; cases h1
  | some r => rw [hr] at h1; exact opts_ofL (h r (List.mem_of_getElem? hr)) h1
theorem StL.chg {s : RSt} (h : StL G s) {span pause nx : Nat} {bar : List Txt} {rows : List Row} (hb : ∀ c ∈ bar, ofL G c) (hr : ∀ r ∈ rows, ofL G r.nm) {M : List Txt} (hM : Cod (sitR span bar s.slp rows) M) : StL G (chgR pause s nx bar rows M) where
  nm := fun x hx => by
    obtain ⟨i, r, t, h1, h2, rfl⟩ := setCd_mem hx
    exact hr r (List.mem_of_getElem? h1)
  cd := fun x hx c hc => by
    obtain ⟨i, r, t, h1, h2, rfl⟩ := setCd_mem hx
    cases hc
    exact cod_ofL hr hM _ (List.mem_of_getElem? h2)
  bar := hb
  slp := by
    have go : ∀ (rows : List Row) (slp : Tb Txt (Txt × Nat)), (∀ r ∈ rows, ofL G r.nm ∧ ∀ c, r.cd = some c → ofL G c) → (∀ e ∈ slp, ofL G e.1 ∧ ofL G e.2.1) → ∀ e ∈ restIn pause (s.tk + 1) M slp rows, ofL G e.1 ∧ ofL G e.2.1 := by
      intro rows
      induction rows with
      | nil => intro slp _ hs; exact hs
      | cons r rows ih =>
        intro slp h1 hs
        refine ih _ (fun x hx => h1 x (List.mem_cons_of_mem _ hx)) fun e he => ?_
        rcases restF_mem he with z | ⟨c, hc, rfl⟩
        · exact hs e z
        · exact ⟨(h1 r List.mem_cons_self).2 c hc, (h1 r List.mem_cons_self).1⟩
    exact go s.rows _ (fun r hr => ⟨h.nm r hr, h.cd r hr⟩) fun e he => h.slp e (List.mem_filter.mp he).1
/-- all states of a register -/
def RgL (G : Nat → Prop) (r : Reg) : Prop := ∀ s ∈ r.sts, StL G s
theorem RgL.push {r : Reg} {s : RSt} {nx : Nat} {bar : List Txt} {rows : List Row} {M : List Txt} (h : RgL G r) (hs : r.sts[r.spot]? = some s) (hb : ∀ c ∈ bar, ofL G c) (hr : ∀ r ∈ rows, ofL G r.nm) (hM : Cod (sitR r.span bar s.slp rows) M) :
    RgL G (r.push (chgR r.pause s nx bar rows M)) := fun x hx => by
  rcases List.mem_append.mp hx with hx | hx
  · exact h x (List.mem_of_mem_take hx)
  · rw [List.mem_singleton.mp hx]; exact (h s (List.mem_of_getElem? hs)).chg hb hr hM
end
/-! ### some letters told, the others somehow -/
end L2.DL
/-! SW: what is told, with letters turned. -/
namespace L2.DL
open PySem PySem.Spec PyProof.Rows L2.AS
/-- a row that is told -/
structure Tld where
  nm : Txt
  o : Option Txt
  c : Txt
abbrev Tld.d (x : Tld) : D := .tup [.str x.nm, optD x.o, .str x.c]
end L2.DL
/-! SX: two registers asked alike, the second one with letters turned. -/
namespace L2.DL
open PySem PySem.Spec PyProof.Rows L2.AS
def tNoth : Txt := [110, 111, 116, 104, 105, 110, 103]
def tOther : Txt := [111, 116, 104, 101, 114]
def tUnkn : Txt := [117, 110, 107, 110, 111, 119, 110]
def tTaken : Txt := [116, 97, 107, 101, 110]
def tCode : Txt := [99, 111, 100, 101]
end L2.DL
/-! TA: sorted(list of tuples) whose first items (ints, texts) differ. -/
namespace L2.DL
open PySem PySem.Spec PyProof.Rows
abbrev KI := Sum Int Txt
def kiV : KI → V
  | .inl i => .int i
  | .inr t => .str (sV t)
def kLt (a b : List KI) : Bool := lexLt itemOrd a b
theorem kLt_swo {α : Type} (k : α → List KI) : SrtO.Swo fun x y => kLt (k x) (k y) := by
  refine ⟨fun x y h => ?_, fun x y z h1 h2 => ?_⟩
  · cases h' : kLt (k y) (k x) with
    | false => rfl
    | true =>
      have := lex_trans (O := itemOrd) _ _ _ h h'
      rw [lex_irrefl] at this
      cases this
  · cases h' : kLt (k z) (k x) with
    | false => rfl
    | true =>
      rcases lex_negTrans (O := itemOrd) (k z) (k y) (k x) h' with h | h
      · have : kLt (k z) (k y) = true := h
        rw [this] at h2; cases h2
      · have : kLt (k y) (k x) = true := h
        rw [this] at h1; cases h1
/-- a tuple of the heap, its first items told -/
def IsKey (h : Heap) (v : Value) (ks : List KI) : Prop := ∃ a o us us2 n, v = .ref a ∧ h.get? a = some o ∧ o.cls = .type "tuple" ∧ o.data = .seq (us ++ us2).toArray n ∧ Vals (ks.map kiV) us
theorem IsKey.keeps {h h' : Heap} {v : Value} {ks : List KI} (p : IsKey h v ks) (k : ∀ b o, h.get? b = some o → o.cls = .type "tuple" → h'.get? b = some o) : IsKey h' v ks := by
  obtain ⟨a, o, us, us2, n, e, ho, hc, hd, r⟩ := p
  exact ⟨a, o, us, us2, n, e, k _ _ ho hc, hc, hd, r⟩
/-- two sorted rows of the same things are one -/
theorem srt_uniq {α : Type} {R : α → α → Prop} (as : ∀ x y, R x y → ¬ R y x) : ∀ {l m : List α}, l.Perm m → l.Pairwise R → m.Pairwise R → l = m
  | [], m, p, _, _ => (List.Perm.eq_nil p.symm).symm
  | x :: l, [], p, _, _ => absurd p.length_eq (by simp)
  | x :: l, y :: m, p, h1, h2 => by
    rw [List.pairwise_cons] at h1 h2
    have e : x = y := by
      rcases List.mem_cons.mp (p.mem_iff.mp (List.mem_cons_self (a := x) (l := l))) with e | hx
      · exact e
      · rcases List.mem_cons.mp (p.mem_iff.mpr (List.mem_cons_self (a := y) (l := m))) with e | hy
        · exact e.symm
        · exact absurd (h2.1 x hx) (as _ _ (h1.1 y hy))
    subst e
    rw [srt_uniq as p.cons_inv h1.2 h2.2]
theorem kLt_asym (a b : List KI) (h : kLt a b = true) : ¬ kLt b a = true := fun z => by
  have := (kLt_swo (fun x : List KI => x)).asym a b h
  rw [this] at z; cases z
end L2.DL
/-! TB: d.setdefault(e, f) of an own table, as a statement. -/
namespace L2.DL
open PySem PySem.Spec PyProof.Rows
end L2.DL
/-! TC: what a recorder holds; the entries of its pages. -/
namespace L2.DL
open PySem PySem.Spec PyProof.Rows L2.AS
abbrev pgD (s : RSt) : D := .tup [.int s.tk, .dct (nmKV s.rows), .dct (bKV s.rows)]
abbrev recC (cV a : Addr) (ps : List RSt) (un : Nat) : Cell := .obj cV [("book", .cell a), ("pages", .lst (ps.map pgD)), ("undone", .int un)]
/-- the code of a name on a page -/
def cdP (ps : List RSt) (i : Nat) (w : Txt) : Option Txt := (ps[i]?).bind fun s => cdR s w
def tkP (ps : List RSt) (i : Nat) : Nat := ((ps[i]?).map (·.tk)).getD 0
/-- pages as they are -/
structure PgOk (ps : List RSt) : Prop where
  len : ps.length ≤ 101
  st : ∀ s ∈ ps, ∃ n span, StOk n span s
  asc : ∀ i j, i < ps.length → j < ps.length → tkP ps i = tkP ps j → i = j
structure En where
  f : Nat
  w : Txt
  c : Txt
  l : Option Nat
abbrev enK (e : En) : List KI := [.inl e.f, .inr e.w]
abbrev enLt (e e' : En) : Prop := kLt (enK e) (enK e') = true
def RunTo (ps : List RSt) (w c : Txt) (i j : Nat) : Prop := i ≤ j ∧ (∀ k, i ≤ k → k ≤ j → cdP ps k w = some c) ∧ (i = 0 ∨ cdP ps (i - 1) w ≠ some c)
def isEn (ps : List RSt) (e : En) : Prop := ∃ i j, RunTo ps e.w e.c i j ∧ e.f = tkP ps i ∧ ((j + 1 = ps.length ∧ e.l = none) ∨ (j + 1 < ps.length ∧ cdP ps (j + 1) e.w ≠ some e.c ∧ e.l = some (tkP ps (j + 1))))
structure Ent (ps : List RSt) (E : List En) : Prop where
  so : E.Pairwise enLt
  mem : ∀ e, e ∈ E ↔ isEn ps e
theorem Ent.nd {ps : List RSt} {E : List En} (h : Ent ps E) : E.Nodup := h.so.imp fun {a b} q z => by
  subst z
  have : kLt (enK a) (enK a) = false := lex_irrefl (O := itemOrd) _
  rw [q] at this; cases this
theorem perm_nd {α : Type} [DecidableEq α] : ∀ {l m : List α}, l.Nodup → m.Nodup → (∀ x, x ∈ l ↔ x ∈ m) → l.Perm m := fun {l m} h1 h2 h => (List.perm_ext_iff_of_nodup h1 h2).mpr h
open Classical in
theorem Ent.only {ps : List RSt} {E E' : List En} (h : Ent ps E) (h' : Ent ps E') : E = E' :=
  srt_uniq (fun x y => kLt_asym _ _) (perm_nd h.nd h'.nd fun e => (h.mem e).trans (h'.mem e).symm) h.so h'.so
/-! ### page by page -/
theorem RunTo.up {ps : List RSt} {w c : Txt} {i j : Nat} (h : RunTo ps w c i j) (q : cdP ps (j + 1) w = some c) : RunTo ps w c i (j + 1) := ⟨Nat.le_trans h.1 (by omega), fun k h1 h2 => by
  by_cases e : k = j + 1
  · rw [e]; exact q
  · exact h.2.1 k h1 (by omega), h.2.2⟩
theorem RunTo.at0 {ps : List RSt} {w c : Txt} {i j : Nat} (h : RunTo ps w c i j) : cdP ps j w = some c := h.2.1 j h.1 (Nat.le_refl _)
theorem RunTo.only {ps : List RSt} {w c : Txt} {i i' j : Nat} (h : RunTo ps w c i j) (h' : RunTo ps w c i' j) : i = i' := by
  rcases Nat.lt_trichotomy i i' with q | q | q
  · rcases h'.2.2 with z | z
    · omega
    · exact absurd (h.2.1 (i' - 1) (by omega) (by have := h'.1; omega)) z
  · exact q
  · rcases h.2.2 with z | z
    · omega
    · exact absurd (h'.2.1 (i - 1) (by omega) (by have := h.1; omega)) z
/-- set where there is none -/
def dfl {α : Type} (T : Tb Txt α) (w : Txt) (x : α) : Tb Txt α := match lk w T with
  | some _ => T
  | none => T ++ [(w, x)]
end L2.DL
namespace L2.DL
open PySem PySem.Spec PyProof.Rows L2.AS
end L2.DL
/-! TD: a recorder at hand; how its deeds end. -/
namespace L2.DL
open PySem PySem.Spec PyProof.Rows L2.AS
/-- the pages of a register from its state b on -/
def pgs (r : Reg) (b : Nat) : List RSt := (r.sts.take (r.spot + 1)).drop b
structure VAt (cV cR cS v a : Addr) (r : Reg) (b un n : Nat) (s : RSt) (C : Cs) : Prop where
  A : RAt cR cS a r n s C
  hv : C v = some (recC cV a (pgs r b) un)
  ne : v ≠ a
  b : b ≤ r.spot
  un : un + r.spot < r.sts.length
def Deed.errV (r : Reg) (b un : Nat) (s : RSt) : Deed → Option Er
  | .undo => if r.spot = b then some (.nothing wUndo) else none
  | .redo => if un = 0 then some (.nothing wRedo) else none
  | d => d.err r s
def Deed.un (un : Nat) : Deed → Nat
  | .undo => un + 1
  | .redo => un - 1
  | _ => 0
theorem errV_none {cV cR cS v a : Addr} {r : Reg} {b un n : Nat} {s : RSt} {C : Cs} {d : Deed} (h : VAt cV cR cS v a r b un n s C) (e : d.errV r b un s = none) : d.err r s = none := by
  have h1 := h.b
  have h2 := h.un
  cases d with
  | undo =>
    have e : (if r.spot = b then some (Er.nothing wUndo) else none) = none := e
    show (if r.spot = 0 then some (Er.nothing wUndo) else none) = none
    split at e
    · cases e
    · rename_i q; rw [if_neg (by omega)]
  | redo =>
    have e : (if un = 0 then some (Er.nothing wRedo) else none) = none := e
    show (if r.spot + 1 = r.sts.length then some (Er.nothing wRedo) else none) = none
    split at e
    · cases e
    · rename_i q; rw [if_neg (by omega)]
  | _ => exact e
end L2.DL
namespace L2.DL
open PySem PySem.Spec PyProof.Rows L2.AS
end L2.DL
namespace L2.DL
open PySem PySem.Spec PyProof.Rows L2.AS
/-- what a recorder answers to a deed -/
def AnswV (cV cR cS v a : Addr) (r : Reg) (b un n : Nat) (s : RSt) (d : Deed) (C : Cs) (PR : Ret → Cs → Prop) : Prop := match d.errV r b un s with
  | some (.taken t) => PR (.shr (.tup [.str tTaken, .str t])) C
  | some (.unknown t) => PR (.shr (.tup [.str tUnkn, .str t])) C
  | some (.code t) => nameOk t ∧ ∀ x : Txt, PR (.shr (.tup [.str tCode, .str x])) C
  | some (.nothing w) => PR (.shr (.tup [.str tNoth, .str w])) C
  | none => DeedOut r n s d (fun _ => PR (.shr (.tup [.str tOther, .int 0])) C) fun r' x => PR (.shr x) (cput (cput C a (regC cR cS r')) v (recC cV a (pgs r' b) (d.un un)))
end L2.DL
/-! TE: what a deed makes of a register's states; what the entries tell. -/
namespace L2.DL
open PySem PySem.Spec PyProof.Rows L2.AS
/-- the register behind a deed, and its state -/
inductive Gone (b : Nat) (r : Reg) (s : RSt) (d : Deed) : Reg → RSt → Prop
  | chg (M : List Txt) : d ≠ .undo → d ≠ .redo → DeedOk r s d → Best (sitR r.span (d.bar s) s.slp (d.rows s)) M → Gone b r s d (r.push (chgR r.pause s (d.nx s) (d.bar s) (d.rows s) M)) (chgR r.pause s (d.nx s) (d.bar s) (d.rows s) M)
  | undo (sn : RSt) : d = .undo → b < r.spot → r.sts[r.spot - 1]? = some sn → Gone b r s d { r with spot := r.spot - 1 } sn
  | redo (sn : RSt) : d = .redo → r.sts[r.spot + 1]? = some sn → Gone b r s d { r with spot := r.spot + 1 } sn
theorem push_at {r : Reg} {s : RSt} (h : r.spot < r.sts.length) : (r.push s).sts[(r.push s).spot]? = some s := by
  show (r.sts.take (r.spot + 1) ++ [s])[r.spot + 1]? = some s
  rw [List.getElem?_append_right (by rw [List.length_take]; omega), List.length_take, Nat.min_eq_left (by omega), Nat.sub_self]; rfl
theorem push_mem {r : Reg} {s x : RSt} (h : x ∈ (r.push s).sts) : x ∈ r.sts ∨ x = s := by
  rcases List.mem_append.mp (show x ∈ r.sts.take (r.spot + 1) ++ [s] from h) with h | h
  · exact .inl (List.mem_of_mem_take h)
  · exact .inr (List.mem_singleton.mp h)
section
variable {cV cR cS v a : Addr} {r : Reg} {b un n : Nat} {s : RSt} {d : Deed} {C : Cs} {PR : Ret → Cs → Prop}
/-- where a recorder stands behind a deed that is done -/
structure Went (b un n : Nat) (r : Reg) (s : RSt) (d : Deed) (r' : Reg) (s' : RSt) (un' : Nat) : Prop where
  g : Gone b r s d r' s'
  ok : ROk (n + 1) r'
  s : r'.sts[r'.spot]? = some s'
  b : b ≤ r'.spot
  un : un' + r'.spot < r'.sts.length
theorem AnswV.of (V : VAt cV cR cS v a r b un n s C) (fit : DeedFit s d) (k1 : ∀ (t : Txt) (u : D), PR (.shr (.tup [.str t, u])) C)
    (k2 : ∀ (r' : Reg) (s' : RSt), Went b un n r s d r' s' (d.un un) → d.errV r b un s = none → PR (.shr (toldD s.rows s'.rows)) (cput (cput C a (regC cR cS r')) v (recC cV a (pgs r' b) (d.un un)))) : AnswV cV cR cS v a r b un n s d C PR := by
  have A := V.A
  have hsp := A.ok.spot
  have hb := V.b
  have hu := V.un
  have hn := A.n1
  unfold AnswV
  cases he : d.errV r b un s with
  | some x =>
    cases x with
    | taken t => exact k1 _ _
    | unknown t => exact k1 _ _
    | nothing t => exact k1 _ _
    | code t =>
      refine ⟨?_, fun x => k1 _ _⟩
      have := he
      cases d with
      | undo => exact absurd he (by simp only [Deed.errV]; split <;> simp)
      | redo => exact absurd he (by simp only [Deed.errV]; split <;> simp)
      | add ts => exact absurd he (by simp [Deed.errV, Deed.err])
      | drop ts => exact absurd he (by simp [Deed.errV, Deed.err])
      | ren o m => exact absurd he (by simp only [Deed.errV, Deed.err]; (repeat' split) <;> simp)
      | ban ts =>
        have he : (fstBad r.span ts).map Er.code = some (.code t) := he
        obtain ⟨u, hu, eu⟩ := Option.map_eq_some_iff.mp he
        cases eu
        exact fit.1 t (List.mem_of_find?_eq_some hu)
      | alw ts =>
        have he : (fstBad r.span ts).map Er.code = some (.code t) := he
        obtain ⟨u, hu, eu⟩ := Option.map_eq_some_iff.mp he
        cases eu
        exact fit.1 t (List.mem_of_find?_eq_some hu)
  | none =>
    have dok := Deed.fine A.ok A.st fit (errV_none V he)
    have chg : ∀ (h1 : d ≠ .undo) (h2 : d ≠ .redo), (∀ (m : Nat) (pl : List Nat), L2.AS.Crowd (prb (sitR r.span (d.bar s) s.slp (d.rows s))) m pl → PR (.shr (.tup [.str tOther, .int 0])) C) ∧
        (∀ (M : List Txt), Best (sitR r.span (d.bar s) s.slp (d.rows s)) M → ROk (n + 1) (r.push (chgR r.pause s (d.nx s) (d.bar s) (d.rows s) M)) → PR (.shr (toldD s.rows (setCd (d.rows s) M))) (cput (cput C a (regC cR cS (r.push (chgR r.pause s (d.nx s) (d.bar s) (d.rows s) M)))) v (recC cV a (pgs (r.push (chgR r.pause s (d.nx s) (d.bar s) (d.rows s) M)) b) (d.un un)))) := fun h1 h2 =>
      ⟨fun m pl c => k1 _ _, fun M hM ok' => k2 _ _ ⟨.chg M h1 h2 dok hM, ok', push_at hsp, by show b ≤ r.spot + 1; omega, by
        have e0 : d.un un = 0 := by cases d <;> first | rfl | exact absurd rfl h1 | exact absurd rfl h2
        rw [e0]; exact (by have := ok'.spot; omega)⟩ he⟩
    cases d with
    | undo =>
      have hne : r.spot ≠ b := fun z => by
        have he : (if r.spot = b then some (Er.nothing wUndo) else none) = none := he
        rw [if_pos z] at he; cases he
      exact fun sn hsn => k2 _ sn ⟨.undo sn rfl (by omega) hsn, (A.ok.go (by omega)).mono (by omega) (by omega), hsn, by show b ≤ r.spot - 1; omega, by show un + 1 + (r.spot - 1) < r.sts.length; omega⟩ he
    | redo =>
      have hne : un ≠ 0 := fun z => by
        have he : (if un = 0 then some (Er.nothing wRedo) else none) = none := he
        rw [if_pos z] at he; cases he
      exact fun sn hsn => k2 _ sn ⟨.redo sn rfl hsn, (A.ok.go (by omega)).mono (by omega) (by omega), hsn, by show b ≤ r.spot + 1; omega, by show un - 1 + (r.spot + 1) < r.sts.length; omega⟩ he
    | add ts => exact chg (by simp) (by simp)
    | drop ts => exact chg (by simp) (by simp)
    | ren o m => exact chg (by simp) (by simp)
    | ban ts => exact chg (by simp) (by simp)
    | alw ts => exact chg (by simp) (by simp)
/-- a property of all states goes on -/
theorem Gone.all {Q : RSt → Prop} {r' : Reg} {s' : RSt} (g : Gone b r s d r' s') (h : ∀ x ∈ r.sts, Q x) (hn : ∀ M, d ≠ .undo → d ≠ .redo → DeedOk r s d → Best (sitR r.span (d.bar s) s.slp (d.rows s)) M → Q (chgR r.pause s (d.nx s) (d.bar s) (d.rows s) M)) : ∀ x ∈ r'.sts, Q x := by
  cases g with
  | chg M h1 h2 h3 h4 =>
    intro x hx
    rcases push_mem hx with hx | rfl
    · exact h x hx
    · exact hn M h1 h2 h3 h4
  | undo sn => exact h
  | redo sn => exact h
end
/-- states by their clocks -/
def TkId (r : Reg) : Prop := ∀ (i : Nat) (s : RSt), r.sts[i]? = some s → s.tk = i
theorem Gone.tk {b : Nat} {r : Reg} {s : RSt} {d : Deed} {r' : Reg} {s' : RSt} (g : Gone b r s d r' s') (hs : r.sts[r.spot]? = some s) (h : TkId r) : TkId r' := by
  have hl := (List.getElem?_eq_some_iff.mp hs).1
  cases g with
  | chg M h1 h2 h3 h4 =>
    intro i x hx
    have hx : (r.sts.take (r.spot + 1) ++ [_])[i]? = some x := hx
    by_cases hi : i < r.spot + 1
    · rw [List.getElem?_append_left (by rw [List.length_take]; omega), List.getElem?_take_of_lt hi] at hx
      exact h i x hx
    · rw [List.getElem?_append_right (by rw [List.length_take]; omega), List.length_take, Nat.min_eq_left (by omega)] at hx
      have hi2 : i = r.spot + 1 := by
        have := (List.getElem?_eq_some_iff.mp hx).1
        simp only [List.length_cons, List.length_nil] at this
        omega
      subst hi2
      rw [Nat.sub_self] at hx
      cases hx
      show s.tk + 1 = r.spot + 1
      rw [h _ _ hs]
  | undo sn => exact h
  | redo sn => exact h
/-- no code is had twice -/
def CdNd (s : RSt) : Prop := (s.rows.map (·.cd)).Nodup
/-! ### pages of a register with told clocks -/
/-- pages with ascending clocks, no code twice -/
structure PgA (ps : List RSt) : Prop where
  ok : PgOk ps
  lt : ∀ i j, i < j → j < ps.length → tkP ps i < tkP ps j
  nd : ∀ s ∈ ps, CdNd s
theorem PgA.le {ps : List RSt} (h : PgA ps) {i j : Nat} (hi : i < ps.length) (hj : j < ps.length) : tkP ps i ≤ tkP ps j ↔ i ≤ j := by
  rcases Nat.lt_trichotomy i j with q | q | q
  · have := h.lt i j q hj; omega
  · subst q; omega
  · have := h.lt j i q hi; omega
theorem RunTo.cut {ps : List RSt} {w c : Txt} {i j k : Nat} (r : RunTo ps w c i j) (h1 : i ≤ k) (h2 : k ≤ j) : RunTo ps w c i k := ⟨h1, fun m a b => r.2.1 m a (by omega), r.2.2⟩
end L2.DL
/-! TF: a recorder behind any deed; entries shown and compared. -/
namespace L2.DL
open PySem PySem.Spec PyProof.Rows L2.AS
section
variable {cV cR cS v a : Addr} {r : Reg} {b un n : Nat} {s : RSt} {d : Deed} {C : Cs} {PR : Ret → Cs → Prop}
/-- where a recorder stands behind a deed, done or refused -/
structure Aft (cV cR cS v a : Addr) (b un n : Nat) (r : Reg) (s : RSt) (d : Deed) (C : Cs) (x : D) (r' : Reg) (s' : RSt) (un' : Nat) (C2 : Cs) : Prop where
  oth : ∀ z, z ≠ a → z ≠ v → C2 z = C z
  ca : C2 a = some (regC cR cS r')
  cv : C2 v = some (recC cV a (pgs r' b) un')
  ok : ROk (n + 1) r'
  hs : r'.sts[r'.spot]? = some s'
  hb : b ≤ r'.spot
  hun : un' + r'.spot < r'.sts.length
  how : (r' = r ∧ s' = s ∧ un' = un ∧ ∃ (t : Txt) (u : D), x = .tup [.str t, u]) ∨ (Gone b r s d r' s' ∧ d.errV r b un s = none ∧ un' = d.un un ∧ x = toldD s.rows s'.rows)
theorem AnswV.any (V : VAt cV cR cS v a r b un n s C) (fit : DeedFit s d) (k : ∀ x r' s' un' C2, Aft cV cR cS v a b un n r s d C x r' s' un' C2 → PR (.shr x) C2) : AnswV cV cR cS v a r b un n s d C PR := by
  refine AnswV.of V fit (fun t u => ?_) fun r' s' w he => ?_
  · exact k _ r s un C ⟨fun _ _ _ => rfl, V.A.c, V.hv, V.A.ok.mono (by omega) V.A.n1, V.A.s, V.b, V.un, .inl ⟨rfl, rfl, rfl, t, u, rfl⟩⟩
  · exact k _ r' s' (d.un un) _ ⟨fun z h1 h2 => by rw [cput_ne h2, cput_ne h1], by rw [cput_ne (Ne.symm V.ne)]; exact cput_same, cput_same, w.ok, w.s, w.b, w.un, .inr ⟨w.g, he, rfl, rfl⟩⟩
theorem Aft.any {Q : RSt → Prop} {x : D} {r' : Reg} {s' : RSt} {un' : Nat} {C2 : Cs} (h : Aft cV cR cS v a b un n r s d C x r' s' un' C2) (h0 : ∀ x ∈ r.sts, Q x) (hn : ∀ M, d ≠ .undo → d ≠ .redo → DeedOk r s d → Best (sitR r.span (d.bar s) s.slp (d.rows s)) M → Q (chgR r.pause s (d.nx s) (d.bar s) (d.rows s) M)) : ∀ x ∈ r'.sts, Q x := by
  rcases h.how with ⟨e, _⟩ | ⟨g, _⟩
  · rw [e]; exact h0
  · exact g.all h0 hn
end
/-! ### what entries hold -/
end L2.DL
/-! TG: target = d.pop(e) of an own table. -/
namespace L2.DL
open PySem PySem.Spec PyProof.Rows
end L2.DL
namespace L2.DL
open PySem PySem.Spec PyProof.Rows
end L2.DL
namespace L2.DL
open PySem PySem.Spec PyProof.Rows
end L2.DL
/-! UC: properties, own `in` and defs asked for while an exception is handled. -/
namespace L2.DL
open PySem PySem.Spec PyProof.Rows
abbrev XK1 (sp : DSp) : XDSp := fun _ _ _ => sp
/-- a callable's promise where an exception is handled -/
structure DCalH (P : Program) (w : World) (K : PySem.W.Frag) (mg : Str → Option Value) (base : Heap) (k : Nat) (f : Value) (spv : DSpV) : Prop where
  run : ∀ (A : Around) (fr : List PySem.Env) (s : Shared) (H : Hp) (us : List Value) (vs : List V) (Q : VK) (E : XK) (p : Addr × Obj) (c : Value) (d : Option Addr), Gd A → L2H.RoomH k A → A.handled = some (.ref p.1) → Zc c d p.2 → (∃ xs, p.2.data = .fields xs) → L2H.PinOk fr H s p →
    Env0 P w K mg base A fr s H → Vals vs us → liftV K spv vs [] H Q E → codeAny (model P w) A (.call f ⟨us, []⟩) (CR (L2.CX P w) fr P w H s Q E) s
section
variable {P : Program} {w : World} {K : PySem.W.Frag} {mg : Str → Option Value} {base : Heap} {k : Nat} {f : Addr} {fd : FuncData} {ps : List Str} {sp : DSp}
theorem DCalH.mono {j : Nat} {v : Value} {spv : DSpV} (c : DCalH P w K mg base j v spv) (h : j ≤ k) : DCalH P w K mg base k v spv :=
  ⟨fun A fr s H us vs Q E p cc d gd room => c.run A fr s H us vs Q E p cc d gd (room.mono h)⟩
end
section
variable {X : Cx} {k : Nat} {a : Addr} {oe : Obj} {cls : Value} {d : Option Addr} {pn : List (Addr × Obj)} {σ : St} {spv : DSpV}
/-! ### a property -/
structure PrH (X : Cx) (C : Addr) (f : Str) (spv : DSpV) : Prop where
  ex : ∃ k p g, DCalH X.prog X.w X.K X.mg X.base k (.ref g) spv ∧ L2H.RoomH (k + 1) X.A ∧ Cls X.K C ∧ PropOf X.K C f p g
/-! ### in -/
structure OwH (X : Cx) (C : Addr) (nm : Str) (spv : DSpV) : Prop where
  ex : ∃ k g, DCalH X.prog X.w X.K X.mg X.base k (.ref g) spv ∧ L2H.RoomH (k + 1) X.A ∧ OwnM X.K C nm g
/-! ### a def -/
structure CalH (X : Cx) (x : Str) (sp : DSp) : Prop where
  ex : ∃ k f fd ps, DFnX X.prog X.w X.K X.mg X.base k f fd ps (XK1 sp) ∧ L2H.RoomH k X.A ∧ X.mg x = some (.ref f) ∧ PySem.W.keepIn X.K (.ref f) = true ∧ Binds X.K fd ps []
end
/-! ### for the texts that gen2.py prints -/
theorem _root_.L2H.RoomH.u64 {k : Nat} {A : Around} (r : L2H.RoomH k A) : A.units + 64 < cLine := by have := r.un; omega
theorem _root_.L2H.RoomH.u65 {k : Nat} {A : Around} (r : L2H.RoomH k A) : A.units + 65 < cLine := by have := r.un; omega
theorem _root_.L2H.RoomH.u0 {k : Nat} {A : Around} (r : L2H.RoomH k A) : A.units < cLine := by have := r.un; omega
structure HPr (P : Program) (w : World) (K : PySem.W.Frag) (mg : Str → Option Value) (base : Heap) (k : Nat) (C : Addr) (f : Str) (spv : DSpV) : Prop where
  ex : ∃ p g, DCalH P w K mg base k (.ref g) spv ∧ Cls K C ∧ PropOf K C f p g
structure HOw (P : Program) (w : World) (K : PySem.W.Frag) (mg : Str → Option Value) (base : Heap) (k : Nat) (C : Addr) (nm : Str) (spv : DSpV) : Prop where
  ex : ∃ g, DCalH P w K mg base k (.ref g) spv ∧ OwnM K C nm g
structure HCle (P : Program) (w : World) (K : PySem.W.Frag) (mg : Str → Option Value) (base : Heap) (k : Nat) (x : Str) (sp : DSp) : Prop where
  ex : ∃ f fd ps, DFnX P w K mg base k f fd ps (XK1 sp) ∧ mg x = some (.ref f) ∧ PySem.W.keepIn K (.ref f) = true ∧ Binds K fd ps []
section
variable {X : Cx} {j k : Nat} {C : Addr} {f x : Str} {spv : DSpV} {sp : DSp}
theorem HPr.to (c : HPr X.prog X.w X.K X.mg X.base k C f spv) (hr : L2H.RoomH j X.A) (h : k + 1 ≤ j) : PrH X C f spv := let ⟨p, g, d, a, b⟩ := c.ex; ⟨k, p, g, d, hr.mono h, a, b⟩
theorem HOw.to (c : HOw X.prog X.w X.K X.mg X.base k C f spv) (hr : L2H.RoomH j X.A) (h : k + 1 ≤ j) : OwH X C f spv := let ⟨g, d, a⟩ := c.ex; ⟨k, g, d, hr.mono h, a⟩
theorem HCle.to (c : HCle X.prog X.w X.K X.mg X.base k x sp) (hr : L2H.RoomH j X.A) (h : k ≤ j) : CalH X x sp := let ⟨g, fd, ps, d, a, b, e⟩ := c.ex; ⟨k, g, fd, ps, d, hr.mono h, a, b, e⟩
end
end L2.DL
/-! UD: chains and circles of changed names, told as functions. -/
namespace L2.DL
open PySem PySem.Spec PyProof.Rows L2.AS
/-- two codings of different codes: of some names, of all -/
structure Chg (N : List Txt) (f : Txt → Option Txt) (s : Txt → Txt) : Prop where
  nd : N.Nodup
  si : ∀ x ∈ N, ∀ y ∈ N, s x = s y → x = y
  fi : ∀ x ∈ N, ∀ y ∈ N, f x ≠ none → f x = f y → x = y
def rowG (nx : Txt → Option Txt) (x : Txt) : Nat → Txt → List Txt
  | 0, y => [y]
  | k + 1, y => match nx y with
    | none => [y]
    | some z => if z = x then [y] else y :: rowG nx x k z
/-- a row from x on, up to its end or to x again -/
structure RowC (nx : Txt → Option Txt) (x : Txt) (R : List Txt) : Prop where
  hd : R[0]? = some x
  st : ∀ (i : Nat) a b, R[i]? = some a → R[i + 1]? = some b → nx a = some b ∧ b ≠ x
  en : ∀ (i : Nat) a, R[i]? = some a → R[i + 1]? = none → nx a = none ∨ nx a = some x
section
variable {nx : Txt → Option Txt} {x : Txt}
theorem rowG_head : ∀ (k : Nat) (y : Txt), (rowG nx x k y)[0]? = some y
  | 0, y => rfl
  | k + 1, y => by
    unfold rowG
    cases nx y with
    | none => rfl
    | some z =>
      show (if z = x then [y] else y :: rowG nx x k z)[0]? = some y
      by_cases h : z = x
      · rw [if_pos h]; rfl
      · rw [if_neg h]; rfl
theorem rowG_st : ∀ (k : Nat) (y : Txt) (i : Nat) (a b : Txt), (rowG nx x k y)[i]? = some a → (rowG nx x k y)[i + 1]? = some b → nx a = some b ∧ b ≠ x
  | 0, y, i, a, b, _, h => by simp [rowG] at h
  | k + 1, y, i, a, b, h1, h2 => by
    unfold rowG at h1 h2
    cases e : nx y with
    | none => rw [e] at h2; simp at h2
    | some z =>
      rw [e] at h1 h2
      have h1 : (if z = x then [y] else y :: rowG nx x k z)[i]? = some a := h1
      have h2 : (if z = x then [y] else y :: rowG nx x k z)[i + 1]? = some b := h2
      by_cases hz : z = x
      · rw [if_pos hz] at h2; simp at h2
      · rw [if_neg hz] at h1 h2
        cases i with
        | zero =>
          have e1 : y = a := by simpa using h1
          have e2 : (rowG nx x k z)[0]? = some b := by simpa using h2
          rw [rowG_head] at e2
          have e3 := Option.some.inj e2
          exact ⟨by rw [← e1, e, e3], by rw [← e3]; exact hz⟩
        | succ i => exact rowG_st k z i a b (by simpa using h1) (by simpa using h2)
theorem rowG_en : ∀ (k : Nat) (y : Txt), (∀ (i : Nat) a, (rowG nx x k y)[i]? = some a → (rowG nx x k y)[i + 1]? = none → nx a = none ∨ nx a = some x) ∨ (rowG nx x k y).length = k + 1
  | 0, y => .inr rfl
  | k + 1, y => by
    unfold rowG
    cases e : nx y with
    | none =>
      refine .inl fun i a h _ => ?_
      cases i with
      | zero => have : y = a := by simpa using h
                rw [← this, e]; exact .inl rfl
      | succ i => simp at h
    | some z =>
      show (∀ (i : Nat) a, (if z = x then [y] else y :: rowG nx x k z)[i]? = some a → (if z = x then [y] else y :: rowG nx x k z)[i + 1]? = none → nx a = none ∨ nx a = some x) ∨ (if z = x then [y] else y :: rowG nx x k z).length = k + 1 + 1
      by_cases hz : z = x
      · rw [if_pos hz]
        refine .inl fun i a h _ => ?_
        cases i with
        | zero => have : y = a := by simpa using h
                  rw [← this, e, hz]; exact .inr rfl
        | succ i => simp at h
      · rw [if_neg hz]
        rcases rowG_en k z with h | h
        · refine .inl fun i a ha hb => ?_
          cases i with
          | zero => simp [rowG_head] at hb
          | succ i => exact h i a (by simpa using ha) (by simpa using hb)
        · exact .inr (by simp [h])
theorem RowC.nodup {R : List Txt} (h : RowC nx x R) (inj : ∀ a ∈ R, ∀ b ∈ R, nx a ≠ none → nx a = nx b → a = b) : R.Nodup := by
  have key : ∀ (i j : Nat) a, R[i]? = some a → R[j]? = some a → i = j := by
    intro i
    induction i with
    | zero =>
      intro j a ha hb
      cases j with
      | zero => rfl
      | succ j =>
        rw [h.hd] at ha
        have hl := (List.getElem?_eq_some_iff.mp hb).1
        exact absurd (Option.some.inj ha).symm (h.st j _ a (List.getElem?_eq_getElem (by omega)) hb).2
    | succ i ih =>
      intro j a ha hb
      have hl := (List.getElem?_eq_some_iff.mp ha).1
      have ea : R[i]? = some (R[i]'(by omega)) := List.getElem?_eq_getElem (by omega)
      have s1 := h.st i _ a ea ha
      cases j with
      | zero =>
        rw [h.hd] at hb
        exact absurd (Option.some.inj hb).symm s1.2
      | succ j =>
        have hl2 := (List.getElem?_eq_some_iff.mp hb).1
        have eb : R[j]? = some (R[j]'(by omega)) := List.getElem?_eq_getElem (by omega)
        have s2 := h.st j _ a eb hb
        have := inj _ (List.mem_of_getElem? ea) _ (List.mem_of_getElem? eb) (by rw [s1.1]; simp) (s1.1.trans s2.1.symm)
        rw [← this] at eb
        rw [ih j _ ea eb]
  refine List.pairwise_iff_getElem.mpr fun i j hi hj hij e => ?_
  have := key i j _ (List.getElem?_eq_getElem hi) (by rw [e]; exact List.getElem?_eq_getElem hj)
  omega
end
section
variable {N : List Txt} {f : Txt → Option Txt} {s : Txt → Txt}
theorem Chn.chg (h : Chn N f s) : Chg N f s := ⟨h.nd, h.si, h.fi⟩
theorem nx_some (h : Chg N f s) {n m : Txt} : nxW N f s n = some m ↔ m ∈ chgW N f s ∧ f m = some (s n) := by
  unfold nxW
  constructor
  · intro e
    exact ⟨List.mem_of_find?_eq_some e, by simpa using List.find?_some e⟩
  · rintro ⟨h1, h2⟩
    cases e : (chgW N f s).find? fun m => decide (f m = some (s n)) with
    | none => exact absurd h2 (by simpa using List.find?_eq_none.mp e m h1)
    | some m' =>
      have a1 := List.mem_of_find?_eq_some e
      have a2 : f m' = some (s n) := by simpa using List.find?_some e
      rw [h.fi m' (mem_chgW.mp a1).1 m (mem_chgW.mp h1).1 (by rw [a2]; simp) (a2.trans h2.symm)]
theorem nx_inj (h : Chg N f s) {n n' m : Txt} (hn : n ∈ N) (hn' : n' ∈ N) (e : nxW N f s n = some m) (e' : nxW N f s n' = some m) : n = n' := by
  have a := ((nx_some h).mp e).2
  have b := ((nx_some h).mp e').2
  rw [a] at b
  exact h.si n hn n' hn' (Option.some.inj b)
/-- the row or the circle from a name on -/
def rowC (N : List Txt) (f : Txt → Option Txt) (s : Txt → Txt) (x : Txt) : List Txt := rowG (nxW N f s) x (chgW N f s).length x
theorem rowG_mem (h : Chg N f s) {z : Txt} {k : Nat} {x : Txt} (hx : x ∈ chgW N f s) : ∀ (i : Nat) y, (rowG (nxW N f s) z k x)[i]? = some y → y ∈ chgW N f s
  | 0, y, e => by rw [rowG_head] at e; cases e; exact hx
  | i + 1, y, e => by
    have hl := (List.getElem?_eq_some_iff.mp e).1
    have ea : (rowG (nxW N f s) z k x)[i]? = some ((rowG (nxW N f s) z k x)[i]'(by omega)) := List.getElem?_eq_getElem (by omega)
    exact ((nx_some h).mp (rowG_st _ _ _ _ _ ea e).1).1
theorem rowC_sub (h : Chg N f s) {x : Txt} (hx : x ∈ chgW N f s) : ∀ y ∈ rowC N f s x, y ∈ chgW N f s := fun y hy => by
  obtain ⟨i, hi⟩ := List.getElem?_of_mem hy
  exact rowG_mem h hx i y hi
theorem rowC_nd (h : Chg N f s) {x : Txt} (hx : x ∈ chgW N f s) : (rowC N f s x).Nodup := by
  have inj : ∀ a ∈ rowC N f s x, ∀ b ∈ rowC N f s x, nxW N f s a ≠ none → nxW N f s a = nxW N f s b → a = b := fun a ha b hb h0 e => by
    cases e1 : nxW N f s a with
    | none => exact absurd e1 h0
    | some m => exact nx_inj h (mem_chgW.mp (rowC_sub h hx a ha)).1 (mem_chgW.mp (rowC_sub h hx b hb)).1 e1 (e ▸ e1)
  have key : ∀ (i j : Nat) a, (rowC N f s x)[i]? = some a → (rowC N f s x)[j]? = some a → i = j := by
    intro i
    induction i with
    | zero =>
      intro j a ha hb
      cases j with
      | zero => rfl
      | succ j =>
        have h0 : (rowC N f s x)[0]? = some x := rowG_head _ _
        rw [h0] at ha
        have hl := (List.getElem?_eq_some_iff.mp hb).1
        exact absurd (Option.some.inj ha).symm (rowG_st _ _ j _ a (List.getElem?_eq_getElem (by exact Nat.lt_of_succ_lt hl)) hb).2
    | succ i ih =>
      intro j a ha hb
      have hl := (List.getElem?_eq_some_iff.mp ha).1
      have ea : (rowC N f s x)[i]? = some ((rowC N f s x)[i]'(Nat.lt_of_succ_lt hl)) := List.getElem?_eq_getElem (Nat.lt_of_succ_lt hl)
      have s1 := rowG_st _ _ i _ a ea ha
      cases j with
      | zero =>
        have h0 : (rowC N f s x)[0]? = some x := rowG_head _ _
        rw [h0] at hb
        exact absurd (Option.some.inj hb).symm s1.2
      | succ j =>
        have hl2 := (List.getElem?_eq_some_iff.mp hb).1
        have eb : (rowC N f s x)[j]? = some ((rowC N f s x)[j]'(Nat.lt_of_succ_lt hl2)) := List.getElem?_eq_getElem (Nat.lt_of_succ_lt hl2)
        have s2 := rowG_st _ _ j _ a eb hb
        have := inj _ (List.mem_of_getElem? ea) _ (List.mem_of_getElem? eb) (by rw [s1.1]; simp) (s1.1.trans s2.1.symm)
        rw [← this] at eb
        rw [ih j _ ea eb]
  refine List.pairwise_iff_getElem.mpr fun i j hi hj hij e => ?_
  have := key i j _ (List.getElem?_eq_getElem hi) (by rw [e]; exact List.getElem?_eq_getElem hj)
  omega
theorem rowC_ok (h : Chg N f s) {x : Txt} (hx : x ∈ chgW N f s) : RowC (nxW N f s) x (rowC N f s x) := by
  refine ⟨rowG_head _ _, rowG_st _ _, ?_⟩
  rcases rowG_en (nx := nxW N f s) (x := x) (chgW N f s).length x with z | z
  · exact z
  · have := nd_le (rowC_nd h hx) (rowC_sub h hx)
    have z : (rowC N f s x).length = (chgW N f s).length + 1 := z
    omega
/-- the names that follow none -/
def hdW (N : List Txt) (f : Txt → Option Txt) (s : Txt → Txt) : List Txt := (chgW N f s).filter fun n => decide (n ∉ (chgW N f s).filterMap (nxW N f s))
theorem mem_hdW {n : Txt} : n ∈ hdW N f s ↔ n ∈ chgW N f s ∧ n ∉ (chgW N f s).filterMap (nxW N f s) := by unfold hdW; rw [List.mem_filter]; simp
/-- the circles, from the names that were not met -/
def circF (row : Txt → List Txt) : List Txt → List Txt → List (List Txt)
  | _, [] => []
  | met, n :: ns => if n ∈ met then circF row met ns else row n :: circF row (met ++ row n) ns
/-- the place of the oldest name of a row -/
def keyW (N R : List Txt) : Nat := N.findIdx fun y => decide (y ∈ R)
def insW (k : Txt → Nat) (x : Txt) : List Txt → List Txt
  | [] => [x]
  | y :: r => if k x ≤ k y then x :: y :: r else y :: insW k x r
def srtW (k : Txt → Nat) (l : List Txt) : List Txt := l.foldr (insW k) []
theorem insW_perm (k : Txt → Nat) (x : Txt) : ∀ l, (insW k x l).Perm (x :: l)
  | [] => List.Perm.refl _
  | y :: r => by
    show (if k x ≤ k y then x :: y :: r else y :: insW k x r).Perm (x :: y :: r)
    by_cases h : k x ≤ k y
    · rw [if_pos h]
    · rw [if_neg h]
      exact ((insW_perm k x r).cons y).trans (List.Perm.swap x y r)
theorem srtW_perm (k : Txt → Nat) : ∀ l, (srtW k l).Perm l
  | [] => List.Perm.refl _
  | y :: r => (insW_perm k y _).trans ((srtW_perm k r).cons y)
/-- the rows by their oldest names, the circles -/
def rowsW (N : List Txt) (f : Txt → Option Txt) (s : Txt → Txt) : List (List Txt) := (srtW (fun x => keyW N (rowC N f s x)) (hdW N f s)).map (rowC N f s)
def circW (N : List Txt) (f : Txt → Option Txt) (s : Txt → Txt) : List (List Txt) := circF (rowC N f s) ((hdW N f s).flatMap (rowC N f s)) (chgW N f s)
end
end L2.DL
/-! VB: both accounts of the spellings are one; an expression evaluated apart. -/
namespace L2.DL
open PySem PySem.Spec PyProof.Rows L2.AS
theorem placesN_pls (L : Nat) : ∀ n : Nat, placesN L n = pls L n
  | 0 => rfl
  | n + 1 => by
    show (placesN L n).flatMap (extP L) = (pls L n).flatMap (plsF L)
    rw [placesN_pls L n]; rfl
theorem spells_eq {s : Txt} {n : Nat} : spells s n = spellS s n := by
  unfold spells spellS
  rw [placesN_pls]; rfl
end L2.DL
/-! VC: what a planner does, as a relation between its states. -/
namespace L2.DL
open PySem PySem.Spec PyProof.Rows L2.AS
/-- the codes, the circles that wait, the steps so far -/
structure PlS where
  cur : Tb Txt Txt
  wt : List (List Txt)
  st : List (Txt × Txt)
def PlS.put (s : PlS) (x c : Txt) : PlS := ⟨pt s.cur x c, s.wt, s.st ++ [(x, c)]⟩
def PlS.out (s : PlS) (R : List Txt) : PlS := ⟨s.cur, s.wt.filter fun R' => !decide (R' = R), s.st⟩
/-- the oldest name of a circle that has a free option, and the option -/
def spareF (S : List Cl) (cur : Tb Txt Txt) (R : List Txt) : Option (Txt × Txt) := S.findSome? fun c => if c.nm ∈ R then ((c.opts.filter fun o => !decide (o ∈ cur.map (·.2))).head?).map fun o => (c.nm, o) else none
def fstC (S : List Cl) (s : PlS) : Option (List Txt × (Txt × Txt)) := s.wt.findSome? fun R => (spareF S s.cur R).map fun p => (R, p)
def plL (R : List Txt) (x : Txt) : Nat := (fstIx x R).getD 0
def turnL (R : List Txt) (x : Txt) : List Txt := R.drop (plL R x) ++ R.take (plL R x)
/-- gives of a circle, the spare code first -/
def circG (g : Txt → Txt) (R : List Txt) (p : Txt × Txt) : List (Txt × Txt) := p :: (turnL R p.1).reverse.map fun y => (y, g y)
inductive RunR (S : List Cl) (g : Txt → Txt) : Option (List (Txt × Txt)) → PlS → PlS → Prop
  | stop {s : PlS} : fstC S s = none → RunR S g none s s
  | turn {s s1 s2 : PlS} {R : List Txt} {p : Txt × Txt} : fstC S s = some (R, p) → RunR S g (some (circG g R p)) (s.out R) s1 → RunR S g none s1 s2 → RunR S g none s s2
  | nil {s : PlS} : RunR S g (some []) s s
  | cons {s s1 s2 : PlS} {x c : Txt} {l : List (Txt × Txt)} : RunR S g none (s.put x c) s1 → RunR S g (some l) s1 s2 → RunR S g (some ((x, c) :: l)) s s2
section
variable {S : List Cl} {g : Txt → Txt}
theorem RunR.append {l m : List (Txt × Txt)} {s s1 s2 : PlS} (h : RunR S g (some l) s s1) (h2 : RunR S g (some m) s1 s2) : RunR S g (some (l ++ m)) s s2 := by
  generalize ho : some l = o at h
  induction h generalizing l with
  | stop _ => cases ho
  | turn _ _ _ _ _ => cases ho
  | nil => cases ho; exact h2
  | cons h3 h4 _ ih => cases ho; exact .cons h3 (ih h2 rfl)
theorem RunR.one {x c : Txt} {s s1 : PlS} (h : RunR S g none (s.put x c) s1) : RunR S g (some [(x, c)]) s s1 := .cons h .nil
theorem RunR.snoc {l : List (Txt × Txt)} {x c : Txt} {s s1 s2 : PlS} (h : RunR S g (some l) s s1) (h2 : RunR S g none (s1.put x c) s2) : RunR S g (some (l ++ [(x, c)])) s s2 := h.append h2.one
/-! ### how much is to come -/
def potW (l : List (List Txt)) : Nat := (l.map fun R => R.length + 1).sum
def PlS.pot (s : PlS) : Nat := s.st.length + potW s.wt
def runL : Option (List (Txt × Txt)) → Nat
  | none => 0
  | some l => l.length
theorem potW_out {R : List Txt} : ∀ {l : List (List Txt)}, R ∈ l → potW (l.filter fun R' => !decide (R' = R)) + (R.length + 1) ≤ potW l := by
  have le : ∀ l : List (List Txt), potW (l.filter fun R' => !decide (R' = R)) ≤ potW l := fun l => by
    induction l with
    | nil => exact Nat.le_refl _
    | cons x l ih =>
      unfold potW at *
      by_cases e : x = R
      · rw [List.filter_cons_of_neg (by simp [e]), List.map_cons, List.sum_cons]; omega
      · rw [List.filter_cons_of_pos (by simp [e]), List.map_cons, List.map_cons, List.sum_cons, List.sum_cons]; omega
  intro l
  induction l with
  | nil => intro h; cases h
  | cons x l ih =>
    intro h
    have l1 := le l
    unfold potW at *
    by_cases e : x = R
    · rw [List.filter_cons_of_neg (by simp [e]), List.map_cons, List.sum_cons, e]; omega
    · rw [List.filter_cons_of_pos (by simp [e]), List.map_cons, List.map_cons, List.sum_cons, List.sum_cons]
      have := ih ((List.mem_cons.mp h).resolve_left fun z => e z.symm)
      omega
theorem fstC_mem {s : PlS} {R : List Txt} {p : Txt × Txt} (h : fstC S s = some (R, p)) : R ∈ s.wt ∧ spareF S s.cur R = some p := by
  obtain ⟨R', hR, e⟩ := List.exists_of_findSome?_eq_some h
  obtain ⟨q, h1, h2⟩ := Option.map_eq_some_iff.mp e
  cases h2
  exact ⟨hR, h1⟩
theorem spareF_ok {cur : Tb Txt Txt} {R : List Txt} {p : Txt × Txt} (h : spareF S cur R = some p) : p.1 ∈ R ∧ ∃ c ∈ S, c.nm = p.1 ∧ p.2 ∈ c.opts ∧ p.2 ∉ cur.map (·.2) := by
  obtain ⟨c, hc, e⟩ := List.exists_of_findSome?_eq_some h
  by_cases hm : c.nm ∈ R
  · rw [if_pos hm] at e
    obtain ⟨o, ho, e⟩ := Option.map_eq_some_iff.mp e
    cases e
    have := List.mem_of_mem_head? ho
    obtain ⟨h1, h2⟩ := List.mem_filter.mp this
    exact ⟨hm, c, hc, rfl, h1, by simpa using h2⟩
  · rw [if_neg hm] at e; cases e
theorem turnL_len {R : List Txt} {x : Txt} : (turnL R x).length = R.length := by
  unfold turnL
  rw [List.length_append, List.length_drop, List.length_take]; omega
theorem circG_len {R : List Txt} {p : Txt × Txt} : (circG g R p).length = R.length + 1 := by
  unfold circG
  rw [List.length_cons, List.length_map, List.length_reverse, turnL_len]
/-- waiting circles become fewer; steps and codes are bounded -/
theorem RunR.bound {o : Option (List (Txt × Txt))} {s a : PlS} (h : RunR S g o s a) : a.pot ≤ s.pot + runL o ∧ a.wt.length ≤ s.wt.length ∧ (∀ R ∈ a.wt, R ∈ s.wt) ∧ a.cur.length + s.st.length ≤ s.cur.length + a.st.length ∧ s.st.length ≤ a.st.length := by
  induction h with
  | stop e => exact ⟨Nat.le_refl _, Nat.le_refl _, fun _ h => h, Nat.le_refl _, Nat.le_refl _⟩
  | @turn s s1 s2 R p e h1 h2 ih1 ih2 =>
    obtain ⟨a1, a2, a3, a4, a5⟩ := ih1
    obtain ⟨b1, b2, b3, b4, b5⟩ := ih2
    have hm := (fstC_mem e).1
    have hp := potW_out hm
    have hl : (s.out R).wt.length ≤ s.wt.length := List.length_filter_le _ _
    have e1 : (s.out R).pot + (R.length + 1) ≤ s.pot := by
      show s.st.length + potW (s.wt.filter _) + _ ≤ s.st.length + potW s.wt
      omega
    have e2 : runL (some (circG g R p)) = R.length + 1 := circG_len
    have e3 : (s.out R).cur.length = s.cur.length := rfl
    have e4 : (s.out R).st.length = s.st.length := rfl
    have e5 : runL none = 0 := rfl
    rw [e5] at b1 ⊢
    rw [e2] at a1
    exact ⟨by omega, by omega, fun X hX => (List.mem_filter.mp (a3 X (b3 X hX))).1, by omega, by omega⟩
  | nil => exact ⟨Nat.le_refl _, Nat.le_refl _, fun _ h => h, Nat.le_refl _, Nat.le_refl _⟩
  | @cons s s1 s2 x c l h1 h2 ih1 ih2 =>
    obtain ⟨a1, a2, a3, a4, a5⟩ := ih1
    obtain ⟨b1, b2, b3, b4, b5⟩ := ih2
    have e1 : (s.put x c).pot = s.pot + 1 := by
      show (s.st ++ [(x, c)]).length + _ = s.st.length + _ + 1
      rw [List.length_append]
      show s.st.length + 1 + potW s.wt = _
      omega
    have e2 : (s.put x c).wt = s.wt := rfl
    have e3 : (s.put x c).st.length = s.st.length + 1 := List.length_append
    have e4 : (s.put x c).cur.length ≤ s.cur.length + 1 := pt_len
    have e5 : runL none = 0 := rfl
    have e6 : runL (some ((x, c) :: l)) = l.length + 1 := rfl
    have e7 : runL (some l) = l.length := rfl
    rw [e2] at a2 a3
    rw [e7] at b1
    exact ⟨by omega, by omega, fun X hX => a3 X (b3 X hX), by omega, by omega⟩
/-! ### the same as a function -/
end
/-! ### a planner at hand -/
abbrev stpD (e : Txt × Txt) : D := .tup [.str e.1, .str e.2]
/-- what a planner works with -/
structure PlOk (S : List Cl) (sl : Tb Txt Txt) (g : Txt → Txt) (s : PlS) : Prop where
  sg : SGd S
  go : ∀ R ∈ s.wt, ∀ n ∈ R, lk n sl = some (g n)
  wl : ∀ R ∈ s.wt, R.length ≤ 1000
  wa : ∀ R ∈ s.wt, ∀ n ∈ R, asc n
  wn : s.wt.length ≤ 1000
  p : s.pot ≤ 100000
  c : s.cur.length ≤ 100000 + s.st.length
/-- all other cells stay -/
def Oth (v b1 b2 : Addr) (C C' : Cs) : Prop := ∀ x, x ≠ v → x ≠ b1 → x ≠ b2 → C' x = C x
theorem Oth.refl {v b1 b2 : Addr} {C : Cs} : Oth v b1 b2 C C := fun _ _ _ _ => rfl
theorem Oth.trans {v b1 b2 : Addr} {C C1 C2 : Cs} (h : Oth v b1 b2 C C1) (h' : Oth v b1 b2 C1 C2) : Oth v b1 b2 C C2 := fun x a b c => (h' x a b c).trans (h x a b c)
theorem PlOk.run {S : List Cl} {sl : Tb Txt Txt} {g : Txt → Txt} {s a : PlS} {o : Option (List (Txt × Txt))} (k : PlOk S sl g s) (h : RunR S g o s a) (hp : s.pot + runL o ≤ 100000) : PlOk S sl g a := by
  obtain ⟨a1, a2, a3, a4, a5⟩ := h.bound
  have := k.c
  have := k.wn
  exact ⟨k.sg, fun R hR => k.go R (a3 R hR), fun R hR => k.wl R (a3 R hR), fun R hR => k.wa R (a3 R hR), by omega, by omega, by omega⟩
theorem PlOk.out {S : List Cl} {sl : Tb Txt Txt} {g : Txt → Txt} {s : PlS} {R : List Txt} (k : PlOk S sl g s) (hR : R ∈ s.wt) : PlOk S sl g (s.out R) ∧ (s.out R).pot + (R.length + 1) ≤ s.pot ∧ (s.out R).wt.length + 1 ≤ s.wt.length := by
  have hp := potW_out hR
  have e1 : (s.out R).pot + (R.length + 1) ≤ s.pot := by
    show s.st.length + potW (s.wt.filter _) + _ ≤ s.st.length + potW s.wt
    omega
  have hl : (s.out R).wt.length + 1 ≤ s.wt.length := by
    show (s.wt.filter fun R' => !decide (R' = R)).length + 1 ≤ _
    have : ∀ l : List (List Txt), R ∈ l → (l.filter fun R' => !decide (R' = R)).length + 1 ≤ l.length := fun l => by
      induction l with
      | nil => intro h; cases h
      | cons x l ih =>
        intro h
        by_cases e : x = R
        · rw [List.filter_cons_of_neg (by simp [e]), List.length_cons]
          have := List.length_filter_le (fun R' => !decide (R' = R)) l
          omega
        · rw [List.filter_cons_of_pos (by simp [e]), List.length_cons, List.length_cons]
          have := ih ((List.mem_cons.mp h).resolve_left fun z => e z.symm)
          omega
    exact this _ hR
  have hw := k.wn
  have hp0 := k.p
  exact ⟨⟨k.sg, fun X hX => k.go X (List.mem_filter.mp hX).1, fun X hX => k.wl X (List.mem_filter.mp hX).1, fun X hX => k.wa X (List.mem_filter.mp hX).1, by omega, by omega, k.c⟩, e1, hl⟩
end L2.DL
/-! VD: the circles of two codings. -/
namespace L2.DL
open PySem PySem.Spec PyProof.Rows L2.AS
/-- a circle -/
structure CirR (nx : Txt → Option Txt) (R : List Txt) : Prop where
  ne : R ≠ []
  nd : R.Nodup
  st : ∀ (i : Nat) a b, R[i]? = some a → R[i + 1]? = some b → nx a = some b
  la : ∀ (i : Nat) a, R[i]? = some a → R[i + 1]? = none → nx a = R[0]?
section
variable {N : List Txt} {f : Txt → Option Txt} {s : Txt → Txt}
/-- the names on rows; those on none -/
def rowsM (N : List Txt) (f : Txt → Option Txt) (s : Txt → Txt) : List Txt := (hdW N f s).flatMap (rowC N f s)
def freeU (N : List Txt) (f : Txt → Option Txt) (s : Txt → Txt) : List Txt := (chgW N f s).filter fun n => decide (n ∉ rowsM N f s)
theorem mem_freeU {n : Txt} : n ∈ freeU N f s ↔ n ∈ chgW N f s ∧ n ∉ rowsM N f s := by unfold freeU; rw [List.mem_filter]; simp
theorem chgW_N {n : Txt} (h : n ∈ chgW N f s) : n ∈ N := (mem_chgW.mp h).1
theorem rowC_head {x : Txt} : (rowC N f s x)[0]? = some x := rowG_head _ _
theorem rowC_self {x : Txt} : x ∈ rowC N f s x := List.mem_of_getElem? rowC_head
theorem rowC_next (h : Chg N f s) {x y z : Txt} (hx : x ∈ chgW N f s) {i : Nat} (hi : (rowC N f s x)[i]? = some y) (e : nxW N f s y = some z) (hz : z ≠ x) : (rowC N f s x)[i + 1]? = some z := by
  have ok := rowC_ok h hx
  cases hb : (rowC N f s x)[i + 1]? with
  | none =>
    rcases ok.en i y hi hb with h1 | h1
    · rw [e] at h1; cases h1
    · rw [e] at h1; cases h1; exact absurd rfl hz
  | some b =>
    have := (ok.st i y b hi hb).1
    rw [e] at this
    exact this.symm
theorem hd_no {z y : Txt} (hz : z ∈ hdW N f s) (hy : y ∈ chgW N f s) : nxW N f s y ≠ some z := fun e => (mem_hdW.mp hz).2 (List.mem_filterMap.mpr ⟨y, hy, e⟩)
theorem mem_rowsM {y : Txt} : y ∈ rowsM N f s ↔ ∃ x ∈ hdW N f s, y ∈ rowC N f s x := List.mem_flatMap
theorem u_next (h : Chg N f s) {n m : Txt} (hn : n ∈ freeU N f s) (e : nxW N f s n = some m) : m ∈ freeU N f s := by
  obtain ⟨n1, n2⟩ := mem_freeU.mp hn
  refine mem_freeU.mpr ⟨((nx_some h).mp e).1, fun hm => ?_⟩
  obtain ⟨x, hx, hmx⟩ := mem_rowsM.mp hm
  have hxc := (mem_hdW.mp hx).1
  obtain ⟨i, hi⟩ := List.getElem?_of_mem hmx
  cases i with
  | zero =>
    rw [rowC_head] at hi
    cases hi
    exact hd_no hx n1 e
  | succ i =>
    have hl := (List.getElem?_eq_some_iff.mp hi).1
    have hy : (rowC N f s x)[i]? = some ((rowC N f s x)[i]'(by omega)) := List.getElem?_eq_getElem _
    have e2 := ((rowC_ok h hxc).st i _ _ hy hi).1
    have hym := rowC_sub h hxc _ (List.mem_of_getElem? hy)
    have := nx_inj h (chgW_N n1) (chgW_N hym) e e2
    exact n2 (mem_rowsM.mpr ⟨x, hx, by rw [this]; exact List.mem_of_getElem? hy⟩)
theorem u_pred (h : Chg N f s) {n : Txt} (hn : n ∈ freeU N f s) : ∃ p ∈ freeU N f s, nxW N f s p = some n := by
  obtain ⟨n1, n2⟩ := mem_freeU.mp hn
  have nh : n ∉ hdW N f s := fun z => n2 (mem_rowsM.mpr ⟨n, z, rowC_self⟩)
  have : n ∈ (chgW N f s).filterMap (nxW N f s) := by
    by_cases q : n ∈ (chgW N f s).filterMap (nxW N f s)
    · exact q
    · exact absurd (mem_hdW.mpr ⟨n1, q⟩) nh
  obtain ⟨p, hp, e⟩ := List.mem_filterMap.mp this
  refine ⟨p, mem_freeU.mpr ⟨hp, fun hm => ?_⟩, e⟩
  obtain ⟨x, hx, hpx⟩ := mem_rowsM.mp hm
  obtain ⟨i, hi⟩ := List.getElem?_of_mem hpx
  have hnx : n ≠ x := fun z => nh (z ▸ hx)
  exact n2 (mem_rowsM.mpr ⟨x, hx, List.mem_of_getElem? (rowC_next h (mem_hdW.mp hx).1 hi e hnx)⟩)
open Classical in
theorem u_total (h : Chg N f s) {n : Txt} (hn : n ∈ freeU N f s) : ∃ m, nxW N f s n = some m := by
  cases e : nxW N f s n with
  | some m => exact ⟨m, rfl⟩
  | none =>
    exfalso
    let pr : Txt → Txt := fun z => if h : ∃ p ∈ freeU N f s, nxW N f s p = some z then h.choose else z
    have hpr : ∀ z ∈ freeU N f s, pr z ∈ freeU N f s ∧ nxW N f s (pr z) = some z := fun z hz => by
      have q := u_pred h hz
      show (if h : ∃ p ∈ freeU N f s, nxW N f s p = some z then h.choose else z) ∈ _ ∧ nxW N f s (if h : ∃ p ∈ freeU N f s, nxW N f s p = some z then h.choose else z) = _
      rw [dif_pos q]
      exact q.choose_spec
    have nU : (freeU N f s).Nodup := (h.nd.filter _).filter _
    have n1 : ((freeU N f s).map pr).Nodup := nd_map nU fun a b ha hb q => by
      have h1 := (hpr a ha).2
      have h2 := (hpr b hb).2
      rw [q, h2] at h1
      exact (Option.some.inj h1).symm
    have le := nd_le (r := (freeU N f s).filter fun p => decide (p ≠ n)) n1 fun y hy => by
      obtain ⟨z, hz, rfl⟩ := List.mem_map.mp hy
      obtain ⟨h1, h2⟩ := hpr z hz
      exact List.mem_filter.mpr ⟨h1, decide_eq_true fun q => by rw [q, e] at h2; cases h2⟩
    rw [List.length_map] at le
    have lt : ((freeU N f s).filter fun p => decide (p ≠ n)).length < (freeU N f s).length := by
      rcases Nat.lt_or_ge ((freeU N f s).filter fun p => decide (p ≠ n)).length (freeU N f s).length with q | q
      · exact q
      · have := List.filter_eq_self.mp (List.filter_sublist.eq_of_length_le q) n hn
        simp at this
    omega
theorem rowC_free (h : Chg N f s) {n : Txt} (hn : n ∈ freeU N f s) : ∀ (i : Nat) y, (rowC N f s n)[i]? = some y → y ∈ freeU N f s
  | 0, y, e => by rw [rowC_head] at e; cases e; exact hn
  | i + 1, y, e => by
    have hl := (List.getElem?_eq_some_iff.mp e).1
    have hy : (rowC N f s n)[i]? = some ((rowC N f s n)[i]'(by omega)) := List.getElem?_eq_getElem _
    exact u_next h (rowC_free h hn i _ hy) ((rowC_ok h (mem_freeU.mp hn).1).st i _ _ hy e).1
theorem circ_ok (h : Chg N f s) {n : Txt} (hn : n ∈ freeU N f s) : CirR (nxW N f s) (rowC N f s n) := by
  have hc := (mem_freeU.mp hn).1
  have ok := rowC_ok h hc
  refine ⟨fun z => ?_, rowC_nd h hc, fun i a b h1 h2 => (ok.st i a b h1 h2).1, fun i a h1 h2 => ?_⟩
  · have := rowC_head (N := N) (f := f) (s := s) (x := n)
    rw [z] at this; cases this
  · rcases ok.en i a h1 h2 with q | q
    · obtain ⟨m, hm⟩ := u_total h (rowC_free h hn i a h1)
      rw [q] at hm; cases hm
    · rw [q, rowC_head]
theorem CirR.next {nx : Txt → Option Txt} {R : List Txt} (c : CirR nx R) {y z : Txt} (hy : y ∈ R) (e : nx y = some z) : z ∈ R := by
  obtain ⟨i, hi⟩ := List.getElem?_of_mem hy
  cases hb : R[i + 1]? with
  | none =>
    have := c.la i y hi hb
    rw [e] at this
    exact List.mem_of_getElem? this.symm
  | some b =>
    have := c.st i y b hi hb
    rw [e] at this; cases this
    exact List.mem_of_getElem? hb
theorem CirR.sub {nx : Txt → Option Txt} {R R' : List Txt} (c : CirR nx R) (c' : CirR nx R') {m : Txt} (h1 : m ∈ R) (h2 : m ∈ R') : ∀ y ∈ R, y ∈ R' := by
  obtain ⟨i, hi⟩ := List.getElem?_of_mem h1
  have up : ∀ k y, R[i + k]? = some y → y ∈ R' := fun k => by
    induction k with
    | zero => intro y e; rw [Nat.add_zero, hi] at e; cases e; exact h2
    | succ k ih =>
      intro y e
      have hl := (List.getElem?_eq_some_iff.mp e).1
      have hy : R[i + k]? = some (R[i + k]'(by omega)) := List.getElem?_eq_getElem _
      exact c'.next (ih _ hy) (c.st (i + k) _ _ hy e)
  have hl := (List.getElem?_eq_some_iff.mp hi).1
  have la : R[i + (R.length - 1 - i)]? = some (R[R.length - 1]'(by omega)) := by rw [show i + (R.length - 1 - i) = R.length - 1 by omega]; exact List.getElem?_eq_getElem _
  have hd : ∀ y, R[0]? = some y → y ∈ R' := fun y e => by
    have h1 := up _ _ la
    have h2 := c.la (R.length - 1) _ (List.getElem?_eq_getElem (by omega)) (by rw [show R.length - 1 + 1 = R.length by omega]; exact List.getElem?_eq_none (Nat.le_refl _))
    rw [e] at h2
    exact c'.next h1 h2
  have all : ∀ (k : Nat) y, R[k]? = some y → y ∈ R' := fun k => by
    induction k with
    | zero => exact hd
    | succ k ih =>
      intro y e
      have hl := (List.getElem?_eq_some_iff.mp e).1
      have hy : R[k]? = some (R[k]'(by omega)) := List.getElem?_eq_getElem _
      exact c'.next (ih _ hy) (c.st k _ _ hy e)
  intro y hy
  obtain ⟨k, hk⟩ := List.getElem?_of_mem hy
  exact all k y hk
theorem circF_mem {row : Txt → List Txt} : ∀ {ns met : List Txt} {R : List Txt}, R ∈ circF row met ns → ∃ n ∈ ns, n ∉ met ∧ R = row n
  | [], _, _, h => by cases h
  | n :: ns, met, R, h => by
    unfold circF at h
    by_cases q : n ∈ met
    · rw [if_pos q] at h
      obtain ⟨m, h1, h2, h3⟩ := circF_mem h
      exact ⟨m, List.mem_cons_of_mem _ h1, h2, h3⟩
    · rw [if_neg q] at h
      rcases List.mem_cons.mp h with rfl | h
      · exact ⟨n, List.mem_cons_self, q, rfl⟩
      · obtain ⟨m, h1, h2, h3⟩ := circF_mem h
        exact ⟨m, List.mem_cons_of_mem _ h1, fun z => h2 (List.mem_append.mpr (.inl z)), h3⟩
theorem circF_cov {row : Txt → List Txt} (hr : ∀ n, n ∈ row n) : ∀ {ns met : List Txt} {n : Txt}, n ∈ ns → n ∈ met ∨ ∃ R ∈ circF row met ns, n ∈ R
  | m :: ns, met, n, h => by
    unfold circF
    by_cases q : m ∈ met
    · rw [if_pos q]
      rcases List.mem_cons.mp h with rfl | h
      · exact .inl q
      · exact circF_cov hr h
    · rw [if_neg q]
      rcases List.mem_cons.mp h with rfl | h
      · exact .inr ⟨_, List.mem_cons_self, hr _⟩
      · rcases circF_cov (met := met ++ row m) hr h with z | ⟨R, h1, h2⟩
        · rcases List.mem_append.mp z with z | z
          · exact .inl z
          · exact .inr ⟨_, List.mem_cons_self, z⟩
        · exact .inr ⟨R, List.mem_cons_of_mem _ h1, h2⟩
theorem circF_pw {row : Txt → List Txt} (hr : ∀ n, n ∈ row n) (U : List Txt) (sy : ∀ n ∈ U, ∀ m ∈ U, ∀ y, y ∈ row n → y ∈ row m → m ∈ row n) : ∀ {ns met : List Txt}, (∀ n ∈ ns, n ∉ met → n ∈ U) → (circF row met ns).Pairwise fun R R' => ∀ y ∈ R, y ∉ R'
  | [], _, _ => List.Pairwise.nil
  | n :: ns, met, hU => by
    unfold circF
    by_cases q : n ∈ met
    · rw [if_pos q]
      exact circF_pw hr U sy fun m hm => hU m (List.mem_cons_of_mem _ hm)
    · rw [if_neg q]
      refine List.pairwise_cons.mpr ⟨fun R' hR' y hy hy' => ?_, circF_pw hr U sy fun m hm hm' => hU m (List.mem_cons_of_mem _ hm) fun z => hm' (List.mem_append.mpr (.inl z))⟩
      obtain ⟨m, h1, h2, rfl⟩ := circF_mem hR'
      exact h2 (List.mem_append.mpr (.inr (sy n (hU n List.mem_cons_self q) m (hU m (List.mem_cons_of_mem _ h1) fun z => h2 (List.mem_append.mpr (.inl z))) y hy hy')))
/-- what is known of the circles -/
structure Cirs (N : List Txt) (f : Txt → Option Txt) (s : Txt → Txt) : Prop where
  cir : ∀ R ∈ circW N f s, CirR (nxW N f s) R
  sub : ∀ R ∈ circW N f s, ∀ n ∈ R, n ∈ chgW N f s ∧ n ∉ rowsM N f s
  pw : (circW N f s).Pairwise fun R R' => ∀ y ∈ R, y ∉ R'
  cov : ∀ n ∈ chgW N f s, n ∈ rowsM N f s ∨ ∃ R ∈ circW N f s, n ∈ R
  row : ∀ n, n ∈ rowsM N f s ↔ ∃ R ∈ rowsW N f s, n ∈ R
theorem cirs (h : Chg N f s) : Cirs N f s := by
  have hmem : ∀ R ∈ circW N f s, ∃ n ∈ freeU N f s, R = rowC N f s n := fun R hR => by
    obtain ⟨n, h1, h2, h3⟩ := circF_mem (show R ∈ circF (rowC N f s) (rowsM N f s) (chgW N f s) from hR)
    exact ⟨n, mem_freeU.mpr ⟨h1, h2⟩, h3⟩
  refine ⟨fun R hR => ?_, fun R hR y hy => ?_, circF_pw (fun n => rowC_self) (freeU N f s) (fun n hn m hm y h1 h2 => ?_) fun n hn hn' => mem_freeU.mpr ⟨hn, hn'⟩, fun n hn => circF_cov (fun n => rowC_self) hn, fun n => ?_⟩
  · obtain ⟨n, hn, rfl⟩ := hmem R hR
    exact circ_ok h hn
  · obtain ⟨n, hn, rfl⟩ := hmem R hR
    obtain ⟨i, hi⟩ := List.getElem?_of_mem hy
    exact mem_freeU.mp (rowC_free h hn i y hi)
  · exact (circ_ok h hm).sub (circ_ok h hn) h2 h1 m rowC_self
  · rw [mem_rowsM]
    unfold rowsW
    constructor
    · rintro ⟨x, hx, hy⟩
      exact ⟨_, List.mem_map.mpr ⟨x, (srtW_perm _ _).mem_iff.mpr hx, rfl⟩, hy⟩
    · rintro ⟨R, hR, hy⟩
      obtain ⟨x, hx, rfl⟩ := List.mem_map.mp hR
      exact ⟨x, (srtW_perm _ _).mem_iff.mp hx, hy⟩
end
section
variable {N : List Txt} {f : Txt → Option Txt} {s : Txt → Txt}
/-- a circle has two names at least -/
theorem cir_two (h : Chg N f s) {R : List Txt} (hR : R ∈ circW N f s) : 2 ≤ R.length := by
  have K := cirs h
  have c := K.cir R hR
  match R, c.ne, c, K.sub R hR with
  | [x], _, c, hs =>
    have := c.la 0 x rfl rfl
    have := ((nx_some h).mp this).2
    exact absurd this (mem_chgW.mp (hs x List.mem_cons_self).1).2
  | x :: y :: r, _, _, _ => simp
theorem pw_nd : ∀ {l : List (List Txt)}, (∀ R ∈ l, R.Nodup) → (l.Pairwise fun R R' => ∀ y ∈ R, y ∉ R') → l.flatten.Nodup
  | [], _, _ => List.nodup_nil
  | R :: l, h, p => by
    obtain ⟨p1, p2⟩ := List.pairwise_cons.mp p
    rw [List.flatten_cons]
    refine List.nodup_append.mpr ⟨h R List.mem_cons_self, pw_nd (fun X hX => h X (List.mem_cons_of_mem _ hX)) p2, fun a ha b hb e => ?_⟩
    obtain ⟨X, hX, hbX⟩ := List.mem_flatten.mp hb
    exact p1 X hX a ha (e ▸ hbX)
theorem flat_two : ∀ {l : List (List Txt)}, (∀ R ∈ l, 2 ≤ R.length) → 2 * l.length ≤ l.flatten.length
  | [], _ => Nat.le_refl _
  | R :: l, h => by
    have h1 := flat_two (l := l) fun X hX => h X (List.mem_cons_of_mem _ hX)
    have h2 := h R List.mem_cons_self
    rw [List.flatten_cons, List.length_append, List.length_cons]; omega
theorem circs_nd (h : Chg N f s) : (circW N f s).flatten.Nodup := pw_nd (fun R hR => ((cirs h).cir R hR).nd) (cirs h).pw
theorem circs_two (h : Chg N f s) : 2 * (circW N f s).length ≤ N.length := by
  have h1 := flat_two fun R hR => cir_two h hR
  have h2 := nd_le (circs_nd h) fun x hx => by
    obtain ⟨R, hR, hx⟩ := List.mem_flatten.mp hx
    exact chgW_N ((cirs h).sub R hR x hx).1
  omega
end
def opO (S : List Cl) (n : Txt) : List Txt := ((S.find? fun c => decide (c.nm = n)).map (·.opts)).getD []
theorem opO_of {S : List Cl} (nd : (S.map (·.nm)).Nodup) {c : Cl} (hc : c ∈ S) : opO S c.nm = c.opts := by
  have : S.find? (fun x => decide (x.nm = c.nm)) = some c := by
    induction S with
    | nil => cases hc
    | cons x S ih =>
      rw [List.map_cons, List.nodup_cons] at nd
      rcases List.mem_cons.mp hc with rfl | hc'
      · rw [List.find?_cons_of_pos (by simp)]
      · rw [List.find?_cons_of_neg (by
          have : x.nm ≠ c.nm := fun z => nd.1 (z ▸ List.mem_map_of_mem hc')
          simpa using this)]
        exact ih nd.2 hc'
  unfold opO
  rw [this]; rfl
/-! ### circles for which no code is free -/
/-- all options of the circles of W are had by names that never move -/
def ClosW (S : List Cl) (fl : Tb Txt Txt) (rm : List Txt) (cs W : List (List Txt)) : Prop := ∀ R ∈ W, ∀ n ∈ R, ∀ c ∈ S, c.nm = n → ∀ o ∈ c.opts, ∃ m, (m, o) ∈ fl ∧ m ∉ rm ∧ ∀ R' ∈ cs, m ∈ R' → R' ∈ W
/-- the stuck circles -/
structure IsStk (S : List Cl) (fl : Tb Txt Txt) (rm : List Txt) (cs W : List (List Txt)) : Prop where
  fi : ∃ p : List Txt → Bool, W = cs.filter p
  cl : ClosW S fl rm cs W
  mx : ∀ W' : List (List Txt), (∀ R ∈ W', R ∈ cs) → ClosW S fl rm cs W' → ∀ R ∈ W', R ∈ W
theorem IsStk.only {S : List Cl} {fl : Tb Txt Txt} {rm : List Txt} {cs W W' : List (List Txt)} (h : IsStk S fl rm cs W) (h' : IsStk S fl rm cs W') : W = W' := by
  have a := h.mx W' (fun R hR => by obtain ⟨p, e⟩ := h'.fi; rw [e] at hR; exact (List.mem_filter.mp hR).1) h'.cl
  have b := h'.mx W (fun R hR => by obtain ⟨p, e⟩ := h.fi; rw [e] at hR; exact (List.mem_filter.mp hR).1) h.cl
  obtain ⟨p, e⟩ := h.fi
  obtain ⟨p', e'⟩ := h'.fi
  rw [e] at a b ⊢
  rw [e'] at a b ⊢
  refine List.filter_congr fun R hR => ?_
  have h1 : p R = true → p' R = true := fun z => (List.mem_filter.mp (b R (List.mem_filter.mpr ⟨hR, z⟩))).2
  have h2 : p' R = true → p R = true := fun z => (List.mem_filter.mp (a R (List.mem_filter.mpr ⟨hR, z⟩))).2
  cases q : p R <;> cases q' : p' R <;> simp_all
end L2.DL
/-! VE: what is done to an answer at once, and to nobody's harm. -/
namespace L2.DL
open PySem PySem.Spec PyProof.Rows
/-- a thing of nobody's is written -/
theorem SR.wrN {K : PySem.W.Frag} {Z : Z0} {σ : St} {Hs H : Hp} {env : DL.Env} {C : Cs} {p : Addr} {o o' : HO} (r : SR K Z σ Hs H env C) (hp : H p = some o) (h1 : Hs p = none) (h2 : C p = none) (hz : Z.H p = none)
    (no : ∀ (i : Nat) (c' : Cont), env[i]? = some (Slot.own c') → σ[i]? ≠ some (some (V.ref p))) : SR K Z σ Hs (upd H p o') env C := by
  refine ⟨⟨fun b u e => ?_, fun a c e => ?_⟩, ⟨r.bas.fl, fun a u e c => ?_, th_upd r.bas.th⟩, r.slt.len, r.slt.shr, fun j c2 e => ?_, r.slt.sep⟩
  · rw [upd_ne (ne_of_none e h1)]; exact r.fit.sub _ _ e
  · obtain ⟨q, u, e1, r2⟩ := r.fit.cel _ _ e
    have ha : a ≠ p := fun z => by rw [z, h2] at e; cases e
    exact ⟨q, u, by rw [upd_ne ha]; exact e1, r2⟩
  · obtain ⟨q1, q2, q3⟩ := r.bas.kp a u e c
    exact ⟨by rw [upd_ne (ne_of_none e hz)]; exact q1, q2, q3⟩
  · obtain ⟨q, u, f1, f2, r2, m1, m2, m3⟩ := r.slt.own j c2 e
    have hq : q ≠ p := fun z => no j c2 e (by rw [← z]; exact f1)
    exact ⟨q, u, f1, by rw [upd_ne hq]; exact f2, r2, m1, m2, m3⟩
/-! ### a list that is a cell is cleared -/
/-! ### a new list is cleared, or gets a new list: nobody sees it -/
def sAppN (mo : EM Cont) : SM := fun E dE env C => mo E env C fun c env1 C1 => (∃ xs, c = .lst xs ∧ xs.length < sizeLine) ∧ dE.nx env1 C1
theorem j_appN {env : DL.Env} {C : Cs} {E : EX} {mo : EM Cont} {nx bk ct : DL.Env → Cs → Prop} {rt : Ret → Cs → Prop} (q : mo E env C fun c env1 C1 => (∃ xs, c = .lst xs ∧ xs.length < sizeLine) ∧ nx env1 C1) : sAppN mo E ⟨nx, rt, bk, ct⟩ env C := q
end L2.DL
/-! VF: what a planner's run leaves as it is. -/
namespace L2.DL
open PySem PySem.Spec PyProof.Rows L2.AS
abbrev occ (c : Tb Txt Txt) (o : Txt) : Prop := ∃ m, lk m c = some o
def putsT (c : Tb Txt Txt) (l : List (Txt × Txt)) : Tb Txt Txt := l.foldl (fun c p => pt c p.1 p.2) c
def InjT (c : Tb Txt Txt) : Prop := ∀ m m' o, lk m c = some o → lk m' c = some o → m = m'
theorem occ_iff {c : Tb Txt Txt} (nd : (ks c).Nodup) {o : Txt} : o ∈ c.map (·.2) ↔ occ c o := by
  constructor
  · intro h
    obtain ⟨e, he, rfl⟩ := List.mem_map.mp h
    exact ⟨e.1, lk_of nd he⟩
  · rintro ⟨m, h⟩
    exact List.mem_map.mpr ⟨_, lk_mem h, rfl⟩
/-- gives one after the other: each code is the one that is free just then -/
def Lg (S : List Cl) : Tb Txt Txt → Option Txt → List (Txt × Txt) → Option Txt → Prop
  | _, h, [], h' => h = h'
  | c, h, (y, x) :: l, h' => h = some x ∧ x ∈ opO S y ∧ Lg S (pt c y x) (lk y c) l h'
/-- steps that can be done -/
def pathF (S : List Cl) : Tb Txt Txt → List (Txt × Txt) → Option (Tb Txt Txt)
  | c, [] => some c
  | c, (y, x) :: l => if x ∈ opO S y ∧ x ∉ c.map (·.2) then pathF S (pt c y x) l else none
theorem pathF_app {S : List Cl} : ∀ {l m : List (Txt × Txt)} {c d e : Tb Txt Txt}, pathF S c l = some d → pathF S d m = some e → pathF S c (l ++ m) = some e
  | [], m, c, d, e, h, h' => by cases h; exact h'
  | (y, x) :: l, m, c, d, e, h, h' => by
    unfold pathF at h
    show pathF S c ((y, x) :: (l ++ m)) = _
    unfold pathF
    by_cases q : x ∈ opO S y ∧ x ∉ c.map (·.2)
    · rw [if_pos q] at h ⊢
      exact pathF_app h h'
    · rw [if_neg q] at h; cases h
theorem put_inj {c : Tb Txt Txt} {y x : Txt} (i : InjT c) (fr : ¬ occ c x) : InjT (pt c y x) := fun m m' o h h' => by
  rw [lk_pt] at h h'
  by_cases e : m = y
  · by_cases e' : m' = y
    · rw [e, e']
    · rw [if_pos e] at h
      rw [if_neg e'] at h'
      cases h
      exact absurd ⟨m', h'⟩ fr
  · rw [if_neg e] at h
    by_cases e' : m' = y
    · rw [if_pos e'] at h'
      cases h'
      exact absurd ⟨m, h⟩ fr
    · rw [if_neg e'] at h'
      exact i m m' o h h'
theorem put_occ {c : Tb Txt Txt} {y x o : Txt} (i : InjT c) (fr : ¬ occ c x) : occ (pt c y x) o ↔ (occ c o ∨ some x = some o) ∧ lk y c ≠ some o := by
  constructor
  · rintro ⟨m, h⟩
    rw [lk_pt] at h
    by_cases e : m = y
    · rw [if_pos e] at h
      refine ⟨.inr h, fun z => fr ⟨y, ?_⟩⟩
      cases h; exact z
    · rw [if_neg e] at h
      exact ⟨.inl ⟨m, h⟩, fun z => e (i m y o h z)⟩
  · rintro ⟨h | h, n⟩
    · obtain ⟨m, h⟩ := h
      have e : m ≠ y := fun z => n (z ▸ h)
      exact ⟨m, by rw [lk_pt, if_neg e]; exact h⟩
    · exact ⟨y, by rw [lk_pt, if_pos rfl]; exact h⟩
theorem putsT_lk {n : Txt} : ∀ {l : List (Txt × Txt)} {c d : Tb Txt Txt}, lk n c = lk n d → lk n (putsT c l) = lk n (putsT d l)
  | [], _, _, h => h
  | (y, x) :: l, c, d, h => putsT_lk (l := l) (c := pt c y x) (d := pt d y x) (by rw [lk_pt, lk_pt, h])
theorem putsT_no {n : Txt} : ∀ {l : List (Txt × Txt)} {c : Tb Txt Txt}, (∀ p ∈ l, p.1 ≠ n) → lk n (putsT c l) = lk n c
  | [], _, _ => rfl
  | (y, x) :: l, c, h => by
    have := putsT_no (l := l) (c := pt c y x) fun p hp => h p (List.mem_cons_of_mem _ hp)
    show lk n (putsT (pt c y x) l) = _
    rw [this, lk_pt, if_neg fun z => h (y, x) List.mem_cons_self z.symm]
theorem Lg_congr {S : List Cl} : ∀ {l : List (Txt × Txt)} {c d : Tb Txt Txt} {h h' : Option Txt}, (∀ p ∈ l, lk p.1 c = lk p.1 d) → Lg S c h l h' → Lg S d h l h'
  | [], _, _, _, _, _, q => q
  | (y, x) :: l, c, d, h, h', e, q => by
    obtain ⟨q1, q2, q3⟩ := q
    refine ⟨q1, q2, ?_⟩
    rw [← e (y, x) List.mem_cons_self]
    exact Lg_congr (fun p hp => by rw [lk_pt, lk_pt, e p (List.mem_cons_of_mem _ hp)]) q3
theorem Lg_chain {S : List Cl} {g : Txt → Txt} {h' : Option Txt} : ∀ {L : List Txt} {c : Tb Txt Txt} {h : Option Txt}, L.Nodup → (∀ a ∈ L, g a ∈ opO S a) → (∀ a, L[0]? = some a → h = some (g a)) →
    (∀ (i : Nat) a b, L[i]? = some a → L[i + 1]? = some b → lk a c = some (g b)) → (∀ (i : Nat) a, L[i]? = some a → L[i + 1]? = none → lk a c = h') → (L = [] → h = h') → Lg S c h (L.map fun y => (y, g y)) h'
  | [], _, _, _, _, _, _, _, e => e rfl
  | a :: L, c, h, nd, op, hd, st, la, _ => by
    obtain ⟨n1, n2⟩ := List.nodup_cons.mp nd
    have ne : ∀ (i : Nat) b, L[i]? = some b → b ≠ a := fun i b hb z => n1 (z ▸ List.mem_of_getElem? hb)
    refine ⟨hd a rfl, op a List.mem_cons_self, Lg_chain n2 (fun b hb => op b (List.mem_cons_of_mem _ hb)) (fun b hb => st 0 a b rfl hb) (fun i b d h1 h2 => ?_) (fun i b h1 h2 => ?_) fun z => ?_⟩
    · rw [lk_pt, if_neg (ne i b h1)]
      exact st (i + 1) b d h1 h2
    · rw [lk_pt, if_neg (ne i b h1)]
      exact la (i + 1) b h1 h2
    · subst z
      exact la 0 a rfl rfl
/-- a circle by the codes that are had -/
structure CirC (S : List Cl) (g : Txt → Txt) (c : Tb Txt Txt) (R : List Txt) : Prop where
  ne : R ≠ []
  nd : R.Nodup
  st : ∀ (i : Nat) a b, R[i]? = some a → R[i + 1]? = some b → lk b c = some (g a)
  la : ∀ (i : Nat) a b, R[i]? = some a → R[i + 1]? = none → R[0]? = some b → lk b c = some (g a)
  op : ∀ n ∈ R, g n ∈ opO S n
section
variable {S : List Cl} {g : Txt → Txt}
theorem CirC.congr {c d : Tb Txt Txt} {R : List Txt} (h : CirC S g c R) (e : ∀ n ∈ R, lk n c = lk n d) : CirC S g d R :=
  ⟨h.ne, h.nd, fun i a b h1 h2 => by rw [← e b (List.mem_of_getElem? h2)]; exact h.st i a b h1 h2, fun i a b h1 h2 h3 => by rw [← e b (List.mem_of_getElem? h3)]; exact h.la i a b h1 h2 h3, h.op⟩
theorem CirC.rot1 {c : Tb Txt Txt} {x : Txt} {r : List Txt} (h : CirC S g c (x :: r)) : CirC S g c (r ++ [x]) := by
  cases r with
  | nil => exact h
  | cons y r =>
    obtain ⟨n1, n2⟩ := List.nodup_cons.mp h.nd
    refine ⟨by simp, List.nodup_append.mpr ⟨n2, List.pairwise_singleton _ _, fun a ha b hb z => n1 ?_⟩, fun i a b h1 h2 => ?_, fun i a b h1 h2 h3 => ?_, fun n hn => h.op n ?_⟩
    · rw [List.mem_singleton.mp hb] at z; exact z ▸ ha
    · have hl := (List.getElem?_eq_some_iff.mp h2).1
      rw [List.length_append, List.length_singleton] at hl
      have hi : i < (y :: r).length := by omega
      rw [List.getElem?_append_left hi] at h1
      by_cases q : i + 1 < (y :: r).length
      · rw [List.getElem?_append_left q] at h2
        exact h.st (i + 1) a b h1 h2
      · have e : i + 1 = (y :: r).length := by omega
        rw [e, List.getElem?_append_right (Nat.le_refl _), Nat.sub_self] at h2
        cases h2
        exact h.la (i + 1) a x h1 (List.getElem?_eq_none (by rw [List.length_cons]; omega)) rfl
    · have hl := List.getElem?_eq_none_iff.mp h2
      have hl1 := (List.getElem?_eq_some_iff.mp h1).1
      rw [List.length_append, List.length_singleton] at hl hl1
      have e : i = (y :: r).length := by omega
      rw [e, List.getElem?_append_right (Nat.le_refl _), Nat.sub_self] at h1
      cases h1
      have h3 : some y = some b := h3
      cases h3
      exact h.st 0 x y rfl rfl
    · rcases List.mem_append.mp hn with hn | hn
      · exact List.mem_cons_of_mem _ hn
      · rw [List.mem_singleton.mp hn]; exact List.mem_cons_self
theorem CirC.rot {c : Tb Txt Txt} {R : List Txt} (h : CirC S g c R) : ∀ k, k ≤ R.length → CirC S g c (R.drop k ++ R.take k)
  | 0, _ => by simpa using h
  | k + 1, hk => by
    have ih := h.rot k (by omega)
    have e1 : R.drop k = R[k] :: R.drop (k + 1) := List.drop_eq_getElem_cons (by omega)
    have e2 : R.take (k + 1) = R.take k ++ [R[k]] := by rw [List.take_add_one, List.getElem?_eq_getElem (by omega)]; rfl
    rw [e1, List.cons_append] at ih
    have := ih.rot1
    rw [e2, ← List.append_assoc]
    exact this
theorem turn_cir {c : Tb Txt Txt} {R : List Txt} {x : Txt} (h : CirC S g c R) (hx : x ∈ R) : CirC S g c (turnL R x) ∧ (turnL R x)[0]? = some x ∧ ∀ y, y ∈ turnL R x ↔ y ∈ R := by
  obtain ⟨j, hj, hl⟩ := fstIx_mem hx
  have hp : plL R x = j := by unfold plL; rw [hj]; rfl
  have hg := (fstIx_get hj).1
  unfold turnL
  rw [hp]
  refine ⟨h.rot j (by omega), ?_, fun y => ?_⟩
  · rw [List.drop_eq_getElem_cons hl]
    have := (List.getElem?_eq_some_iff.mp hg).2
    rw [this]; rfl
  · constructor
    · intro hy
      exact (List.mem_append.mp hy).elim List.mem_of_mem_drop List.mem_of_mem_take
    · intro hy
      rw [← List.take_append_drop j R] at hy
      exact List.mem_append.mpr ((List.mem_append.mp hy).elim .inr .inl)
/-- a circle's gives are legal, the spare code is free again behind them -/
theorem circ_Lg {c : Tb Txt Txt} {R : List Txt} {p : Txt × Txt} (h : CirC S g c R) (hx : p.1 ∈ R) (ho : p.2 ∈ opO S p.1) : Lg S c (some p.2) (circG g R p) (some p.2) := by
  obtain ⟨x, o⟩ := p
  obtain ⟨hT, h0, hm⟩ := turn_cir h hx
  unfold circG
  refine ⟨rfl, ho, ?_⟩
  generalize turnL R x = T at hT h0 hm ⊢
  have rv : ∀ i a, T.reverse[i]? = some a → i < T.length ∧ T[T.length - 1 - i]? = some a := fun i a hi => by
    have hl := (List.getElem?_eq_some_iff.mp hi).1
    rw [List.length_reverse] at hl
    rw [List.getElem?_reverse hl] at hi
    exact ⟨hl, hi⟩
  have nx0 : ∀ (j : Nat) b, T[j + 1]? = some b → b ≠ x := fun j b hb z => by
    subst z
    have := (List.getElem?_inj (i := j + 1) (j := 0) (List.getElem?_eq_some_iff.mp hb).1 hT.nd).mp (hb.trans h0.symm)
    omega
  refine Lg_chain ((List.reverse_perm T).nodup_iff.mpr hT.nd) (fun a ha => hT.op a (List.mem_reverse.mp ha)) (fun a ha => ?_) (fun i a b h1 h2 => ?_) (fun i a h1 h2 => ?_) fun z => ?_
  · obtain ⟨l1, e1⟩ := rv 0 a ha
    exact hT.la _ a x e1 (List.getElem?_eq_none (by omega)) h0
  · obtain ⟨l1, e1⟩ := rv i a h1
    obtain ⟨l2, e2⟩ := rv (i + 1) b h2
    have e : T.length - 1 - i = T.length - 1 - (i + 1) + 1 := by omega
    rw [e] at e1
    rw [lk_pt, if_neg (nx0 _ a e1)]
    exact hT.st _ b a e2 e1
  · obtain ⟨l1, e1⟩ := rv i a h1
    have := List.getElem?_eq_none_iff.mp h2
    rw [List.length_reverse] at this
    have e : T.length - 1 - i = 0 := by omega
    rw [e, h0] at e1
    cases e1
    rw [lk_pt, if_pos rfl]
  · exact absurd (List.reverse_eq_nil_iff.mp z) hT.ne
theorem circ_puts {c : Tb Txt Txt} {R : List Txt} {p : Txt × Txt} (h : CirC S g c R) (hx : p.1 ∈ R) : (∀ n ∈ R, lk n (putsT c (circG g R p)) = some (g n)) ∧ (∀ n, n ∉ R → lk n (putsT c (circG g R p)) = lk n c) ∧ ∀ q ∈ circG g R p, q.1 ∈ R := by
  obtain ⟨x, o⟩ := p
  obtain ⟨hT, h0, hm⟩ := turn_cir h hx
  have hq : ∀ q ∈ circG g R (x, o), q.1 ∈ R := fun q hq => by
    unfold circG at hq
    rcases List.mem_cons.mp hq with rfl | hq
    · exact hx
    · obtain ⟨y, hy, rfl⟩ := List.mem_map.mp hq
      exact (hm y).mp (List.mem_reverse.mp hy)
  refine ⟨fun n hn => ?_, fun n hn => putsT_no fun q hq' z => hn (z ▸ hq q hq'), hq⟩
  have all : ∀ (L : List Txt) (d : Tb Txt Txt), n ∈ L → lk n (putsT d (L.map fun y => (y, g y))) = some (g n) := fun L => by
    induction L with
    | nil => intro d h; cases h
    | cons a L ih =>
      intro d hnL
      show lk n (putsT (pt d a (g a)) (L.map fun y => (y, g y))) = _
      by_cases q : n ∈ L
      · exact ih _ q
      · rw [putsT_no fun p hp z => by
          obtain ⟨y, hy, rfl⟩ := List.mem_map.mp hp
          exact q (z ▸ hy)]
        have e : n = a := (List.mem_cons.mp hnL).resolve_right q
        rw [lk_pt, if_pos e, e]
  exact all _ _ (List.mem_reverse.mpr ((hm n).mpr hn))
end
end L2.DL
/-! VG: a planner's run as a whole. -/
namespace L2.DL
open PySem PySem.Spec PyProof.Rows L2.AS
structure GdP (S : List Cl) (g : Txt → Txt) (s : PlS) : Prop where
  nd : (ks s.cur).Nodup
  inj : InjT s.cur
  cir : ∀ R ∈ s.wt, CirC S g s.cur R
  pw : s.wt.Pairwise fun R R' => ∀ y ∈ R, y ∉ R'
/-- the options of some circles are had by those who had them at the beginning -/
def JW (S : List Cl) (B : Tb Txt Txt) (W : List (List Txt)) (c : Tb Txt Txt) : Prop := ∀ R ∈ W, ∀ n ∈ R, ∀ o ∈ opO S n, ∃ m, lk m B = some o ∧ lk m c = some o
structure PostP (S : List Cl) (g : Txt → Txt) (B : Tb Txt Txt) (s : PlS) (l : List (Txt × Txt)) (h h' : Option Txt) (a : PlS) : Prop where
  p1 : ∀ n, (∀ R ∈ s.wt, n ∉ R) → lk n a.cur = lk n (putsT s.cur l)
  p2 : ∃ p : List Txt → Bool, a.wt = s.wt.filter p
  p3 : ∀ R ∈ s.wt, R ∉ a.wt → ∀ n ∈ R, lk n a.cur = some (g n)
  p4 : ∀ R ∈ a.wt, ∀ n ∈ R, lk n a.cur = lk n s.cur
  p5 : ∀ o, occ a.cur o ↔ (occ s.cur o ∨ h = some o) ∧ h' ≠ some o
  p6 : GdP S g a
  p7 : ∃ m, a.st = s.st ++ m ∧ pathF S s.cur m = some a.cur ∧ m.length + potW a.wt = potW s.wt + l.length
  p8 : ∀ n, n ∈ ks a.cur ↔ n ∈ ks (putsT s.cur l)
  p9 : ∀ W, (∀ R ∈ W, R ∈ a.wt) → JW S B W s.cur → JW S B W a.cur
section
variable {S : List Cl} {g : Txt → Txt} {B : Tb Txt Txt}
theorem pw_flt {l : List (List Txt)} {p : List Txt → Bool} (h : l.Pairwise fun R R' => ∀ y ∈ R, y ∉ R') : (l.filter p).Pairwise fun R R' => ∀ y ∈ R, y ∉ R' := h.sublist List.filter_sublist
theorem pw_two {l : List (List Txt)} (h : l.Pairwise fun R R' => ∀ y ∈ R, y ∉ R') {a b : List Txt} (ha : a ∈ l) (hb : b ∈ l) (ne : a ≠ b) : ∀ y ∈ a, y ∉ b := by
  induction l with
  | nil => cases ha
  | cons x l ih =>
    obtain ⟨h1, h2⟩ := List.pairwise_cons.mp h
    rcases List.mem_cons.mp ha with ea | ha'
    · rcases List.mem_cons.mp hb with eb | hb'
      · exact absurd (ea.trans eb.symm) ne
      · rw [ea]; exact h1 b hb'
    · rcases List.mem_cons.mp hb with eb | hb'
      · rw [eb]; exact fun y hy hy' => h1 a ha' y hy' hy
      · exact ih h2 ha' hb'
theorem potW_flt {l : List (List Txt)} {R : List Txt} (nd : l.Pairwise fun R R' => ∀ y ∈ R, y ∉ R') (hne : ∀ R ∈ l, R ≠ []) (hR : R ∈ l) : potW (l.filter fun R' => !decide (R' = R)) + (R.length + 1) = potW l := by
  induction l with
  | nil => cases hR
  | cons x l ih =>
    obtain ⟨h1, h2⟩ := List.pairwise_cons.mp nd
    by_cases e : x = R
    · have no : R ∉ l := fun z => by
        obtain ⟨y, hy⟩ := List.exists_mem_of_ne_nil R (hne R hR)
        exact h1 R z y (e ▸ hy) hy
      have e2 : (l.filter fun R' => !decide (R' = R)) = l := List.filter_eq_self.mpr fun X hX => by
        have : X ≠ R := fun z => no (z ▸ hX)
        simp [this]
      rw [List.filter_cons_of_neg (by simp [e]), e2]
      unfold potW
      rw [List.map_cons, List.sum_cons, e]; omega
    · have := ih h2 (fun X hX => hne X (List.mem_cons_of_mem _ hX)) ((List.mem_cons.mp hR).resolve_left fun z => e z.symm)
      rw [List.filter_cons_of_pos (by simp [e])]
      unfold potW at *
      rw [List.map_cons, List.map_cons, List.sum_cons, List.sum_cons]; omega
/-- where no circle can be begun, all their options are had -/
theorem fst_none {s : PlS} (nd : (ks s.cur).Nodup) (hnd : (S.map (·.nm)).Nodup) (h : fstC S s = none) {R : List Txt} (hR : R ∈ s.wt) {n o : Txt} (hn : n ∈ R) (ho : o ∈ opO S n) : occ s.cur o := by
  have h1 : spareF S s.cur R = none := by
    have := List.findSome?_eq_none_iff.mp h R hR
    cases e : spareF S s.cur R with
    | none => rfl
    | some p => rw [e] at this; cases this
  have ho' := ho
  unfold opO at ho'
  cases e : S.find? fun c => decide (c.nm = n) with
  | none => rw [e] at ho'; cases ho'
  | some c =>
    rw [e] at ho'
    have ho' : o ∈ c.opts := ho'
    have hc := List.mem_of_find?_eq_some e
    have en : c.nm = n := by simpa using List.find?_some e
    have h2 := List.findSome?_eq_none_iff.mp h1 c hc
    rw [if_pos (by rw [en]; exact hn)] at h2
    refine (occ_iff nd).mp ?_
    by_cases q : o ∈ s.cur.map (·.2)
    · exact q
    · have : o ∈ c.opts.filter fun o => !decide (o ∈ s.cur.map (·.2)) := List.mem_filter.mpr ⟨ho', by simp only [q, decide_false, Bool.not_false]⟩
      cases hf : c.opts.filter fun o => !decide (o ∈ s.cur.map (·.2)) with
      | nil => rw [hf] at this; cases this
      | cons a r => rw [hf] at h2; cases h2
theorem GdP.out {s : PlS} {R : List Txt} (k : GdP S g s) : GdP S g (s.out R) := ⟨k.nd, k.inj, fun X hX => k.cir X (List.mem_filter.mp hX).1, pw_flt k.pw⟩
theorem GdP.put {s : PlS} {y x : Txt} (k : GdP S g s) (fr : ¬ occ s.cur x) (hy : ∀ R ∈ s.wt, y ∉ R) : GdP S g (s.put y x) :=
  ⟨pt_nd k.nd, put_inj k.inj fr, fun X hX => (k.cir X hX).congr fun n hn => by
    show lk n s.cur = lk n (pt s.cur y x)
    rw [lk_pt, if_neg fun z : n = y => hy X hX (z ▸ hn)], k.pw⟩
theorem pt_ks {c : Tb Txt Txt} {y x n : Txt} : n ∈ ks (pt c y x) ↔ n ∈ ks c ∨ n = y := by
  have h : ∀ d : Tb Txt Txt, n ∈ ks d ↔ lk n d ≠ none := fun d => by
    constructor
    · intro h e
      exact lk_none.mp e h
    · intro h
      cases e : lk n d with
      | none => exact absurd e h
      | some z => exact ks_of e
  rw [h, h, lk_pt]
  by_cases e : n = y
  · simp [e]
  · simp [e]
theorem putsT_ks {n : Txt} : ∀ {l : List (Txt × Txt)} {c : Tb Txt Txt}, n ∈ ks (putsT c l) ↔ n ∈ ks c ∨ ∃ p ∈ l, p.1 = n
  | [], c => ⟨.inl, fun h => h.elim id fun ⟨_, h, _⟩ => by cases h⟩
  | (y, x) :: l, c => by
    show n ∈ ks (putsT (pt c y x) l) ↔ _
    rw [putsT_ks, pt_ks]
    constructor
    · rintro ((h | h) | ⟨p, hp, e⟩)
      · exact .inl h
      · exact .inr ⟨(y, x), List.mem_cons_self, h.symm⟩
      · exact .inr ⟨p, List.mem_cons_of_mem _ hp, e⟩
    · rintro (h | ⟨p, hp, e⟩)
      · exact .inl (.inl h)
      · rcases List.mem_cons.mp hp with rfl | hp
        · exact .inl (.inr e.symm)
        · exact .inr ⟨p, hp, e⟩
/-- one run behind the other -/
theorem PostP.nil {s : PlS} (k : GdP S g s) (h : Option Txt) (fr : ∀ o, h = some o → ¬ occ s.cur o) : PostP S g B s [] h h s where
  p1 := fun n _ => rfl
  p2 := ⟨fun _ => true, (List.filter_eq_self.mpr fun _ _ => rfl).symm⟩
  p3 := fun R hR hn => absurd hR hn
  p4 := fun R hR n hn => rfl
  p5 := fun o => ⟨fun q => ⟨.inl q, fun z => fr o z q⟩, fun ⟨q, n⟩ => q.resolve_right n⟩
  p6 := k
  p7 := ⟨[], (List.append_nil _).symm, rfl, by show 0 + _ = _ + 0; omega⟩
  p8 := fun n => Iff.rfl
  p9 := fun W _ j => j
/-- the run's lemma: what is left behind a run of circles, or behind gives -/
theorem run_post (hnd : (S.map (·.nm)).Nodup) {o : Option (List (Txt × Txt))} {s a : PlS} (hr : RunR S g o s a) : GdP S g s →
    (o = none → PostP S g B s [] none none a ∧ fstC S a = none) ∧ ∀ l, o = some l → (∀ p ∈ l, ∀ R ∈ s.wt, p.1 ∉ R) → ∀ h h', (∀ x, h = some x → ¬ occ s.cur x) → Lg S s.cur h l h' → PostP S g B s l h h' a := by
  induction hr with
  | stop e => exact fun k => ⟨fun _ => ⟨PostP.nil k none (fun _ z => by cases z), e⟩, fun l z => by cases z⟩
  | nil =>
    refine fun k => ⟨fun z => (by cases z), fun l z hl h h' fr lg => ?_⟩
    cases z
    have e : h = h' := lg
    subst e
    exact PostP.nil k h fr
  | @cons s s1 s2 y x l h1 h2 ih1 ih2 =>
    refine fun k => ⟨fun z => (by cases z), fun l' z hl h h' fr lg => ?_⟩
    cases z
    obtain ⟨eh, ho, lg⟩ := lg
    have hy := hl (y, x) List.mem_cons_self
    have frx := fr x eh
    have kp := k.put frx hy
    obtain ⟨P1, e1⟩ := (ih1 kp).1 rfl
    have fr1 : ∀ z, lk y s.cur = some z → ¬ occ s1.cur z := fun z hz q => by
      have := ((P1.p5 z).mp q).1.resolve_right (by simp)
      exact ((put_occ k.inj frx).mp this).2 hz
    have sub1 : ∀ R ∈ s1.wt, R ∈ s.wt := fun R hR => by
      obtain ⟨p, e⟩ := P1.p2
      rw [e] at hR
      exact (List.mem_filter.mp hR).1
    have lg1 : Lg S s1.cur (lk y s.cur) l h' := Lg_congr (fun p hp => by
      rw [P1.p1 p.1 (hl p (List.mem_cons_of_mem _ hp))]; rfl) lg
    have P2 := (ih2 P1.p6).2 l rfl (fun p hp R hR => hl p (List.mem_cons_of_mem _ hp) R (sub1 R hR)) _ _ fr1 lg1
    refine ⟨fun n hn => ?_, ?_, fun R hR hRa n hn => ?_, fun R hR n hn => ?_, fun z => ?_, P2.p6, ?_, fun n => ?_, fun W hW j => ?_⟩
    · rw [P2.p1 n fun R hR => hn R (sub1 R hR)]
      exact putsT_lk (P1.p1 n hn)
    · obtain ⟨p, e⟩ := P1.p2
      obtain ⟨p', e'⟩ := P2.p2
      exact ⟨fun R => p' R && p R, by rw [e', e, List.filter_filter]; rfl⟩
    · by_cases q : R ∈ s1.wt
      · exact P2.p3 R q hRa n hn
      · have h3 := P1.p3 R hR q n hn
        rw [P2.p1 n fun R' hR' hn' => by
          by_cases e : R = R'
          · exact q (e ▸ hR')
          · exact pw_two k.pw hR (sub1 R' hR') e n hn hn', putsT_no fun p hp (z : p.1 = n) => hl p (List.mem_cons_of_mem _ hp) R hR (z ▸ hn)]
        exact h3
    · obtain ⟨p', e'⟩ := P2.p2
      have hR1 : R ∈ s1.wt := by rw [e'] at hR; exact (List.mem_filter.mp hR).1
      rw [P2.p4 R hR n hn, P1.p4 R hR1 n hn]
      show lk n (pt s.cur y x) = _
      rw [lk_pt, if_neg fun z : n = y => hy R (sub1 R hR1) (z ▸ hn)]
    · rw [P2.p5 z, P1.p5 z]
      show ((occ (pt s.cur y x) z ∨ none = some z) ∧ none ≠ some z ∨ lk y s.cur = some z) ∧ h' ≠ some z ↔ _
      rw [put_occ k.inj frx, eh]
      constructor
      · rintro ⟨q, n⟩
        refine ⟨?_, n⟩
        rcases q with ⟨q | q, _⟩ | q
        · exact q.1
        · cases q
        · exact .inl ⟨y, q⟩
      · rintro ⟨q, n⟩
        refine ⟨?_, n⟩
        by_cases e : lk y s.cur = some z
        · exact .inr e
        · exact .inl ⟨.inl ⟨q, e⟩, by simp⟩
    · obtain ⟨m1, a1, b1, c1⟩ := P1.p7
      obtain ⟨m2, a2, b2, c2⟩ := P2.p7
      have ew : (s.put y x).wt = s.wt := rfl
      rw [ew, List.length_nil] at c1
      refine ⟨(y, x) :: (m1 ++ m2), ?_, ?_, ?_⟩
      · rw [a2, a1]
        show s.st ++ [(y, x)] ++ m1 ++ m2 = _
        simp
      · unfold pathF
        rw [if_pos ⟨ho, fun q => frx ((occ_iff k.nd).mp q)⟩]
        exact pathF_app b1 b2
      · rw [List.length_cons, List.length_append, List.length_cons]; omega
    · rw [P2.p8 n, putsT_ks, P1.p8 n]
      show n ∈ ks (pt s.cur y x) ∨ _ ↔ n ∈ ks (putsT (pt s.cur y x) l)
      rw [putsT_ks]
    · have hW1 : ∀ R ∈ W, R ∈ s1.wt := fun R hR => by
        obtain ⟨p', e'⟩ := P2.p2
        have := hW R hR
        rw [e'] at this
        exact (List.mem_filter.mp this).1
      refine P2.p9 W hW (P1.p9 W hW1 fun R hR n hn z hz => ?_)
      obtain ⟨m, m1, m2⟩ := j R hR n hn z hz
      refine ⟨m, m1, ?_⟩
      show lk m (pt s.cur y x) = _
      have : m ≠ y := fun q => by
        subst q
        exact fr1 z m2 (fst_none P1.p6.nd hnd e1 (hW1 R hR) hn hz)
      rw [lk_pt, if_neg this]
      exact m2
  | @turn s s1 s2 R p e h1 h2 ih1 ih2 =>
    refine fun k => ⟨fun _ => ?_, fun l z => by cases z⟩
    obtain ⟨hRm, hsp⟩ := fstC_mem e
    obtain ⟨hpR, c, hc, hcn, hco, hfr⟩ := spareF_ok hsp
    have hC := k.cir R hRm
    have ho : p.2 ∈ opO S p.1 := by rw [← hcn, opO_of hnd hc]; exact hco
    have fro : ¬ occ s.cur p.2 := fun q => hfr ((occ_iff k.nd).mpr q)
    obtain ⟨q1, q2, q3⟩ := circ_puts (c := s.cur) hC hpR
    have mem_out : ∀ X, X ∈ (s.out R).wt ↔ X ∈ s.wt ∧ X ≠ R := fun X => by
      show X ∈ s.wt.filter _ ↔ _
      rw [List.mem_filter]; simp
    have apart : ∀ X ∈ (s.out R).wt, ∀ y ∈ R, y ∉ X := fun X hX y hy => pw_two k.pw hRm ((mem_out X).mp hX).1 (Ne.symm ((mem_out X).mp hX).2) y hy
    have P1 := (ih1 k.out).2 _ rfl (fun q hq X hX => apart X hX _ (q3 q hq)) (some p.2) (some p.2) (fun x z => by cases z; exact fro) (circ_Lg hC hpR ho)
    obtain ⟨P2, e2⟩ := (ih2 P1.p6).1 rfl
    have sub1 : ∀ X ∈ s1.wt, X ∈ s.wt ∧ X ≠ R := fun X hX => by
      obtain ⟨f, ef⟩ := P1.p2
      rw [ef] at hX
      exact (mem_out X).mp (List.mem_filter.mp hX).1
    have sub2 : ∀ X ∈ s2.wt, X ∈ s1.wt := fun X hX => by
      obtain ⟨f, ef⟩ := P2.p2
      rw [ef] at hX
      exact (List.mem_filter.mp hX).1
    have hR1 : ∀ n ∈ R, lk n s1.cur = some (g n) := fun n hn => by
      rw [P1.p1 n fun X hX => apart X hX n hn]
      exact q1 n hn
    refine ⟨⟨fun n hn => ?_, ?_, fun X hX hXa n hn => ?_, fun X hX n hn => ?_, fun z => ?_, P2.p6, ?_, fun n => ?_, fun W hW j => ?_⟩, e2⟩
    · rw [P2.p1 n fun X hX => hn X (sub1 X hX).1]
      show lk n s1.cur = lk n s.cur
      rw [P1.p1 n fun X hX => hn X ((mem_out X).mp hX).1]
      exact q2 n (hn R hRm)
    · obtain ⟨f, ef⟩ := P1.p2
      obtain ⟨f', ef'⟩ := P2.p2
      refine ⟨fun X => f' X && f X && !decide (X = R), ?_⟩
      rw [ef', ef]
      show ((s.wt.filter _).filter f).filter f' = _
      rw [List.filter_filter, List.filter_filter]
    · by_cases q : X ∈ s1.wt
      · exact P2.p3 X q hXa n hn
      · have h3 : lk n s1.cur = some (g n) := by
          by_cases eX : X = R
          · subst eX; exact hR1 n hn
          · exact P1.p3 X ((mem_out X).mpr ⟨hX, eX⟩) q n hn
        rw [P2.p1 n fun X' hX' hn' => by
          by_cases e : X = X'
          · exact q (e ▸ hX')
          · exact pw_two k.pw hX (sub1 X' hX').1 e n hn hn']
        exact h3
    · have hX1 := sub2 X hX
      rw [P2.p4 X hX n hn, P1.p4 X hX1 n hn]; rfl
    · rw [P2.p5 z, P1.p5 z]
      show ((occ s.cur z ∨ some p.2 = some z) ∧ some p.2 ≠ some z ∨ none = some z) ∧ none ≠ some z ↔ _
      constructor
      · rintro ⟨⟨q | q, n⟩ | q, _⟩
        · exact ⟨.inl q, by simp⟩
        · exact absurd q n
        · cases q
      · rintro ⟨q | q, n⟩
        · refine ⟨.inl ⟨.inl q, fun z' => ?_⟩, n⟩
          cases z'
          exact fro q
        · cases q
    · obtain ⟨m1, a1, b1, c1⟩ := P1.p7
      obtain ⟨m2, a2, b2, c2⟩ := P2.p7
      have hp := potW_flt k.pw (fun X hX => (k.cir X hX).ne) hRm
      have ew : (s.out R).wt = s.wt.filter fun R' => !decide (R' = R) := rfl
      rw [ew, circG_len] at c1
      rw [List.length_nil] at c2
      refine ⟨m1 ++ m2, ?_, pathF_app b1 b2, ?_⟩
      · rw [a2, a1, List.append_assoc]; rfl
      · rw [List.length_append, List.length_nil]; omega
    · rw [P2.p8 n]
      show n ∈ ks s1.cur ↔ n ∈ ks s.cur
      rw [P1.p8 n, putsT_ks]
      constructor
      · rintro (h | ⟨q, hq, rfl⟩)
        · exact h
        · have hqR := q3 q hq
          have hs : ∀ b ∈ R, ∃ z, lk b s.cur = some z := fun b hb => by
            obtain ⟨i, hi⟩ := List.getElem?_of_mem hb
            cases i with
            | zero =>
              have hl := (List.getElem?_eq_some_iff.mp hi).1
              exact ⟨_, hC.la (R.length - 1) _ b (List.getElem?_eq_getElem (by omega)) (List.getElem?_eq_none (by omega)) hi⟩
            | succ i =>
              have hl := (List.getElem?_eq_some_iff.mp hi).1
              exact ⟨_, hC.st i _ b (List.getElem?_eq_getElem (by omega)) hi⟩
          obtain ⟨z, hz⟩ := hs _ hqR
          exact ks_of hz
      · exact .inl
    · exact P2.p9 W hW (P1.p9 W (fun X hX => sub2 X (hW X hX)) j)
end
end L2.DL
/-! VH: a plan leads from one coding to the other one; its length. -/
namespace L2.DL
open PySem PySem.Spec PyProof.Rows L2.AS
end L2.DL
/-! VI: what a plan is. -/
namespace L2.DL
open PySem PySem.Spec PyProof.Rows L2.AS
end L2.DL
/-! VJ: a property's new answer kept as an own thing. -/
namespace L2.DL
open PySem PySem.Spec PyProof.Rows
section
variable {X : Cx} {C : Addr} {f : Str} {spv : DSpV} {o : Expr} {mo : EM D} {pos : Pos}
def mPropF (C : Addr) (spv : DSpV) (mo : EM D) : EM Cont := fun E env C0 Q => mo E env C0 fun d env1 C1 => (∃ fs, dr C1 d = .obj C fs) ∧ spv [d] [] C1 (FrsK Q env1) fun _ _ => False
theorem d_propF (c : PrV X C f spv) (gd : Gd X.A) (ho : DE X RShr o mo) (hb : attributeBase o f X.env (eval o X.env) = eval o X.env) : DE X RFr (.Attribute o f pos) (mPropF C spv mo) := fun Z E hE => by
  refine ⟨fun pins s σ H Q I ⟨Hs, env, C0, P, sr, q, kk⟩ => attr_of hb (thn ((ho Z E hE).run pins s σ H (fun x H1 => ∃ a dx ws, x = V.ref a ∧ H1 a = some (.ins C dx ws) ∧ liftV X.K spv [.ref a] [] H1 Q fun _ _ _ => False) I
    ⟨Hs, env, C0, _, sr, q, fun d env1 C1 v Hs1 H1 q1 t1 s1 r1 => ?_⟩) fun u s1 ⟨x, H1, I1, rx, a, dx, ws, ex, ea, h⟩ => ?_)⟩
  · obtain ⟨⟨fs, e⟩, q1⟩ := q1
    have n : RNow X.K Hs1 H1 (dr C1 d) v := RPk.now (Z := Z) (σ := σ) (env := env1) s1.fit (.inl r1)
    rw [e] at n
    cases n with
    | obj e1 rf =>
      refine ⟨_, _, _, rfl, e1, Hs1, C1, [d], [], _, _, s1.fit, .cons r1 .nil, .nil, q1, fun rt C' v Hs' H' pr f b rr => ?_, fun x C' cls dx Hs' H' px _ _ _ => px⟩
      obtain ⟨s', t'⟩ := s1.call f b
      cases rt with
      | shr d => exact pr.elim
      | frs c => exact kk c _ _ _ _ _ pr (t1.trans t') s' (ret_frs s1 rr)
  · subst ex
    obtain rfl : u = Value.ref a := rx
    exact prop_run c gd I1 ea h
end
theorem i_propF {C : Addr} {spv : DSpV} {mo : EM D} {E : EX} {env : DL.Env} {C0 : Cs} {Q : Cont → DL.Env → Cs → Prop} (q : mo E env C0 fun d env1 C1 => (∃ fs, dr C1 d = .obj C fs) ∧ spv [d] [] C1 (FrsK Q env1) fun _ _ => False) : mPropF C spv mo E env C0 Q := q
end L2.DL
/-! VK: what a register's change makes of the codes: chains, and circles only behind a rename. -/
namespace L2.DL
open PySem PySem.Spec PyProof.Rows L2.AS
end L2.DL
/-! VL: what a plan is to a register's change. -/
namespace L2.DL
open PySem PySem.Spec PyProof.Rows L2.AS
section
variable {S : List Cl} {g : Txt → Txt} {fl : Tb Txt Txt}
/-- no circle waits: nothing is done beside what is given -/
theorem RunR.stay {s a : PlS} (h : RunR S g none s a) (w : s.wt = []) : a = s := by
  cases h with
  | stop e => rfl
  | turn e _ _ => have := (fstC_mem e).1; rw [w] at this; cases this
theorem RunR.no {l : List (Txt × Txt)} : ∀ {s a : PlS}, RunR S g (some l) s a → s.wt = [] → a.st = s.st ++ l := by
  induction l with
  | nil => intro s a h _; cases h; rw [List.append_nil]
  | cons p l ih =>
    intro s a h w
    obtain ⟨y, x⟩ := p
    cases h with
    | cons h1 h2 =>
      have e := h1.stay w
      subst e
      rw [ih h2 w]
      show (s.st ++ [(y, x)]) ++ l = _
      rw [List.append_assoc]; rfl
end
end L2.DL
/-! VP: what the law's own plan works with; a circle's turn, give by give. -/
namespace L2.DL
open PySem PySem.Spec PyProof.Rows L2.AS
structure BoxI (S : List Cl) (sl : Tb Txt Txt) (g : Txt → Txt) (s : PlS) : Prop where
  ok : PlOk S sl g s
  gd : GdP S g s
  nd : (S.map (·.nm)).Nodup
  le : S.length ≤ 900
  kk : ∀ n ∈ ks s.cur, n ∈ S.map (·.nm)
  sub : ∀ R ∈ s.wt, ∀ y ∈ R, y ∈ S.map (·.nm)
  gi : ∀ a ∈ S.map (·.nm), ∀ b ∈ S.map (·.nm), g a = g b → a = b
section
variable {S : List Cl} {g : Txt → Txt} {sl : Tb Txt Txt}
theorem BoxI.len {s : PlS} (k : BoxI S sl g s) : s.cur.length ≤ 900 := by
  have h := nd_le k.gd.nd (r := S.map (·.nm)) k.kk
  have h2 := k.le
  unfold ks at h
  rw [List.length_map, List.length_map] at h
  omega
theorem BoxI.run {s a : PlS} (k : BoxI S sl g s) (h : RunR S g none s a) : BoxI S sl g a := by
  obtain ⟨P, _⟩ := (run_post (B := []) k.nd h k.gd).1 rfl
  obtain ⟨a1, a2, a3, a4, a5⟩ := h.bound
  exact ⟨k.ok.run h (by show s.pot + 0 ≤ _; exact k.ok.p), P.p6, k.nd, k.le, fun n hn => k.kk n ((P.p8 n).mp hn), fun R hR => k.sub R (a3 R hR), k.gi⟩
theorem BoxI.out {s : PlS} {R : List Txt} (k : BoxI S sl g s) (hR : R ∈ s.wt) : BoxI S sl g (s.out R) :=
  ⟨(k.ok.out hR).1, k.gd.out, k.nd, k.le, k.kk, fun X hX => k.sub X (List.mem_filter.mp hX).1, k.gi⟩
theorem put_pot {s : PlS} {x c : Txt} : (s.put x c).pot = s.pot + 1 := by
  show (s.st ++ [(x, c)]).length + _ = s.st.length + _ + 1
  rw [List.length_append]
  show s.st.length + 1 + potW s.wt = _
  omega
theorem BoxI.put {s : PlS} {y x : Txt} (k : BoxI S sl g s) (fr : ¬ occ s.cur x) (hy : ∀ R ∈ s.wt, y ∉ R) (hm : y ∈ S.map (·.nm)) (hp : s.pot + 1 ≤ 100000) : BoxI S sl g (s.put y x) := by
  have e1 : (s.put y x).pot = s.pot + 1 := put_pot
  have e3 : (s.put y x).st.length = s.st.length + 1 := List.length_append
  have e4 : (s.put y x).cur.length ≤ s.cur.length + 1 := pt_len
  have ec := k.ok.c
  refine ⟨⟨k.ok.sg, k.ok.go, k.ok.wl, k.ok.wa, k.ok.wn, by omega, by omega⟩, k.gd.put fr hy, k.nd, k.le, fun n hn => ?_, k.sub, k.gi⟩
  rcases pt_ks.mp hn with h | h
  · exact k.kk n h
  · rw [h]; exact hm
end
end L2.DL
namespace L2.DL
open PySem PySem.Spec PyProof.Rows L2.AS
/-! ### gives, one by one -/
end L2.DL
namespace L2.DL
open PySem PySem.Spec PyProof.Rows L2.AS
/-! ### dict(d) within a written thing: the new table is a cell -/
end L2.DL
namespace L2.DL
open PySem PySem.Spec PyProof.Rows L2.AS
end L2.DL
namespace L2.DL
open PySem PySem.Spec PyProof.Rows
end L2.DL
namespace L2.DL
open PySem PySem.Spec PyProof.Rows
/-! ### what is drawn for a plan, and its texts -/
abbrev codOk (o : Txt) : Prop := o.length ≤ 3 ∧ ∀ x ∈ o, 97 ≤ x ∧ x ≤ 122
abbrev gOf (kv : L2.AS.Tb Txt Txt) (n : Txt) : Txt := (L2.AS.lk n kv).getD []
/-- what is drawn for a plan -/
structure SitP (m : Nat) (S : List Cl) (fl sl : L2.AS.Tb Txt Txt) : Prop where
  nd : (S.map (·.nm)).Nodup
  le : S.length ≤ m
  nm : ∀ c ∈ S, nameOk c.nm
  ol : ∀ c ∈ S, c.opts.length ≤ 200
  oo : ∀ c ∈ S, ∀ o ∈ c.opts, codOk o
  hl : ∀ c ∈ S, c.held.length ≤ 1
  ho : ∀ c ∈ S, ∀ o ∈ c.held, codOk o
  lg : ∀ c ∈ S, L2.AS.lk c.nm sl = some (gOf sl c.nm)
  go : ∀ c ∈ S, gOf sl c.nm ∈ c.opts
  chg : Chg (S.map (·.nm)) (fun n => L2.AS.lk n fl) (gOf sl)
  fk : (L2.AS.ks fl).Nodup
  fs : ∀ n ∈ L2.AS.ks fl, n ∈ S.map (·.nm)
  fe : ∀ e ∈ fl, nameOk e.1 ∧ codOk e.2
  se : ∀ e ∈ sl, nameOk e.1 ∧ codOk e.2
  sk : (L2.AS.ks sl).Nodup
  sN : L2.AS.ks sl = L2.AS.ks sl ∧ ∀ n ∈ L2.AS.ks sl, n ∈ S.map (·.nm)
theorem cod_asc {o : Txt} (h : codOk o) : ∀ c ∈ o, c < 128 := fun c hc => by have := h.2 c hc; omega
section
variable {m : Nat} {S : List Cl} {fl sl : List (Txt × Txt)}
theorem SitP.cir (h : SitP m S fl sl) {W : List (List Txt)} (hW : IsStk S fl (rowsW (S.map (·.nm)) (fun n => L2.AS.lk n fl) (gOf sl)).flatten (circW (S.map (·.nm)) (fun n => L2.AS.lk n fl) (gOf sl)) W) :
    ∀ R ∈ W, R.length ≤ m ∧ ∀ n ∈ R, nameOk n := fun R hR => by
  obtain ⟨p, e⟩ := hW.fi
  rw [e] at hR
  have hR := (List.mem_filter.mp hR).1
  have K := cirs h.chg
  have hN : ∀ n ∈ R, n ∈ S.map (·.nm) := fun n hn => chgW_N (K.sub R hR n hn).1
  refine ⟨?_, fun n hn => ?_⟩
  · have := L2.AS.nd_le (K.cir R hR).nd hN
    rw [List.length_map] at this
    exact Nat.le_trans this h.le
  · obtain ⟨c, hc, rfl⟩ := List.mem_map.mp (hN n hn)
    exact h.nm c hc
theorem SitP.len (h : SitP m S fl sl) {W : List (List Txt)} (hW : IsStk S fl (rowsW (S.map (·.nm)) (fun n => L2.AS.lk n fl) (gOf sl)).flatten (circW (S.map (·.nm)) (fun n => L2.AS.lk n fl) (gOf sl)) W) : W.length ≤ m := by
  obtain ⟨p, e⟩ := hW.fi
  have h1 : W.length ≤ (circW (S.map (·.nm)) (fun n => L2.AS.lk n fl) (gOf sl)).length := by rw [e]; exact List.length_filter_le _ _
  have h2 := circs_two h.chg
  rw [List.length_map] at h2
  have h3 := h.le
  omega
end
end L2.DL
/-! VQ: a container of one's own is lent to a call that answers with a flat value. -/
namespace L2.DL
open PySem PySem.Spec PyProof.Rows
end L2.DL
/-! VR: `not in` a tuple, of data of any kind; steps that are none. -/
namespace L2.DL
open PySem PySem.Spec PyProof.Rows
/-! ### steps, and what is none -/
structure StpK (p : Txt × Txt) : Prop where
  n : nameOk p.1
  c : codOk p.2
inductive OddD : D → Prop
  | nt (d : D) (t : String) : tyD d = some t → kitB t "tuple" = some false → (∀ C, dr C d = d) → OddD d
  | ln (xs : List D) : xs.length ≠ 2 → OddD (.tup xs)
  | a (x y : D) (t u : String) (b : Bool) : tyD x = some t → kitB t "str" = some false → (∀ C, dr C x = x) → tyD y = some u → kitB u "str" = some b → (∀ C, dr C y = y) → OddD (.tup [x, y])
  | b (s : Txt) (y : D) (t : String) : tyD y = some t → kitB t "str" = some false → (∀ C, dr C y = y) → okD y = true → (∀ u : Txt, eqv (.str u) y = false) → OddD (.tup [.str s, y])
def DStp (d : D) : Prop := (∃ p, StpK p ∧ d = stpD p) ∨ (OddD d ∧ Shw 4 700 d)
def asStp : D → Option (Txt × Txt)
  | .tup [.str y, .str x] => some (y, x)
  | _ => none
theorem OddD.no {d : D} (h : OddD d) : asStp d = none := by
  cases h with
  | nt d t h1 h2 h3 =>
    cases d with
    | tup xs => cases h1; exact absurd h2 (by decide)
    | _ => rfl
  | ln xs hl =>
    match xs, hl with
    | [], _ => rfl
    | [x], _ => cases x <;> rfl
    | [x, y], hl => exact absurd rfl hl
    | x :: y :: z :: r, _ => cases x <;> cases y <;> rfl
  | a x y t u b h1 h2 h3 h4 h5 h6 =>
    cases x with
    | str s => cases h1; exact absurd h2 (by decide)
    | _ => rfl
  | b s y t h1 h2 h3 h4 h5 =>
    cases y with
    | str s => cases h1; exact absurd h2 (by decide)
    | _ => rfl
/-! ### several stores into containers of one's own, of any values -/
/-! ### rows of steps and where they lead -/
theorem DStp.shw {d : D} (h : DStp d) : Shw 4 700 d := by
  rcases h with ⟨p, hp, rfl⟩ | ⟨_, h⟩
  · have a : Shw 0 12 (.str p.1) := shw_str (name_asc hp.n).1 (name_asc hp.n).2
    have b : Shw 0 3 (.str p.2) := shw_str hp.c.1 (cod_asc hp.c)
    exact Shw.mono (k := 1) (Shws.tup (.cons a (.cons b (Shws.nil (w := 0))))) (by decide) (by decide)
  · exact h
end L2.DL
/-! VS: isinstance with two built-in types; a thing that is seen without held tuples. -/
namespace L2.DL
open PySem PySem.Spec PyProof.Rows
/-! ### held tuples seen as plain ones -/
/-! ### t.count(x), a held tuple of texts -/
end L2.DL
/-! VT: any trees; what a situation is, of any tree. -/
namespace L2.DL
open PySem PySem.Spec PyProof.Rows
inductive AnyT : D → Prop
  | non : AnyT .non
  | bl (b : Bool) : AnyT (.bl b)
  | int (i : Int) : 0 ≤ i → i ≤ 1 → AnyT (.int i)
  | str (s : Txt) : s.length ≤ 14 → (∀ c ∈ s, c < 128) → AnyT (.str s)
  | dct : AnyT (.dct [])
  | lst (xs : List D) : (∀ x ∈ xs, AnyT x) → AnyT (.lst xs)
  | tup (xs : List D) : (∀ x ∈ xs, AnyT x) → (txtsOf xs = none ∨ xs = []) → AnyT (.tup xs)
  | tupT (ts : List Txt) : (∀ t ∈ ts, t.length ≤ 14 ∧ ∀ c ∈ t, c < 128) → AnyT (.tupT ts)
abbrev wD (d : D) : Nat := (toP d).weight
abbrev wA (l : List D) : Nat := PyData.weightAll (toPs l)
abbrev hD (d : D) : Nat := (toP d).depth
abbrev hA (l : List D) : Nat := PyData.depthAll (toPs l)
theorem isRs_all : ∀ {l : List D}, (∀ x ∈ l, isR x = true) → isRs l = true
  | [], _ => rfl
  | x :: l, h => Bool.and_eq_true_iff.mpr ⟨h x List.mem_cons_self, isRs_all fun y hy => h y (List.mem_cons_of_mem x hy)⟩
theorem shA_all : ∀ {l : List D}, (∀ x ∈ l, (toP x).showable = true ∧ (toP x).leavesShort 103 = true) → PyData.showableAll (toPs l) = true ∧ PyData.leavesShortAll 103 (toPs l) = true
  | [], _ => ⟨by simp [toPs, PyData.showableAll], by simp [toPs, PyData.leavesShortAll]⟩
  | x :: l, h => by
    obtain ⟨a, b⟩ := shA_all fun y hy => h y (List.mem_cons_of_mem x hy)
    obtain ⟨c, d⟩ := h x List.mem_cons_self
    exact ⟨by simp only [toPs, PyData.showableAll, a, c, Bool.and_self], by simp only [toPs, PyData.leavesShortAll, b, d, Bool.and_self]⟩
theorem AnyT.shw {d : D} (h : AnyT d) : isR d = true ∧ (toP d).showable = true ∧ (toP d).leavesShort 103 = true := by
  induction h with
  | non => have h := shw_non (k := 0); exact ⟨h.r, h.s, h.l⟩
  | bl b => cases b <;> exact ⟨rfl, by decide +kernel, by decide +kernel⟩
  | int i h0 h1 =>
    have e : i = 0 ∨ i = 1 := by omega
    rcases e with rfl | rfl <;> exact ⟨rfl, by decide +kernel, by decide +kernel⟩
  | str s hl hc =>
    have h : Shw 0 14 (.str s) := shw_str hl hc
    exact ⟨h.r, h.s, h.l⟩
  | dct => exact ⟨rfl, by decide +kernel, by decide +kernel⟩
  | lst xs h ih =>
    obtain ⟨a, b⟩ := shA_all fun x hx => (ih x hx).2
    exact ⟨isRs_all fun x hx => (ih x hx).1, by simp only [toP, PyData.showable, a], by simp only [toP, PyData.leavesShort, b]⟩
  | tupT ts h =>
    have h : Shw 1 (16 * ts.length + 2) (.tupT ts) := (Shws.tup (shws_txs (k := 0) (m := ts.length) (w := 14) h (Nat.le_refl _))).tupT
    exact ⟨h.r, h.s, h.l⟩
  | tup xs h ho ih =>
    obtain ⟨a, b⟩ := shA_all fun x hx => (ih x hx).2
    exact ⟨isRs_all fun x hx => (ih x hx).1, by simp only [toP, PyData.showable, a], by simp only [toP, PyData.leavesShort, b]⟩
theorem AnyT.ok {d : D} (h : AnyT d) (h1 : hD d ≤ 40) (h2 : wD d ≤ 100000) : shOk d := by
  obtain ⟨a, b, c⟩ := h.shw
  exact Shw.ok (k := hD d) (w := wD d) ⟨a, b, c, Nat.le_refl _, Nat.le_refl _⟩ h1 h2
/-- as it is read -/
def nd (d : D) : D := match d with
  | .tupT ts => .tup (ts.map .str)
  | d => d
theorem AnyT.ty {d : D} (h : AnyT d) : ∃ t, tyD (nd d) = some t := by cases h <;> exact ⟨_, rfl⟩
/-! ### what is a situation -/
end L2.DL
namespace L2.DL
open PySem PySem.Spec PyProof.Rows
end L2.DL
namespace L2.DL
end L2.DL
namespace L2.DL
theorem AnyT.kind {d : D} (h : AnyT d) : (∃ t, tyD (nd d) = some t ∧ kitB t "list" = some false ∧ kitB t "tuple" = some false) ∨ ∃ xs, (∀ x ∈ xs, AnyT x) ∧ wD d = wA xs ∧ hD d = hA xs + 1 ∧ (nd d = .lst xs ∨ nd d = .tup xs) := by
  cases h with
  | non => exact .inl ⟨_, rfl, rfl, rfl⟩
  | bl b => exact .inl ⟨_, rfl, rfl, rfl⟩
  | int i a b => exact .inl ⟨_, rfl, rfl, rfl⟩
  | str s a b => exact .inl ⟨_, rfl, rfl, rfl⟩
  | dct => exact .inl ⟨_, rfl, rfl, rfl⟩
  | lst xs a => exact .inr ⟨xs, a, rfl, rfl, .inl rfl⟩
  | tup xs a b => exact .inr ⟨xs, a, rfl, rfl, .inr rfl⟩
  | tupT ts a => exact .inr ⟨txs ts, fun x hx => by obtain ⟨t, ht, rfl⟩ := List.mem_map.mp hx; exact .str t (a t ht).1 (a t ht).2, by unfold wD; rw [toP_tupT]; rfl, by unfold hD; rw [toP_tupT]; rfl, .inr rfl⟩
end L2.DL
/-! VU: a text is appended to an answer at once, and to nobody's harm. -/
namespace L2.DL
open PySem PySem.Spec PyProof.Rows
theorem ds_appNT {X : Cx} {o : Expr} {x : Str} {j : Nat} {apos cpos pos p0 : Pos} {mo : EM Cont} (ho : DE X RFr o mo) (hs : swapsWith (.Call (.Attribute o "append" apos) [.Constant (.str x) j p0] [] cpos) none pos.line X.env = pure false) (hb : attributeBase o "append" X.env (eval o X.env) = eval o X.env)
    (hst : starEach [.Constant (.str x) j p0] X.env = (false, eval (.Constant (.str x) j p0) X.env) :: starEach [] X.env)
    (hf : ((backTo cpos (starEach [.Constant (.str x) j p0] X.env)).all (fun x => !x.1) && (backToKw cpos (keywordEach [] X.env)).all (fun x => x.1.isSome) && decide (([.Constant (.str x) j p0] : List Expr).length + ([] : List Keyword).length + (if ([] : List Keyword).isEmpty then 0 else 1) < 30)) = true) (hline : (apos.endLine == cpos.line) = true) :
    DS X (.Expr (.Call (.Attribute o "append" apos) [.Constant (.str x) j p0] [] cpos) pos) (sAppN mo) := fun Z E hE => ⟨fun pins s σ H D I ⟨Hs, env, C, dE, sr, ok, q⟩ => by
  refine (ps_expr (pe_bm PySem.F.plainAttrs_list PySem.F.slot_list_append PySem.F.type_list_append mt_append (ho Z E hE) (pa_cons pe_str pa_nil hst) hb hf hline hst rfl) hs).run pins s σ H D I ?_
  refine ⟨Hs, env, C, _, sr, q, fun c env1 C1 v Hs1 H1 q1 t1 s1 r1 => ?_⟩
  obtain ⟨⟨xs, rfl, hl⟩, q1⟩ := q1
  obtain ⟨p, o, rfl, hp, ⟨vs, rfl, rl⟩, m1, m2, m3, no⟩ := r1
  refine ⟨.inl ⟨rfl, _, SqL.of hp⟩, ?_⟩
  exact ⟨_, _, _, rfl, rfl, hp, by rw [← rl.length]; exact hl, ok.1 _ _ _ _ _ (s1.wrN hp m1 m2 m3 no) q1⟩⟩
end L2.DL
/-! WF: several names hidden at once; list(x) within a written thing as a cell; an instance called, its new answer kept. -/
namespace L2.DL
open PySem PySem.Spec PyProof.Rows
/-- the tree with its cells read, deeper -/
inductive RdE (C : Cs) : D → D → Prop
  | same (d : D) : RdE C d d
  | lst {a : Addr} {xs : List D} : C a = some (.lst xs) → RdE C (.cell a) (.lst xs)
  | two {d1 d2 e1 e2 : D} : RdE C d1 e1 → RdE C d2 e2 → RdE C (.tup [d1, d2]) (.tup [e1, e2])
  | l3 {d1 d2 d3 e1 e2 e3 : D} : RdE C d1 e1 → RdE C d2 e2 → RdE C d3 e3 → RdE C (.lst [d1, d2, d3]) (.lst [e1, e2, e3])
theorem RdE.rep {K : PySem.W.Frag} {Hs H : Hp} {C : Cs} {d d' : D} (f : Fits K Hs H C) (sH : Same Hs (hideH Hs H C)) (r : RdE C d d') : ∀ {v : V}, Rep K Hs d v → Rep K (hideH Hs H C) d' v := by
  induction r with
  | same d => exact fun h => h.same sH
  | lst hc =>
    intro v h
    cases h
    obtain ⟨_, o, h2, vs, rfl, h3⟩ := f.cel _ _ hc
    exact .lst (by rw [hideH_some hc]; exact h2) (h3.same sH)
  | two _ _ i1 i2 =>
    intro v h
    cases h with
    | tup ht hr =>
      cases hr with
      | cons h1 hr =>
        cases hr with
        | cons h2 hr =>
          cases hr
          exact .tup (TupA.same sH ht) (.cons (i1 h1) (.cons (i2 h2) .nil))
  | l3 _ _ _ i1 i2 i3 =>
    intro v h
    cases h with
    | lst ht hr =>
      cases hr with
      | cons h1 hr =>
        cases hr with
        | cons h2 hr =>
          cases hr with
          | cons h3 hr =>
            cases hr
            exact .lst (sH _ _ ht) (.cons (i1 h1) (.cons (i2 h2) (.cons (i3 h3) .nil)))
/-- two environments alike but for cells read -/
structure Laid (C : Cs) (env env' : DL.Env) : Prop where
  len : env'.length = env.length
  at_ : ∀ i : Nat, env'[i]? = env[i]? ∨ ∃ d d', env[i]? = some (.shr d) ∧ env'[i]? = some (.shr d') ∧ RdE C d d'
theorem Laid.nil {C : Cs} : Laid C [] [] := ⟨rfl, fun _ => .inl rfl⟩
theorem Laid.same {C : Cs} {s : Slot} {env env' : DL.Env} (h : Laid C env env') : Laid C (s :: env) (s :: env') := ⟨by rw [List.length_cons, List.length_cons, h.len], fun i => by
  cases i with
  | zero => exact .inl rfl
  | succ i => simpa using h.at_ i⟩
theorem Laid.rd {C : Cs} {d d' : D} {env env' : DL.Env} (r : RdE C d d') (h : Laid C env env') : Laid C (.shr d :: env) (.shr d' :: env') := ⟨by rw [List.length_cons, List.length_cons, h.len], fun i => by
  cases i with
  | zero => exact .inr ⟨d, d', rfl, rfl, r⟩
  | succ i => simpa using h.at_ i⟩
def mHidE (m : EM D) : EM D := fun E env C Q => ∃ env', Laid C env env' ∧ m E0 env' (fun _ => none) fun r env2 _ => env2 = env' ∧ imm r ∧ Q r env C
section
variable {X : Cx} {e : Expr}
theorem hidE_tree {K : PySem.W.Frag} {Z : Z0} {E : EX} {σ : St} {H : Hp} {Q : VK} {m : EM D} (q0 : LG K RShr Z (mHidE m E) σ H Q) : ∃ Z', LG K RShr Z' (m E0) σ H Q := by
  obtain ⟨Hs, env, C, P, sr, q, k⟩ := q0
  obtain ⟨env', ld, q⟩ := q
  have sH : Same Hs (hideH Hs H C) := fun a o h => by
    cases hc : C a with
    | none => rw [hideH_none hc]; exact h
    | some c => rw [hideH_some hc]; exact sr.fit.sub a o h
  have own : ∀ {i : Nat} {c : Cont}, env'[i]? = some (.own c) → env[i]? = some (.own c) := fun {i c} h => by
    rcases ld.at_ i with z | ⟨d, d', z1, z2, _⟩
    · rw [← z]; exact h
    · rw [z2] at h; cases h
  have hZ : SR K (hideA Z H C) σ (hideH Hs H C) H env' (fun _ => none) := by
    refine ⟨⟨fun a x hx => ?_, fun a c hc => by cases hc⟩, ⟨fun a x hx => sH a x (sr.bas.fl a x hx), fun a x hx hc => ?_, fun a x hx => ?_⟩, ⟨by rw [ld.len]; exact sr.slt.len, fun i y hd => ?_, fun i c hc => ?_, fun i j c c' b hij hi hj hb => ?_⟩⟩
    · cases hc : C a with
      | none => rw [hideH_none hc] at hx; exact sr.fit.sub a x hx
      | some c => rw [hideH_some hc] at hx; exact hx
    · simp only [hideA] at hx hc ⊢
      cases hca : C a with
      | some c =>
        rw [hca] at hx
        simp only [Option.isSome_some, if_true] at hx
        exact ⟨hx, trivial, fun z => by rw [hideH_some hca] at z; rw [hx] at z; cases z⟩
      | none =>
        rw [hca] at hx hc
        simp only [Option.isSome_none, Bool.false_eq_true, if_false] at hx hc
        obtain ⟨b1, b2, b3⟩ := sr.bas.kp a x hx hc
        exact ⟨b1, trivial, fun z => by rw [hideH_none hca] at z ⊢; exact b3 z⟩
    · simp only [hideA] at hx
      cases hca : C a with
      | some c =>
        rw [hca] at hx
        simp only [Option.isSome_some, if_true] at hx
        exact ⟨x, hx⟩
      | none =>
        rw [hca] at hx
        simp only [Option.isSome_none, Bool.false_eq_true, if_false] at hx
        exact sr.bas.th a x hx
    · rcases ld.at_ i with z | ⟨d, d', z1, z2, rd⟩
      · rw [z] at hd
        obtain ⟨v, h1, h2⟩ := sr.slt.shr i y hd
        exact ⟨v, h1, h2.same sH⟩
      · rw [z2] at hd
        cases hd
        obtain ⟨v, h1, h2⟩ := sr.slt.shr i d z1
        exact ⟨v, h1, rd.rep sr.fit sH h2⟩
    · obtain ⟨b, x, h1, h2, h3, h4, h5, h6⟩ := sr.slt.own i c (own hc)
      exact ⟨b, x, h1, h2, h3.same sH, by rw [hideH_none h5]; exact h4, rfl, by simp only [hideA, h5, Option.isSome_none, Bool.false_eq_true, if_false]; exact h6⟩
    · exact sr.slt.sep i j c c' b hij (own hi) (own hj) hb
  refine ⟨hideA Z H C, _, _, _, _, hZ, q, fun r env2 C2 v Hs2 H2 q2 t2 s2 r2 => ?_⟩
  obtain ⟨rfl, hi, q2⟩ := q2
  have kp : ∀ a x, H a = some x → H2 a = some x := fun a x hx => (t2.kp a x hx rfl).1
  have sr2 : SR K Z σ Hs H2 env C := by
    refine ⟨⟨fun a x hx => kp a x (sr.fit.sub a x hx), fun a c hc => ?_⟩, ⟨sr.bas.fl, fun a x hx hc => ?_, fun a x hx => ?_⟩, ⟨sr.slt.len, sr.slt.shr, fun i c hc => ?_, sr.slt.sep⟩⟩
    · obtain ⟨h1, x, h2, h3⟩ := sr.fit.cel a c hc
      exact ⟨h1, x, kp a x h2, h3⟩
    · obtain ⟨b1, b2, b3⟩ := sr.bas.kp a x hx hc
      exact ⟨kp a x b1, b2, b3⟩
    · obtain ⟨y, hy⟩ := sr.bas.th a x hx
      exact ⟨y, kp a y hy⟩
    · obtain ⟨b, x, h1, h2, h3, h4, h5, h6⟩ := sr.slt.own i c hc
      exact ⟨b, x, h1, kp b x h2, h3, h4, h5, h6⟩
  refine k _ _ _ v Hs H2 q2 ⟨Same.refl _, fun a x hx hc => ⟨kp a x hx, hc⟩⟩ sr2 ?_
  have r2' : Rep K Hs2 r v := r2
  cases r2' with
  | non => exact (.non : Rep K Hs .non .non)
  | bl b => exact (.bl b : Rep K Hs (.bl b) (.bl b))
  | int i => exact (.int i : Rep K Hs (.int i) (.int i))
  | str s => exact (.str s : Rep K Hs (.str s) (.str (sV s)))
  | _ => exact hi.elim
theorem d_hidE {m : EM D} (h : DE X RShr e m) : DE X RShr e (mHidE m) := fun Z E hE => ⟨fun pins s σ H Q I q => by
  obtain ⟨Z', q'⟩ := hidE_tree q
  exact (h Z' E0 dx0).run pins s σ H Q I q'⟩
end
/-! ### list(x) within a written thing: the new list is a cell -/
def mListC (ms : EM (List D)) : EM D := fun E env C Q => ms E env C fun ds env1 C1 => gListN (ds.map (dr C1)) fun c => ∀ a, C1 a = none → Q (.cell a) env1 (cput C1 a (cellOf c))
section
variable {X : Cx} {e : Expr} {es : List Expr} {pos : Pos}
theorem d_listC {x : Str} {p : Pos} {ms : EM (List D)} (h : DA X RPk (e :: es) ms)
    (hg : Gl X x) (hm : X.mg x = none) (hv : bootBuiltins x = some (.type "list")) (hn : x ≠ "__name__") (hdb : (x == ("__debug__" : Str)) = false)
    (he : starEach (e :: es) X.env = (false, eval e X.env) :: starEach es X.env) (hpl : (backTo pos (starEach es X.env)).any (·.1) = false) : DE X RShr (.Call (.Name x p) (e :: es) [] pos) (mListC ms) := fun Z E hE => by
  refine ⟨fun pins s σ H Q I ⟨Hs, env, C, P, sr, q, k⟩ => (pe_callTy call_list_of hg hm hv (h Z E hE) hn hdb he hpl).run pins s σ H Q I ⟨Hs, env, C, _, sr, q, fun ds env1 C1 vs Hs1 H1 q1 t1 s1 r1 => ?_⟩⟩
  have n := r1.now s1.fit
  generalize ds.map (dr C1) = ds' at n q1
  have lay : ∀ {xs : List D} {ws : List V}, RepL X.K Hs1 xs ws → (∀ a, C1 a = none → P (.cell a) env1 (cput C1 a (cellOf (.lst xs)))) → ∀ l, H1 l = none → Q (.ref l) (upd H1 l (.lst ws)) := fun {xs ws} r q1 p hp => by
    obtain ⟨p', u, e1, e2, r2, m1, m2, m3, no⟩ := fr_lay s1 hp (c := .lst xs) ⟨_, rfl, r⟩
    cases e1
    refine k (.cell p) env1 (cput C1 p (cellOf (.lst xs))) (.ref p) Hs1 _ (q1 p m2) (t1.trans ⟨Same.refl _, fun a u hu hc => ⟨by rw [upd_ne (ne_of_none hu hp)]; exact hu, by rw [cput_ne (ne_of_none hu hp)]; exact hc⟩⟩) ?_ (.cell p)
    exact (s1.layP hp _).mkCell e2 m1 m2 m3 (cellOf_rep r2) no
  cases n with
  | nil => exact q1.elim
  | cons n1 n2 =>
    cases n2 with
    | cons _ _ => cases n1 <;> exact q1.elim
    | nil => cases n1 with
      | lst e r => exact ⟨_, _, rfl, .inl (SqL.of e), lay r q1⟩
      | tup e r => exact ⟨_, _, rfl, .inr (TupA.sq s1.fit.sub e), lay r q1⟩
      | _ => exact q1.elim
end
/-! ### o(..), its new answer kept -/
def mCallIF (C : Addr) (spv : DSpV) (mo : EM D) (ms : EM (List D)) : EM Cont := fun E env C0 Q => mo E env C0 fun d env1 C1 => isOb C (dr C1 d) ∧ ms E env1 C1 fun ds env2 C2 => isOb C (dr C2 d) ∧ spv (d :: ds) [] C2 (FrsK Q env2) fun x C3 => E x env2 C3
section
variable {X : Cx} {C : Addr} {spv : DSpV} {es : List Expr} {pos : Pos}
theorem d_callIF {e fe : Expr} {mo : EM D} {ms : EM (List D)} (c : CoV X C spv) (gd : Gd X.A) (hn : DE X RShr fe mo) (ha : DA X RShr (e :: es) ms)
    (ht : eval (.Call fe (e :: es) [] pos) X.env = (do callWith pos (← eval fe X.env) [] (backTo pos (starEach (e :: es) X.env)) (backToKw pos (keywordEach [] X.env))))
    (he : starEach (e :: es) X.env = (false, eval e X.env) :: starEach es X.env) (hpl : (backTo pos (starEach es X.env)).any (·.1) = false) : DE X RFr (.Call fe (e :: es) [] pos) (mCallIF C spv mo ms) := fun Z E hE => by
  obtain ⟨k, g, F, hr, co⟩ := c.ex
  refine ⟨fun pins s σ H Q I ⟨Hs, env, C0, P, sr, q, kk⟩ => Call_ (Q := EP X pins σ Q) (thn ((hn Z E hE).run pins s σ H (fun x H1 => ∃ a, x = V.ref a ∧ LA X.K RShr Z (ms E) σ H1 fun vs H2 => (∃ dx fs, H2 a = some (.ins C dx fs)) ∧ liftV X.K spv (.ref a :: vs) [] H2 Q (WE (DXw X.K Z E) σ)) I ⟨Hs, env, C0, _, sr, q, fun d env1 C1 v Hs1 H1 q1 t1 s1 r1 => ?_⟩) fun u s1 ⟨x, H1, I1, rx, a, ex, h1⟩ => ?_) ht⟩
  · obtain ⟨h1, q1⟩ := q1
    obtain ⟨a, dx, ws, rfl, ea⟩ := isOb_now s1 r1 h1
    refine ⟨a, rfl, Hs1, env1, C1, _, s1, q1, fun ds env2 C2 vs Hs2 H2 q2 t2 s2 r2 => ?_⟩
    obtain ⟨h2, q2⟩ := q2
    have r1' := r1.same t2.fr
    obtain ⟨a', dx', ws', ev, ea'⟩ := isOb_now s2 r1' h2
    cases ev
    refine ⟨⟨dx', ws', ea'⟩, liftV_call s2 (.cons r1' r2.rep) .nil q2 fun rt C' v Hs' H' pr s' t' rr => ?_⟩
    cases rt with
    | shr d => exact pr.elim
    | frs c => exact kk c _ _ _ _ _ pr ((t1.trans t2).trans t') s' (ret_frs s2 rr)
  · subst ex
    obtain rfl : u = Value.ref a := rx
    refine StX.callO_with (thn ((ha Z E hE).run pos pins s1 σ H1 _ I1 h1) fun us s2 ⟨vs, H2, I2, r, ⟨dx, fs, ea⟩, h⟩ => ?_) he hpl
    obtain ⟨od, J⟩ := inst_at I2 ea
    refine ⟨⟨C, _, _, J, rfl⟩, wpAny_call (PySem.W.kco_code I2.kIn J rfl co.at_ co.fn co.fi ?_)⟩
    refine codeAny_mono (F.run X.A X.stack s2 H2 (.ref a :: us) [] (.ref a :: vs) [] Q _ gd hr I2.env0 (.cons rfl r) .nil h) fun q s3 z => ?_
    cases q with
    | error e => exact passAt hE σ _ H2 s2 e s3 I2 z
    | ok fl => cases fl with
      | ret u => exact I2.after z
      | next => exact z.elim
      | brk => exact z.elim
      | cont => exact z.elim
end
section
variable {E : EX} {env : DL.Env} {C : Cs}
theorem i_hidE {m : EM D} {Q : D → DL.Env → Cs → Prop} (env' : DL.Env) (h : Laid C env env') (q : m E0 env' (fun _ => none) fun r env2 _ => env2 = env' ∧ imm r ∧ Q r env C) : mHidE m E env C Q := ⟨env', h, q⟩
theorem i_listC {ms : EM (List D)} {Q : D → DL.Env → Cs → Prop} (q : ms E env C fun ds env1 C1 => gListN (ds.map (dr C1)) fun c => ∀ a, C1 a = none → Q (.cell a) env1 (cput C1 a (cellOf c))) : mListC ms E env C Q := q
end
theorem ds_alt {X : Cx} {st : Stmt} {m1 m2 : SM} (h1 : DS X st m1) (h2 : DS X st m2) : DS X st (sAlt m1 m2) := fun Z E hE => ⟨fun pins s σ H D I ⟨Hs, env, C, dE, sr, ok, q⟩ => by
  rcases q with q | q
  · exact (h1 Z E hE).run pins s σ H D I ⟨Hs, env, C, dE, sr, ok, q⟩
  · exact (h2 Z E hE).run pins s σ H D I ⟨Hs, env, C, dE, sr, ok, q⟩⟩
end L2.DL
/-! WG: spellers asked with any values (k03). -/
namespace L2.DL
open PySem PySem.Spec PyProof.Rows
def Thg (C : Cs) (d : D) : Prop := okIn d ∨ ∃ (b : Addr) (xs : List D), d = .cell b ∧ C b = some (.lst xs)
theorem g_isiC3 {C : Cs} {a : Addr} {xs : List D} {nm : String} {b : Bool} {P : D → Prop} (hc : C a = some (.lst xs)) (hk : kitB "list" nm = some b) (q : P (.bl b)) : gIsi ([.cell a, .ty nm].map (dr C)) P := by
  show gIsi [dr C (.cell a), .ty nm] P
  rw [dr_cell, hc]
  exact ⟨"list", b, rfl, hk, q⟩
theorem word_name3 {d : D} (h : isWord d 1 12 = true) : ∃ nm, d = .str nm ∧ nameOk nm := by
  cases d with
  | str s =>
    have h' : (decide ((1 : Int) ≤ (s.length : Int)) && (decide ((s.length : Int) ≤ 12) && s.all fun c => decide (97 ≤ c) && decide (c ≤ 122))) = true := h
    simp only [Bool.and_eq_true, decide_eq_true_eq, List.all_eq_true] at h'
    exact ⟨s, rfl, by omega, by omega, h'.2.2⟩
  | _ => cases h
theorem len_nat3 {d : D} (h : lenOk d = true) : ∃ n : Nat, d = .int n ∧ 1 ≤ n ∧ n ≤ 3 := by
  cases d with
  | int i =>
    have h' : (decide ((1 : Int) ≤ i) && decide (i ≤ 3)) = true := h
    simp only [Bool.and_eq_true, decide_eq_true_eq] at h'
    exact ⟨i.toNat, by rw [Int.toNat_of_nonneg (by omega)], by omega, by omega⟩
  | _ => cases h
theorem word_cd3 {d : D} {n : Nat} (h : isWord d n n = true) : ∃ c, d = .str c ∧ cdOk n c := by
  cases d with
  | str s =>
    have h' : (decide ((n : Int) ≤ (s.length : Int)) && (decide ((s.length : Int) ≤ (n : Int)) && s.all fun c => decide (97 ≤ c) && decide (c ≤ 122))) = true := h
    simp only [Bool.and_eq_true, decide_eq_true_eq, List.all_eq_true] at h'
    exact ⟨s, rfl, by omega, h'.2.2⟩
  | _ => cases h
theorem words_cd3 {n : Nat} : ∀ {bs : List D}, (∀ x ∈ bs, isWord x n n = true) → ∃ bar : List Txt, bs = txs bar ∧ ∀ c ∈ bar, cdOk n c
  | [], _ => ⟨[], rfl, fun _ h => by cases h⟩
  | x :: bs, h => by
    obtain ⟨c, rfl, hc⟩ := word_cd3 (h x List.mem_cons_self)
    obtain ⟨bar, e, hb⟩ := words_cd3 fun y hy => h y (List.mem_cons_of_mem _ hy)
    exact ⟨c :: bar, by rw [e]; rfl, fun y hy => (List.mem_cons.mp hy).elim (fun z => by rw [z]; exact hc) (hb y)⟩
theorem okL3_of {lo m : Nat} {ds : List D} {d : D} (h : (ds.all fun d => match d with
    | .str s => decide (lo ≤ s.length) && (decide (s.length ≤ m) && s.all fun c => decide (97 ≤ c) && decide (c ≤ 122))
    | _ => false) = true) (hd : d ∈ ds) : ∃ s, d = .str s ∧ lo ≤ s.length ∧ s.length ≤ m ∧ ∀ c ∈ s, 97 ≤ c ∧ c ≤ 122 := by
  have h1 := List.all_eq_true.mp h d hd
  cases d with
  | str s =>
    simp only [Bool.and_eq_true, decide_eq_true_eq, List.all_eq_true] at h1
    exact ⟨s, rfl, h1.1, h1.2.1, h1.2.2⟩
  | _ => cases h1
def inSp (n : Nat) (sh : List Txt) (d : D) : Bool := match d with
  | .str t => isWord (.str t) n n && !decide (t ∈ sh)
  | _ => false
def tLen : Txt := [108, 101, 110, 103, 116, 104]
def tCode3 : Txt := [99, 111, 100, 101]
def tName3 : Txt := [110, 97, 109, 101]
def Th3 (d : D) : Prop := okIn d ∧ Shw 2 400 d ∧ ∀ C, dr C d = d
def lenI : D → Int
  | .int i => i
  | _ => 0
def dueD (l : D) (bs : List D) : D := if lenOk l then (match bs.find? (fun x => !isWord x (lenI l) (lenI l)) with
  | some x => .tup [.str tCode3, x]
  | none => .non) else .tup [.str tLen, l]
theorem len_ok3 {n : Nat} (h1 : 1 ≤ n) (h3 : n ≤ 3) : lenOk (.int n) = true := by
  show (decide ((1 : Int) ≤ n) && decide ((n : Int) ≤ 3)) = true
  rw [decide_eq_true (by omega), decide_eq_true (by omega)]; rfl
theorem Thg.put {C : Cs} {a : Addr} {x : Cell} {d : D} (h : Thg C d) (ha : C a = none) : Thg (cput C a x) d := by
  rcases h with h | ⟨b, xs, rfl, hb⟩
  · exact .inl h
  · exact .inr ⟨b, xs, rfl, by rw [cput_ne (fun z => by rw [z, ha] at hb; cases hb)]; exact hb⟩
theorem find3_at {α : Type} {p : α → Bool} : ∀ {l : List α} {k : Nat} {x : α}, l[k]? = some x → (∀ y ∈ l.take k, p y = false) → p x = true → l.find? p = some x
  | [], k, x, h, _, _ => by cases k <;> cases h
  | z :: l, 0, x, h, _, h2 => by cases h; rw [List.find?_cons_of_pos h2]
  | z :: l, k + 1, x, h, h1, h2 => by
    rw [List.find?_cons_of_neg (by rw [h1 z (by simp)]; decide)]
    exact find3_at (by simpa using h) (fun y hy => h1 y (by rw [List.take_succ_cons]; exact List.mem_cons_of_mem _ hy)) h2
theorem shut3 {bar : List Txt} : (fun o => !decide (o ∈ sortT (uniT bar))) = fun o : Txt => !decide (o ∈ bar) := by
  funext o
  congr 2
  exact propext (mem_sortT.trans mem_uniT)
theorem find_keep {α : Type} {p : α → Bool} (l : List α) : (l.filter p).head? = l.find? p := by
  induction l with
  | nil => rfl
  | cons x l ih =>
    cases h : p x with
    | true => rw [List.filter_cons_of_pos h, List.find?_cons_of_pos h]; rfl
    | false => rw [List.filter_cons_of_neg (by rw [h]; decide), List.find?_cons_of_neg (by rw [h]; decide)]; exact ih
theorem shw3 {d : D} (h : Th3 d) {t : Txt} (ht : t.length ≤ 6) (ha : ∀ c ∈ t, c < 128) : shOk (.tup [.str t, d]) := by
  have h1 : Shw 2 400 (.str t) := (shw_str (k := 2) ht ha).mono (by omega) (by omega)
  exact (Shws.tup (Shws.cons h1 (Shws.cons h.2.1 (Shws.nil (w := 0))))).ok (by decide) (by decide)
theorem okD_txs3 {ts : List Txt} (h : ∀ t ∈ ts, asc t) : okD (.lst (txs ts)) = true := (Lay.lst (k := 0) (Lay.txs h)).ok (by decide)
theorem g_txs3 {C : Cs} {ng : Bool} {ts : List Txt} {P : D → Prop} (h : ∀ t ∈ ts, asc t) (q : P (.bl (!ng))) : gEq ng (dr C (.lst (txs ts))) (dr C (.lst (txs ts))) P := by
  cases ng with
  | false => exact g_eqD (okD_txs3 h) (okD_txs3 h) rfl rfl (by rw [eqv_self (okD_txs3 h)]; exact q)
  | true => exact g_neD (okD_txs3 h) (okD_txs3 h) rfl rfl (by rw [eqv_self (okD_txs3 h)]; exact q)
theorem asc_sp3 {nm : Txt} {n : Nat} {p : Txt → Bool} (h : nameOk nm) : ∀ t ∈ (spellS nm n).filter p, asc t := fun t ht c hc => by
  have := h.2.2 c ((spellS_mem (List.mem_filter.mp ht).1).2 c hc)
  omega
theorem shw_sp3 {nm : Txt} {n : Nat} {p : Txt → Bool} (h : nameOk nm) (hn : n ≤ 3) : shOk (.lst (txs ((spellS nm n).filter p))) := by
  have a := Shws.len (k := 0) (w := 12) (b := 3080) (ds := txs ((spellS nm n).filter p)) (fun d hd => by
    obtain ⟨o, ho, rfl⟩ := List.mem_map.mp hd
    obtain ⟨e1, e2⟩ := spellS_mem (List.mem_filter.mp ho).1
    exact shw_str (by omega) fun c hc => by have := h.2.2 c (e2 c hc); omega) (by
      have h1 := spellS_len h.2.1 hn
      have h2 := List.length_filter_le p (spellS nm n)
      rw [List.length_map]; omega)
  exact a.lst.ok (by decide) (by decide)
theorem atI_03 {α : Type} {x : α} {xs : List α} : atI (x :: xs) 0 = some x := by
  show atI (x :: xs) ((0 : Nat) : Int) = some x
  rw [atI_lt (by simp)]
  rfl
theorem len_in3 (i : Int) : okIn (.int i) := ⟨⟨_, rfl⟩, fun s h => by (cases h), fun s h => by (cases h)⟩
theorem txs_of3 {p : Txt → Prop} : ∀ {ys : List D}, (∀ y ∈ ys, ∃ c, y = .str c ∧ p c) → ∃ bar : List Txt, ys = txs bar ∧ ∀ c ∈ bar, p c
  | [], _ => ⟨[], rfl, fun _ h => by cases h⟩
  | x :: ys, h => by
    obtain ⟨c, rfl, hc⟩ := h x List.mem_cons_self
    obtain ⟨bar, e, hb⟩ := txs_of3 fun y hy => h y (List.mem_cons_of_mem _ hy)
    exact ⟨c :: bar, by rw [e]; rfl, fun y hy => (List.mem_cons.mp hy).elim (fun z => by rw [z]; exact hc) (hb y)⟩
theorem noOwn3 {env : DL.Env} {i : Nat} {s : Slot} (h : env[i]? = some s) (n : NOw s) : noOwn env [i] = true := by
  unfold noOwn
  rw [List.all_cons, h]
  cases s with
  | own c => exact absurd rfl (n c)
  | _ => rfl
theorem txs_inj3 : ∀ {a b : List Txt}, txs a = txs b → a = b
  | [], [], _ => rfl
  | x :: a, y :: b, h => by
    have h : D.str x :: txs a = D.str y :: txs b := h
    injection h with h1 h2
    injection h1 with h1
    rw [h1, txs_inj3 h2]
theorem Th3.str {t : Txt} (h : t.length ≤ 12) (ha : ∀ c ∈ t, c < 128) : Th3 (.str t) := ⟨⟨⟨_, rfl⟩, (fun s e => by cases e; omega), fun s e c hc => by cases e; exact ha c hc⟩, (shw_str (k := 2) h ha).mono (by omega) (by omega), fun _ => rfl⟩
theorem Th3.cd {t : Txt} {n : Nat} (h : cdOk n t) (h3 : n ≤ 3) : Th3 (.str t) := Th3.str (by rw [h.1]; omega) fun c hc => by have := h.2 c hc; omega
theorem Th3.nat {n : Nat} (h3 : n ≤ 3) : Th3 (.int n) := by
  have hs : smallI (n : Int) := by
    exact Nat.lt_trans (show (n : Int).natAbs < 100 by omega) (by decide +kernel)
  exact ⟨len_in3 n, (shw_int (k := 2) hs).mono (by omega) (by omega), fun _ => rfl⟩
theorem due_sh {l : D} {bs : List D} (hl : Th3 l) (hb : ∀ x ∈ bs, Th3 x) : shOk (dueD l bs) ∧ ∀ C, dr C (dueD l bs) = dueD l bs := by
  unfold dueD
  split
  · cases hf : bs.find? (fun x => !isWord x (lenI l) (lenI l)) with
    | none => exact ⟨(shw_non (k := 0)).ok (by decide) (by decide), fun _ => rfl⟩
    | some x => exact ⟨shw3 (hb x (List.mem_of_find?_eq_some hf)) (by decide) (by decide), fun _ => rfl⟩
  · exact ⟨shw3 hl (by decide) (by decide), fun _ => rfl⟩
end L2.DL
namespace L2.DL
open PySem PySem.Spec PyProof.Rows
abbrev top (i : Nat) : Stmt := PySem.Challenge.pw_ownletters_k03_spellers.main.body.getD i (.Pass ⟨0, 0, 0, 0⟩)
class Cad where
  c_BadLength : Addr
  c_CodeError : Addr
  c_BadCode : Addr
  c_Speller : Addr
  c_BadName : Addr
section
variable [Cad]
def sp__law_purse : DSp := spPurse true
def sp__law_draw : DSp := spDraw true
def sp__law_choose : DSp := spChoose true
def sp__law_word : DSp := fun ds C PR _ => ∃ a s n, ds = [.cell a, .str s, .int n] ∧ C a = some (.pur true) ∧ s ≠ [] ∧ s.length ≤ 1000 ∧ 0 < n ∧ n ≤ 1000 ∧ ∀ t : Txt, 0 < t.length → (t.length : Int) ≤ n → (∀ c ∈ t, c ∈ s) → PR (.shr (.str t)) C
def sp__law_name : DSp := fun ds C PR _ => ∃ a, ds = [.cell a] ∧ C a = some (.pur true) ∧ ∀ t : Txt, nameOk t → PR (.shr (.str t)) C
def sp__law_places : DSp := fun ds C PR _ => ∃ (s : Txt) (n : Nat), ds = [.str s, .int n] ∧ s.length ≤ 12 ∧ n ≤ 3 ∧ PR (.shr (nssD (placesN s.length n))) C
def sp__law_spellings : DSp := fun ds C PR _ => ∃ (s : Txt) (n : Nat), ds = [.str s, .int n] ∧ s.length ≤ 12 ∧ n ≤ 3 ∧ PR (.frs (.lst ((spells s n).map .str))) C
def sp_is_length : DSp := fun ds C PR _ => ∃ d, ds = [d] ∧ Thg C d ∧ PR (.shr (.bl (lenOk d))) C
def sp_is_word : DSp := fun ds C PR _ => ∃ (d : D) (lo hi : Int), ds = [d, .int lo, .int hi] ∧ Thg C d ∧ PR (.shr (.bl (isWord d lo hi))) C
def sp_is_code : DSp := fun ds C PR _ => ∃ d n, ds = [d, .int n] ∧ Thg C d ∧ PR (.shr (.bl (isWord d n n))) C
def sp_Speller___init__ : DSp := fun ds C PR PX => ∃ (a : Addr) (l bd : D) (bs : List D), ds = [.cell a, l, bd] ∧ C a = some (.obj Cad.c_Speller []) ∧ Thg C l ∧ (bd = .lst bs ∨ bd = .tup bs ∨ (bd = .kt ∧ bs = []) ∨ ∃ c, c ≠ a ∧ bd = .cell c ∧ C c = some (.lst bs)) ∧ bs.length ≤ 1000 ∧ (∀ x ∈ bs, Thg C x) ∧
  (lenOk l = false → PX (.own Cad.c_BadLength [("value", l)]) C) ∧
  ∀ n : Nat, l = .int n → 1 ≤ n → n ≤ 3 → ((∃ c, bd = .cell c) → ∀ x ∈ bs, isWord x n n = true) ∧
    (∀ (k : Nat) (x : D), bs[k]? = some x → (∀ y ∈ bs.take k, isWord y n n = true) → isWord x n n = false → PX (.own Cad.c_BadCode [("value", x)]) C) ∧
    ∀ bar : List Txt, bs = txs bar → (∀ c ∈ bar, cdOk n c) → PR (.shr .non) (cput C a (.obj Cad.c_Speller [("size", .int n), ("shut", .lst (txs (sortT (uniT bar))))]))
def sp_Speller_length : DSp := fun ds C PR _ => ∃ (n : Nat) (sh : D), ds = [.obj Cad.c_Speller [("size", .int n), ("shut", sh)]] ∧ PR (.shr (.int n)) C
def sp_Speller_banned : DSp := fun ds C PR _ => ∃ (n : Nat) (sh : List Txt), ds = [.obj Cad.c_Speller [("size", .int n), ("shut", .lst (txs sh))]] ∧ PR (.frs (.lst (txs sh))) C
def sp_is_name : DSp := fun ds C PR _ => ∃ d, ds = [d] ∧ Thg C d ∧ PR (.shr (.bl (isWord d 1 12))) C
def spr_place_lists : Nat → DSp := fun n ds C PR _ => ∃ size : Nat, ds = [.int size, .int n] ∧ size ≤ 12 ∧ n ≤ 3 ∧ PR (.frs (.lst ((pls size n).map natsD))) C
def sp_place_lists : DSp := fun ds C PR PX => ∃ n, n ≤ 3 ∧ spr_place_lists n ds C PR PX
def sp_spellings : DSp := fun ds C PR _ => ∃ (nm : Txt) (n : Nat), ds = [.str nm, .int n] ∧ nm.length ≤ 12 ∧ n ≤ 3 ∧ PR (.frs (.lst (txs (spellS nm n)))) C
def sp_Speller___call__ : DSp := fun ds C PR PX => ∃ (d : D) (n : Nat) (sh : List Txt), ds = [.obj Cad.c_Speller [("size", .int n), ("shut", .lst (txs sh))], d] ∧ Thg C d ∧ n ≤ 3 ∧ (isWord d 1 12 = false → PX (.own Cad.c_BadName [("value", d)]) C) ∧
  ∀ nm, d = .str nm → nameOk nm → PR (.frs (.lst (txs ((spellS nm n).filter fun o => !decide (o ∈ sh))))) C
def sp__law_error : XDSp := fun a cls dd ds C PR _ => ∃ (B d2 : Addr) (v : D), ds = [.exc a B d2 [("value", v)]] ∧ cls = .ref B ∧ dd = some d2 ∧
  ((B = Cad.c_BadLength ∧ PR (.shr (.tup [.str tLen, v])) C) ∨ (B = Cad.c_BadCode ∧ PR (.shr (.tup [.str tCode3, v])) C) ∨ (B = Cad.c_BadName ∧ PR (.shr (.tup [.str tName3, v])) C))
def sp__law_called : DSp := fun ds C PR _ => ∃ (d : D) (n : Nat) (sh : List Txt), ds = [.obj Cad.c_Speller [("size", .int n), ("shut", .lst (txs sh))], d] ∧ Thg C d ∧ n ≤ 3 ∧ (isWord d 1 12 = false → PR (.shr (.tup [.str tName3, d])) C) ∧
  ∀ nm, d = .str nm → nameOk nm → PR (.shr (.lst (txs ((spellS nm n).filter fun o => !decide (o ∈ sh))))) C
def sp__law_allowed : DSp := fun ds C PR _ => ∃ (nm : Txt) (n : Nat) (bar : List Txt), ds = [.str nm, .int n, .lst (txs bar)] ∧ nm.length ≤ 12 ∧ n ≤ 3 ∧ PR (.frs (.lst (txs ((spellS nm n).filter fun o => !decide (o ∈ bar))))) C
abbrev spD (n : Nat) (sh : List Txt) [Cad] : D := .obj Cad.c_Speller [("size", .int n), ("shut", .lst (txs sh))]
def sp__law_spells : DSp := fun ds C PR _ => ∃ (p : Addr) (nm : Txt) (n : Nat) (bar : List Txt), ds = [.cell p, spD n (sortT (uniT bar)), .str nm, .int n, .lst (txs bar)] ∧ C p = some (.pur true) ∧ nameOk nm ∧ 1 ≤ n ∧ n ≤ 3 ∧ bar.length ≤ 10 ∧ (∀ c ∈ bar, cdOk n c) ∧ PR (.shr (.bl true)) C
def sp__law_any : DSp := fun ds C PR _ => ∃ a : Addr, ds = [.cell a] ∧ C a = some (.pur true) ∧ ∀ d, Th3 d → PR (.shr d) C
def sp_Speller___contains__ : DSp := fun ds C PR _ => ∃ (d : D) (n : Nat) (sh : List Txt), ds = [.obj Cad.c_Speller [("size", .int n), ("shut", .lst (txs sh))], d] ∧ okIn d ∧ PR (.shr (.bl (inSp n sh d))) C
def sp__law_is_word : DSp := spWord
def sp__law_made : DSp := fun ds C PR _ => ∃ (l : D) (bs : List D), ds = [l, .lst bs] ∧ Thg C l ∧ (∀ x ∈ bs, Thg C x) ∧ bs.length ≤ 1000 ∧ PR (.shr (dueD l bs)) C
def sp__law_due : DSp := fun ds C PR _ => ∃ (l : D) (bs : List D), ds = [l, .lst bs] ∧ okIn l ∧ (∀ x ∈ bs, okIn x) ∧ bs.length ≤ 1000 ∧ PR (.shr (dueD l bs)) C
def sp__law_copied : DSp := fun ds C PR _ => ∃ (c : Addr) (nm : Txt) (n : Nat) (bar : List Txt), ds = [spD n (sortT (uniT bar)), .cell c, .str nm, .int n, .lst (txs bar)] ∧ C c = some (.lst (txs bar)) ∧ nameOk nm ∧ 1 ≤ n ∧ n ≤ 3 ∧ bar.length ≤ 10 ∧ (∀ c ∈ bar, cdOk n c) ∧ ∀ C', (∀ x, x ≠ c → C' x = C x) → PR (.shr (.bl true)) C'
def sp__law_values_kept : DSp := fun ds C PR _ => ds = [] ∧ ∀ C', PR (.shr (.bl true)) C'
def spLaw : DSp := fun ds C PR _ => ∃ (ns : List Int), ds = [.scr ns] ∧ ns.length ≤ 63 ∧ (∀ n ∈ ns, Builtin.Int.intBits n ≤ 1048576) ∧ ∀ C', PR (.shr (.bl true)) C'
/-- what the text's globals and classes are -/
structure Gls [Cad] (K : PySem.W.Frag) (mg : Str → Option Value) : Prop where
  c_GREATEST_LENGTH : ∃ u, mg "GREATEST_LENGTH" = some u ∧ RelV (.int 3) u
  c_LETTERS : ∃ u, mg "LETTERS" = some u ∧ RelV (.str (sV [97, 98, 99, 100, 101, 102, 103, 104, 105, 106, 107, 108, 109, 110, 111, 112, 113, 114, 115, 116, 117, 118, 119, 120, 121, 122])) u
  c_LONGEST_NAME : ∃ u, mg "LONGEST_NAME" = some u ∧ RelV (.int 12) u
  n_all : mg "all" = none
  n_bool : mg "bool" = none
  n_int : mg "int" = none
  n_isinstance : mg "isinstance" = none
  n_len : mg "len" = none
  n_list : mg "list" = none
  n_max : mg "max" = none
  n_min : mg "min" = none
  n_range : mg "range" = none
  n_repr : mg "repr" = none
  n_set : mg "set" = none
  n_sorted : mg "sorted" = none
  n_str : mg "str" = none
  n_tuple : mg "tuple" = none
  g_BadLength : mg "BadLength" = some (.ref Cad.c_BadLength)
  g_BadCode : mg "BadCode" = some (.ref Cad.c_BadCode)
  kl_Speller : Kls K Cad.c_Speller ["size", "shut"]
  g_Speller : mg "Speller" = some (.ref Cad.c_Speller)
  g_CodeError : mg "CodeError" = some (.ref Cad.c_CodeError)
  g_BadName : mg "BadName" = some (.ref Cad.c_BadName)
  em_BadLength_CodeError : PySem.W.exmOne K (.ref Cad.c_BadLength) (.ref Cad.c_CodeError) = some true
  em_BadCode_CodeError : PySem.W.exmOne K (.ref Cad.c_BadCode) (.ref Cad.c_CodeError) = some true
  em_BadName_CodeError : PySem.W.exmOne K (.ref Cad.c_BadName) (.ref Cad.c_CodeError) = some true
  it_BadLength : IsT K Cad.c_BadLength
  ki_BadLength_BadLength : ExcC K Cad.c_BadLength ∧ PySem.W.kitOne K (.ref Cad.c_BadLength) (.ref Cad.c_BadLength) = some true
  ki_BadCode_BadLength : ExcC K Cad.c_BadCode ∧ PySem.W.kitOne K (.ref Cad.c_BadCode) (.ref Cad.c_BadLength) = some false
  ki_BadName_BadLength : ExcC K Cad.c_BadName ∧ PySem.W.kitOne K (.ref Cad.c_BadName) (.ref Cad.c_BadLength) = some false
  xx_BadLength_value : XfC K Cad.c_BadLength ∧ PySem.W.findIn K (.ref Cad.c_BadLength) "value" = some none
  xx_BadCode_value : XfC K Cad.c_BadCode ∧ PySem.W.findIn K (.ref Cad.c_BadCode) "value" = some none
  xx_BadName_value : XfC K Cad.c_BadName ∧ PySem.W.findIn K (.ref Cad.c_BadName) "value" = some none
  it_BadCode : IsT K Cad.c_BadCode
  ki_BadLength_BadCode : ExcC K Cad.c_BadLength ∧ PySem.W.kitOne K (.ref Cad.c_BadLength) (.ref Cad.c_BadCode) = some false
  ki_BadCode_BadCode : ExcC K Cad.c_BadCode ∧ PySem.W.kitOne K (.ref Cad.c_BadCode) (.ref Cad.c_BadCode) = some true
  ki_BadName_BadCode : ExcC K Cad.c_BadName ∧ PySem.W.kitOne K (.ref Cad.c_BadName) (.ref Cad.c_BadCode) = some false
  it_BadName : IsT K Cad.c_BadName
  ki_BadLength_BadName : ExcC K Cad.c_BadLength ∧ PySem.W.kitOne K (.ref Cad.c_BadLength) (.ref Cad.c_BadName) = some false
  ki_BadCode_BadName : ExcC K Cad.c_BadCode ∧ PySem.W.kitOne K (.ref Cad.c_BadCode) (.ref Cad.c_BadName) = some false
  ki_BadName_BadName : ExcC K Cad.c_BadName ∧ PySem.W.kitOne K (.ref Cad.c_BadName) (.ref Cad.c_BadName) = some true
/-! ### _law_purse -/
abbrev st__law_purse : Stmt := top 17
theorem sc__law_purse : FnScope ["_law_script", "_law_start", "_law_mixed", "_law_entry", "_law_digits"] ["_law_script", "_law_start"] (defScope st__law_purse) := ⟨rfl, rfl, rfl, by decide +kernel, rfl, by decide +kernel, by decide +kernel⟩
def m__law_purse : SM :=
  (sSeq (sSet 2 (mOp gAdd (mC (.int 2003)) (mOp gMul (mPeek 1) (mC (.int 71)))))
    (sSeq (sFor (gN 3) (mIter (mVar 0)) (sSet 2 (mOp gAdd (mOp (gI (fun _ j => 0 < j) fun i j => i % j) (mOp (gI PowOk fun i j => i ^ j.toNat) (mOp gAdd (mOp gAdd (mOp gMul (mPeek 2) (mC (.int 50021))) (mOp gMul (mPeek 3) (mPeek 3))) (mC (.int 29))) (mC (.int 2))) (mC (.int 2147483543))) (mC (.int 5)))))
    (sSeq (sSet 4 (mIf (mAndT (mTst (mOp (gOrd (fun i j => decide (i < j)) fun s t => decide (s < t)) (mPeek 1) (mCallB gLen (mCons (mPeek 0) mNil)))) (mTst (mOp (gOrd (fun i j => decide (j ≤ i)) fun s t => !decide (s < t)) (mOp gIx (mPeek 0) (mPeek 1)) (mOp (gI PowOk fun i j => i ^ j.toNat) (mC (.int 10)) (mC (.int 18)))))) (mOp (gI0 fun i j => i - j) (mOp gIx (mPeek 0) (mPeek 1)) (mOp (gI PowOk fun i j => i ^ j.toNat) (mC (.int 10)) (mC (.int 18)))) (mC (.int 0))))
    (sRetF (mDct (mPCons (mC (.str [100, 105, 103, 105, 116, 115])) (mVar 4) (mPCons (mC (.str [109, 105, 120, 101, 100])) (mVar 2) mPNil)))))))
/-! ### _law_draw -/
abbrev st__law_draw : Stmt := top 18
theorem sc__law_draw : FnScope ["_law_purse_here", "_law_size", "_law_found"] ["_law_purse_here", "_law_size"] (defScope st__law_draw) := ⟨rfl, rfl, rfl, by decide +kernel, rfl, by decide +kernel, by decide +kernel⟩
def m__law_draw : SM :=
  (sSeq (sIf (mTst (mOp (gOrd (fun i j => decide (j ≤ i)) fun s t => !decide (s < t)) (mOp gIx (mPeek 0) (mC (.str [100, 105, 103, 105, 116, 115]))) (mPeek 1))) (sSeq (sSet 2 (mOp (gI (fun _ j => 0 < j) fun i j => i % j) (mOp gIx (mPeek 0) (mC (.str [100, 105, 103, 105, 116, 115]))) (mPeek 1)))
    (sSeq (sAsg (gPutC (mVar 0) (mC (.str [100, 105, 103, 105, 116, 115]))) (mOp (gI DivOk fun i j => i / j) (mOp gIx (mPeek 0) (mC (.str [100, 105, 103, 105, 116, 115]))) (mPeek 1)))
    (sRetO 2))) sNext)
    (sSeq (sAsg (gPutC (mVar 0) (mC (.str [109, 105, 120, 101, 100]))) (mOp (gI (fun _ j => 0 < j) fun i j => i % j) (mOp gAdd (mOp gMul (mOp gIx (mPeek 0) (mC (.str [109, 105, 120, 101, 100]))) (mC (.int 40692))) (mC (.int 3791))) (mC (.int 2147483399))))
    (sRet (mOp (gI (fun _ j => 0 < j) fun i j => i % j) (mOp (gI DivOk fun i j => i / j) (mOp (gI (fun _ j => 0 < j) fun i j => i % j) (mOp (gI PowOk fun i j => i ^ j.toNat) (mOp (gI (fun _ j => 0 < j) fun i j => i % j) (mOp (gI PowOk fun i j => i ^ j.toNat) (mOp gIx (mPeek 0) (mC (.str [109, 105, 120, 101, 100]))) (mC (.int 2))) (mC (.int 2147483563))) (mC (.int 3))) (mC (.int 1000000007))) (mC (.int 11))) (mPeek 1)))))
/-! ### _law_choose -/
abbrev st__law_choose : Stmt := top 19
theorem sc__law_choose : FnScope ["_law_purse_here", "_law_things"] ["_law_purse_here", "_law_things"] (defScope st__law_choose) := ⟨rfl, rfl, rfl, by decide +kernel, rfl, by decide +kernel, by decide +kernel⟩
def m__law_choose : SM :=
  (sRet (mOp gIx (mPeek 1) (mCall sp__law_draw [] (mCons (mVar 0) (mCons (mCallB gLen (mCons (mPeek 1) mNil)) mNil)))))
/-! ### _law_word -/
abbrev st__law_word : Stmt := top 20
theorem sc__law_word : FnScope ["_law_purse_here", "_law_letters", "_law_most", "_law_place"] ["_law_purse_here", "_law_letters", "_law_most"] (defScope st__law_word) := ⟨rfl, rfl, rfl, by decide +kernel, rfl, by decide +kernel, by decide +kernel⟩
def m__law_word : SM :=
  (sRet (mTx1 gJoin (mC (.str [])) (mMap Cont.d (mComp [3] (gN 3) (mRng1 (mCons (mOp gAdd (mC (.int 1)) (mCall sp__law_draw [] (mCons (mVar 0) (mCons (mVar 2) mNil)))) mNil)) (mC true) (mCall sp__law_choose [] (mCons (mVar 0) (mCons (mVar 1) mNil)))))))
/-! ### _law_name -/
abbrev st__law_name : Stmt := top 21
theorem sc__law_name : FnScope ["_law_purse_here", "_law_kinds", "_law_some", "_law_word_here"] ["_law_purse_here"] (defScope st__law_name) := ⟨rfl, rfl, rfl, by decide +kernel, rfl, by decide +kernel, by decide +kernel⟩
def m__law_name : SM :=
  (sSeq (sSet 1 (mMap Cont.d (mLst (mCons (mC (.str [97, 98])) (mCons (mC (.str [97, 98, 99])) (mCons (mC (.str [97, 98, 99])) (mCons (mC (.str [97, 98, 99, 100, 101])) (mCons (mC (.str [104, 97, 114, 98, 111, 117, 114])) (mCons (mC (.str [97, 98, 99, 100, 101, 102, 103, 104, 105, 106, 107, 108, 109, 110, 111, 112, 113, 114, 115, 116, 117, 118, 119, 120, 121, 122])) mNil)))))))))
    (sSeq (sSet 2 (mMap Cont.d (mLst (mCons (mC (.str [97])) (mCons (mC (.str [97, 97])) (mCons (mC (.str [97, 97, 97])) (mCons (mC (.str [98, 111, 111, 107])) (mCons (mC (.str [97, 98, 99, 97, 98, 99])) (mCons (mC (.str [122, 122, 122, 122, 122, 122, 122, 122, 122, 122, 122, 122])) (mCons (mC (.str [97, 98, 99, 100, 101, 102, 103, 104, 105, 106, 107, 108])) mNil))))))))))
    (sSeq (sSet 3 (mCall sp__law_word [] (mCons (mVar 0) (mCons (mCall sp__law_choose [] (mCons (mVar 0) (mCons (mVar 1) mNil))) (mCons (mCall sp__law_choose [] (mCons (mVar 0) (mCons (mMap Cont.d (mLst (mCons (mC (.int 3)) (mCons (mC (.int 4)) (mCons (mC (.int 5)) (mCons (mC (.int 6)) (mCons (mC (.int 12)) mNil))))))) mNil))) mNil)))))
    (sRet (mCall sp__law_choose [] (mCons (mVar 0) (mCons (mMap Cont.d (mLst (mCons (mVar 3) (mCons (mVar 3) (mCons (mVar 3) (mCons (mVar 3) (mCons (mCall sp__law_choose [] (mCons (mVar 0) (mCons (mVar 2) mNil))) mNil))))))) mNil)))))))
/-! ### _law_places -/
abbrev st__law_places : Stmt := top 22
theorem sc__law_places : FnScope ["_law_name_here", "_law_length", "_law_found", "_law_turn", "_law_longer", "_law_places_here", "_law_first", "_law_place"] ["_law_name_here", "_law_length"] (defScope st__law_places) := ⟨rfl, rfl, rfl, by decide +kernel, rfl, by decide +kernel, by decide +kernel⟩
def m__law_places : SM :=
  (sSeq (sSet 2 (mMap Cont.d (mLst (mCons (mMap Cont.d (mLst mNil)) mNil))))
    (sSeq (sFor (gN 3) (mRng1 (mCons (mVar 1) mNil)) (sSeq (sSet 4 (mMap Cont.d (mLst mNil)))
    (sSeq (sFor (gN 5) (mIter (mVar 2)) (sSeq (sSet 6 (mIf (mTst (mOp (gEqN true) (mPeek 5) (mMap Cont.d (mLst mNil)))) (mOp gAdd (mOp gIx (mPeek 5) (mUn gNeg (mC (.int 1)))) (mC (.int 1))) (mC (.int 0))))
    (sSet 4 (mOp gAdd (mPeek 4) (mMap Cont.d (mComp [7] (gN 7) (mRng2 (mCons (mVar 6) (mCons (mCallB gLen (mCons (mPeek 0) mNil)) mNil))) (mC true) (mOp gAdd (mPeek 5) (mMap Cont.d (mLst (mCons (mVar 7) mNil))))))))))
    (sSet 2 (mVar 4)))))
    (sRetO 2)))
/-! ### _law_spellings -/
abbrev st__law_spellings : Stmt := top 23
theorem sc__law_spellings : FnScope ["_law_name_here", "_law_length", "_law_found", "_law_places_here", "_law_code", "_law_place"] ["_law_name_here", "_law_length"] (defScope st__law_spellings) := ⟨rfl, rfl, rfl, by decide +kernel, rfl, by decide +kernel, by decide +kernel⟩
def m__law_spellings : SM :=
  (sSeq (sSetO 2 (mLst mNil))
    (sSeq (sFor (gN 3) (mIter (mCall sp__law_places [] (mCons (mVar 0) (mCons (mVar 1) mNil)))) (sSeq (sSet 4 (mTx1 gJoin (mC (.str [])) (mMap Cont.d (mComp [5] (gN 5) (mIter (mVar 3)) (mC true) (mOp gIx (mPeek 0) (mPeek 5))))))
    (sIf (mTst (mOp (gIn true) (mPeek 4) (mPeek 2))) (sApp 2 (mVar 4)) sNext)))
    (sRetO 2)))
/-! ### is_length -/
abbrev st_is_length : Stmt := top 11
theorem sc_is_length : FnScope ["value"] ["value"] (defScope st_is_length) := ⟨rfl, rfl, rfl, by decide +kernel, rfl, by decide +kernel, by decide +kernel⟩
def m_is_length : SM :=
  (sRet (mAndV (mCallB gIsi (mCons (mPeek 0) (mCons (mC (.ty "int")) mNil))) (mAndV (mNotV (mCallB gIsi (mCons (mPeek 0) (mCons (mC (.ty "bool")) mNil)))) (mChain (gOrd (fun i j => decide (i ≤ j)) fun s t => !decide (t < s)) (gOrd (fun i j => decide (i ≤ j)) fun s t => !decide (t < s)) (mC (.int 1)) (mPeek 0) (mC (.int 3))))))
/-! ### is_word -/
abbrev st_is_word : Stmt := top 9
theorem sc_is_word : FnScope ["value", "least", "most", "letter"] ["value", "least", "most"] (defScope st_is_word) := ⟨rfl, rfl, rfl, by decide +kernel, rfl, by decide +kernel, by decide +kernel⟩
def m_is_word : SM :=
  (sRet (mAndV (mCallB gIsi (mCons (mPeek 0) (mCons (mC (.ty "str")) mNil))) (mAndV (mChain (gOrd (fun i j => decide (i ≤ j)) fun s t => !decide (t < s)) (gOrd (fun i j => decide (i ≤ j)) fun s t => !decide (t < s)) (mPeek 1) (mCallB gLen (mCons (mPeek 0) mNil)) (mPeek 2)) (mCallB (gBls fun bs => bs.all id) (mCons (mMap Cont.d (mComp [3] (gN 3) (mIter (mVar 0)) (mC true) (mOp (gIn false) (mPeek 3) (mC (.str [97, 98, 99, 100, 101, 102, 103, 104, 105, 106, 107, 108, 109, 110, 111, 112, 113, 114, 115, 116, 117, 118, 119, 120, 121, 122]))))) mNil)))))
/-! ### is_code -/
abbrev st_is_code : Stmt := top 12
theorem sc_is_code : FnScope ["value", "length"] ["value", "length"] (defScope st_is_code) := ⟨rfl, rfl, rfl, by decide +kernel, rfl, by decide +kernel, by decide +kernel⟩
def m_is_code : SM :=
  (sRet (mCall sp_is_word [] (mCons (mVar 0) (mCons (mVar 1) (mCons (mVar 1) mNil)))))
/-! ### Speller.__init__ -/
abbrev st_Speller___init__ : Stmt := inClass (top 15) 0
theorem sc_Speller___init__ : FnScope ["self", "length", "banned", "code"] ["self", "length", "banned"] (defScope st_Speller___init__) := ⟨rfl, rfl, rfl, by decide +kernel, rfl, by decide +kernel, by decide +kernel⟩
def m_Speller___init__ : SM :=
  (sSeq (sIf (mNotT (mTru (mCall sp_is_length [] (mCons (mVar 1) mNil)))) (sRaise Cad.c_BadLength "value" (mCons (mVar 1) mNil)) sNext)
    (sSeq (sAlt (sFor (gN 3) (mIter (mVar 2)) (sIf (mNotT (mTru (mCall sp_is_code [] (mCons (mVar 3) (mCons (mVar 1) mNil))))) (sRaise Cad.c_BadCode "value" (mCons (mVar 3) mNil)) sNext)) (sForX (gN 3) (mDl (mVar 2)) (sIf (mNotT (mTru (mCall sp_is_code [] (mCons (mVar 3) (mCons (mVar 1) mNil))))) (sRaise Cad.c_BadCode "value" (mCons (mVar 3) mNil)) sNext)))
    (sSeq (sFldS Cad.c_Speller "size" (mVar 0) (mVar 1))
    (sFldS Cad.c_Speller "shut" (mVar 0) (mMap Cont.d (mUnF gSetSort (mPeek 2)))))))
/-! ### Speller.length -/
abbrev st_Speller_length : Stmt := inClass (top 15) 1
theorem sc_Speller_length : FnScope ["self"] ["self"] (defScope st_Speller_length) := ⟨rfl, rfl, rfl, by decide +kernel, rfl, by decide +kernel, by decide +kernel⟩
def m_Speller_length : SM :=
  (sRet (mUn (gFld Cad.c_Speller "size") (mPeek 0)))
/-! ### Speller.banned -/
abbrev st_Speller_banned : Stmt := inClass (top 15) 2
theorem sc_Speller_banned : FnScope ["self"] ["self"] (defScope st_Speller_banned) := ⟨rfl, rfl, rfl, by decide +kernel, rfl, by decide +kernel, by decide +kernel⟩
def m_Speller_banned : SM :=
  (sRetF (mCallB gList (mCons (mUn (gFld Cad.c_Speller "shut") (mPeek 0)) mNil)))
/-! ### is_name -/
abbrev st_is_name : Stmt := top 10
theorem sc_is_name : FnScope ["value"] ["value"] (defScope st_is_name) := ⟨rfl, rfl, rfl, by decide +kernel, rfl, by decide +kernel, by decide +kernel⟩
def m_is_name : SM :=
  (sRet (mCall sp_is_word [] (mCons (mVar 0) (mCons (mC (.int 1)) (mCons (mC (.int 12)) mNil)))))
/-! ### place_lists -/
abbrev st_place_lists : Stmt := top 13
theorem sc_place_lists : FnScope ["size", "length", "found", "shorter", "first", "place"] ["size", "length"] (defScope st_place_lists) := ⟨rfl, rfl, rfl, by decide +kernel, rfl, by decide +kernel, by decide +kernel⟩
def m_place_lists (spr : DSp) : SM :=
  (sSeq (sIf (mTst (mOp (gEq false) (mPeek 1) (mC (.int 0)))) (sRetF (mLst (mCons (mMap Cont.d (mLst mNil)) mNil))) sNext)
    (sSeq (sSetO 2 (mLst mNil))
    (sSeq (sFor (gN 3) (mIter (mCall spr [] (mCons (mVar 0) (mCons (mOp (gI0 fun i j => i - j) (mPeek 1) (mC (.int 1))) mNil)))) (sSeq (sSet 4 (mIf (mTst (mOp (gEqN true) (mPeek 3) (mMap Cont.d (mLst mNil)))) (mOp gAdd (mOp gIx (mPeek 3) (mUn gNeg (mC (.int 1)))) (mC (.int 1))) (mC (.int 0))))
    (sExt 2 (mMap Cont.d (mComp [5] (gN 5) (mRng2 (mCons (mVar 4) (mCons (mVar 0) mNil))) (mC true) (mOp gAdd (mPeek 3) (mMap Cont.d (mLst (mCons (mVar 5) mNil)))))))))
    (sRetO 2))))
/-! ### spellings -/
abbrev st_spellings : Stmt := top 14
theorem sc_spellings : FnScope ["name", "length", "found", "places", "code", "place"] ["name", "length"] (defScope st_spellings) := ⟨rfl, rfl, rfl, by decide +kernel, rfl, by decide +kernel, by decide +kernel⟩
def m_spellings : SM :=
  (sSeq (sSetO 2 (mC (.dct [])))
    (sSeq (sFor (gN 3) (mIter (mCall sp_place_lists [] (mCons (mCallB gLen (mCons (mPeek 0) mNil)) (mCons (mVar 1) mNil)))) (sSeq (sSet 4 (mTx1 gJoin (mC (.str [])) (mMap Cont.d (mComp [5] (gN 5) (mIter (mVar 3)) (mC true) (mOp gIx (mPeek 0) (mPeek 5))))))
    (sIf (mTst (mOp (gIn true) (mPeek 4) (mPeek 2))) (sAsg (gPutO 2 (mVar 4)) (mVar 3)) sNext)))
    (sRetF (mCallB gListD (mCons (mPeek 2) mNil)))))
/-! ### Speller.__call__ -/
abbrev st_Speller___call__ : Stmt := inClass (top 15) 4
theorem sc_Speller___call__ : FnScope ["self", "name", "code"] ["self", "name"] (defScope st_Speller___call__) := ⟨rfl, rfl, rfl, by decide +kernel, rfl, by decide +kernel, by decide +kernel⟩
def m_Speller___call__ : SM :=
  (sSeq (sIf (mNotT (mTru (mCall sp_is_name [] (mCons (mVar 1) mNil)))) (sRaise Cad.c_BadName "value" (mCons (mVar 1) mNil)) sNext)
    (sRetF (mComp [2] (gN 2) (mIter (mCall sp_spellings [] (mCons (mVar 1) (mCons (mUn (gFld Cad.c_Speller "size") (mPeek 0)) mNil)))) (mTst (mOp (gIn true) (mPeek 2) (mUn (gFld Cad.c_Speller "shut") (mPeek 0)))) (mVar 2))))
/-! ### _law_error -/
abbrev st__law_error : Stmt := top 26
theorem sc__law_error : FnScope ["_law_e"] ["_law_e"] (defScope st__law_error) := ⟨rfl, rfl, rfl, by decide +kernel, rfl, by decide +kernel, by decide +kernel⟩
def m__law_error : Addr → Value → Option Addr → SM := fun a cls d =>
  (sSeq (sIf (mTru (mIsX 0 [(Cad.c_BadLength, true), (Cad.c_BadCode, false), (Cad.c_BadName, false)] a cls d)) (sRet (mTup (mCons (mC (.str [108, 101, 110, 103, 116, 104])) (mCons (mXf 0 "value" [Cad.c_BadLength, Cad.c_BadCode, Cad.c_BadName] a cls d) mNil)))) sNext)
    (sSeq (sIf (mTru (mIsX 0 [(Cad.c_BadLength, false), (Cad.c_BadCode, true), (Cad.c_BadName, false)] a cls d)) (sRet (mTup (mCons (mC (.str [99, 111, 100, 101])) (mCons (mXf 0 "value" [Cad.c_BadLength, Cad.c_BadCode, Cad.c_BadName] a cls d) mNil)))) sNext)
    (sRet (mIf (mTru (mIsX 0 [(Cad.c_BadLength, false), (Cad.c_BadCode, false), (Cad.c_BadName, true)] a cls d)) (mTup (mCons (mC (.str [110, 97, 109, 101])) (mCons (mXf 0 "value" [Cad.c_BadLength, Cad.c_BadCode, Cad.c_BadName] a cls d) mNil))) (mTup (mCons (mC (.str [111, 116, 104, 101, 114])) (mCons (mC .non) mNil)))))))
/-! ### _law_called -/
abbrev st__law_called : Stmt := top 28
theorem sc__law_called : FnScope ["_law_speller", "_law_thing", "_law_e"] ["_law_speller", "_law_thing"] (defScope st__law_called) := ⟨rfl, rfl, rfl, by decide +kernel, rfl, by decide +kernel, by decide +kernel⟩
def m__law_called : SM :=
  (sTryAs [Cad.c_BadLength, Cad.c_BadCode, Cad.c_BadName] [] 2 (sRet (mCallI Cad.c_Speller (spV 2 sp_Speller___call__) (mVar 0) (mCons (mVar 1) mNil))) fun a cls d => (sRet (mCall (sp__law_error a cls d) [] (mCons (mVar 2) mNil))))
/-! ### _law_allowed -/
abbrev st__law_allowed : Stmt := top 30
theorem sc__law_allowed : FnScope ["_law_word_here", "_law_length", "_law_barred", "_law_code"] ["_law_word_here", "_law_length", "_law_barred"] (defScope st__law_allowed) := ⟨rfl, rfl, rfl, by decide +kernel, rfl, by decide +kernel, by decide +kernel⟩
def m__law_allowed : SM :=
  (sRetF (mComp [3] (gN 3) (mIter (mCall sp__law_spellings [] (mCons (mVar 0) (mCons (mVar 1) mNil)))) (mTst (mOp (gIn true) (mPeek 3) (mPeek 2))) (mVar 3)))
/-! ### _law_spells -/
abbrev st__law_spells : Stmt := top 31
theorem sc__law_spells : FnScope ["_law_purse_here", "_law_speller", "_law_name_here", "_law_length", "_law_barred", "_law_kept", "_law_other", "_law_found"] ["_law_purse_here", "_law_speller", "_law_name_here", "_law_length", "_law_barred"] (defScope st__law_spells) := ⟨rfl, rfl, rfl, by decide +kernel, rfl, by decide +kernel, by decide +kernel⟩
def m__law_spells : SM :=
  (sSeq (sSet 5 (mMap Cont.d (mLst (mCons (mCallI Cad.c_Speller (spV 2 sp_Speller___call__) (mVar 1) (mCons (mVar 2) mNil)) (mCons (mCallI Cad.c_Speller (spV 2 sp_Speller___call__) (mVar 1) (mCons (mC (.str [97, 98, 99, 97, 98, 99])) mNil)) (mCons (mCallI Cad.c_Speller (spV 2 sp_Speller___call__) (mVar 1) (mCons (mVar 2) mNil)) mNil))))))
    (sSeq (sIf (mOrT (mTst (mOp (gEq true) (mOp gIx (mPeek 5) (mC (.int 0))) (mOp gIx (mPeek 5) (mC (.int 2))))) (mOrT (mTst (mOp (gEq true) (mOp gIx (mPeek 5) (mC (.int 1))) (mCall sp__law_allowed [] (mCons (mC (.str [97, 98, 99, 97, 98, 99])) (mCons (mVar 3) (mCons (mVar 4) mNil)))))) (mTst (mOp (gEq true) (mProp Cad.c_Speller (spV 1 sp_Speller_length) (mVar 1)) (mPeek 3))))) (sRet (mC (.bl false))) sNext)
    (sSeq (sFor (gN 6) (mIter (mMap Cont.d (mLst (mCons (mVar 2) (mCons (mVar 2) (mCons (mCall sp__law_name [] (mCons (mVar 0) mNil)) (mCons (mC (.str [97])) mNil))))))) (sSeq (sSetO 7 (mCallIF Cad.c_Speller (spV 2 sp_Speller___call__) (mVar 1) (mCons (mVar 6) mNil)))
    (sSeq (sIf (mOrT (mTst (mOp (gEq true) (mCallB gRepr (mCons (mPeek 7) mNil)) (mCallB gRepr (mCons (mCall sp__law_allowed [] (mCons (mVar 6) (mCons (mVar 3) (mCons (mVar 4) mNil)))) mNil)))) (mTst (mOp (gEq true) (mProp Cad.c_Speller (spV 1 sp_Speller_banned) (mVar 1)) (mMap Cont.d (mUnF gSetSort (mPeek 4)))))) (sRet (mC (.bl false))) sNext)
    (sApp 7 (mC (.str [120]))))))
    (sRet (mOp (gEq false) (mOp gIx (mPeek 5) (mC (.int 0))) (mCall sp__law_allowed [] (mCons (mVar 2) (mCons (mVar 3) (mCons (mVar 4) mNil)))))))))
/-! ### _law_any -/
abbrev st__law_any : Stmt := top 25
theorem sc__law_any : FnScope ["_law_purse_here", "_law_some"] ["_law_purse_here"] (defScope st__law_any) := ⟨rfl, rfl, rfl, by decide +kernel, rfl, by decide +kernel, by decide +kernel⟩
def m__law_any : SM :=
  (sSeq (sSet 1 (mMap Cont.d (mLst (mCons (mC .non) (mCons (mC (.bl true)) (mCons (mC (.int 0)) (mCons (mC (.int 4)) (mCons (mC (.int 2)) (mCons (mC (.str [])) (mCons (mC (.str [65])) (mCons (mC (.str [97, 98, 99, 100])) (mCons (mC (.str [97, 49])) (mCons (mTup mNil) (mCons (mMap Cont.d (mLst (mCons (mC (.str [97])) mNil))) (mCons (mTup (mCons (mC (.str [97])) mNil)) (mCons (mMap Cont.d (mC (.dct []))) (mCons (mOp gMul (mC (.str [97])) (mC (.int 13))) (mCons (mC (.str [97, 98, 10])) (mCons (mC (.str [97])) (mCons (mC (.str [97, 98])) (mCons (mC (.str [97, 98, 99])) mNil)))))))))))))))))))))
    (sRet (mCall sp__law_choose [] (mCons (mVar 0) (mCons (mVar 1) mNil)))))
/-! ### Speller.__contains__ -/
abbrev st_Speller___contains__ : Stmt := inClass (top 15) 3
theorem sc_Speller___contains__ : FnScope ["self", "code"] ["self", "code"] (defScope st_Speller___contains__) := ⟨rfl, rfl, rfl, by decide +kernel, rfl, by decide +kernel, by decide +kernel⟩
def m_Speller___contains__ : SM :=
  (sRet (mAndV (mCall sp_is_code [] (mCons (mVar 1) (mCons (mUn (gFld Cad.c_Speller "size") (mPeek 0)) mNil))) (mOp (gIn true) (mPeek 1) (mUn (gFld Cad.c_Speller "shut") (mPeek 0)))))
/-! ### _law_is_word -/
abbrev st__law_is_word : Stmt := top 24
theorem sc__law_is_word : FnScope ["_law_thing", "_law_least", "_law_most", "_law_letter"] ["_law_thing", "_law_least", "_law_most"] (defScope st__law_is_word) := ⟨rfl, rfl, rfl, by decide +kernel, rfl, by decide +kernel, by decide +kernel⟩
def m__law_is_word : SM :=
  (sSeq (sIf (mOrT (mNotT (mTru (mCallB gIsi (mCons (mPeek 0) (mCons (mC (.ty "str")) mNil))))) (mNotT (mTst (mChain (gOrd (fun i j => decide (i ≤ j)) fun s t => !decide (t < s)) (gOrd (fun i j => decide (i ≤ j)) fun s t => !decide (t < s)) (mPeek 1) (mCallB gLen (mCons (mPeek 0) mNil)) (mPeek 2))))) (sRet (mC (.bl false))) sNext)
    (sRet (mOp (gEqN false) (mMap Cont.d (mComp [3] (gN 3) (mIter (mVar 0)) (mNotT (mTst (mChain (gOrd (fun i j => decide (i ≤ j)) fun s t => !decide (t < s)) (gOrd (fun i j => decide (i ≤ j)) fun s t => !decide (t < s)) (mC (.str [97])) (mPeek 3) (mC (.str [122]))))) (mVar 3))) (mMap Cont.d (mLst mNil)))))
/-! ### _law_made -/
abbrev st__law_made : Stmt := top 27
theorem sc__law_made : FnScope ["_law_length", "_law_barred", "_law_caught", "_law_e"] ["_law_length", "_law_barred"] (defScope st__law_made) := ⟨rfl, rfl, rfl, by decide +kernel, rfl, by decide +kernel, by decide +kernel⟩
def m__law_made : SM :=
  (sSeq (sSet 2 (mC .non))
    (sSeq (sTryAs [Cad.c_BadLength, Cad.c_BadCode, Cad.c_BadName] [] 3 (sDrop (mMap Cont.d (mCallVF (spMakeF Cad.c_Speller (spvOf sp_Speller___init__ 1 2 [0, 1, 2] [])) (mPosK (mCons (mVar 0) mNil) (mCons (mVar 1) mNil))))) fun a cls d => (sSet 2 (mCall (sp__law_error a cls d) [] (mCons (mVar 3) mNil))))
    (sRetO 2)))
/-! ### _law_due -/
abbrev st__law_due : Stmt := top 29
theorem sc__law_due : FnScope ["_law_length", "_law_barred", "_law_wrong", "_law_code"] ["_law_length", "_law_barred"] (defScope st__law_due) := ⟨rfl, rfl, rfl, by decide +kernel, rfl, by decide +kernel, by decide +kernel⟩
def m__law_due : SM :=
  (sSeq (sIf (mOrT (mNotT (mTru (mCallB gIsi (mCons (mPeek 0) (mCons (mC (.ty "int")) mNil))))) (mOrT (mTru (mCallB gIsi (mCons (mPeek 0) (mCons (mC (.ty "bool")) mNil)))) (mNotT (mTst (mChain (gOrd (fun i j => decide (i ≤ j)) fun s t => !decide (t < s)) (gOrd (fun i j => decide (i ≤ j)) fun s t => !decide (t < s)) (mC (.int 1)) (mPeek 0) (mC (.int 3))))))) (sRet (mTup (mCons (mC (.str [108, 101, 110, 103, 116, 104])) (mCons (mVar 0) mNil)))) sNext)
    (sSeq (sSet 2 (mMap Cont.d (mComp [3] (gN 3) (mIter (mVar 1)) (mNotT (mTru (mCall sp__law_is_word [] (mCons (mVar 3) (mCons (mVar 0) (mCons (mVar 0) mNil)))))) (mVar 3))))
    (sRet (mIf (mTst (mOp (gEqN true) (mPeek 2) (mMap Cont.d (mLst mNil)))) (mTup (mCons (mC (.str [99, 111, 100, 101])) (mCons (mOp gIx (mPeek 2) (mC (.int 0))) mNil))) (mC .non)))))
/-! ### _law_copied -/
abbrev st__law_copied : Stmt := top 32
theorem sc__law_copied : FnScope ["_law_speller", "_law_passed", "_law_name_here", "_law_length", "_law_barred", "_law_extra"] ["_law_speller", "_law_passed", "_law_name_here", "_law_length", "_law_barred"] (defScope st__law_copied) := ⟨rfl, rfl, rfl, by decide +kernel, rfl, by decide +kernel, by decide +kernel⟩
def m__law_copied : SM :=
  (sSeq (sSet 5 (mOp gIx (mOp gAdd (mCall sp__law_spellings [] (mCons (mVar 2) (mCons (mVar 3) mNil))) (mMap Cont.d (mLst (mCons (mCut (mC (.str [122, 122, 122])) mNoP (mPart (mPeek 3))) mNil)))) (mC (.int 0))))
    (sSeq (sAppC (mVar 1) (mVar 5))
    (sSeq (sIf (mOrT (mTst (mOp (gEq true) (mPeek 1) (mOp gAdd (mPeek 4) (mMap Cont.d (mLst (mCons (mVar 5) mNil)))))) (mTst (mOp (gEq true) (mProp Cad.c_Speller (spV 1 sp_Speller_banned) (mVar 0)) (mMap Cont.d (mUnF gSetSort (mPeek 4)))))) (sRet (mC (.bl false))) sNext)
    (sRet (mAndV (mOp (gEq false) (mCallI Cad.c_Speller (spV 2 sp_Speller___call__) (mVar 0) (mCons (mVar 2) mNil)) (mCall sp__law_allowed [] (mCons (mVar 2) (mCons (mVar 3) (mCons (mVar 4) mNil))))) (mOp (gEq false) (mOpE (gOwnIn false Cad.c_Speller (spV 2 sp_Speller___contains__)) (mVar 5) (mVar 0)) (mOp (gIn true) (mPeek 5) (mPeek 4))))))))
/-! ### _law_values_kept -/
abbrev st__law_values_kept : Stmt := top 33
theorem sc__law_values_kept : FnScope ["_law_own", "_law_caught"] [] (defScope st__law_values_kept) := ⟨rfl, rfl, rfl, by decide +kernel, rfl, by decide +kernel, by decide +kernel⟩
def m__law_values_kept : SM :=
  (sSeq (sSetC 0 (mLst (mCons (mC (.str [97, 98])) mNil)))
    (sSeq (sSet 1 (mMap Cont.d (mLst (mCons (mCall sp__law_made [] (mCons (mVar 0) (mCons (mMap Cont.d (mLst mNil)) mNil))) (mCons (mCall sp__law_made [] (mCons (mC (.int 2)) (mCons (mMap Cont.d (mLst (mCons (mVar 0) mNil))) mNil))) (mCons (mCall sp__law_called [] (mCons (mMap Cont.d (mCallVF (spMakeF Cad.c_Speller (spvOf sp_Speller___init__ 0 2 [0, 1, 2] [.kt])) (mPos (mCons (mC (.int 1)) mNil)))) (mCons (mVar 0) mNil))) mNil))))))
    (sSeq (sAppC (mVar 0) (mC (.int 1)))
    (sRet (mHidE (mOp (gEq false) (mPeek 1) (mMap Cont.d (mLst (mCons (mTup (mCons (mC (.str [108, 101, 110, 103, 116, 104])) (mCons (mVar 0) mNil))) (mCons (mTup (mCons (mC (.str [99, 111, 100, 101])) (mCons (mVar 0) mNil))) (mCons (mTup (mCons (mC (.str [110, 97, 109, 101])) (mCons (mVar 0) mNil))) mNil)))))))))))
/-! ### law -/
abbrev st_law : Stmt := top 34
theorem sc_law : FnScope ["_law_script", "_law_start", "_law_purse_here", "_law_length", "_law_turn", "_law_name_here", "_law_codes", "_law_barred", "_law_look", "_law_passed", "_law_speller", "_law_thing", "_law_some", "_law_bad"] ["_law_script"] (defScope st_law) := ⟨rfl, rfl, rfl, by decide +kernel, rfl, by decide +kernel, by decide +kernel⟩
def m_law : SM :=
  (sSeq (sFor (gN 1) (mRng1 (mCons (mCallB (g2I fun i j => if j > i then j else i) (mCons (mC (.int 2)) (mCons (mCallB (g2I fun i j => if j < i then j else i) (mCons (mC (.int 5)) (mCons (mCallB gLen (mCons (mPeek 0) mNil)) mNil))) mNil))) mNil)) (sSeq (sSetPur 2 (mCallF sp__law_purse [] (mCons (mVar 0) (mCons (mVar 1) mNil))))
    (sSeq (sSet 3 (mOp gAdd (mC (.int 1)) (mCall sp__law_draw [] (mCons (mVar 2) (mCons (mC (.int 3)) mNil)))))
    (sFor (gN 4) (mRng1 (mCons (mC (.int 4)) mNil)) (sSeq (sSet 5 (mCall sp__law_name [] (mCons (mVar 2) mNil)))
    (sSeq (sSet 6 (mCall sp__law_spellings [] (mCons (mVar 5) (mCons (mVar 3) mNil))))
    (sSeq (sSet 7 (mMap Cont.d (mComp [8] (gN 8) (mRng1 (mCons (mCall sp__law_draw [] (mCons (mVar 2) (mCons (mC (.int 4)) mNil))) mNil)) (mC true) (mCall sp__law_choose [] (mCons (mVar 2) (mCons (mOp gAdd (mPeek 6) (mMap Cont.d (mLst (mCons (mCut (mC (.str [97, 98, 99])) mNoP (mPart (mPeek 3))) mNil)))) mNil))))))
    (sSeq (sSet 9 (mCall sp__law_choose [] (mCons (mVar 2) (mCons (mMap Cont.d (mLst (mCons (mListC (mCons (mPeek 7) mNil)) (mCons (mCallB gTuple (mCons (mPeek 7) mNil)) mNil)))) mNil))))
    (sSeq (sSet 10 (mMap Cont.d (mCallVF (spMakeF Cad.c_Speller (spvOf sp_Speller___init__ 1 2 [0, 1, 2] [])) (mPosK (mCons (mVar 3) mNil) (mCons (mVar 9) mNil)))))
    (sSeq (sIf (mOrT (mTst (mOp (gEq true) (mProp Cad.c_Speller (spV 1 sp_Speller_length) (mVar 10)) (mPeek 3))) (mTst (mOp (gEq true) (mMap Cont.d (mPropF Cad.c_Speller (spV 1 sp_Speller_banned) (mVar 10))) (mMap Cont.d (mUnF gSetSort (mPeek 7)))))) (sRet (mC (.bl false))) sNext)
    (sSeq (sAppN (mPropF Cad.c_Speller (spV 1 sp_Speller_banned) (mVar 10)))
    (sSeq (sDrop (mCall sp__law_called [] (mCons (mVar 10) (mCons (mC (.str [66, 111, 111, 107])) mNil))))
    (sSeq (sIf (mNotT (mTru (mCall sp__law_spells [] (mCons (mVar 2) (mCons (mVar 10) (mCons (mVar 5) (mCons (mVar 3) (mCons (mVar 7) mNil)))))))) (sRet (mC (.bl false))) sNext)
    (sSeq (sFor (gN 11) (mIter (mOp gAdd (mOp gAdd (mCut (mPeek 6) mNoP (mPart (mC (.int 3)))) (mPeek 7)) (mMap Cont.d (mLst (mCons (mCall sp__law_any [] (mCons (mVar 2) mNil)) (mCons (mCut (mC (.str [97, 98, 99])) mNoP (mPart (mPeek 3))) (mCons (mVar 5) mNil))))))) (sIf (mTst (mOp (gEq true) (mCallB gRepr (mCons (mOpE (gOwnIn false Cad.c_Speller (spV 2 sp_Speller___contains__)) (mVar 11) (mVar 10)) mNil)) (mCallB gRepr (mCons (mAndV (mCall sp__law_is_word [] (mCons (mVar 11) (mCons (mVar 3) (mCons (mVar 3) mNil)))) (mOp (gIn true) (mPeek 11) (mPeek 7))) mNil)))) (sRet (mC (.bl false))) sNext))
    (sSeq (sSet 11 (mCall sp__law_any [] (mCons (mVar 2) mNil)))
    (sSeq (sIf (mAndT (mNotT (mTru (mCall sp__law_is_word [] (mCons (mVar 11) (mCons (mC (.int 1)) (mCons (mC (.int 12)) mNil)))))) (mTst (mOp (gEq true) (mCallB gRepr (mCons (mCall sp__law_called [] (mCons (mVar 10) (mCons (mVar 11) mNil))) mNil)) (mCallB gRepr (mCons (mTup (mCons (mC (.str [110, 97, 109, 101])) (mCons (mVar 11) mNil))) mNil))))) (sRet (mC (.bl false))) sNext)
    (sSeq (sSet 12 (mOp gAdd (mPeek 7) (mMap Cont.d (mLst (mCons (mCall sp__law_any [] (mCons (mVar 2) mNil)) (mCons (mCall sp__law_any [] (mCons (mVar 2) mNil)) mNil))))))
    (sSeq (sSet 13 (mCall sp__law_choose [] (mCons (mVar 2) (mCons (mMap Cont.d (mLst (mCons (mCall sp__law_any [] (mCons (mVar 2) mNil)) (mCons (mVar 3) (mCons (mVar 3) (mCons (mVar 3) mNil)))))) mNil))))
    (sSeq (sIf (mTst (mOp (gEq true) (mCallB gRepr (mCons (mCall sp__law_made [] (mCons (mVar 13) (mCons (mVar 12) mNil))) mNil)) (mCallB gRepr (mCons (mCall sp__law_due [] (mCons (mVar 13) (mCons (mVar 12) mNil))) mNil)))) (sRet (mC (.bl false))) sNext)
    (sIf (mAndT (mTru (mCallB gIsi (mCons (mPeek 9) (mCons (mC (.ty "list")) mNil)))) (mNotT (mTru (mCall sp__law_copied [] (mCons (mVar 10) (mCons (mVar 9) (mCons (mVar 5) (mCons (mVar 3) (mCons (mVar 7) mNil))))))))) (sRet (mC (.bl false))) sNext))))))))))))))))))))
    (sRet (mAndV (mCall sp__law_values_kept [] mNil) (mOp (gEqN false) (mProp Cad.c_Speller (spV 1 sp_Speller_banned) (mMap Cont.d (mCallVF (spMakeF Cad.c_Speller (spvOf sp_Speller___init__ 0 2 [0, 1, 2] [.kt])) (mPos (mCons (mC (.int 2)) mNil))))) (mMap Cont.d (mLst mNil))))))
end
end L2.DL
namespace L2.DL
open PySem PySem.Spec PyProof.Rows
section
variable [Cad]
theorem b__law_purse {P : Program} {w : World} {K : PySem.W.Frag} {mg : Str → Option Value} {base : Heap} (T : Gls K mg) (hbase : ∃ o, base.get? sysModules = some o)  {f : Addr} {cdv : Value} {A : Around} {fr : List PySem.Env} {s : Shared} {H : Hp} {E : XK} (gd : Gd A)
    (hr : Room 0 (A.deeper (envOfC "_law_purse" (defScope st__law_purse) s.heap.objs.size f cdv))) : DSs (BodyX P w K mg base ["_law_script", "_law_start", "_law_mixed", "_law_entry", "_law_digits"] "_law_purse" st__law_purse f cdv A fr s H E) (defBody st__law_purse) m__law_purse :=
  (ds_cons (ds_set (d_op opd_add (DE.pk d_int) (DE.pk (d_op opd_mulA (d_peek (pv 1)) (DE.pk d_int)))) (fun h => ps_set (i := 2) sc__law_purse.nd rfl (by first | exact .inl rfl | exact .inr rfl) h))
    (ds_cons (ds_for (passes_of rfl) rfl (di_seq (d_var (pv 0))) (dg_name (pg_name (i := 3) sc__law_purse.nd rfl (by first | exact .inl rfl | exact .inr rfl))) (ds_one (ds_set (d_op opd_add (DE.pk (d_op opd_mod (DE.pk (d_op opd_pow (DE.pk (d_op opd_add (DE.pk (d_op opd_add (DE.pk (d_op opd_mulA (d_peek (pv 2)) (DE.pk d_int))) (DE.pk (d_op opd_mulA (d_peek (pv 3)) (d_peek (pv 3)))))) (DE.pk d_int))) (DE.pk d_int))) (DE.pk d_int))) (DE.pk d_int)) (fun h => ps_set (i := 2) sc__law_purse.nd rfl (by first | exact .inl rfl | exact .inr rfl) h))) (fun _ => rfl))
    (ds_cons (ds_set (d_if (DW.pt (dw_and (dt_cmp opd_lt (d_peek (pv 1)) (DE.pk (d_callB calld_len (da_cons lasts_pk (d_peek (pv 0)) da_nil rfl) (by rfl) T.n_len (by decide +kernel) (by decide) (by decide) rfl rfl)) (nomark _)) (dw_and1 (dt_cmp opd_ge (DE.pk (d_ix hr.u1 (d_peek (pv 0)) (d_peek (pv 1)) (fun _ _ => rfl))) (DE.pk (d_op opd_pow (DE.pk d_int) (DE.pk d_int))) (nomark _))))) (d_op opd_sub (DE.pk (d_ix hr.u1 (d_peek (pv 0)) (d_peek (pv 1)) (fun _ _ => rfl))) (DE.pk (d_op opd_pow (DE.pk d_int) (DE.pk d_int)))) d_int) (fun h => ps_set (i := 4) sc__law_purse.nd rfl (by first | exact .inl rfl | exact .inr rfl) h))
    (ds_one (ds_retF (d_dct (dps_cons (d_strc (by decide +kernel)) (d_var (pv 4)) (dps_cons (d_strc (by decide +kernel)) (d_var (pv 2)) dps_nil)) rfl rfl (by simp) (by decide)))))))
theorem b__law_draw {P : Program} {w : World} {K : PySem.W.Frag} {mg : Str → Option Value} {base : Heap} (T : Gls K mg) (hbase : ∃ o, base.get? sysModules = some o)  {f : Addr} {cdv : Value} {A : Around} {fr : List PySem.Env} {s : Shared} {H : Hp} {E : XK} (gd : Gd A)
    (hr : Room 0 (A.deeper (envOfC "_law_draw" (defScope st__law_draw) s.heap.objs.size f cdv))) : DSs (BodyX P w K mg base ["_law_purse_here", "_law_size", "_law_found"] "_law_draw" st__law_draw f cdv A fr s H E) (defBody st__law_draw) m__law_draw :=
  (ds_cons (ds_if (dt_cmp opd_ge (DE.pk (d_ix hr.u1 (d_peek (pv 0)) (DE.pk (d_strc (by decide +kernel))) (fun _ _ => rfl))) (d_peek (pv 1)) (nomark _)) (ds_cons (ds_set (d_op opd_mod (DE.pk (d_ix hr.u1 (d_peek (pv 0)) (DE.pk (d_strc (by decide +kernel))) (fun _ _ => rfl))) (d_peek (pv 1))) (fun h => ps_set (i := 2) sc__law_draw.nd rfl (by first | exact .inl rfl | exact .inr rfl) h))
    (ds_cons (ds_asg (d_op opd_div (DE.pk (d_ix hr.u1 (d_peek (pv 0)) (DE.pk (d_strc (by decide +kernel))) (fun _ _ => rfl))) (d_peek (pv 1))) (dg_putC hr.u1 (d_var (pv 0)) (d_strc (by decide +kernel)) (fun _ => rfl)) rfl rfl rfl)
    (ds_one (ds_retO (pv 2))))) ds_nil)
    (ds_cons (ds_asg (d_op opd_mod (DE.pk (d_op opd_add (DE.pk (d_op opd_mulA (DE.pk (d_ix hr.u1 (d_peek (pv 0)) (DE.pk (d_strc (by decide +kernel))) (fun _ _ => rfl))) (DE.pk d_int))) (DE.pk d_int))) (DE.pk d_int)) (dg_putC hr.u1 (d_var (pv 0)) (d_strc (by decide +kernel)) (fun _ => rfl)) rfl rfl rfl)
    (ds_one (ds_ret (d_op opd_mod (DE.pk (d_op opd_div (DE.pk (d_op opd_mod (DE.pk (d_op opd_pow (DE.pk (d_op opd_mod (DE.pk (d_op opd_pow (DE.pk (d_ix hr.u1 (d_peek (pv 0)) (DE.pk (d_strc (by decide +kernel))) (fun _ _ => rfl))) (DE.pk d_int))) (DE.pk d_int))) (DE.pk d_int))) (DE.pk d_int))) (DE.pk d_int))) (d_peek (pv 1)))))))
theorem b__law_choose {P : Program} {w : World} {K : PySem.W.Frag} {mg : Str → Option Value} {base : Heap} (T : Gls K mg) (hbase : ∃ o, base.get? sysModules = some o) (c__law_draw : Cle P w K mg base 1 "_law_draw" sp__law_draw) {f : Addr} {cdv : Value} {A : Around} {fr : List PySem.Env} {s : Shared} {H : Hp} {E : XK} (gd : Gd A)
    (hr : Room 1 (A.deeper (envOfC "_law_choose" (defScope st__law_choose) s.heap.objs.size f cdv))) : DSs (BodyX P w K mg base ["_law_purse_here", "_law_things"] "_law_choose" st__law_choose f cdv A fr s H E) (defBody st__law_choose) m__law_choose :=
  (ds_one (ds_ret (d_ix hr.u1 (d_peek (pv 1)) (DE.pk (d_call (c__law_draw.to hr (by decide)) gd (by rfl) (da_cons lasts_shr (d_var (pv 0)) (da_cons lasts_shr (d_callB calld_len (da_cons lasts_pk (d_peek (pv 1)) da_nil rfl) (by rfl) T.n_len (by decide +kernel) (by decide) (by decide) rfl rfl) da_nil rfl) rfl) (by decide) rfl rfl)) (fun _ _ => rfl))))
theorem b__law_word {P : Program} {w : World} {K : PySem.W.Frag} {mg : Str → Option Value} {base : Heap} (T : Gls K mg) (hbase : ∃ o, base.get? sysModules = some o) (c__law_draw : Cle P w K mg base 1 "_law_draw" sp__law_draw) (c__law_choose : Cle P w K mg base 2 "_law_choose" sp__law_choose) {f : Addr} {cdv : Value} {A : Around} {fr : List PySem.Env} {s : Shared} {H : Hp} {E : XK} (gd : Gd A)
    (hr : Room 2 (A.deeper (envOfC "_law_word" (defScope st__law_word) s.heap.objs.size f cdv))) : DSs (BodyX P w K mg base ["_law_purse_here", "_law_letters", "_law_most", "_law_place"] "_law_word" st__law_word f cdv A fr s H E) (defBody st__law_word) m__law_word :=
  (ds_one (ds_ret (d_join (DE.pk (d_strc (by decide +kernel))) (DE.frP (d_comp (own := [("_law_place", 3)]) rfl sc__law_word.nd (di_rng1 (by rfl) T.n_range (da_cons lasts_shr (d_op opd_add (DE.pk d_int) (DE.pk (d_call (c__law_draw.to hr (by decide)) gd (by rfl) (da_cons lasts_shr (d_var (pv 0)) (da_cons lasts_shr (d_var (pv 2)) da_nil rfl) rfl) (by decide) rfl rfl))) da_nil rfl) rfl) (blkOk_by (N := ["_law_purse_here", "_law_letters", "_law_most", "_law_place"]) (sc := defScope st__law_word) (own := [("_law_place", 3)]) (by decide +kernel)) (fun _ _ _ _ _ => (dgw_name (pg_name (i := 3) sc__law_word.nd rfl (by first | exact .inl rfl | exact .inr rfl)) (by simp))) (fun _ _ _ _ _ => dts_nil) (fun _ _ _ _ _ => (d_call (c__law_choose.to hr (by decide)) gd (by rfl) (da_cons lasts_shr (d_var (pv 0)) (da_cons lasts_shr (d_var (pv 1)) da_nil rfl) rfl) (by decide) rfl rfl)) (fun _ => rfl))) rfl rfl rfl)))
theorem b__law_name {P : Program} {w : World} {K : PySem.W.Frag} {mg : Str → Option Value} {base : Heap} (T : Gls K mg) (hbase : ∃ o, base.get? sysModules = some o) (c__law_word : Cle P w K mg base 3 "_law_word" sp__law_word) (c__law_choose : Cle P w K mg base 2 "_law_choose" sp__law_choose) {f : Addr} {cdv : Value} {A : Around} {fr : List PySem.Env} {s : Shared} {H : Hp} {E : XK} (gd : Gd A)
    (hr : Room 3 (A.deeper (envOfC "_law_name" (defScope st__law_name) s.heap.objs.size f cdv))) : DSs (BodyX P w K mg base ["_law_purse_here", "_law_kinds", "_law_some", "_law_word_here"] "_law_name" st__law_name f cdv A fr s H E) (defBody st__law_name) m__law_name :=
  (ds_cons (ds_set (DE.frz (d_lst (da_cons lasts_shr (d_strc (by decide +kernel)) (da_cons lasts_shr (d_strc (by decide +kernel)) (da_cons lasts_shr (d_strc (by decide +kernel)) (da_cons lasts_shr (d_strc (by decide +kernel)) (da_cons lasts_shr (d_strc (by decide +kernel)) (da_cons lasts_shr (d_strc (by decide +kernel)) da_nil rfl) rfl) rfl) rfl) rfl) rfl))) (fun h => ps_set (i := 1) sc__law_name.nd rfl (by first | exact .inl rfl | exact .inr rfl) h))
    (ds_cons (ds_set (DE.frz (d_lst (da_cons lasts_shr (d_strc (by decide +kernel)) (da_cons lasts_shr (d_strc (by decide +kernel)) (da_cons lasts_shr (d_strc (by decide +kernel)) (da_cons lasts_shr (d_strc (by decide +kernel)) (da_cons lasts_shr (d_strc (by decide +kernel)) (da_cons lasts_shr (d_strc (by decide +kernel)) (da_cons lasts_shr (d_strc (by decide +kernel)) da_nil rfl) rfl) rfl) rfl) rfl) rfl) rfl))) (fun h => ps_set (i := 2) sc__law_name.nd rfl (by first | exact .inl rfl | exact .inr rfl) h))
    (ds_cons (ds_set (d_call (c__law_word.to hr (by decide)) gd (by rfl) (da_cons lasts_shr (d_var (pv 0)) (da_cons lasts_shr (d_call (c__law_choose.to hr (by decide)) gd (by rfl) (da_cons lasts_shr (d_var (pv 0)) (da_cons lasts_shr (d_var (pv 1)) da_nil rfl) rfl) (by decide) rfl rfl) (da_cons lasts_shr (d_call (c__law_choose.to hr (by decide)) gd (by rfl) (da_cons lasts_shr (d_var (pv 0)) (da_cons lasts_shr (DE.frz (d_lst (da_cons lasts_shr d_int (da_cons lasts_shr d_int (da_cons lasts_shr d_int (da_cons lasts_shr d_int (da_cons lasts_shr d_int da_nil rfl) rfl) rfl) rfl) rfl))) da_nil rfl) rfl) (by decide) rfl rfl) da_nil rfl) rfl) rfl) (by decide) rfl rfl) (fun h => ps_set (i := 3) sc__law_name.nd rfl (by first | exact .inl rfl | exact .inr rfl) h))
    (ds_one (ds_ret (d_call (c__law_choose.to hr (by decide)) gd (by rfl) (da_cons lasts_shr (d_var (pv 0)) (da_cons lasts_shr (DE.frz (d_lst (da_cons lasts_shr (d_var (pv 3)) (da_cons lasts_shr (d_var (pv 3)) (da_cons lasts_shr (d_var (pv 3)) (da_cons lasts_shr (d_var (pv 3)) (da_cons lasts_shr (d_call (c__law_choose.to hr (by decide)) gd (by rfl) (da_cons lasts_shr (d_var (pv 0)) (da_cons lasts_shr (d_var (pv 2)) da_nil rfl) rfl) (by decide) rfl rfl) da_nil rfl) rfl) rfl) rfl) rfl))) da_nil rfl) rfl) (by decide) rfl rfl))))))
theorem b__law_places {P : Program} {w : World} {K : PySem.W.Frag} {mg : Str → Option Value} {base : Heap} (T : Gls K mg) (hbase : ∃ o, base.get? sysModules = some o)  {f : Addr} {cdv : Value} {A : Around} {fr : List PySem.Env} {s : Shared} {H : Hp} {E : XK} (gd : Gd A)
    (hr : Room 0 (A.deeper (envOfC "_law_places" (defScope st__law_places) s.heap.objs.size f cdv))) : DSs (BodyX P w K mg base ["_law_name_here", "_law_length", "_law_found", "_law_turn", "_law_longer", "_law_places_here", "_law_first", "_law_place"] "_law_places" st__law_places f cdv A fr s H E) (defBody st__law_places) m__law_places :=
  (ds_cons (ds_set (DE.frz (d_lst (da_cons lasts_shr (DE.frz (d_lst da_nil)) da_nil rfl))) (fun h => ps_set (i := 2) sc__law_places.nd rfl (by first | exact .inl rfl | exact .inr rfl) h))
    (ds_cons (ds_for (passes_of rfl) rfl (di_rng1 (by rfl) T.n_range (da_cons lasts_shr (d_var (pv 1)) da_nil rfl) rfl) (dg_name (pg_name (i := 3) sc__law_places.nd rfl (by first | exact .inl rfl | exact .inr rfl))) (ds_cons (ds_set (DE.frz (d_lst da_nil)) (fun h => ps_set (i := 4) sc__law_places.nd rfl (by first | exact .inl rfl | exact .inr rfl) h))
    (ds_cons (ds_for (passes_of rfl) rfl (di_seq (d_var (pv 2))) (dg_name (pg_name (i := 5) sc__law_places.nd rfl (by first | exact .inl rfl | exact .inr rfl))) (ds_cons (ds_set (d_if (dt_cmp (opd_neN hr.u0) (d_peek (pv 5)) (DE.frP (d_lst da_nil)) (nomark _)) (d_op opd_add (DE.pk (d_ix hr.u1 (d_peek (pv 5)) (DE.pk (d_neg (DE.pk d_int))) (fun _ _ => rfl))) (DE.pk d_int)) d_int) (fun h => ps_set (i := 6) sc__law_places.nd rfl (by first | exact .inl rfl | exact .inr rfl) h))
    (ds_one (ds_set (d_op opd_add (d_peek (pv 4)) (DE.frP (d_comp (own := [("_law_place", 7)]) rfl sc__law_places.nd (di_rng2 (by rfl) T.n_range (da_cons lasts_shr (d_var (pv 6)) (da_cons lasts_shr (d_callB calld_len (da_cons lasts_pk (d_peek (pv 0)) da_nil rfl) (by rfl) T.n_len (by decide +kernel) (by decide) (by decide) rfl rfl) da_nil rfl) rfl) rfl rfl) (blkOk_by (N := ["_law_name_here", "_law_length", "_law_found", "_law_turn", "_law_longer", "_law_places_here", "_law_first", "_law_place"]) (sc := defScope st__law_places) (own := [("_law_place", 7)]) (by decide +kernel)) (fun _ _ _ _ _ => (dgw_name (pg_name (i := 7) sc__law_places.nd rfl (by first | exact .inl rfl | exact .inr rfl)) (by simp))) (fun _ _ _ _ _ => dts_nil) (fun _ _ _ _ _ => (d_op opd_add (d_peek (pv 5)) (DE.frP (d_lst (da_cons lasts_shr (d_var (pv 7)) da_nil rfl))))) (fun _ => rfl)))) (fun h => ps_set (i := 4) sc__law_places.nd rfl (by first | exact .inl rfl | exact .inr rfl) h)))) (fun _ => rfl))
    (ds_one (ds_set (d_var (pv 4)) (fun h => ps_set (i := 2) sc__law_places.nd rfl (by first | exact .inl rfl | exact .inr rfl) h))))) (fun _ => rfl))
    (ds_one (ds_retO (pv 2)))))
theorem b__law_spellings {P : Program} {w : World} {K : PySem.W.Frag} {mg : Str → Option Value} {base : Heap} (T : Gls K mg) (hbase : ∃ o, base.get? sysModules = some o) (c__law_places : Cle P w K mg base 1 "_law_places" sp__law_places) {f : Addr} {cdv : Value} {A : Around} {fr : List PySem.Env} {s : Shared} {H : Hp} {E : XK} (gd : Gd A)
    (hr : Room 1 (A.deeper (envOfC "_law_spellings" (defScope st__law_spellings) s.heap.objs.size f cdv))) : DSs (BodyX P w K mg base ["_law_name_here", "_law_length", "_law_found", "_law_places_here", "_law_code", "_law_place"] "_law_spellings" st__law_spellings f cdv A fr s H E) (defBody st__law_spellings) m__law_spellings :=
  (ds_cons (ds_setO (d_lst da_nil) (fun h => ps_set (i := 2) sc__law_spellings.nd rfl (by first | exact .inl rfl | exact .inr rfl) h))
    (ds_cons (ds_for (passes_of rfl) rfl (di_seq (d_call (c__law_places.to hr (by decide)) gd (by rfl) (da_cons lasts_shr (d_var (pv 0)) (da_cons lasts_shr (d_var (pv 1)) da_nil rfl) rfl) (by decide) rfl rfl)) (dg_name (pg_name (i := 3) sc__law_spellings.nd rfl (by first | exact .inl rfl | exact .inr rfl))) (ds_cons (ds_set (d_join (DE.pk (d_strc (by decide +kernel))) (DE.frP (d_comp (own := [("_law_place", 5)]) rfl sc__law_spellings.nd (di_seq (d_var (pv 3))) (blkOk_by (N := ["_law_name_here", "_law_length", "_law_found", "_law_places_here", "_law_code", "_law_place"]) (sc := defScope st__law_spellings) (own := [("_law_place", 5)]) (by decide +kernel)) (fun _ _ _ _ _ => (dgw_name (pg_name (i := 5) sc__law_spellings.nd rfl (by first | exact .inl rfl | exact .inr rfl)) (by simp))) (fun _ _ _ _ _ => dts_nil) (fun _ _ _ _ _ => (d_ix hr.u1 (d_peek (pv 0)) (d_peek (pv 5)) (fun _ _ => rfl))) (fun _ => rfl))) rfl rfl rfl) (fun h => ps_set (i := 4) sc__law_spellings.nd rfl (by first | exact .inl rfl | exact .inr rfl) h))
    (ds_one (ds_if (dt_cmp (opd_notin hr.u65) (d_peek (pv 4)) (d_peek (pv 2)) rfl) (ds_one (ds_app (pv 2) (d_var (pv 4)) rfl rfl rfl rfl rfl)) ds_nil))) (fun _ => rfl))
    (ds_one (ds_retO (pv 2)))))
theorem b_is_length {P : Program} {w : World} {K : PySem.W.Frag} {mg : Str → Option Value} {base : Heap} (T : Gls K mg) (hbase : ∃ o, base.get? sysModules = some o)  {f : Addr} {cdv : Value} {A : Around} {fr : List PySem.Env} {s : Shared} {H : Hp} {E : XK} (gd : Gd A)
    (hr : Room 0 (A.deeper (envOfC "is_length" (defScope st_is_length) s.heap.objs.size f cdv))) : DSs (BodyX P w K mg base ["value"] "is_length" st_is_length f cdv A fr s H E) (defBody st_is_length) m_is_length :=
  (ds_one (ds_ret (d_and (d_callB calld_isi (da_cons lasts_pk (d_peek (pv 0)) (da_cons lasts_pk (DE.pk (d_type (n := "int") (by rfl) T.n_int (by decide +kernel) (by decide) (by decide))) da_nil rfl) rfl) (by rfl) T.n_isinstance (by decide +kernel) (by decide) (by decide) rfl rfl) (d_and (d_not (d_callB calld_isi (da_cons lasts_pk (d_peek (pv 0)) (da_cons lasts_pk (DE.pk (d_type (n := "bool") (by rfl) T.n_bool (by decide +kernel) (by decide) (by decide))) da_nil rfl) rfl) (by rfl) T.n_isinstance (by decide +kernel) (by decide) (by decide) rfl rfl)) (d_one (d_chain opd_le opd_le (DE.pk d_int) (d_peek (pv 0)) (DE.pk (d_glob (v := .int 3) (fun _ => .int _) (by rfl) T.c_GREATEST_LENGTH (by decide))) rfl))))))
theorem b_is_word {P : Program} {w : World} {K : PySem.W.Frag} {mg : Str → Option Value} {base : Heap} (T : Gls K mg) (hbase : ∃ o, base.get? sysModules = some o)  {f : Addr} {cdv : Value} {A : Around} {fr : List PySem.Env} {s : Shared} {H : Hp} {E : XK} (gd : Gd A)
    (hr : Room 0 (A.deeper (envOfC "is_word" (defScope st_is_word) s.heap.objs.size f cdv))) : DSs (BodyX P w K mg base ["value", "least", "most", "letter"] "is_word" st_is_word f cdv A fr s H E) (defBody st_is_word) m_is_word :=
  (ds_one (ds_ret (d_and (d_callB calld_isi (da_cons lasts_pk (d_peek (pv 0)) (da_cons lasts_pk (DE.pk (d_type (n := "str") (by rfl) T.n_str (by decide +kernel) (by decide) (by decide))) da_nil rfl) rfl) (by rfl) T.n_isinstance (by decide +kernel) (by decide) (by decide) rfl rfl) (d_and (d_chain opd_le opd_le (d_peek (pv 1)) (DE.pk (d_callB calld_len (da_cons lasts_pk (d_peek (pv 0)) da_nil rfl) (by rfl) T.n_len (by decide +kernel) (by decide) (by decide) rfl rfl)) (d_peek (pv 2)) rfl) (d_one (d_callB (calld_all rfl) (da_cons lasts_pk (DE.frP (d_comp (own := [("letter", 3)]) rfl sc_is_word.nd (di_seq (d_var (pv 0))) (blkOk_by (N := ["value", "least", "most", "letter"]) (sc := defScope st_is_word) (own := [("letter", 3)]) (by decide +kernel)) (fun _ _ _ _ _ => (dgw_name (pg_name (i := 3) sc_is_word.nd rfl (by first | exact .inl rfl | exact .inr rfl)) (by simp))) (fun _ _ _ _ _ => dts_nil) (fun _ _ _ _ _ => (d_cmp (opd_in hr.u65) (d_peek (pv 3)) (DE.pk (d_glob (v := .str (sV [97, 98, 99, 100, 101, 102, 103, 104, 105, 106, 107, 108, 109, 110, 111, 112, 113, 114, 115, 116, 117, 118, 119, 120, 121, 122])) (fun _ => .str _) (by rfl) T.c_LETTERS (by decide))) rfl)) (fun _ => rfl))) da_nil rfl) (by rfl) T.n_all (by decide +kernel) (by decide) (by decide) rfl rfl))))))
theorem b_is_code {P : Program} {w : World} {K : PySem.W.Frag} {mg : Str → Option Value} {base : Heap} (T : Gls K mg) (hbase : ∃ o, base.get? sysModules = some o) (c_is_word : Cle P w K mg base 1 "is_word" sp_is_word) {f : Addr} {cdv : Value} {A : Around} {fr : List PySem.Env} {s : Shared} {H : Hp} {E : XK} (gd : Gd A)
    (hr : Room 1 (A.deeper (envOfC "is_code" (defScope st_is_code) s.heap.objs.size f cdv))) : DSs (BodyX P w K mg base ["value", "length"] "is_code" st_is_code f cdv A fr s H E) (defBody st_is_code) m_is_code :=
  (ds_one (ds_ret (d_call (c_is_word.to hr (by decide)) gd (by rfl) (da_cons lasts_shr (d_var (pv 0)) (da_cons lasts_shr (d_var (pv 1)) (da_cons lasts_shr (d_var (pv 1)) da_nil rfl) rfl) rfl) (by decide) rfl rfl)))
theorem b_Speller___init__ {P : Program} {w : World} {K : PySem.W.Frag} {mg : Str → Option Value} {base : Heap} (T : Gls K mg) (hbase : ∃ o, base.get? sysModules = some o) (c_is_length : Cle P w K mg base 1 "is_length" sp_is_length) (x_BadLength : QRa P w K mg base 1 "BadLength" Cad.c_BadLength "value") (c_is_code : Cle P w K mg base 2 "is_code" sp_is_code) (x_BadCode : QRa P w K mg base 1 "BadCode" Cad.c_BadCode "value") {f : Addr} {cdv : Value} {A : Around} {fr : List PySem.Env} {s : Shared} {H : Hp} {E : XK} (gd : Gd A)
    (hr : Room 2 (A.deeper (envOfC "Speller.__init__" (defScope st_Speller___init__) s.heap.objs.size f cdv))) : DSs (BodyX P w K mg base ["self", "length", "banned", "code"] "Speller.__init__" st_Speller___init__ f cdv A fr s H E) (defBody st_Speller___init__) m_Speller___init__ :=
  (ds_cons (ds_if (dt_not (dt_tru (DE.pk (d_call (c_is_length.to hr (by decide)) gd (by rfl) (da_cons lasts_shr (d_var (pv 1)) da_nil rfl) (by decide) rfl rfl)) (fun _ => rfl))) (ds_one (ds_raise (x_BadLength.to hr (by decide)) rfl (by rfl) (by decide) (da_cons lasts_shr (d_var (pv 1)) da_nil rfl) rfl)) ds_nil)
    (ds_cons (ds_alt (ds_for (passes_of rfl) rfl (di_seq (d_var (pv 2))) (dg_name (pg_name (i := 3) sc_Speller___init__.nd rfl (by first | exact .inl rfl | exact .inr rfl))) (ds_one (ds_if (dt_not (dt_tru (DE.pk (d_call (c_is_code.to hr (by decide)) gd (by rfl) (da_cons lasts_shr (d_var (pv 3)) (da_cons lasts_shr (d_var (pv 1)) da_nil rfl) rfl) (by decide) rfl rfl)) (fun _ => rfl))) (ds_one (ds_raise (x_BadCode.to hr (by decide)) rfl (by rfl) (by decide) (da_cons lasts_shr (d_var (pv 3)) da_nil rfl) rfl)) ds_nil)) (fun _ => rfl)) (ds_forX (passes_of rfl) rfl (dix_list (d_var (pv 2))) (dg_name (pg_name (i := 3) sc_Speller___init__.nd rfl (by first | exact .inl rfl | exact .inr rfl))) (ds_one (ds_if (dt_not (dt_tru (DE.pk (d_call (c_is_code.to hr (by decide)) gd (by rfl) (da_cons lasts_shr (d_var (pv 3)) (da_cons lasts_shr (d_var (pv 1)) da_nil rfl) rfl) (by decide) rfl rfl)) (fun _ => rfl))) (ds_one (ds_raise (x_BadCode.to hr (by decide)) rfl (by rfl) (by decide) (da_cons lasts_shr (d_var (pv 3)) da_nil rfl) rfl)) ds_nil)) (fun _ => rfl)))
    (ds_cons (ds_fldS T.kl_Speller (by decide) (d_var (pv 0)) (d_var (pv 1)) rfl)
    (ds_one (ds_fldS T.kl_Speller (by decide) (d_var (pv 0)) (DE.frz (d_setSort (d_peek (pv 2)) rfl (by rfl) T.n_sorted (by decide +kernel) (by rfl) T.n_set rfl)) rfl)))))
theorem b_Speller_length {P : Program} {w : World} {K : PySem.W.Frag} {mg : Str → Option Value} {base : Heap} (T : Gls K mg) (hbase : ∃ o, base.get? sysModules = some o)  {f : Addr} {cdv : Value} {A : Around} {fr : List PySem.Env} {s : Shared} {H : Hp} {E : XK} (gd : Gd A)
    (hr : Room 0 (A.deeper (envOfC "Speller.length" (defScope st_Speller_length) s.heap.objs.size f cdv))) : DSs (BodyX P w K mg base ["self"] "Speller.length" st_Speller_length f cdv A fr s H E) (defBody st_Speller_length) m_Speller_length :=
  (ds_one (ds_ret (d_fld T.kl_Speller (by decide) (d_peek (pv 0)) rfl)))
theorem b_Speller_banned {P : Program} {w : World} {K : PySem.W.Frag} {mg : Str → Option Value} {base : Heap} (T : Gls K mg) (hbase : ∃ o, base.get? sysModules = some o)  {f : Addr} {cdv : Value} {A : Around} {fr : List PySem.Env} {s : Shared} {H : Hp} {E : XK} (gd : Gd A)
    (hr : Room 0 (A.deeper (envOfC "Speller.banned" (defScope st_Speller_banned) s.heap.objs.size f cdv))) : DSs (BodyX P w K mg base ["self"] "Speller.banned" st_Speller_banned f cdv A fr s H E) (defBody st_Speller_banned) m_Speller_banned :=
  (ds_one (ds_retF (d_callTy (calld_list rfl) (da_cons lasts_pk (DE.pk (d_fld T.kl_Speller (by decide) (d_peek (pv 0)) rfl)) da_nil rfl) (by rfl) T.n_list (by decide +kernel) (by decide) (by decide) rfl rfl)))
theorem b_is_name {P : Program} {w : World} {K : PySem.W.Frag} {mg : Str → Option Value} {base : Heap} (T : Gls K mg) (hbase : ∃ o, base.get? sysModules = some o) (c_is_word : Cle P w K mg base 1 "is_word" sp_is_word) {f : Addr} {cdv : Value} {A : Around} {fr : List PySem.Env} {s : Shared} {H : Hp} {E : XK} (gd : Gd A)
    (hr : Room 1 (A.deeper (envOfC "is_name" (defScope st_is_name) s.heap.objs.size f cdv))) : DSs (BodyX P w K mg base ["value"] "is_name" st_is_name f cdv A fr s H E) (defBody st_is_name) m_is_name :=
  (ds_one (ds_ret (d_call (c_is_word.to hr (by decide)) gd (by rfl) (da_cons lasts_shr (d_var (pv 0)) (da_cons lasts_shr d_int (da_cons lasts_shr (d_glob (v := .int 12) (fun _ => .int _) (by rfl) T.c_LONGEST_NAME (by decide)) da_nil rfl) rfl) rfl) (by decide) rfl rfl)))
theorem b_place_lists {P : Program} {w : World} {K : PySem.W.Frag} {mg : Str → Option Value} {base : Heap} (T : Gls K mg) (hbase : ∃ o, base.get? sysModules = some o) {rk : Nat} {spr : DSp} (cr_place_lists : Cle P w K mg base rk "place_lists" spr) {f : Addr} {cdv : Value} {A : Around} {fr : List PySem.Env} {s : Shared} {H : Hp} {E : XK} (gd : Gd A)
    (hr : Room rk (A.deeper (envOfC "place_lists" (defScope st_place_lists) s.heap.objs.size f cdv))) : DSs (BodyX P w K mg base ["size", "length", "found", "shorter", "first", "place"] "place_lists" st_place_lists f cdv A fr s H E) (defBody st_place_lists) (m_place_lists spr) :=
  (ds_cons (ds_if (dt_cmp (opd_eq hr.u64) (d_peek (pv 1)) (DE.pk d_int) (nomark _)) (ds_one (ds_retF (d_lst (da_cons lasts_shr (DE.frz (d_lst da_nil)) da_nil rfl)))) ds_nil)
    (ds_cons (ds_setO (d_lst da_nil) (fun h => ps_set (i := 2) sc_place_lists.nd rfl (by first | exact .inl rfl | exact .inr rfl) h))
    (ds_cons (ds_for (passes_of rfl) rfl (di_seq (d_call (cr_place_lists.to hr (Nat.le_refl _)) gd (by rfl) (da_cons lasts_shr (d_var (pv 0)) (da_cons lasts_shr (d_op opd_sub (d_peek (pv 1)) (DE.pk d_int)) da_nil rfl) rfl) (by decide) rfl rfl)) (dg_name (pg_name (i := 3) sc_place_lists.nd rfl (by first | exact .inl rfl | exact .inr rfl))) (ds_cons (ds_set (d_if (dt_cmp (opd_neN hr.u0) (d_peek (pv 3)) (DE.frP (d_lst da_nil)) (nomark _)) (d_op opd_add (DE.pk (d_ix hr.u1 (d_peek (pv 3)) (DE.pk (d_neg (DE.pk d_int))) (fun _ _ => rfl))) (DE.pk d_int)) d_int) (fun h => ps_set (i := 4) sc_place_lists.nd rfl (by first | exact .inl rfl | exact .inr rfl) h))
    (ds_one (ds_ext (pv 2) (DE.frP (d_comp (own := [("place", 5)]) rfl sc_place_lists.nd (di_rng2 (by rfl) T.n_range (da_cons lasts_shr (d_var (pv 4)) (da_cons lasts_shr (d_var (pv 0)) da_nil rfl) rfl) rfl rfl) (blkOk_by (N := ["size", "length", "found", "shorter", "first", "place"]) (sc := defScope st_place_lists) (own := [("place", 5)]) (by decide +kernel)) (fun _ _ _ _ _ => (dgw_name (pg_name (i := 5) sc_place_lists.nd rfl (by first | exact .inl rfl | exact .inr rfl)) (by simp))) (fun _ _ _ _ _ => dts_nil) (fun _ _ _ _ _ => (d_op opd_add (d_peek (pv 3)) (DE.frP (d_lst (da_cons lasts_shr (d_var (pv 5)) da_nil rfl))))) (fun _ => rfl))) rfl rfl rfl rfl rfl))) (fun _ => rfl))
    (ds_one (ds_retO (pv 2))))))
theorem b_spellings {P : Program} {w : World} {K : PySem.W.Frag} {mg : Str → Option Value} {base : Heap} (T : Gls K mg) (hbase : ∃ o, base.get? sysModules = some o) (c_place_lists : Cle P w K mg base 4 "place_lists" sp_place_lists) {f : Addr} {cdv : Value} {A : Around} {fr : List PySem.Env} {s : Shared} {H : Hp} {E : XK} (gd : Gd A)
    (hr : Room 4 (A.deeper (envOfC "spellings" (defScope st_spellings) s.heap.objs.size f cdv))) : DSs (BodyX P w K mg base ["name", "length", "found", "places", "code", "place"] "spellings" st_spellings f cdv A fr s H E) (defBody st_spellings) m_spellings :=
  (ds_cons (ds_setO d_dct0 (fun h => ps_set (i := 2) sc_spellings.nd rfl (by first | exact .inl rfl | exact .inr rfl) h))
    (ds_cons (ds_for (passes_of rfl) rfl (di_seq (d_call (c_place_lists.to hr (by decide)) gd (by rfl) (da_cons lasts_shr (d_callB calld_len (da_cons lasts_pk (d_peek (pv 0)) da_nil rfl) (by rfl) T.n_len (by decide +kernel) (by decide) (by decide) rfl rfl) (da_cons lasts_shr (d_var (pv 1)) da_nil rfl) rfl) (by decide) rfl rfl)) (dg_name (pg_name (i := 3) sc_spellings.nd rfl (by first | exact .inl rfl | exact .inr rfl))) (ds_cons (ds_set (d_join (DE.pk (d_strc (by decide +kernel))) (DE.frP (d_comp (own := [("place", 5)]) rfl sc_spellings.nd (di_seq (d_var (pv 3))) (blkOk_by (N := ["name", "length", "found", "places", "code", "place"]) (sc := defScope st_spellings) (own := [("place", 5)]) (by decide +kernel)) (fun _ _ _ _ _ => (dgw_name (pg_name (i := 5) sc_spellings.nd rfl (by first | exact .inl rfl | exact .inr rfl)) (by simp))) (fun _ _ _ _ _ => dts_nil) (fun _ _ _ _ _ => (d_ix hr.u1 (d_peek (pv 0)) (d_peek (pv 5)) (fun _ _ => rfl))) (fun _ => rfl))) rfl rfl rfl) (fun h => ps_set (i := 4) sc_spellings.nd rfl (by first | exact .inl rfl | exact .inr rfl) h))
    (ds_one (ds_if (dt_cmp (opd_notin hr.u65) (d_peek (pv 4)) (d_peek (pv 2)) rfl) (ds_one (ds_asg (d_var (pv 3)) (dg_putO hr.u1 (pv 2) (d_var (pv 4)) (fun _ => rfl)) rfl rfl rfl)) ds_nil))) (fun _ => rfl))
    (ds_one (ds_retF (d_callTy (calld_listD rfl) (da_cons lasts_pk (d_peek (pv 2)) da_nil rfl) (by rfl) T.n_list (by decide +kernel) (by decide) (by decide) rfl rfl)))))
theorem b_Speller___call__ {P : Program} {w : World} {K : PySem.W.Frag} {mg : Str → Option Value} {base : Heap} (T : Gls K mg) (hbase : ∃ o, base.get? sysModules = some o) (c_is_name : Cle P w K mg base 2 "is_name" sp_is_name) (x_BadName : QRa P w K mg base 1 "BadName" Cad.c_BadName "value") (c_spellings : Cle P w K mg base 5 "spellings" sp_spellings) {f : Addr} {cdv : Value} {A : Around} {fr : List PySem.Env} {s : Shared} {H : Hp} {E : XK} (gd : Gd A)
    (hr : Room 5 (A.deeper (envOfC "Speller.__call__" (defScope st_Speller___call__) s.heap.objs.size f cdv))) : DSs (BodyX P w K mg base ["self", "name", "code"] "Speller.__call__" st_Speller___call__ f cdv A fr s H E) (defBody st_Speller___call__) m_Speller___call__ :=
  (ds_cons (ds_if (dt_not (dt_tru (DE.pk (d_call (c_is_name.to hr (by decide)) gd (by rfl) (da_cons lasts_shr (d_var (pv 1)) da_nil rfl) (by decide) rfl rfl)) (fun _ => rfl))) (ds_one (ds_raise (x_BadName.to hr (by decide)) rfl (by rfl) (by decide) (da_cons lasts_shr (d_var (pv 1)) da_nil rfl) rfl)) ds_nil)
    (ds_one (ds_retF (d_comp (own := [("code", 2)]) rfl sc_Speller___call__.nd (di_seq (d_call (c_spellings.to hr (by decide)) gd (by rfl) (da_cons lasts_shr (d_var (pv 1)) (da_cons lasts_shr (d_fld T.kl_Speller (by decide) (d_peek (pv 0)) rfl) da_nil rfl) rfl) (by decide) rfl rfl)) (blkOk_by (N := ["self", "name", "code"]) (sc := defScope st_Speller___call__) (own := [("code", 2)]) (by decide +kernel)) (fun _ _ _ _ _ => (dgw_name (pg_name (i := 2) sc_Speller___call__.nd rfl (by first | exact .inl rfl | exact .inr rfl)) (by simp))) (fun _ _ _ _ _ => (dts_one (dt_cmp (opd_notin hr.u65) (d_peek (pv 2)) (DE.pk (d_fld T.kl_Speller (by decide) (d_peek (pv 0)) rfl)) rfl))) (fun _ _ _ _ _ => (d_var (pv 2))) (fun _ => rfl)))))
theorem b__law_error {P : Program} {w : World} {K : PySem.W.Frag} {mg : Str → Option Value} {base : Heap} (T : Gls K mg) (hbase : ∃ o, base.get? sysModules = some o) {f : Addr} {cdv : Value} {A : Around} {fr : List PySem.Env} {s : Shared} {H : Hp} {E : XK} {a : Addr} {oe : Obj} {cls : Value} {d : Option Addr} (gd : Gd A) (hr : L2H.RoomH 0 (A.deeper (envOfC "_law_error" (defScope st__law_error) s.heap.objs.size f cdv))) (hz : Zc cls d oe)
    (hf : ∃ vs, oe.data = .fields vs) : DSs (HotB P w K mg base ["_law_e"] "_law_error" st__law_error f cdv A fr s H E a oe) (defBody st__law_error) (m__law_error a cls d) :=
  (ds_cons (ds_if (dt_tru (DE.pk (d_isX (C := Cad.c_BadLength) (xis_cons T.ki_BadLength_BadLength (xis_cons T.ki_BadCode_BadLength (xis_cons T.ki_BadName_BadLength xis_nil))) hz hf (pv 0) (by rfl) T.n_isinstance (by rfl) T.g_BadLength (by decide) rfl rfl rfl)) (fun _ => rfl)) (ds_one (ds_ret (d_tup (da_cons lasts_shr (d_strc (by decide +kernel)) (da_cons lasts_shr (d_xf (xf_cons (T.xx_BadLength_value) (xf_cons (T.xx_BadCode_value) (xf_cons (T.xx_BadName_value) (xf_nil)))) hz hf (pv 0) rfl) da_nil rfl) rfl)))) ds_nil)
    (ds_cons (ds_if (dt_tru (DE.pk (d_isX (C := Cad.c_BadCode) (xis_cons T.ki_BadLength_BadCode (xis_cons T.ki_BadCode_BadCode (xis_cons T.ki_BadName_BadCode xis_nil))) hz hf (pv 0) (by rfl) T.n_isinstance (by rfl) T.g_BadCode (by decide) rfl rfl rfl)) (fun _ => rfl)) (ds_one (ds_ret (d_tup (da_cons lasts_shr (d_strc (by decide +kernel)) (da_cons lasts_shr (d_xf (xf_cons (T.xx_BadLength_value) (xf_cons (T.xx_BadCode_value) (xf_cons (T.xx_BadName_value) (xf_nil)))) hz hf (pv 0) rfl) da_nil rfl) rfl)))) ds_nil)
    (ds_one (ds_ret (d_if (dt_tru (DE.pk (d_isX (C := Cad.c_BadName) (xis_cons T.ki_BadLength_BadName (xis_cons T.ki_BadCode_BadName (xis_cons T.ki_BadName_BadName xis_nil))) hz hf (pv 0) (by rfl) T.n_isinstance (by rfl) T.g_BadName (by decide) rfl rfl rfl)) (fun _ => rfl)) (d_tup (da_cons lasts_shr (d_strc (by decide +kernel)) (da_cons lasts_shr (d_xf (xf_cons (T.xx_BadLength_value) (xf_cons (T.xx_BadCode_value) (xf_cons (T.xx_BadName_value) (xf_nil)))) hz hf (pv 0) rfl) da_nil rfl) rfl)) (d_tup (da_cons lasts_shr (d_strc (by decide +kernel)) (da_cons lasts_shr d_non da_nil rfl) rfl)))))))
theorem b__law_called {P : Program} {w : World} {K : PySem.W.Frag} {mg : Str → Option Value} {base : Heap} (T : Gls K mg) (hbase : ∃ o, base.get? sysModules = some o) (i_Speller : QCo P w K mg base 6 Cad.c_Speller (spV 2 sp_Speller___call__)) (c__law_error : XCle P w K mg base 1 "_law_error" sp__law_error) {f : Addr} {cdv : Value} {A : Around} {fr : List PySem.Env} {s : Shared} {H : Hp} {E : XK} (gd : Gd A)
    (hr : Room 6 (A.deeper (envOfC "_law_called" (defScope st__law_called) s.heap.objs.size f cdv))) : DSs (BodyX P w K mg base ["_law_speller", "_law_thing", "_law_e"] "_law_called" st__law_called f cdv A fr s H E) (defBody st__law_called) m__law_called :=
  (ds_one (ds_tryAs (i := 2) rfl rfl sc__law_called.nd rfl rfl ⟨by rfl, by decide, .inl T.g_CodeError⟩ (em_cons T.em_BadLength_CodeError (em_cons T.em_BadCode_CodeError (em_cons T.em_BadName_CodeError em_nil))) em_nil (fun pn xe po => (ds_one (ds_ret (d_callI (i_Speller.to hr (by decide)) gd (d_var (pv 0)) (da_cons lasts_shr (d_var (pv 1)) da_nil rfl) rfl rfl rfl)))) fun a oe cls d pn hz hf => (ds_one (ds_ret (d_callX (c__law_error.to hr (by decide)) gd hz hf (by rfl) (da_cons lasts_shr (d_var (pv 2)) da_nil rfl) (by decide) rfl rfl)))))
theorem b__law_allowed {P : Program} {w : World} {K : PySem.W.Frag} {mg : Str → Option Value} {base : Heap} (T : Gls K mg) (hbase : ∃ o, base.get? sysModules = some o) (c__law_spellings : Cle P w K mg base 2 "_law_spellings" sp__law_spellings) {f : Addr} {cdv : Value} {A : Around} {fr : List PySem.Env} {s : Shared} {H : Hp} {E : XK} (gd : Gd A)
    (hr : Room 2 (A.deeper (envOfC "_law_allowed" (defScope st__law_allowed) s.heap.objs.size f cdv))) : DSs (BodyX P w K mg base ["_law_word_here", "_law_length", "_law_barred", "_law_code"] "_law_allowed" st__law_allowed f cdv A fr s H E) (defBody st__law_allowed) m__law_allowed :=
  (ds_one (ds_retF (d_comp (own := [("_law_code", 3)]) rfl sc__law_allowed.nd (di_seq (d_call (c__law_spellings.to hr (by decide)) gd (by rfl) (da_cons lasts_shr (d_var (pv 0)) (da_cons lasts_shr (d_var (pv 1)) da_nil rfl) rfl) (by decide) rfl rfl)) (blkOk_by (N := ["_law_word_here", "_law_length", "_law_barred", "_law_code"]) (sc := defScope st__law_allowed) (own := [("_law_code", 3)]) (by decide +kernel)) (fun _ _ _ _ _ => (dgw_name (pg_name (i := 3) sc__law_allowed.nd rfl (by first | exact .inl rfl | exact .inr rfl)) (by simp))) (fun _ _ _ _ _ => (dts_one (dt_cmp (opd_notin hr.u65) (d_peek (pv 3)) (d_peek (pv 2)) rfl))) (fun _ _ _ _ _ => (d_var (pv 3))) (fun _ => rfl))))
theorem b__law_spells {P : Program} {w : World} {K : PySem.W.Frag} {mg : Str → Option Value} {base : Heap} (T : Gls K mg) (hbase : ∃ o, base.get? sysModules = some o) (i_Speller : QCo P w K mg base 6 Cad.c_Speller (spV 2 sp_Speller___call__)) (c__law_allowed : Cle P w K mg base 3 "_law_allowed" sp__law_allowed) (p_Speller_length : QPr P w K mg base 1 Cad.c_Speller "length" (spV 1 sp_Speller_length)) (c__law_name : Cle P w K mg base 4 "_law_name" sp__law_name) (p_Speller_banned : QPr P w K mg base 1 Cad.c_Speller "banned" (spV 1 sp_Speller_banned)) {f : Addr} {cdv : Value} {A : Around} {fr : List PySem.Env} {s : Shared} {H : Hp} {E : XK} (gd : Gd A)
    (hr : Room 6 (A.deeper (envOfC "_law_spells" (defScope st__law_spells) s.heap.objs.size f cdv))) : DSs (BodyX P w K mg base ["_law_purse_here", "_law_speller", "_law_name_here", "_law_length", "_law_barred", "_law_kept", "_law_other", "_law_found"] "_law_spells" st__law_spells f cdv A fr s H E) (defBody st__law_spells) m__law_spells :=
  (ds_cons (ds_set (DE.frz (d_lst (da_cons lasts_shr (d_callI (i_Speller.to hr (by decide)) gd (d_var (pv 1)) (da_cons lasts_shr (d_var (pv 2)) da_nil rfl) rfl rfl rfl) (da_cons lasts_shr (d_callI (i_Speller.to hr (by decide)) gd (d_var (pv 1)) (da_cons lasts_shr (d_strc (by decide +kernel)) da_nil rfl) rfl rfl rfl) (da_cons lasts_shr (d_callI (i_Speller.to hr (by decide)) gd (d_var (pv 1)) (da_cons lasts_shr (d_var (pv 2)) da_nil rfl) rfl rfl rfl) da_nil rfl) rfl) rfl))) (fun h => ps_set (i := 5) sc__law_spells.nd rfl (by first | exact .inl rfl | exact .inr rfl) h))
    (ds_cons (ds_if (DW.pt (dw_or (dt_cmp (opd_ne hr.u64) (DE.pk (d_ix hr.u1 (d_peek (pv 5)) (DE.pk d_int) (fun _ _ => rfl))) (DE.pk (d_ix hr.u1 (d_peek (pv 5)) (DE.pk d_int) (fun _ _ => rfl))) (nomark _)) (dw_or (dt_cmp (opd_ne hr.u64) (DE.pk (d_ix hr.u1 (d_peek (pv 5)) (DE.pk d_int) (fun _ _ => rfl))) (DE.pk (d_call (c__law_allowed.to hr (by decide)) gd (by rfl) (da_cons lasts_shr (d_strc (by decide +kernel)) (da_cons lasts_shr (d_var (pv 3)) (da_cons lasts_shr (d_var (pv 4)) da_nil rfl) rfl) rfl) (by decide) rfl rfl)) (nomark _)) (dw_or1 (dt_cmp (opd_ne hr.u64) (DE.pk (d_prop (p_Speller_length.to hr (by decide)) gd (d_var (pv 1)) rfl)) (d_peek (pv 3)) (nomark _)))))) (ds_one (ds_ret d_bl)) ds_nil)
    (ds_cons (ds_for (passes_of rfl) rfl (di_seq (DE.frz (d_lst (da_cons lasts_shr (d_var (pv 2)) (da_cons lasts_shr (d_var (pv 2)) (da_cons lasts_shr (d_call (c__law_name.to hr (by decide)) gd (by rfl) (da_cons lasts_shr (d_var (pv 0)) da_nil rfl) (by decide) rfl rfl) (da_cons lasts_shr (d_strc (by decide +kernel)) da_nil rfl) rfl) rfl) rfl)))) (dg_name (pg_name (i := 6) sc__law_spells.nd rfl (by first | exact .inl rfl | exact .inr rfl))) (ds_cons (ds_setO (d_callIF (i_Speller.to hr (by decide)) gd (d_var (pv 1)) (da_cons lasts_shr (d_var (pv 6)) da_nil rfl) rfl rfl rfl) (fun h => ps_set (i := 7) sc__law_spells.nd rfl (by first | exact .inl rfl | exact .inr rfl) h))
    (ds_cons (ds_if (DW.pt (dw_or (dt_cmp (opd_ne hr.u64) (DE.pk (d_callB (calld_repr gd hr.u60 hbase) (da_cons lasts_pk (d_peek (pv 7)) da_nil rfl) (by rfl) T.n_repr (by decide +kernel) (by decide) (by decide) rfl rfl)) (DE.pk (d_callB (calld_repr gd hr.u60 hbase) (da_cons lasts_pk (DE.pk (d_call (c__law_allowed.to hr (by decide)) gd (by rfl) (da_cons lasts_shr (d_var (pv 6)) (da_cons lasts_shr (d_var (pv 3)) (da_cons lasts_shr (d_var (pv 4)) da_nil rfl) rfl) rfl) (by decide) rfl rfl)) da_nil rfl) (by rfl) T.n_repr (by decide +kernel) (by decide) (by decide) rfl rfl)) (nomark _)) (dw_or1 (dt_cmp (opd_ne hr.u64) (DE.pk (d_prop (p_Speller_banned.to hr (by decide)) gd (d_var (pv 1)) rfl)) (DE.frP (d_setSort (d_peek (pv 4)) rfl (by rfl) T.n_sorted (by decide +kernel) (by rfl) T.n_set rfl)) (nomark _))))) (ds_one (ds_ret d_bl)) ds_nil)
    (ds_one (ds_app (pv 7) (d_strc (by decide +kernel)) rfl rfl rfl rfl rfl)))) (fun _ => rfl))
    (ds_one (ds_ret (d_cmp (opd_eq hr.u64) (DE.pk (d_ix hr.u1 (d_peek (pv 5)) (DE.pk d_int) (fun _ _ => rfl))) (DE.pk (d_call (c__law_allowed.to hr (by decide)) gd (by rfl) (da_cons lasts_shr (d_var (pv 2)) (da_cons lasts_shr (d_var (pv 3)) (da_cons lasts_shr (d_var (pv 4)) da_nil rfl) rfl) rfl) (by decide) rfl rfl)) (nomark _)))))))
theorem b__law_any {P : Program} {w : World} {K : PySem.W.Frag} {mg : Str → Option Value} {base : Heap} (T : Gls K mg) (hbase : ∃ o, base.get? sysModules = some o) (c__law_choose : Cle P w K mg base 2 "_law_choose" sp__law_choose) {f : Addr} {cdv : Value} {A : Around} {fr : List PySem.Env} {s : Shared} {H : Hp} {E : XK} (gd : Gd A)
    (hr : Room 2 (A.deeper (envOfC "_law_any" (defScope st__law_any) s.heap.objs.size f cdv))) : DSs (BodyX P w K mg base ["_law_purse_here", "_law_some"] "_law_any" st__law_any f cdv A fr s H E) (defBody st__law_any) m__law_any :=
  (ds_cons (ds_set (DE.frz (d_lst (da_cons lasts_shr d_non (da_cons lasts_shr d_bl (da_cons lasts_shr d_int (da_cons lasts_shr d_int (da_cons lasts_shr d_int (da_cons lasts_shr (d_strc (by decide +kernel)) (da_cons lasts_shr (d_strc (by decide +kernel)) (da_cons lasts_shr (d_strc (by decide +kernel)) (da_cons lasts_shr (d_strc (by decide +kernel)) (da_cons lasts_shr (d_tup da_nil) (da_cons lasts_shr (DE.frz (d_lst (da_cons lasts_shr (d_strc (by decide +kernel)) da_nil rfl))) (da_cons lasts_shr (d_tup (da_cons lasts_shr (d_strc (by decide +kernel)) da_nil rfl)) (da_cons lasts_shr (DE.frz d_dct0) (da_cons lasts_shr (d_op opd_mulA (DE.pk (d_strc (by decide +kernel))) (DE.pk d_int)) (da_cons lasts_shr (d_strc (by decide +kernel)) (da_cons lasts_shr (d_strc (by decide +kernel)) (da_cons lasts_shr (d_strc (by decide +kernel)) (da_cons lasts_shr (d_strc (by decide +kernel)) da_nil rfl) rfl) rfl) rfl) rfl) rfl) rfl) rfl) rfl) rfl) rfl) rfl) rfl) rfl) rfl) rfl) rfl) rfl))) (fun h => ps_set (i := 1) sc__law_any.nd rfl (by first | exact .inl rfl | exact .inr rfl) h))
    (ds_one (ds_ret (d_call (c__law_choose.to hr (by decide)) gd (by rfl) (da_cons lasts_shr (d_var (pv 0)) (da_cons lasts_shr (d_var (pv 1)) da_nil rfl) rfl) (by decide) rfl rfl))))
theorem b_Speller___contains__ {P : Program} {w : World} {K : PySem.W.Frag} {mg : Str → Option Value} {base : Heap} (T : Gls K mg) (hbase : ∃ o, base.get? sysModules = some o) (c_is_code : Cle P w K mg base 2 "is_code" sp_is_code) {f : Addr} {cdv : Value} {A : Around} {fr : List PySem.Env} {s : Shared} {H : Hp} {E : XK} (gd : Gd A)
    (hr : Room 2 (A.deeper (envOfC "Speller.__contains__" (defScope st_Speller___contains__) s.heap.objs.size f cdv))) : DSs (BodyX P w K mg base ["self", "code"] "Speller.__contains__" st_Speller___contains__ f cdv A fr s H E) (defBody st_Speller___contains__) m_Speller___contains__ :=
  (ds_one (ds_ret (d_and (d_call (c_is_code.to hr (by decide)) gd (by rfl) (da_cons lasts_shr (d_var (pv 1)) (da_cons lasts_shr (d_fld T.kl_Speller (by decide) (d_peek (pv 0)) rfl) da_nil rfl) rfl) (by decide) rfl rfl) (d_one (d_cmp (opd_notin hr.u65) (d_peek (pv 1)) (DE.pk (d_fld T.kl_Speller (by decide) (d_peek (pv 0)) rfl)) rfl)))))
theorem b__law_is_word {P : Program} {w : World} {K : PySem.W.Frag} {mg : Str → Option Value} {base : Heap} (T : Gls K mg) (hbase : ∃ o, base.get? sysModules = some o)  {f : Addr} {cdv : Value} {A : Around} {fr : List PySem.Env} {s : Shared} {H : Hp} {E : XK} (gd : Gd A)
    (hr : Room 0 (A.deeper (envOfC "_law_is_word" (defScope st__law_is_word) s.heap.objs.size f cdv))) : DSs (BodyX P w K mg base ["_law_thing", "_law_least", "_law_most", "_law_letter"] "_law_is_word" st__law_is_word f cdv A fr s H E) (defBody st__law_is_word) m__law_is_word :=
  (ds_cons (ds_if (DW.pt (dw_or (dt_not (dt_tru (DE.pk (d_callB calld_isi (da_cons lasts_pk (d_peek (pv 0)) (da_cons lasts_pk (DE.pk (d_type (n := "str") (by rfl) T.n_str (by decide +kernel) (by decide) (by decide))) da_nil rfl) rfl) (by rfl) T.n_isinstance (by decide +kernel) (by decide) (by decide) rfl rfl)) (fun _ => rfl))) (dw_or1 (dt_not (dt_chain opd_le opd_le (d_peek (pv 1)) (DE.pk (d_callB calld_len (da_cons lasts_pk (d_peek (pv 0)) da_nil rfl) (by rfl) T.n_len (by decide +kernel) (by decide) (by decide) rfl rfl)) (d_peek (pv 2)) rfl))))) (ds_one (ds_ret d_bl)) ds_nil)
    (ds_one (ds_ret (d_cmp (opd_eqN hr.u0) (DE.frP (d_comp (own := [("_law_letter", 3)]) rfl sc__law_is_word.nd (di_seq (d_var (pv 0))) (blkOk_by (N := ["_law_thing", "_law_least", "_law_most", "_law_letter"]) (sc := defScope st__law_is_word) (own := [("_law_letter", 3)]) (by decide +kernel)) (fun _ _ _ _ _ => (dgw_name (pg_name (i := 3) sc__law_is_word.nd rfl (by first | exact .inl rfl | exact .inr rfl)) (by simp))) (fun _ _ _ _ _ => (dts_one (dt_not (dt_chain opd_le opd_le (DE.pk (d_strc (by decide +kernel))) (d_peek (pv 3)) (DE.pk (d_strc (by decide +kernel))) rfl)))) (fun _ _ _ _ _ => (d_var (pv 3))) (fun _ => rfl))) (DE.frP (d_lst da_nil)) (nomark _)))))
theorem b__law_made {P : Program} {w : World} {K : PySem.W.Frag} {mg : Str → Option Value} {base : Heap} (T : Gls K mg) (hbase : ∃ o, base.get? sysModules = some o) (k_Speller_2_banned : QNm P w K mg base 4 "Speller" ["banned"] (spMakeF Cad.c_Speller (spvOf sp_Speller___init__ 1 2 [0, 1, 2] []))) (c__law_error : XCle P w K mg base 1 "_law_error" sp__law_error) {f : Addr} {cdv : Value} {A : Around} {fr : List PySem.Env} {s : Shared} {H : Hp} {E : XK} (gd : Gd A)
    (hr : Room 4 (A.deeper (envOfC "_law_made" (defScope st__law_made) s.heap.objs.size f cdv))) : DSs (BodyX P w K mg base ["_law_length", "_law_barred", "_law_caught", "_law_e"] "_law_made" st__law_made f cdv A fr s H E) (defBody st__law_made) m__law_made :=
  (ds_cons (ds_set d_non (fun h => ps_set (i := 2) sc__law_made.nd rfl (by first | exact .inl rfl | exact .inr rfl) h))
    (ds_cons (ds_tryAs (i := 3) rfl rfl sc__law_made.nd rfl rfl ⟨by rfl, by decide, .inl T.g_CodeError⟩ (em_cons T.em_BadLength_CodeError (em_cons T.em_BadCode_CodeError (em_cons T.em_BadName_CodeError em_nil))) em_nil (fun pn xe po => (ds_one (ds_expr (DE.frP (d_callVF (k_Speller_2_banned.to hr (by decide)) gd (by rfl) (daj_kw (da_cons lasts_shr (d_var (pv 0)) da_nil rfl) (dk_cons (d_var (pv 1)) dk_nil) (fun _ => rfl) (fun _ => rfl) rfl (fun _ => rfl)) (by decide))) rfl))) fun a oe cls d pn hz hf => (ds_one (ds_set (d_callX (c__law_error.to hr (by decide)) gd hz hf (by rfl) (da_cons lasts_shr (d_var (pv 3)) da_nil rfl) (by decide) rfl rfl) (fun h => ps_set (i := 2) sc__law_made.nd rfl (by first | exact .inl rfl | exact .inr rfl) h))))
    (ds_one (ds_retO (pv 2)))))
theorem b__law_due {P : Program} {w : World} {K : PySem.W.Frag} {mg : Str → Option Value} {base : Heap} (T : Gls K mg) (hbase : ∃ o, base.get? sysModules = some o) (c__law_is_word : Cle P w K mg base 1 "_law_is_word" sp__law_is_word) {f : Addr} {cdv : Value} {A : Around} {fr : List PySem.Env} {s : Shared} {H : Hp} {E : XK} (gd : Gd A)
    (hr : Room 1 (A.deeper (envOfC "_law_due" (defScope st__law_due) s.heap.objs.size f cdv))) : DSs (BodyX P w K mg base ["_law_length", "_law_barred", "_law_wrong", "_law_code"] "_law_due" st__law_due f cdv A fr s H E) (defBody st__law_due) m__law_due :=
  (ds_cons (ds_if (DW.pt (dw_or (dt_not (dt_tru (DE.pk (d_callB calld_isi (da_cons lasts_pk (d_peek (pv 0)) (da_cons lasts_pk (DE.pk (d_type (n := "int") (by rfl) T.n_int (by decide +kernel) (by decide) (by decide))) da_nil rfl) rfl) (by rfl) T.n_isinstance (by decide +kernel) (by decide) (by decide) rfl rfl)) (fun _ => rfl))) (dw_or (dt_tru (DE.pk (d_callB calld_isi (da_cons lasts_pk (d_peek (pv 0)) (da_cons lasts_pk (DE.pk (d_type (n := "bool") (by rfl) T.n_bool (by decide +kernel) (by decide) (by decide))) da_nil rfl) rfl) (by rfl) T.n_isinstance (by decide +kernel) (by decide) (by decide) rfl rfl)) (fun _ => rfl)) (dw_or1 (dt_not (dt_chain opd_le opd_le (DE.pk d_int) (d_peek (pv 0)) (DE.pk d_int) rfl)))))) (ds_one (ds_ret (d_tup (da_cons lasts_shr (d_strc (by decide +kernel)) (da_cons lasts_shr (d_var (pv 0)) da_nil rfl) rfl)))) ds_nil)
    (ds_cons (ds_compS fun _ _ hE => ps_comp (i := 2) (own := [("_law_code", 3)]) rfl sc__law_due.nd rfl rfl rfl (di_seq (d_var (pv 1))) (blkOk_by (N := ["_law_length", "_law_barred", "_law_wrong", "_law_code"]) (sc := defScope st__law_due) (own := [("_law_code", 3)]) (by decide +kernel)) (fun _ _ _ _ _ => (dgw_name (pg_name (i := 3) sc__law_due.nd rfl (by first | exact .inl rfl | exact .inr rfl)) (by simp))) (fun _ _ _ _ _ => (dts_one (dt_not (dt_tru (DE.pk (d_call (c__law_is_word.to hr (by decide)) gd (by rfl) (da_cons lasts_shr (d_var (pv 3)) (da_cons lasts_shr (d_var (pv 0)) (da_cons lasts_shr (d_var (pv 0)) da_nil rfl) rfl) rfl) (by decide) rfl rfl)) (fun _ => rfl))))) (fun _ _ _ _ _ => (d_var (pv 3))) (fun _ => rfl) hE)
    (ds_one (ds_ret (d_if (dt_cmp (opd_neN hr.u0) (d_peek (pv 2)) (DE.frP (d_lst da_nil)) (nomark _)) (d_tup (da_cons lasts_shr (d_strc (by decide +kernel)) (da_cons lasts_shr (d_ix hr.u1 (d_peek (pv 2)) (DE.pk d_int) (fun _ _ => rfl)) da_nil rfl) rfl)) d_non)))))
theorem b__law_copied {P : Program} {w : World} {K : PySem.W.Frag} {mg : Str → Option Value} {base : Heap} (T : Gls K mg) (hbase : ∃ o, base.get? sysModules = some o) (c__law_spellings : Cle P w K mg base 2 "_law_spellings" sp__law_spellings) (p_Speller_banned : QPr P w K mg base 1 Cad.c_Speller "banned" (spV 1 sp_Speller_banned)) (i_Speller : QCo P w K mg base 6 Cad.c_Speller (spV 2 sp_Speller___call__)) (c__law_allowed : Cle P w K mg base 3 "_law_allowed" sp__law_allowed) (o_Speller___contains__ : QOw P w K mg base 3 Cad.c_Speller "__contains__" (spV 2 sp_Speller___contains__)) {f : Addr} {cdv : Value} {A : Around} {fr : List PySem.Env} {s : Shared} {H : Hp} {E : XK} (gd : Gd A)
    (hr : Room 6 (A.deeper (envOfC "_law_copied" (defScope st__law_copied) s.heap.objs.size f cdv))) : DSs (BodyX P w K mg base ["_law_speller", "_law_passed", "_law_name_here", "_law_length", "_law_barred", "_law_extra"] "_law_copied" st__law_copied f cdv A fr s H E) (defBody st__law_copied) m__law_copied :=
  (ds_cons (ds_set (d_ix hr.u1 (DE.pk (d_op opd_add (DE.pk (d_call (c__law_spellings.to hr (by decide)) gd (by rfl) (da_cons lasts_shr (d_var (pv 2)) (da_cons lasts_shr (d_var (pv 3)) da_nil rfl) rfl) (by decide) rfl rfl)) (DE.frP (d_lst (da_cons lasts_shr (d_cut (DE.pk (d_strc (by decide +kernel))) do_none (do_some (d_peek (pv 3)))) da_nil rfl))))) (DE.pk d_int) (fun _ _ => rfl)) (fun h => ps_set (i := 5) sc__law_copied.nd rfl (by first | exact .inl rfl | exact .inr rfl) h))
    (ds_cons (ds_appC (d_var (pv 1)) (d_var (pv 5)) rfl rfl rfl rfl rfl)
    (ds_cons (ds_if (DW.pt (dw_or (dt_cmp (opd_ne hr.u64) (d_peek (pv 1)) (DE.pk (d_op opd_add (d_peek (pv 4)) (DE.frP (d_lst (da_cons lasts_shr (d_var (pv 5)) da_nil rfl))))) (nomark _)) (dw_or1 (dt_cmp (opd_ne hr.u64) (DE.pk (d_prop (p_Speller_banned.to hr (by decide)) gd (d_var (pv 0)) rfl)) (DE.frP (d_setSort (d_peek (pv 4)) rfl (by rfl) T.n_sorted (by decide +kernel) (by rfl) T.n_set rfl)) (nomark _))))) (ds_one (ds_ret d_bl)) ds_nil)
    (ds_one (ds_ret (d_and (d_cmp (opd_eq hr.u64) (DE.pk (d_callI (i_Speller.to hr (by decide)) gd (d_var (pv 0)) (da_cons lasts_shr (d_var (pv 2)) da_nil rfl) rfl rfl rfl)) (DE.pk (d_call (c__law_allowed.to hr (by decide)) gd (by rfl) (da_cons lasts_shr (d_var (pv 2)) (da_cons lasts_shr (d_var (pv 3)) (da_cons lasts_shr (d_var (pv 4)) da_nil rfl) rfl) rfl) (by decide) rfl rfl)) (nomark _)) (d_one (d_cmp (opd_eq hr.u64) (DE.pk (d_cmpE (own_in (o_Speller___contains__.to hr (by decide)) gd) (d_var (pv 5)) (d_var (pv 0)) rfl)) (DE.pk (d_cmp (opd_notin hr.u65) (d_peek (pv 5)) (d_peek (pv 4)) rfl)) (nomark _)))))))))
theorem b__law_values_kept {P : Program} {w : World} {K : PySem.W.Frag} {mg : Str → Option Value} {base : Heap} (T : Gls K mg) (hbase : ∃ o, base.get? sysModules = some o) (c__law_made : Cle P w K mg base 5 "_law_made" sp__law_made) (c__law_called : Cle P w K mg base 7 "_law_called" sp__law_called) (k_Speller_2_ : QNm P w K mg base 4 "Speller" [] (spMakeF Cad.c_Speller (spvOf sp_Speller___init__ 0 2 [0, 1, 2] [.kt]))) {f : Addr} {cdv : Value} {A : Around} {fr : List PySem.Env} {s : Shared} {H : Hp} {E : XK} (gd : Gd A)
    (hr : Room 7 (A.deeper (envOfC "_law_values_kept" (defScope st__law_values_kept) s.heap.objs.size f cdv))) : DSs (BodyX P w K mg base ["_law_own", "_law_caught"] "_law_values_kept" st__law_values_kept f cdv A fr s H E) (defBody st__law_values_kept) m__law_values_kept :=
  (ds_cons (ds_setC (d_lst (da_cons lasts_shr (d_strc (by decide +kernel)) da_nil rfl)) (fun h => ps_set (i := 0) sc__law_values_kept.nd rfl (by first | exact .inl rfl | exact .inr rfl) h))
    (ds_cons (ds_set (DE.frz (d_lst (da_cons lasts_shr (d_call (c__law_made.to hr (by decide)) gd (by rfl) (da_cons lasts_shr (d_var (pv 0)) (da_cons lasts_shr (DE.frz (d_lst da_nil)) da_nil rfl) rfl) (by decide) rfl rfl) (da_cons lasts_shr (d_call (c__law_made.to hr (by decide)) gd (by rfl) (da_cons lasts_shr d_int (da_cons lasts_shr (DE.frz (d_lst (da_cons lasts_shr (d_var (pv 0)) da_nil rfl))) da_nil rfl) rfl) (by decide) rfl rfl) (da_cons lasts_shr (d_call (c__law_called.to hr (by decide)) gd (by rfl) (da_cons lasts_shr (DE.frz (d_callVF (k_Speller_2_.to hr (by decide)) gd (by rfl) (daj_pos (da_cons lasts_shr d_int da_nil rfl) rfl (fun _ => rfl)) (by decide))) (da_cons lasts_shr (d_var (pv 0)) da_nil rfl) rfl) (by decide) rfl rfl) da_nil rfl) rfl) rfl))) (fun h => ps_set (i := 1) sc__law_values_kept.nd rfl (by first | exact .inl rfl | exact .inr rfl) h))
    (ds_cons (ds_appC (d_var (pv 0)) d_int rfl rfl rfl rfl rfl)
    (ds_one (ds_ret (d_hidE (d_cmp (opd_eq hr.u64) (d_peek (pv 1)) (DE.frP (d_lst (da_cons lasts_shr (d_tup (da_cons lasts_shr (d_strc (by decide +kernel)) (da_cons lasts_shr (d_var (pv 0)) da_nil rfl) rfl)) (da_cons lasts_shr (d_tup (da_cons lasts_shr (d_strc (by decide +kernel)) (da_cons lasts_shr (d_var (pv 0)) da_nil rfl) rfl)) (da_cons lasts_shr (d_tup (da_cons lasts_shr (d_strc (by decide +kernel)) (da_cons lasts_shr (d_var (pv 0)) da_nil rfl) rfl)) da_nil rfl) rfl) rfl))) (nomark _))))))))
theorem b_law {P : Program} {w : World} {K : PySem.W.Frag} {mg : Str → Option Value} {base : Heap} (T : Gls K mg) (hbase : ∃ o, base.get? sysModules = some o) (c__law_purse : Cle P w K mg base 1 "_law_purse" sp__law_purse) (c__law_draw : Cle P w K mg base 1 "_law_draw" sp__law_draw) (c__law_name : Cle P w K mg base 4 "_law_name" sp__law_name) (c__law_spellings : Cle P w K mg base 2 "_law_spellings" sp__law_spellings) (c__law_choose : Cle P w K mg base 2 "_law_choose" sp__law_choose) (k_Speller_2_banned : QNm P w K mg base 4 "Speller" ["banned"] (spMakeF Cad.c_Speller (spvOf sp_Speller___init__ 1 2 [0, 1, 2] []))) (p_Speller_length : QPr P w K mg base 1 Cad.c_Speller "length" (spV 1 sp_Speller_length)) (p_Speller_banned : QPr P w K mg base 1 Cad.c_Speller "banned" (spV 1 sp_Speller_banned)) (c__law_called : Cle P w K mg base 7 "_law_called" sp__law_called) (c__law_spells : Cle P w K mg base 7 "_law_spells" sp__law_spells) (c__law_any : Cle P w K mg base 3 "_law_any" sp__law_any) (o_Speller___contains__ : QOw P w K mg base 3 Cad.c_Speller "__contains__" (spV 2 sp_Speller___contains__)) (c__law_is_word : Cle P w K mg base 1 "_law_is_word" sp__law_is_word) (c__law_made : Cle P w K mg base 5 "_law_made" sp__law_made) (c__law_due : Cle P w K mg base 2 "_law_due" sp__law_due) (c__law_copied : Cle P w K mg base 7 "_law_copied" sp__law_copied) (c__law_values_kept : Cle P w K mg base 8 "_law_values_kept" sp__law_values_kept) (k_Speller_2_ : QNm P w K mg base 4 "Speller" [] (spMakeF Cad.c_Speller (spvOf sp_Speller___init__ 0 2 [0, 1, 2] [.kt]))) {f : Addr} {cdv : Value} {A : Around} {fr : List PySem.Env} {s : Shared} {H : Hp} {E : XK} (gd : Gd A)
    (hr : Room 8 (A.deeper (envOfC "law" (defScope st_law) s.heap.objs.size f cdv))) : DSs (BodyX P w K mg base ["_law_script", "_law_start", "_law_purse_here", "_law_length", "_law_turn", "_law_name_here", "_law_codes", "_law_barred", "_law_look", "_law_passed", "_law_speller", "_law_thing", "_law_some", "_law_bad"] "law" st_law f cdv A fr s H E) (defBody st_law) m_law :=
  (ds_cons (ds_for (passes_of rfl) rfl (di_rng1 (by rfl) T.n_range (da_cons lasts_shr (d_callB (calld_max rfl) (da_cons lasts_pk (DE.pk d_int) (da_cons lasts_pk (DE.pk (d_callB (calld_min rfl) (da_cons lasts_pk (DE.pk d_int) (da_cons lasts_pk (DE.pk (d_callB calld_len (da_cons lasts_pk (d_peek (pv 0)) da_nil rfl) (by rfl) T.n_len (by decide +kernel) (by decide) (by decide) rfl rfl)) da_nil rfl) rfl) (by rfl) T.n_min (by decide +kernel) (by decide) (by decide) rfl rfl)) da_nil rfl) rfl) (by rfl) T.n_max (by decide +kernel) (by decide) (by decide) rfl rfl) da_nil rfl) rfl) (dg_name (pg_name (i := 1) sc_law.nd rfl (by first | exact .inl rfl | exact .inr rfl))) (ds_cons (ds_setPur (d_callF (c__law_purse.to hr (by decide)) gd (by rfl) (da_cons lasts_shr (d_var (pv 0)) (da_cons lasts_shr (d_var (pv 1)) da_nil rfl) rfl) (by decide) rfl rfl) (fun h => ps_set (i := 2) sc_law.nd rfl (by first | exact .inl rfl | exact .inr rfl) h))
    (ds_cons (ds_set (d_op opd_add (DE.pk d_int) (DE.pk (d_call (c__law_draw.to hr (by decide)) gd (by rfl) (da_cons lasts_shr (d_var (pv 2)) (da_cons lasts_shr d_int da_nil rfl) rfl) (by decide) rfl rfl))) (fun h => ps_set (i := 3) sc_law.nd rfl (by first | exact .inl rfl | exact .inr rfl) h))
    (ds_one (ds_for (passes_of rfl) rfl (di_rng1 (by rfl) T.n_range (da_cons lasts_shr d_int da_nil rfl) rfl) (dg_name (pg_name (i := 4) sc_law.nd rfl (by first | exact .inl rfl | exact .inr rfl))) (ds_cons (ds_set (d_call (c__law_name.to hr (by decide)) gd (by rfl) (da_cons lasts_shr (d_var (pv 2)) da_nil rfl) (by decide) rfl rfl) (fun h => ps_set (i := 5) sc_law.nd rfl (by first | exact .inl rfl | exact .inr rfl) h))
    (ds_cons (ds_set (d_call (c__law_spellings.to hr (by decide)) gd (by rfl) (da_cons lasts_shr (d_var (pv 5)) (da_cons lasts_shr (d_var (pv 3)) da_nil rfl) rfl) (by decide) rfl rfl) (fun h => ps_set (i := 6) sc_law.nd rfl (by first | exact .inl rfl | exact .inr rfl) h))
    (ds_cons (ds_compS fun _ _ hE => ps_comp (i := 7) (own := [("_law_look", 8)]) rfl sc_law.nd rfl rfl rfl (di_rng1 (by rfl) T.n_range (da_cons lasts_shr (d_call (c__law_draw.to hr (by decide)) gd (by rfl) (da_cons lasts_shr (d_var (pv 2)) (da_cons lasts_shr d_int da_nil rfl) rfl) (by decide) rfl rfl) da_nil rfl) rfl) (blkOk_by (N := ["_law_script", "_law_start", "_law_purse_here", "_law_length", "_law_turn", "_law_name_here", "_law_codes", "_law_barred", "_law_look", "_law_passed", "_law_speller", "_law_thing", "_law_some", "_law_bad"]) (sc := defScope st_law) (own := [("_law_look", 8)]) (by decide +kernel)) (fun _ _ _ _ _ => (dgw_name (pg_name (i := 8) sc_law.nd rfl (by first | exact .inl rfl | exact .inr rfl)) (by simp))) (fun _ _ _ _ _ => dts_nil) (fun _ _ _ _ _ => (d_call (c__law_choose.to hr (by decide)) gd (by rfl) (da_cons lasts_shr (d_var (pv 2)) (da_cons lasts_shr (d_op opd_add (d_peek (pv 6)) (DE.frP (d_lst (da_cons lasts_shr (d_cut (DE.pk (d_strc (by decide +kernel))) do_none (do_some (d_peek (pv 3)))) da_nil rfl)))) da_nil rfl) rfl) (by decide) rfl rfl)) (fun _ => rfl) hE)
    (ds_cons (ds_set (d_call (c__law_choose.to hr (by decide)) gd (by rfl) (da_cons lasts_shr (d_var (pv 2)) (da_cons lasts_shr (DE.frz (d_lst (da_cons lasts_shr (d_listC (da_cons lasts_pk (d_peek (pv 7)) da_nil rfl) (by rfl) T.n_list (by decide +kernel) (by decide) (by decide) rfl rfl) (da_cons lasts_shr (d_callTy calld_tuple (da_cons lasts_pk (d_peek (pv 7)) da_nil rfl) (by rfl) T.n_tuple (by decide +kernel) (by decide) (by decide) rfl rfl) da_nil rfl) rfl))) da_nil rfl) rfl) (by decide) rfl rfl) (fun h => ps_set (i := 9) sc_law.nd rfl (by first | exact .inl rfl | exact .inr rfl) h))
    (ds_cons (ds_set (DE.frz (d_callVF (k_Speller_2_banned.to hr (by decide)) gd (by rfl) (daj_kw (da_cons lasts_shr (d_var (pv 3)) da_nil rfl) (dk_cons (d_var (pv 9)) dk_nil) (fun _ => rfl) (fun _ => rfl) rfl (fun _ => rfl)) (by decide))) (fun h => ps_set (i := 10) sc_law.nd rfl (by first | exact .inl rfl | exact .inr rfl) h))
    (ds_cons (ds_if (DW.pt (dw_or (dt_cmp (opd_ne hr.u64) (DE.pk (d_prop (p_Speller_length.to hr (by decide)) gd (d_var (pv 10)) rfl)) (d_peek (pv 3)) (nomark _)) (dw_or1 (dt_cmp (opd_ne hr.u64) (DE.frP (d_propF (p_Speller_banned.to hr (by decide)) gd (d_var (pv 10)) rfl)) (DE.frP (d_setSort (d_peek (pv 7)) rfl (by rfl) T.n_sorted (by decide +kernel) (by rfl) T.n_set rfl)) (nomark _))))) (ds_one (ds_ret d_bl)) ds_nil)
    (ds_cons (ds_appNT (d_propF (p_Speller_banned.to hr (by decide)) gd (d_var (pv 10)) rfl) rfl rfl rfl rfl rfl)
    (ds_cons (ds_expr (DE.pk (d_call (c__law_called.to hr (by decide)) gd (by rfl) (da_cons lasts_shr (d_var (pv 10)) (da_cons lasts_shr (d_strc (by decide +kernel)) da_nil rfl) rfl) (by decide) rfl rfl)) rfl)
    (ds_cons (ds_if (dt_not (dt_tru (DE.pk (d_call (c__law_spells.to hr (by decide)) gd (by rfl) (da_cons lasts_shr (d_var (pv 2)) (da_cons lasts_shr (d_var (pv 10)) (da_cons lasts_shr (d_var (pv 5)) (da_cons lasts_shr (d_var (pv 3)) (da_cons lasts_shr (d_var (pv 7)) da_nil rfl) rfl) rfl) rfl) rfl) (by decide) rfl rfl)) (fun _ => rfl))) (ds_one (ds_ret d_bl)) ds_nil)
    (ds_cons (ds_for (passes_of rfl) rfl (di_seq (d_op opd_add (DE.pk (d_op opd_add (DE.pk (d_cut (d_peek (pv 6)) do_none (do_some (DE.pk d_int)))) (d_peek (pv 7)))) (DE.frP (d_lst (da_cons lasts_shr (d_call (c__law_any.to hr (by decide)) gd (by rfl) (da_cons lasts_shr (d_var (pv 2)) da_nil rfl) (by decide) rfl rfl) (da_cons lasts_shr (d_cut (DE.pk (d_strc (by decide +kernel))) do_none (do_some (d_peek (pv 3)))) (da_cons lasts_shr (d_var (pv 5)) da_nil rfl) rfl) rfl))))) (dg_name (pg_name (i := 11) sc_law.nd rfl (by first | exact .inl rfl | exact .inr rfl))) (ds_one (ds_if (dt_cmp (opd_ne hr.u64) (DE.pk (d_callB (calld_repr gd hr.u60 hbase) (da_cons lasts_pk (DE.pk (d_cmpE (own_in (o_Speller___contains__.to hr (by decide)) gd) (d_var (pv 11)) (d_var (pv 10)) rfl)) da_nil rfl) (by rfl) T.n_repr (by decide +kernel) (by decide) (by decide) rfl rfl)) (DE.pk (d_callB (calld_repr gd hr.u60 hbase) (da_cons lasts_pk (DE.pk (d_and (d_call (c__law_is_word.to hr (by decide)) gd (by rfl) (da_cons lasts_shr (d_var (pv 11)) (da_cons lasts_shr (d_var (pv 3)) (da_cons lasts_shr (d_var (pv 3)) da_nil rfl) rfl) rfl) (by decide) rfl rfl) (d_one (d_cmp (opd_notin hr.u65) (d_peek (pv 11)) (d_peek (pv 7)) rfl)))) da_nil rfl) (by rfl) T.n_repr (by decide +kernel) (by decide) (by decide) rfl rfl)) (nomark _)) (ds_one (ds_ret d_bl)) ds_nil)) (fun _ => rfl))
    (ds_cons (ds_set (d_call (c__law_any.to hr (by decide)) gd (by rfl) (da_cons lasts_shr (d_var (pv 2)) da_nil rfl) (by decide) rfl rfl) (fun h => ps_set (i := 11) sc_law.nd rfl (by first | exact .inl rfl | exact .inr rfl) h))
    (ds_cons (ds_if (DW.pt (dw_and (dt_not (dt_tru (DE.pk (d_call (c__law_is_word.to hr (by decide)) gd (by rfl) (da_cons lasts_shr (d_var (pv 11)) (da_cons lasts_shr d_int (da_cons lasts_shr d_int da_nil rfl) rfl) rfl) (by decide) rfl rfl)) (fun _ => rfl))) (dw_and1 (dt_cmp (opd_ne hr.u64) (DE.pk (d_callB (calld_repr gd hr.u60 hbase) (da_cons lasts_pk (DE.pk (d_call (c__law_called.to hr (by decide)) gd (by rfl) (da_cons lasts_shr (d_var (pv 10)) (da_cons lasts_shr (d_var (pv 11)) da_nil rfl) rfl) (by decide) rfl rfl)) da_nil rfl) (by rfl) T.n_repr (by decide +kernel) (by decide) (by decide) rfl rfl)) (DE.pk (d_callB (calld_repr gd hr.u60 hbase) (da_cons lasts_pk (DE.pk (d_tup (da_cons lasts_shr (d_strc (by decide +kernel)) (da_cons lasts_shr (d_var (pv 11)) da_nil rfl) rfl))) da_nil rfl) (by rfl) T.n_repr (by decide +kernel) (by decide) (by decide) rfl rfl)) (nomark _))))) (ds_one (ds_ret d_bl)) ds_nil)
    (ds_cons (ds_set (d_op opd_add (d_peek (pv 7)) (DE.frP (d_lst (da_cons lasts_shr (d_call (c__law_any.to hr (by decide)) gd (by rfl) (da_cons lasts_shr (d_var (pv 2)) da_nil rfl) (by decide) rfl rfl) (da_cons lasts_shr (d_call (c__law_any.to hr (by decide)) gd (by rfl) (da_cons lasts_shr (d_var (pv 2)) da_nil rfl) (by decide) rfl rfl) da_nil rfl) rfl)))) (fun h => ps_set (i := 12) sc_law.nd rfl (by first | exact .inl rfl | exact .inr rfl) h))
    (ds_cons (ds_set (d_call (c__law_choose.to hr (by decide)) gd (by rfl) (da_cons lasts_shr (d_var (pv 2)) (da_cons lasts_shr (DE.frz (d_lst (da_cons lasts_shr (d_call (c__law_any.to hr (by decide)) gd (by rfl) (da_cons lasts_shr (d_var (pv 2)) da_nil rfl) (by decide) rfl rfl) (da_cons lasts_shr (d_var (pv 3)) (da_cons lasts_shr (d_var (pv 3)) (da_cons lasts_shr (d_var (pv 3)) da_nil rfl) rfl) rfl) rfl))) da_nil rfl) rfl) (by decide) rfl rfl) (fun h => ps_set (i := 13) sc_law.nd rfl (by first | exact .inl rfl | exact .inr rfl) h))
    (ds_cons (ds_if (dt_cmp (opd_ne hr.u64) (DE.pk (d_callB (calld_repr gd hr.u60 hbase) (da_cons lasts_pk (DE.pk (d_call (c__law_made.to hr (by decide)) gd (by rfl) (da_cons lasts_shr (d_var (pv 13)) (da_cons lasts_shr (d_var (pv 12)) da_nil rfl) rfl) (by decide) rfl rfl)) da_nil rfl) (by rfl) T.n_repr (by decide +kernel) (by decide) (by decide) rfl rfl)) (DE.pk (d_callB (calld_repr gd hr.u60 hbase) (da_cons lasts_pk (DE.pk (d_call (c__law_due.to hr (by decide)) gd (by rfl) (da_cons lasts_shr (d_var (pv 13)) (da_cons lasts_shr (d_var (pv 12)) da_nil rfl) rfl) (by decide) rfl rfl)) da_nil rfl) (by rfl) T.n_repr (by decide +kernel) (by decide) (by decide) rfl rfl)) (nomark _)) (ds_one (ds_ret d_bl)) ds_nil)
    (ds_one (ds_if (DW.pt (dw_and (dt_tru (DE.pk (d_callB calld_isi (da_cons lasts_pk (d_peek (pv 9)) (da_cons lasts_pk (DE.pk (d_type (n := "list") (by rfl) T.n_list (by decide +kernel) (by decide) (by decide))) da_nil rfl) rfl) (by rfl) T.n_isinstance (by decide +kernel) (by decide) (by decide) rfl rfl)) (fun _ => rfl)) (dw_and1 (dt_not (dt_tru (DE.pk (d_call (c__law_copied.to hr (by decide)) gd (by rfl) (da_cons lasts_shr (d_var (pv 10)) (da_cons lasts_shr (d_var (pv 9)) (da_cons lasts_shr (d_var (pv 5)) (da_cons lasts_shr (d_var (pv 3)) (da_cons lasts_shr (d_var (pv 7)) da_nil rfl) rfl) rfl) rfl) rfl) (by decide) rfl rfl)) (fun _ => rfl)))))) (ds_one (ds_ret d_bl)) ds_nil))))))))))))))))) (fun _ => rfl))))) (fun _ => rfl))
    (ds_one (ds_ret (d_and (d_call0 (c__law_values_kept.to hr (by decide)) gd (by rfl) (by decide)) (d_one (d_cmp (opd_eqN hr.u0) (DE.pk (d_prop (p_Speller_banned.to hr (by decide)) gd (DE.frz (d_callVF (k_Speller_2_.to hr (by decide)) gd (by rfl) (daj_pos (da_cons lasts_shr d_int da_nil rfl) rfl (fun _ => rfl)) (by decide))) rfl)) (DE.frP (d_lst da_nil)) (nomark _)))))))
end
end L2.DL
namespace L2.DL
open PySem PySem.Spec PyProof.Rows
local macro_rules | `(tactic| walk_at "ev") => `(tactic| first | refine i_var (by rfl) ?_ | refine i_peek (by rfl) ?_ | refine i_varO (by rfl) ?_ | refine i_peekO (by rfl) ?_ | refine g_fldC (by assumption) (by rfl) ?_ | refine g_fld (by rfl) ?_ | refine j_clrO (by rfl) ?_ | refine j_clrL (by rfl) ?_ | refine j_ext (by rfl) ?_ | refine j_retO (by rfl) ?_ | refine j_retOO (by rfl) ?_ | refine j_app (by rfl) ?_ | refine j_aug (by rfl) ?_ | refine i_callLF (by rfl) ?_ | refine i_callL (by rfl) ?_ | refine j_appPop (by rfl) (by rfl) ?_ | refine j_ins (by rfl) ?_ | refine j_putO (by rfl) ?_ | refine j_tupD (by rfl) ?_ | refine j_gsF (by rfl) ?_ | refine l_size (Nat.le_of_ble_eq_true (by rfl)) ?_ | dsimp only [List.set_cons_succ, List.set_cons_zero])
local macro_rules | `(tactic| walk_at "ev") => `(tactic| with_reducible first | refine j_tupD (by with_unfolding_all rfl) ?_ | refine j_gsF (by with_unfolding_all rfl) ?_ | refine l_size (Nat.le_of_ble_eq_true (by with_unfolding_all rfl)) ?_)
local macro_rules | `(tactic| walk_at "ev") => `(tactic| with_reducible first | refine g_fldC (by assumption) (by with_unfolding_all rfl) ?_ | refine g_fld (by with_unfolding_all rfl) ?_ | refine j_clrO (by with_unfolding_all rfl) ?_ | refine j_clrL (by with_unfolding_all rfl) ?_ | refine j_ext (by with_unfolding_all rfl) ?_ | refine j_retO (by with_unfolding_all rfl) ?_ | refine j_retOO (by with_unfolding_all rfl) ?_ | refine j_app (by with_unfolding_all rfl) ?_ | refine j_aug (by with_unfolding_all rfl) ?_ | refine i_callLF (by with_unfolding_all rfl) ?_ | refine i_callL (by with_unfolding_all rfl) ?_ | refine j_appPop (by with_unfolding_all rfl) (by with_unfolding_all rfl) ?_ | refine j_ins (by with_unfolding_all rfl) ?_ | refine j_putO (by with_unfolding_all rfl) ?_)
local macro_rules | `(tactic| walk_at "ev") => `(tactic| with_reducible first | refine o_str ?_ | refine o_scr ?_ | refine p_par2 ?_ | refine g_neg ?_ | refine g_ordS ?_ | refine g_inS ?_ | refine g_lenR ?_ | refine g_2I ?_ | refine g_tupT ?_ | refine g_cutT ?_ | refine i_var (by with_unfolding_all rfl) ?_ | refine i_peek (by with_unfolding_all rfl) ?_ | refine i_varO (by with_unfolding_all rfl) ?_ | refine i_peekO (by with_unfolding_all rfl) ?_)
local macro_rules | `(tactic| walk_at "ev") => `(tactic| with_reducible first | refine i_tupX ?_ | refine x_txs ?_ | refine x_nil ?_ | refine x_one ?_ | refine i_tx1 ?_ | refine i_un ?_ | refine i_rng2 ?_ | refine t_int ?_ | refine t_lst ?_ | refine t_tup ?_ | refine t_non ?_ | refine o_tup ?_ | refine o_kt ?_ | refine g_dictD ?_)
local macro_rules | `(tactic| walk_at "ev") => `(tactic| with_reducible first | refine j_par ?_ | refine j_setPur ?_ | refine j_putC ?_ | refine j_retC2 ?_ | refine j_clrD ?_ | refine i_txN ?_ | refine g_find3 ?_ | refine i_dri ?_ | refine j_callR ?_ | refine i_ist ?_ | refine i_andV ?_ | refine i_orV ?_ | refine i_notV ?_ | refine i_chain ?_)
local macro_rules | `(tactic| walk_at "ev") => `(tactic| with_reducible first | refine i_lenO ?_ | refine i_boolO ?_ | refine i_isiO ?_ | refine j_raise ?_ | refine j_tryAs ?_ | refine j_tryO ?_ | refine j_tryT ?_ | refine i_zipA ?_ | refine z_lst ?_ | refine z_tup ?_ | refine g_eqNT ?_ | refine j_fldS ?_ | refine j_fldC ?_ | refine j_setC ?_)
local macro_rules | `(tactic| walk_at "ev") => `(tactic| with_reducible first | refine i_cm ?_ | refine g_intI ?_ | refine g_intB ?_ | refine i_cntB ?_ | refine i_posK ?_ | refine i_star ?_ | refine q_tup ?_ | refine q_lst ?_ | refine i_callV ?_ | refine i_callVF ?_ | refine i_methR ?_ | refine i_methF ?_ | refine i_opE ?_ | refine i_negO ?_)
local macro_rules | `(tactic| walk_at "ev") => `(tactic| with_reducible first | refine j_appC ?_ | refine i_truO ?_ | refine i_isHd ?_ | refine g_eqNX ?_ | refine g_inX ?_ | refine g_ninX ?_ | refine g_lenX ?_ | refine o_tupX ?_ | refine g_tupX ?_ | refine i_idx ?_ | refine j_asg2 ?_ | refine j_parOO ?_ | refine j_parF ?_ | refine j_parOS ?_)
local macro_rules | `(tactic| walk_at "ev") => `(tactic| with_reducible first | refine i_compD ?_ | refine i_compD2 ?_ | refine i_kv ?_ | refine p_l ?_ | refine i_dget ?_ | refine i_dget2 ?_ | refine i_enumT ?_ | refine e_lst ?_ | refine e_tup ?_ | refine r_none ?_ | refine r_str ?_ | refine i_dpop ?_ | refine i_tab ?_ | refine j_augS ?_)
local macro_rules | `(tactic| walk_at "ev") => `(tactic| with_reducible first | refine p_par3 ?_ | refine g_listNL ?_ | refine g_listNT ?_ | refine g_setSortK ?_ | refine g_sortedL ?_ | refine j_augF ?_ | refine i_dw ?_ | refine i_lift ?_ | refine i_dl ?_ | refine l_lst ?_ | refine l_tup ?_ | refine w_dct ?_ | refine j_forX ?_ | refine i_compX ?_)
local macro_rules | `(tactic| walk_at "ev") => `(tactic| with_reducible first | refine j_gsNil ?_ | refine j_drop ?_ | refine j_retR ?_ | refine j_retF ?_ | refine i_callF ?_ | refine i_callP ?_ | refine i_rng1 ?_ | refine i_isi ?_ | refine i_isb ?_ | refine j_par2 ?_ | refine i_callR ?_ | refine i_unF ?_ | refine g_str ?_ | refine j_par3 ?_)
local macro_rules | `(tactic| walk_at "ev") => `(tactic| with_reducible first | refine i_pos ?_ | refine i_meth ?_ | refine i_prop ?_ | refine j_setO ?_ | refine i_cut ?_ | refine i_part ?_ | refine i_nop ?_ | refine g_listT ?_ | refine g_listL ?_ | refine g_tupL ?_ | refine g_cutL ?_ | refine g_lenT ?_ | refine j_gsC ?_ | refine j_gsG ?_)
local macro_rules | `(tactic| walk_at "ev") => `(tactic| with_reducible first | refine g_neI ?_ | refine g_I0 ?_ | refine g_addI ?_ | refine g_ordI ?_ | refine j_for ?_ | refine i_tru ?_ | refine t_bl ?_ | refine i_andT ?_ | refine i_orT ?_ | refine i_notT ?_ | refine j_asg ?_ | refine i_ifE ?_ | refine g_eqNL ?_ | refine g_lenL ?_)
local macro_rules | `(tactic| walk_at "ev") => `(tactic| with_reducible first | refine i_tup ?_ | refine i_lst ?_ | refine j_ret ?_ | refine j_gN ?_ | refine i_itT ?_ | refine i_itF ?_ | refine i_itNT ?_ | refine i_itNF ?_ | refine o_lst ?_ | refine i_iter ?_ | refine i_comp ?_ | refine g_eqS ?_ | refine g_eqI ?_ | refine g_neS ?_)
local macro_rules | `(tactic| walk_at "ev") => `(tactic| with_reducible first | refine j_seq ?_ | refine i_peek (by with_unfolding_all rfl) ?_ | refine i_op ?_ | refine i_c ?_ | refine i_cons ?_ | refine i_var (by with_unfolding_all rfl) ?_ | refine i_nil ?_ | refine i_tst ?_ | refine j_set ?_ | refine j_if ?_ | refine j_next ?_ | refine i_map ?_ | refine i_callB ?_ | refine i_call ?_)
local macro_rules | `(tactic| decreasing_trivial) => `(tactic| repeat walk_at "ev")
section
variable [Cad]
/-! _law_purse -/
theorem pure__law_purse : PU m__law_purse 5 2 sp__law_purse := fun ds C PR PX ⟨ns, i, e, hl, hi, hb, q⟩ => ⟨by rw [e]; rfl, by
    subst e
    change m__law_purse _ _ [.shr (.scr ns), .shr (.int i), .non, .non, .non] C
    unfold m__law_purse
    decreasing_trivial
    refine g_mulI (mulOk_small (by omega) (by decide)) ?_
    decreasing_trivial
    refine forL_inv (fun _ env C' => C' = C ∧ ∃ (m : Int) (s : Slot), 0 ≤ m ∧ m < 4294967296 ∧ env = [.shr (.scr ns), .shr (.int i), .shr (.int m), s, .non]) ?_ ?_ ?_
    · exact ⟨rfl, _, _, by omega, by omega, rfl⟩
    · rintro k d env C' nx' hd ⟨rfl, m, s, m0, m1, rfl⟩ hn
      rw [List.getElem?_map] at hd
      obtain ⟨z, hz, rfl⟩ := Option.map_eq_some_iff.mp hd
      have hz1 := lt_bits (hb z (List.mem_of_getElem? hz))
      have hm1 : m.natAbs < 2 ^ 33 := by omega
      have hp1 : (m * 50021).natAbs < 2 ^ (33 + 20) := bits_prod hm1 (by decide)
      have hp2 : (z * z).natAbs < 2 ^ (1048576 + 1048576) := bits_prod hz1 hz1
      decreasing_trivial
      refine g_mulI (mulOk_small (by omega) (by decide)) ?_
      decreasing_trivial
      refine g_mulI (mulOk_bits hz1 hz1 (by decide)) ?_
      decreasing_trivial
      have hp3 : (m * 50021 + z * z).natAbs < 2 ^ (1048576 + 1048576 + 1) := bits_sum (Nat.lt_of_lt_of_le hp1 (Nat.pow_le_pow_right (by decide) (by decide))) hp2
      have hp4 : (m * 50021 + z * z + 29).natAbs < 2 ^ (1048576 + 1048576 + 1 + 1) := bits_sum hp3 (Nat.lt_of_lt_of_le (show (29 : Int).natAbs < 2 ^ 5 by decide) (Nat.pow_le_pow_right (by decide) (by decide)))
      refine g_I (powOk_bits (k := 2) hp4 (by decide)) ?_
      decreasing_trivial
      refine g_I (by decide) ?_
      decreasing_trivial
      exact hn _ _ ⟨rfl, _, _, by omega, by omega, rfl⟩
    · rintro env C' ⟨rfl, m, s, m0, m1, rfl⟩
      decreasing_trivial
      have fin : ∀ x : Int, sRetF (mDct (mPCons (mC (.str [100, 105, 103, 105, 116, 115])) (mVar 4) (mPCons (mC (.str [109, 105, 120, 101, 100])) (mVar 2) mPNil))) (fun x _ C => PX x C) ⟨fun _ C => PR (.shr .non) C, PR, fun _ _ => False, fun _ _ => False⟩ [.shr (.scr ns), .shr (.int i), .shr (.int m), s, .shr (.int x)] C' := fun x => by
        exact ⟨_, rfl, _, rfl, (by show 2 ≤ 15; decide), q x m m0 m1⟩
      refine i_ite (fun h => ?_) fun h => ?_
      · have h2 : (i : Int) < ns.length := of_decide_eq_true h
        obtain ⟨z, hz, hx⟩ := atI_int (xs := ns) (i := i) (by omega) h2
        decreasing_trivial
        refine g_ixR hx ?_
        decreasing_trivial
        refine g_I (powOk_small (k := 18) (by decide) (by decide)) ?_
        decreasing_trivial
        refine i_ite (fun h3 => ?_) fun h3 => ?_
        · decreasing_trivial
          refine g_ixR hx ?_
          decreasing_trivial
          refine g_I (powOk_small (k := 18) (by decide) (by decide)) ?_
          decreasing_trivial
          exact fin _
        · decreasing_trivial
          exact fin _
      · decreasing_trivial
        exact fin _⟩
/-! _law_draw -/
theorem pure__law_draw : PUd m__law_draw 3 true := fun a n i j C n0 n1 j0 j1 hc => by
    have hc' : C a = some (.dct [(.inr dgT, .int i), (.inr mxT, .int j)]) := hc
    change m__law_draw E0 _ [.shr (.cell a), .shr (.int n), .non] C
    unfold m__law_draw
    decreasing_trivial
    refine g_ixCD hc' rfl rfl rfl ?_
    decreasing_trivial
    refine i_ite (fun h => ?_) fun h => ?_
    · decreasing_trivial
      refine g_ixCD hc' rfl rfl rfl ?_
      decreasing_trivial
      refine g_I n0 ?_
      decreasing_trivial
      refine g_ixCD hc' rfl rfl rfl ?_
      decreasing_trivial
      refine g_I (divOk_of n0 n1) ?_
      decreasing_trivial
      refine g_putCD hc' rfl (by show 2 < sizeLine; decide) ?_
      decreasing_trivial
      exact ⟨i % n, i / n, j, Int.emod_nonneg _ (by omega), Int.emod_lt_of_pos _ n0, j0, j1, rfl, rfl⟩
    · decreasing_trivial
      refine g_ixCD hc' rfl rfl rfl ?_
      decreasing_trivial
      refine g_mulI (mulOk_small (by omega) (by decide)) ?_
      decreasing_trivial
      refine g_I (by decide) ?_
      decreasing_trivial
      refine g_putCD hc' rfl (by show 2 < sizeLine; decide) ?_
      decreasing_trivial
      generalize hj : (j * 40692 + 3791) % 2147483399 = j'
      have q0 : 0 ≤ j' := by rw [← hj]; exact Int.emod_nonneg _ (by decide)
      have q1 : j' < 2147483399 := by rw [← hj]; exact Int.emod_lt_of_pos _ (by decide)
      refine g_ixCD cput_same rfl rfl rfl ?_
      decreasing_trivial
      refine g_I (powOk_small (k := 2) (by omega) (by decide)) ?_
      decreasing_trivial
      refine g_I (by decide) ?_
      decreasing_trivial
      generalize hx : (j' ^ Int.toNat 2) % 2147483563 = x
      have x0 : 0 ≤ x := by rw [← hx]; exact Int.emod_nonneg _ (by decide)
      have x1 : x < 2147483563 := by rw [← hx]; exact Int.emod_lt_of_pos _ (by decide)
      refine g_I (powOk_small (k := 3) (by omega) (by decide)) ?_
      decreasing_trivial
      refine g_I (by decide) ?_
      decreasing_trivial
      refine g_I (divOk_of (by decide) (by decide)) ?_
      decreasing_trivial
      refine g_I n0 ?_
      exact ⟨_, i, j', Int.emod_nonneg _ (by omega), Int.emod_lt_of_pos _ n0, q0, by omega, rfl, rfl⟩
/-! _law_choose -/
theorem pure__law_choose : PU m__law_choose 2 2 sp__law_choose := fun ds C PR PX ⟨a, x, xs, e, hc, hx, ne, hl, q⟩ => ⟨by rw [e]; rfl, by
    subst e
    have hp : 0 < xs.length := List.length_pos_iff.mpr ne
    rcases hx with rfl | rfl | ⟨s, rfl, rfl⟩
    · change m__law_choose _ _ [.shr (.cell a), .shr (.lst xs)] C
      unfold m__law_choose
      decreasing_trivial
      refine ⟨a, _, rfl, hc, by omega, by omega, fun k k0 k1 => ?_⟩
      obtain ⟨y, hy, hx⟩ := atI_int k0 k1
      refine g_ixL hx ?_
      exact q y hy
    · change m__law_choose _ _ [.shr (.cell a), .shr (.tup xs)] C
      unfold m__law_choose
      decreasing_trivial
      refine ⟨a, _, rfl, hc, by omega, by omega, fun k k0 k1 => ?_⟩
      obtain ⟨y, hy, hx⟩ := atI_int k0 k1
      refine g_ixT hx ?_
      exact q y hy
    · rw [List.length_map] at hp hl
      change m__law_choose _ _ [.shr (.cell a), .shr (.str s)] C
      unfold m__law_choose
      decreasing_trivial
      refine g_lenS hl ?_
      decreasing_trivial
      refine ⟨a, _, rfl, hc, by omega, by omega, fun k k0 k1 => ?_⟩
      obtain ⟨y, hy, hx⟩ := atI_int k0 k1
      refine g_ixS hl hx ?_
      exact q _ (List.mem_map.mpr ⟨y, hy, rfl⟩)⟩
/-! _law_word -/
theorem pure__law_word : PU m__law_word 4 3 sp__law_word := fun ds C PR PX ⟨a, s, n, e, hc, ne, hl, n0, n1, q⟩ => ⟨by rw [e]; rfl, by
    subst e
    change m__law_word _ _ [.shr (.cell a), .shr (.str s), .shr (.int n), .non] C
    unfold m__law_word
    decreasing_trivial
    refine ⟨a, _, rfl, hc, by omega, by omega, fun k k0 k1 => ?_⟩
    decreasing_trivial
    refine r_rng1 ⟨by omega, by omega⟩ ⟨rfl, ?_⟩
    refine comp_all (R := fun y => ∃ c ∈ s, y = .str [c]) _ _ rfl (by rw [intsFrom_len]; simp; have := sizeLine_eq; omega) (fun d hd Q' hq => ?_) fun ys hl' hy => ?_
    · decreasing_trivial
      refine ⟨a, .str s, s.map fun c => .str [c], rfl, hc, .inr (.inr ⟨s, rfl, rfl⟩), by simpa using ne, by simp; omega, fun d hd => ?_⟩
      obtain ⟨c, hc, rfl⟩ := List.mem_map.mp hd
      exact hq _ ⟨c, hc, rfl⟩
    · rw [intsFrom_len] at hl'
      obtain ⟨cs, h1, h2, h3⟩ := txts_signs hy
      refine g_joinL h1 (by rw [lens_signs]; simp; omega) ?_
      rw [join_signs]
      exact q cs (by omega) (by omega) h3⟩
/-! _law_name -/
theorem pure__law_name : PU m__law_name 4 1 sp__law_name := fun ds C PR PX ⟨a, e, hc, q⟩ => ⟨by rw [e]; rfl, by
    subst e
    change m__law_name _ _ [.shr (.cell a), .non, .non, .non] C
    unfold m__law_name
    decreasing_trivial
    refine ⟨a, _, _, rfl, hc, .inl rfl, by simp, by simp, fun d hd => ?_⟩
    obtain ⟨s, rfl, s0, s1, s2⟩ := okL3_of (lo := 1) (m := 26) (by decide +kernel) hd
    decreasing_trivial
    refine ⟨a, _, _, rfl, hc, .inl rfl, by simp, by simp, fun d hd => ?_⟩
    obtain ⟨n, rfl, n0, n1⟩ := okN_of (lo := 1) (hi := 12) (by decide +kernel) hd
    decreasing_trivial
    refine ⟨a, s, n, rfl, hc, List.length_pos_iff.mp s0, by omega, by omega, by omega, fun t t0 t1 t2 => ?_⟩
    decreasing_trivial
    refine ⟨a, _, _, rfl, hc, .inl rfl, by simp, by simp, fun d hd => ?_⟩
    obtain ⟨u, rfl, u0, u1, u2⟩ := okL3_of (lo := 1) (m := 12) (by decide +kernel) hd
    decreasing_trivial
    refine ⟨a, _, _, rfl, hc, .inl rfl, by simp, by simp, fun d hd => ?_⟩
    have ht : (t.length : Int) ≤ 12 := by omega
    simp only [List.mem_cons, List.not_mem_nil, or_false, or_self] at hd
    rcases hd with rfl | rfl | rfl | rfl | rfl
    all_goals first
      | exact q t ⟨t0, by omega, fun c hc => s2 c (t2 c hc)⟩
      | exact q u ⟨u0, u1, u2⟩⟩
/-! _law_places -/
theorem pure__law_places : PU m__law_places 8 2 sp__law_places := fun ds C PR PX ⟨s, n, e, hs, hn, q⟩ => ⟨by rw [e]; rfl, by
    subst e
    change m__law_places _ _ [.shr (.str s), .shr (.int n), .non, .non, .non, .non, .non, .non] C
    unfold m__law_places
    have hz := sizeLine_eq
    have hL : ∀ k, k ≤ 3 → (placesN s.length k).length ≤ 1728 := fun k hk => Nat.le_trans (placesN_len _ _) (Nat.le_trans (Nat.pow_le_pow_left hs k) (Nat.pow_le_pow_right (by decide) hk))
    decreasing_trivial
    refine r_rng1 ⟨by omega, by omega⟩ ?_
    refine forL_inv (fun k env C' => C' = C ∧ ∃ x3 x4 x5 x6, env = [.shr (.str s), .shr (.int n), .shr (nssD (placesN s.length k)), x3, x4, x5, x6, .non]) ⟨rfl, _, _, _, _, rfl⟩ ?_ ?_
    · rintro k d env C' nx' hd ⟨rfl, x3, x4, x5, x6, rfl⟩ hx
      obtain ⟨rfl, hk⟩ := range_get hd
      have hk3 : k + 1 ≤ 3 := by omega
      have hk1 := hL (k + 1) hk3
      have hsub : ∀ j, (((placesN s.length k).take j).flatMap (extP s.length)).length ≤ 1728 := fun j => by
        refine Nat.le_trans ?_ hk1
        rw [placesN]
        have e : (placesN s.length k).flatMap (extP s.length) = ((placesN s.length k).take j).flatMap (extP s.length) ++ ((placesN s.length k).drop j).flatMap (extP s.length) := by
          rw [← List.flatMap_append, List.take_append_drop]
        rw [e, List.length_append]
        omega
      decreasing_trivial
      refine o_lst ?_
      refine forL_inv (fun j env C2 => C2 = C' ∧ ∃ x5 x6, env = [.shr (.str s), .shr (.int n), .shr (nssD (placesN s.length k)), .shr (.int (k : Nat)), .shr (nssD (((placesN s.length k).take j).flatMap (extP s.length))), x5, x6, .non]) ⟨rfl, _, _, rfl⟩ ?_ ?_
      · rintro j d env C2 nx2 hd2 ⟨rfl, x5, x6, rfl⟩ hx2
        rw [List.getElem?_map] at hd2
        obtain ⟨ps, hps, rfl⟩ := Option.map_eq_some_iff.mp hd2
        obtain ⟨hpl, hpb⟩ := mem_placesN (List.mem_of_getElem? hps)
        have hnp := nextP_le hpb
        have hj1 := hsub (j + 1)
        decreasing_trivial
        refine g_eqNL (xs := ps.map fun k => D.int (k : Nat)) ?_
        rw [show (ps.map fun k => D.int ((k : Nat) : Int)).isEmpty = ps.isEmpty from List.isEmpty_map]
        decreasing_trivial
        refine i_ite (fun h => ?_) fun h => ?_
        · obtain ⟨l, hl⟩ : ∃ l, ps.getLast? = some l := by
            cases e : ps.getLast? with
            | some l => exact ⟨l, rfl⟩
            | none =>
              rw [List.getLast?_eq_none_iff.mp e] at h
              cases h
          decreasing_trivial
          refine g_ixL (xs := ps.map fun k => D.int (k : Nat)) (x := .int (l : Nat)) (atI_last (by rw [List.getLast?_map, hl]; rfl)) ?_
          decreasing_trivial
          have e : ((l : Nat) : Int) + 1 = ((nextP ps : Nat) : Int) := by unfold nextP; rw [hl]; rfl
          rw [e]
          refine g_lenS (by omega) ?_
          decreasing_trivial
          refine r_rng2 ⟨by omega, by omega, by omega, by omega⟩ ⟨rfl, comp_pure (keep := fun _ => true) (f := fun d => D.lst (ps.map (fun k => D.int (k : Nat)) ++ [d])) _ _ rfl (by rw [intsFrom_len]; simp; omega) (fun _ _ _ hq => hq) (fun d hd _ Q' hq => ?_) ?_⟩
          · decreasing_trivial
            refine g_addL (by simp; omega) ?_
            exact hq
          · decreasing_trivial
            rw [ext_tree _ _ hnp]
            refine g_addL (by rw [List.length_map, List.length_map, ← List.length_append, ← take_flat hps]; omega) ?_
            decreasing_trivial
            refine hx2 _ _ ⟨rfl, .shr (nsD ps), .shr (.int (nextP ps : Nat)), ?_⟩
            rw [show D.lst (List.map nsD (((placesN s.length k).take j).flatMap (extP s.length)) ++ List.map nsD (extP s.length ps)) = nssD (((placesN s.length k).take (j + 1)).flatMap (extP s.length)) by rw [take_flat hps, nssD, List.map_append]]
        · have hnil : ps = [] := by
            cases ps with
            | nil => rfl
            | cons a r => cases h
          decreasing_trivial
          have e : (0 : Int) = ((nextP ps : Nat) : Int) := by subst hnil; rfl
          rw [e]
          refine g_lenS (by omega) ?_
          decreasing_trivial
          refine r_rng2 ⟨by omega, by omega, by omega, by omega⟩ ⟨rfl, comp_pure (keep := fun _ => true) (f := fun d => D.lst (ps.map (fun k => D.int (k : Nat)) ++ [d])) _ _ rfl (by rw [intsFrom_len]; simp; omega) (fun _ _ _ hq => hq) (fun d hd _ Q' hq => ?_) ?_⟩
          · decreasing_trivial
            refine g_addL (by simp; omega) ?_
            exact hq
          · decreasing_trivial
            rw [ext_tree _ _ hnp]
            refine g_addL (by rw [List.length_map, List.length_map, ← List.length_append, ← take_flat hps]; omega) ?_
            decreasing_trivial
            refine hx2 _ _ ⟨rfl, .shr (nsD ps), .shr (.int (nextP ps : Nat)), ?_⟩
            rw [show D.lst (List.map nsD (((placesN s.length k).take j).flatMap (extP s.length)) ++ List.map nsD (extP s.length ps)) = nssD (((placesN s.length k).take (j + 1)).flatMap (extP s.length)) by rw [take_flat hps, nssD, List.map_append]]
      · rintro env C2 ⟨rfl, x5, x6, rfl⟩
        decreasing_trivial
        rw [List.length_map, List.take_length]
        exact hx _ _ ⟨rfl, _, _, _, _, rfl⟩
    · rintro env C' ⟨rfl, x3, x4, x5, x6, rfl⟩
      decreasing_trivial
      rw [intsFrom_len]
      exact q⟩
/-! _law_spellings -/
theorem pure__law_spellings : PU m__law_spellings 6 2 sp__law_spellings := fun ds C PR PX ⟨s, n, e, hs, hn, q⟩ => ⟨by rw [e]; rfl, by
    subst e
    change m__law_spellings _ _ [.shr (.str s), .shr (.int n), .non, .non, .non, .non] C
    unfold m__law_spellings
    have hz := sizeLine_eq
    have hL : (placesN s.length n).length ≤ 1728 := Nat.le_trans (placesN_len _ _) (Nat.le_trans (Nat.pow_le_pow_left hs n) (Nat.pow_le_pow_right (by decide) hn))
    decreasing_trivial
    refine ⟨s, n, rfl, hs, hn, ?_⟩
    refine o_lst ?_
    refine forL_inv (fun j env C2 => C2 = C ∧ ∃ x3 x4, env = [.shr (.str s), .shr (.int n), .own (.lst (((((placesN s.length n).take j).map (codeAt s)).foldl addNew []).map .str)), x3, x4, .non]) ⟨rfl, _, _, rfl⟩ ?_ ?_
    · rintro j d env C2 nx2 hd2 ⟨rfl, x3, x4, rfl⟩ hx2
      rw [List.getElem?_map] at hd2
      obtain ⟨ps, hps, rfl⟩ := Option.map_eq_some_iff.mp hd2
      obtain ⟨hpl, hpb⟩ := mem_placesN (List.mem_of_getElem? hps)
      have hjl := (List.getElem?_eq_some_iff.mp hps).1
      have hacc := foldl_len (((placesN s.length n).take j).map (codeAt s)) []
      rw [List.length_map, List.length_take, List.length_nil] at hacc
      have hstep : (((placesN s.length n).take (j + 1)).map (codeAt s)).foldl addNew [] = addNew ((((placesN s.length n).take j).map (codeAt s)).foldl addNew []) (codeAt s ps) := by
        rw [List.take_add_one, hps, List.map_append, List.foldl_append]
        rfl
      rw [hstep] at hx2
      generalize (((placesN s.length n).take j).map (codeAt s)).foldl addNew [] = acc at *
      decreasing_trivial
      refine o_lst (xs := ps.map fun k => D.int (k : Nat)) ⟨rfl, comp_pure (keep := fun _ => true) (f := chrD s) _ _ rfl (by simp; omega) (fun _ _ _ hq => hq) (fun d hd _ Q' hq => ?_) ?_⟩
      · obtain ⟨k, hk, rfl⟩ := List.mem_map.mp hd
        have hkb := hpb k hk
        decreasing_trivial
        refine g_ixS (c := s.getD k 0) (by omega) ?_ ?_
        · rw [atI_lt hkb]
          simp [List.getD, hkb]
        · exact hq
      · decreasing_trivial
        have hm : ([] ++ ((ps.map fun k => D.int (k : Nat)).filter fun _ => true).map (chrD s)) = (codeAt s ps).map fun c => D.str [c] := by
          rw [List.nil_append, List.filter_eq_self.mpr (fun _ _ => rfl), List.map_map, codeAt, List.map_map]
          apply List.map_congr_left
          intro k _
          rfl
        rw [hm]
        refine g_joinL (txtsOf_signs _) (by rw [lens_signs]; simp [codeAt]; omega) ?_
        rw [join_signs]
        decreasing_trivial
        refine g_notinT ?_
        decreasing_trivial
        refine i_ite (fun h => ?_) fun h => ?_
        · have h' : codeAt s ps ∉ acc := by simpa using h
          decreasing_trivial
          refine a_app (by rfl) (by simp; omega) ?_
          refine hx2 _ _ ⟨rfl, .shr (nsD ps), .shr (.str (codeAt s ps)), ?_⟩
          unfold addNew
          rw [if_neg h', List.map_append]
          rfl
        · have h' : codeAt s ps ∈ acc := by simpa using h
          decreasing_trivial
          refine hx2 _ _ ⟨rfl, .shr (nsD ps), .shr (.str (codeAt s ps)), ?_⟩
          unfold addNew
          rw [if_pos h']
    · rintro env C2 ⟨rfl, x3, x4, rfl⟩
      rw [List.length_map, List.take_length]
      decreasing_trivial
      exact q⟩
/-! is_length -/
theorem pure_is_length : PU m_is_length 1 1 sp_is_length := fun ds C PR PX ⟨d, e, thg, q⟩ => ⟨by rw [e]; rfl, by
    subst e
    change m_is_length _ _ [.shr d] C
    unfold m_is_length
    rcases thg with ⟨⟨ty, ht⟩, hs, h128⟩ | ⟨b, xs, rfl, hc⟩
    rotate_left
    · decreasing_trivial
      refine g_isiC3 hc (b := false) (by decide +kernel) ?_
      decreasing_trivial
      exact q
    cases d with
    | int i =>
      decreasing_trivial
      refine g_isi (b := true) rfl rfl (by decide +kernel) ?_
      decreasing_trivial
      refine g_isi (b := false) rfl rfl (by decide +kernel) ?_
      decreasing_trivial
      have q' : PR (.shr (.bl (decide (1 ≤ i) && decide (i ≤ 3)))) C := q
      refine i_ite (fun h => ?_) fun h => ?_
      · rw [h, Bool.true_and] at q'
        decreasing_trivial
        exact q'
      · rw [h, Bool.false_and] at q'
        exact q'
    | bl b =>
      decreasing_trivial
      refine g_isi (b := true) rfl rfl (by decide +kernel) ?_
      decreasing_trivial
      refine g_isi (b := true) rfl rfl (by decide +kernel) ?_
      decreasing_trivial
      exact q
    | obj C fs => cases ht
    | cell a => cases ht
    | ty n => cases ht
    | scr ns => cases ht
    | tupT _ => cases ht
    | kt => cases ht
    | exc _ _ _ _ => cases ht
    | _ =>
      decreasing_trivial
      refine g_isi (b := false) rfl rfl (by decide +kernel) ?_
      decreasing_trivial
      exact q⟩
/-! is_word -/
theorem pure_is_word : PU m_is_word 4 3 sp_is_word := fun ds C PR PX ⟨d, lo, hi, e, thg, q⟩ => ⟨by rw [e]; rfl, by
    subst e
    change m_is_word _ _ [.shr d, .shr (.int lo), .shr (.int hi), .non] C
    unfold m_is_word
    have hz := sizeLine_eq
    rcases thg with ⟨⟨ty, ht⟩, hs, _⟩ | ⟨b, xs, rfl, hc⟩
    rotate_left
    · decreasing_trivial
      refine g_isiC3 hc (b := false) (by decide +kernel) ?_
      decreasing_trivial
      exact q
    cases d with
    | str s =>
      have hl := hs s rfl
      decreasing_trivial
      refine g_isi (b := true) rfl rfl (by decide +kernel) ?_
      decreasing_trivial
      refine g_lenS (by omega) ?_
      decreasing_trivial
      have q' : PR (.shr (.bl (decide (lo ≤ (s.length : Int)) && (decide ((s.length : Int) ≤ hi) && s.all fun c => decide (97 ≤ c) && decide (c ≤ 122))))) C := q
      refine i_ite (fun h => ?_) fun h => ?_
      · rw [h, Bool.true_and] at q'
        decreasing_trivial
        refine i_ite (fun h => ?_) fun h => ?_
        · rw [h, Bool.true_and] at q'
          decreasing_trivial
          refine ⟨rfl, comp_pure (keep := fun _ => true) (f := oneB fun c => decide (97 ≤ c) && decide (c ≤ 122)) _ _ rfl (by simp; omega) (fun d hd Q' hq => hq) (fun d hd _ Q' hq => ?_) ?_⟩
          · obtain ⟨c, hc, rfl⟩ := List.mem_map.mp hd
            decreasing_trivial
            rw [in_letters]
            exact hq
          · decreasing_trivial
            refine g_all (bs := s.map fun c => decide (97 ≤ c) && decide (c ≤ 122)) ?_ ?_
            · rw [List.nil_append, List.filter_eq_self.mpr (fun _ _ => rfl), List.map_map]
              exact blsOf_map _ s
            · rw [List.all_map]
              exact q'
        · rw [h, Bool.false_and] at q'
          decreasing_trivial
          exact q'
      · rw [h, Bool.false_and] at q'
        decreasing_trivial
        exact q'
    | obj C fs => cases ht
    | cell a => cases ht
    | ty n => cases ht
    | scr ns => cases ht
    | tupT _ => cases ht
    | kt => cases ht
    | exc _ _ _ _ => cases ht
    | _ =>
      decreasing_trivial
      refine g_isi (b := false) rfl rfl (by decide +kernel) ?_
      decreasing_trivial
      exact q⟩
/-! is_code -/
theorem pure_is_code : PU m_is_code 2 2 sp_is_code := fun ds C PR PX ⟨d, n, e, ok, q⟩ => ⟨by rw [e]; rfl, by
    subst e
    change m_is_code _ _ [.shr d, .shr (.int n)] C
    unfold m_is_code
    decreasing_trivial
    exact ⟨d, n, n, rfl, ok, q⟩⟩
/-! Speller.__init__ -/
theorem pure_Speller___init__ : PU m_Speller___init__ 4 3 sp_Speller___init__ := fun ds C PR PX ⟨a, l, bd, bs, e, hc, hl, hbd, hbl, hbt, qx, q⟩ => ⟨by rw [e]; rfl, by
  subst e
  change m_Speller___init__ _ _ [.shr (.cell a), .shr l, .shr bd, .non] C
  unfold m_Speller___init__
  have hz := sizeLine_eq
  decreasing_trivial
  refine ⟨l, rfl, hl, ?_⟩
  decreasing_trivial
  refine i_ite (fun h => ?_) fun h => ?_
  · have h : lenOk l = false := by simpa using h
    decreasing_trivial
    exact ⟨_, rfl, qx h⟩
  have h : lenOk l = true := by simpa using h
  obtain ⟨n, rfl, n1, n3⟩ := len_nat3 h
  obtain ⟨qc, qb, q⟩ := q n rfl n1 n3
  have take1 : ∀ {k : Nat} {x : D}, bs[k]? = some x → (∀ y ∈ bs.take k, isWord y n n = true) → isWord x n n = true → ∀ y ∈ bs.take (k + 1), isWord y n n = true := fun {k x} hx h1 h2 y hy => by
    rw [List.take_add_one, hx] at hy
    rcases List.mem_append.mp hy with z | z
    · exact h1 y z
    · rw [List.mem_singleton.mp z]; exact h2
  have fin : ∀ (bd : D) (s3 : Slot), (bd = .lst bs ∨ bd = .tup bs ∨ (bd = .kt ∧ bs = []) ∨ ∃ c, c ≠ a ∧ bd = .cell c ∧ C c = some (.lst bs)) → (∀ y ∈ bs.take bs.length, isWord y n n = true) →
      (sSeq (sFldS Cad.c_Speller "size" (mVar 0) (mVar 1)) (sFldS Cad.c_Speller "shut" (mVar 0) (mMap Cont.d (mUnF gSetSort (mPeek 2))))) (fun x _ C => PX x C) { nx := fun _ C => PR (.shr .non) C, rt := PR } [.shr (.cell a), .shr (.int n), .shr bd, s3] C := fun bd s3 hbd hw => by
    rw [List.take_length] at hw
    obtain ⟨bar, rfl, hb⟩ := words_cd3 hw
    have hbl2 : bar.length ≤ 1000 := by rw [List.length_map] at hbl; exact hbl
    decreasing_trivial
    refine st_f hc (by simp) ?_
    decreasing_trivial
    have last : (sFldS Cad.c_Speller "shut" (mVar 0) (mMap Cont.d (mUnF gSetSort (mPeek 2)))) (fun x _ C => PX x C) { nx := fun _ C => PR (.shr .non) C, rt := PR } [.shr (.cell a), .shr (.int n), .shr bd, s3] (cput C a (.obj Cad.c_Speller [("size", .int n)])) := by
      decreasing_trivial
      refine ⟨txs bar, bar, ?_, txtsOf_txs bar, by omega, ?_⟩
      · rcases hbd with rfl | rfl | ⟨rfl, e⟩ | ⟨c, hca, rfl, hcc⟩
        · rfl
        · rfl
        · rw [e]; rfl
        · rw [dr_cell, cput_ne hca, hcc]; rfl
      decreasing_trivial
      refine st_f (fs := [("size", .int n)]) cput_same (by simp) ?_
      rw [cput_cput]
      exact q bar rfl hb
    decreasing_trivial
    exact last
  decreasing_trivial
  by_cases isc : ∃ c, bd = .cell c
  · have hall := qc isc
    obtain ⟨c, rfl⟩ := isc
    have hcc : c ≠ a ∧ C c = some (.lst bs) := by
      rcases hbd with z | z | ⟨z, _⟩ | ⟨c', h1, h2, h3⟩
      · cases z
      · cases z
      · cases z
      · cases h2; exact ⟨h1, h3⟩
    refine .inr ?_
    decreasing_trivial
    show match C c with
      | some (.lst xs) => _
      | _ => False
    rw [hcc.2]
    refine forG_inv (fun k env C' => C' = C ∧ ∃ s3, env = [.shr (.cell a), .shr (.int n), .shr (.cell c), s3]) ⟨rfl, _, rfl⟩ (fun k env C' h => by rw [h.1]; exact hcc.2) ?_ ?_
    · rintro k x env C1 nx' hd ⟨rfl, s3, rfl⟩ hx
      have hm := List.mem_of_getElem? hd
      decreasing_trivial
      refine ⟨x, n, rfl, hbt x hm, ?_⟩
      rw [hall x hm]
      decreasing_trivial
      exact hx _ _ ⟨rfl, _, rfl⟩
    · rintro env C1 ⟨rfl, s3, rfl⟩
      exact fin _ s3 (.inr (.inr (.inr ⟨c, hcc.1, rfl, hcc.2⟩))) fun y hy => hall y (List.mem_of_mem_take hy)
  · refine .inl ?_
    have hit : iterD bd = some bs := by
      rcases hbd with rfl | rfl | ⟨rfl, rfl⟩ | ⟨c, h1, rfl, h3⟩
      · rfl
      · rfl
      · rfl
      · exact absurd ⟨c, rfl⟩ isc
    decreasing_trivial
    unfold IterO
    rw [hit]
    refine forL_inv (fun k env C' => C' = C ∧ (∀ y ∈ bs.take k, isWord y n n = true) ∧ ∃ s3, env = [.shr (.cell a), .shr (.int n), .shr bd, s3]) ⟨rfl, (fun y hy => by cases hy), _, rfl⟩ ?_ ?_
    · rintro k x env C1 nx' hd ⟨rfl, hI, s3, rfl⟩ hx
      have hm := List.mem_of_getElem? hd
      decreasing_trivial
      refine ⟨x, n, rfl, hbt x hm, ?_⟩
      decreasing_trivial
      refine i_ite (fun h => ?_) fun h => ?_
      · have h : isWord x n n = false := by simpa using h
        decreasing_trivial
        exact ⟨_, rfl, qb k x hd hI h⟩
      · have h : isWord x n n = true := by simpa using h
        decreasing_trivial
        exact hx _ _ ⟨rfl, take1 hd hI h, _, rfl⟩
    · rintro env C1 ⟨rfl, hI, s3, rfl⟩
      exact fin _ s3 hbd hI⟩
/-! Speller.length -/
theorem pure_Speller_length : PU m_Speller_length 1 1 sp_Speller_length := fun ds C PR PX ⟨n, sh, e, q⟩ => ⟨by rw [e]; rfl, by
  subst e
  change m_Speller_length _ _ [.shr (.obj Cad.c_Speller [("size", .int n), ("shut", sh)])] C
  unfold m_Speller_length
  decreasing_trivial
  exact q⟩
/-! Speller.banned -/
theorem pure_Speller_banned : PU m_Speller_banned 1 1 sp_Speller_banned := fun ds C PR PX ⟨n, sh, e, q⟩ => ⟨by rw [e]; rfl, by
  subst e
  change m_Speller_banned _ _ [.shr (.obj Cad.c_Speller [("size", .int n), ("shut", .lst (txs sh))])] C
  unfold m_Speller_banned
  decreasing_trivial
  exact q⟩
/-! is_name -/
theorem pure_is_name : PU m_is_name 1 1 sp_is_name := fun ds C PR PX ⟨d, e, ok, q⟩ => ⟨by rw [e]; rfl, by
    subst e
    change m_is_name _ _ [.shr d] C
    unfold m_is_name
    decreasing_trivial
    exact ⟨d, 1, 12, rfl, ok, q⟩⟩
/-! place_lists -/
theorem pure_place_lists : ∀ n : Nat, PU (m_place_lists (spPrev spr_place_lists n)) 6 2 (spr_place_lists n)
  | 0 => fun ds C PR PX ⟨size, e, hs, hn, q⟩ => ⟨by rw [e]; rfl, by
    subst e
    change m_place_lists _ _ _ [.shr (.int size), .shr (.int (0 : Nat)), .non, .non, .non, .non] C
    unfold m_place_lists
    decreasing_trivial
    exact q⟩
  | n + 1 => fun ds C PR PX ⟨size, e, hs, hn, q⟩ => ⟨by rw [e]; rfl, by
    subst e
    change m_place_lists _ _ _ [.shr (.int size), .shr (.int (n + 1 : Nat)), .non, .non, .non, .non] C
    unfold m_place_lists
    have hz := sizeLine_eq
    decreasing_trivial
    have e1 : ((n + 1 : Nat) : Int) - 1 = (n : Int) := by omega
    rw [e1]
    refine ⟨size, rfl, hs, by omega, ?_⟩
    decreasing_trivial
    have hall := pls_len hs hn
    have hpl := pls_len hs (show n ≤ 3 by omega)
    have pre : ∀ k, (((pls size n).take k).flatMap (plsF size)).length ≤ 220 := fun k => by
      refine Nat.le_trans ?_ hall
      show _ ≤ ((pls size n).flatMap (plsF size)).length
      conv => rhs; rw [← List.take_append_drop k (pls size n), List.flatMap_append, List.length_append]
      omega
    refine forL_inv (fun k env C' => C' = C ∧ ∃ s3 s4 s5, env = [.shr (.int size), .shr (.int (n + 1 : Nat)), .own (.lst ((((pls size n).take k).flatMap (plsF size)).map natsD)), s3, s4, s5] ∧ s5 = .non) ⟨rfl, _, _, _, rfl, rfl⟩ ?_ ?_
    · rintro k d env C1 nx' hd ⟨rfl, s3, s4, s5, rfl, rfl⟩ hx
      rw [List.getElem?_map] at hd
      obtain ⟨ps, hps, rfl⟩ := Option.map_eq_some_iff.mp hd
      have hk := (List.getElem?_eq_some_iff.mp hps).1
      obtain ⟨hpl1, hpl2⟩ := pls_mem (List.mem_of_getElem? hps)
      have go : ∀ a : Nat, a = frst ps → nx' [.shr (.int size), .shr (.int (n + 1 : Nat)), .own (.lst ((((pls size n).take k).flatMap (plsF size)).map natsD ++ ((List.range' a (size - a)).map fun p => natsD (ps ++ [p])))), .shr (natsD ps), .shr (.int a), .non] C1 := fun a ea => by
        refine hx _ _ ⟨rfl, .shr (natsD ps), .shr (.int a), .non, ?_, rfl⟩
        rw [List.take_add_one, hps, List.flatMap_append, List.map_append]
        subst ea
        simp [plsF]
      have fin : ∀ a : Nat, a = frst ps → Rng2 [.int a, .int size] fun l => noOwn [.shr (.int size), .shr (.int (n + 1 : Nat)), .own (.lst ((((pls size n).take k).flatMap (plsF size)).map natsD)), .shr (natsD ps), .shr (.int a), .non] [5] = true ∧ compL [5] (gN 5) (mC true) (mOp gAdd (mPeek 3) (mMap Cont.d (mLst (mCons (mVar 5) mNil)))) (fun c C2 => Ext 2 nx' c.d [.shr (.int size), .shr (.int (n + 1 : Nat)), .own (.lst ((((pls size n).take k).flatMap (plsF size)).map natsD)), .shr (natsD ps), .shr (.int a), .non] C2) l [] (wipeE [.shr (.int size), .shr (.int (n + 1 : Nat)), .own (.lst ((((pls size n).take k).flatMap (plsF size)).map natsD)), .shr (natsD ps), .shr (.int a), .non] [5]) C1 := fun a ea => by
        have ha : a ≤ 13 := by
          subst ea
          unfold frst
          split
          · rename_i l hl
            have := hpl2 l (List.mem_of_getLast? hl)
            omega
          · omega
        refine r_rng2 ⟨by omega, by omega, by omega, by omega⟩ ?_
        have e2 : ((size : Int) - (a : Int)).toNat = size - a := by omega
        rw [e2, intsFrom_natD]
        refine ⟨rfl, compL_map (List.range' a (size - a)) natD (fun p => natsD (ps ++ [p])) (by rw [List.length_range']; omega) (fun p hp acc nxt h1 h2 => ?_) ?_⟩
        · decreasing_trivial
          refine ⟨rfl, rfl, ?_⟩
          decreasing_trivial
          refine ⟨by simp; omega, ?_⟩
          refine ⟨rfl, h1, ?_⟩
          have e3 : ps.map natD ++ [natD p] = (ps ++ [p]).map natD := by simp
          rw [e3]
          exact h2
        · decreasing_trivial
          refine a_ext rfl ?_ (go a ea)
          have := pre k
          rw [List.length_map, List.length_map, List.length_range']; omega
      decreasing_trivial
      cases hl : ps.getLast? with
      | none =>
        have : ps = [] := List.getLast?_eq_none_iff.mp hl
        subst this
        refine i_ite (fun h => by cases h) fun _ => ?_
        decreasing_trivial
        exact fin 0 rfl
      | some l =>
        have hne : ps ≠ [] := fun z => by rw [z] at hl; cases hl
        have he : (ps.map natD).isEmpty = false := by cases ps <;> first | exact absurd rfl hne | rfl
        rw [he]
        refine i_ite (fun _ => ?_) fun h => by cases h
        decreasing_trivial
        refine g_ixL (x := natD l) (atI_last (by rw [List.getLast?_map, hl]; rfl)) ?_
        decreasing_trivial
        have e4 : (l : Int) + 1 = ((l + 1 : Nat) : Int) := by omega
        rw [e4]
        exact fin (l + 1) (by unfold frst; rw [hl])
    · rintro env C1 ⟨rfl, s3, s4, s5, rfl, rfl⟩
      decreasing_trivial
      rw [List.length_map, List.take_length]
      exact q⟩
/-! spellings -/
theorem uni_snoc (l : List Txt) (x : Txt) : uniT (l ++ [x]) = oneT (uniT l) x := by unfold uniT; rw [List.foldl_append]; rfl
/-- codes with what was found for them -/
theorem pure_spellings : PU m_spellings 6 2 sp_spellings := fun ds C PR PX ⟨nm, n, e, hs, hn, q⟩ => ⟨by rw [e]; rfl, by
  subst e
  change m_spellings _ _ [.shr (.str nm), .shr (.int n), .non, .non, .non, .non] C
  unfold m_spellings
  have hz := sizeLine_eq
  have hall := pls_len hs hn
  decreasing_trivial
  refine g_lenS (by omega) ?_
  decreasing_trivial
  refine ⟨n, hn, nm.length, rfl, hs, hn, ?_⟩
  decreasing_trivial
  refine forL_inv (fun k env C' => C' = C ∧ ∃ (tb : L2.AS.Tb Txt (List Nat)) (s3 s4 : Slot), env = [.shr (.str nm), .shr (.int n), .own (.dct (tD natsD tb)), s3, s4, .non] ∧ L2.AS.ks tb = uniT (((pls nm.length n).take k).map (cdAt nm))) ⟨rfl, [], _, _, rfl, rfl⟩ ?_ ?_
  · rintro k d env C1 nx' hd ⟨rfl, tb, s3, s4, rfl, hk⟩ hx
    rw [List.getElem?_map] at hd
    obtain ⟨ps, hps, rfl⟩ := Option.map_eq_some_iff.mp hd
    obtain ⟨p1, p2⟩ := pls_mem (List.mem_of_getElem? hps)
    have snoc : uniT (((pls nm.length n).take (k + 1)).map (cdAt nm)) = oneT (L2.AS.ks tb) (cdAt nm ps) := by
      rw [List.take_add_one, hps, List.map_append, hk]
      exact uni_snoc _ _
    have tl : tb.length ≤ 220 := by
      have : tb.length = (L2.AS.ks tb).length := by unfold L2.AS.ks; rw [List.length_map]
      rw [this, hk]
      refine Nat.le_trans (uniT_len _) ?_
      rw [List.length_map, List.length_take]; omega
    decreasing_trivial
    refine ⟨rfl, compL_map ps natD (fun p => .str [nm.getD p 0]) (by omega) (fun p hp acc nxt h1 h2 => ?_) ?_⟩
    · have hlt := p2 p hp
      decreasing_trivial
      refine ⟨rfl, rfl, ?_⟩
      decreasing_trivial
      refine g_ixS (by omega) (atI_nat (List.getElem?_eq_getElem hlt)) ?_
      refine ⟨rfl, h1, ?_⟩
      have e1 : nm[p] = nm.getD p 0 := by simp [List.getD_eq_getElem?_getD, hlt]
      rw [e1]
      exact h2
    · rw [cells_join]
      decreasing_trivial
      refine g_joinL (txtsOf_signs _) (by rw [lens_signs]; simp [cdAt]; omega) ?_
      rw [join_signs]
      decreasing_trivial
      refine ⟨.inr (cdAt nm ps), rfl, ?_⟩
      rw [look_tD]
      cases hl : L2.AS.lk (cdAt nm ps) tb with
      | some x =>
        have hm : cdAt nm ps ∈ L2.AS.ks tb := by
          by_cases h : cdAt nm ps ∈ L2.AS.ks tb
          · exact h
          · rw [L2.AS.lk_none.mpr h] at hl; cases hl
        decreasing_trivial
        refine hx _ _ ⟨rfl, tb, _, _, rfl, ?_⟩
        rw [snoc]
        unfold oneT; rw [if_pos hm]
      | none =>
        have hm := L2.AS.lk_none.mp hl
        decreasing_trivial
        refine a_putOD rfl (k := .inr (cdAt nm ps)) rfl (by rw [tD_len]; omega) ?_
        rw [put_tD, L2.AS.pt_new hl]
        decreasing_trivial
        refine hx _ _ ⟨rfl, tb ++ [(cdAt nm ps, ps)], _, _, rfl, ?_⟩
        rw [snoc]
        unfold oneT; rw [if_neg hm]
        simp [L2.AS.ks]
  · rintro env C1 ⟨rfl, tb, s3, s4, rfl, hk⟩
    rw [List.length_map, List.take_length] at hk
    decreasing_trivial
    have e : keysL (tD natsD tb) = txs (spellS nm n) := by
      unfold keysL tD spellS
      rw [← hk, List.map_map]
      unfold L2.AS.ks txs
      rw [List.map_map]; rfl
    show PR (.frs (.lst (keysL (tD natsD tb)))) C1
    rw [e]
    exact q⟩
/-! Speller.__call__ -/
theorem pure_Speller___call__ : PU m_Speller___call__ 3 2 sp_Speller___call__ := fun ds C PR PX ⟨d, n, sh, e, hd, hn, qx, q⟩ => ⟨by rw [e]; rfl, by
  subst e
  change m_Speller___call__ _ _ [.shr (.obj Cad.c_Speller [("size", .int n), ("shut", .lst (txs sh))]), .shr d, .non] C
  unfold m_Speller___call__
  have hz := sizeLine_eq
  decreasing_trivial
  refine ⟨d, rfl, hd, ?_⟩
  decreasing_trivial
  refine i_ite (fun h => ?_) fun h => ?_
  · have h : isWord d 1 12 = false := by simpa using h
    decreasing_trivial
    exact ⟨_, rfl, qx h⟩
  have h : isWord d 1 12 = true := by simpa using h
  obtain ⟨nm, rfl, hs⟩ := word_name3 h
  have hl := spellS_len hs.2.1 hn
  decreasing_trivial
  refine ⟨nm, n, rfl, hs.2.1, hn, ?_⟩
  decreasing_trivial
  refine ⟨rfl, compL_flt (spellS nm n) D.str D.str (fun o => !decide (o ∈ sh)) (by omega) (fun t ht acc nxt h1 h2 h3 => ?_) (q nm rfl hs)⟩
  decreasing_trivial
  refine ⟨rfl, ?_⟩
  decreasing_trivial
  refine g_inTL ?_
  decreasing_trivial
  refine ⟨rfl, i_ite (fun h => ?_) fun h => ?_⟩
  · decreasing_trivial
    exact ⟨rfl, h1, h2 h⟩
  · exact h3 h⟩
/-! _law_error -/
theorem pure__law_error : PUX m__law_error 1 1 sp__law_error := fun a cls d ds C PR PX ⟨B, dd, v, e, e1, e2, q⟩ => ⟨by rw [e]; rfl, by
  subst e e1 e2
  change m__law_error a (.ref B) (some dd) _ _ [.shr (.exc a B dd [("value", v)])] C
  unfold m__law_error
  rcases q with ⟨rfl, q⟩ | ⟨rfl, q⟩ | ⟨rfl, q⟩
  · decreasing_trivial
    refine ⟨_, _, _, true, rfl, rfl, rfl, by simp, ?_⟩
    decreasing_trivial
    refine ⟨_, _, _, v, rfl, by simp, rfl, rfl, rfl, ?_⟩
    decreasing_trivial
    exact q
  · decreasing_trivial
    refine ⟨_, _, _, false, rfl, rfl, rfl, by simp, ?_⟩
    decreasing_trivial
    refine ⟨_, _, _, true, rfl, rfl, rfl, by simp, ?_⟩
    decreasing_trivial
    refine ⟨_, _, _, v, rfl, by simp, rfl, rfl, rfl, ?_⟩
    decreasing_trivial
    exact q
  · decreasing_trivial
    refine ⟨_, _, _, false, rfl, rfl, rfl, by simp, ?_⟩
    decreasing_trivial
    refine ⟨_, _, _, false, rfl, rfl, rfl, by simp, ?_⟩
    decreasing_trivial
    refine ⟨_, _, _, true, rfl, rfl, rfl, by simp, ?_⟩
    decreasing_trivial
    refine ⟨_, _, _, v, rfl, by simp, rfl, rfl, rfl, ?_⟩
    decreasing_trivial
    exact q⟩
/-! _law_called -/
theorem pure__law_called : PU m__law_called 3 2 sp__law_called := fun ds C PR PX ⟨d, n, sh, e, hd, hn, qx, q⟩ => ⟨by rw [e]; rfl, by
  subst e
  change m__law_called _ _ [.shr (.obj Cad.c_Speller [("size", .int n), ("shut", .lst (txs sh))]), .shr d, .non] C
  unfold m__law_called
  decreasing_trivial
  refine ⟨isOb_obj, ?_⟩
  decreasing_trivial
  refine ⟨isOb_obj, rfl, d, n, sh, rfl, hd, hn, fun h => ?_, fun nm e hm => ?_⟩
  · refine .inl ⟨by simp, fun xa dd _ => ?_⟩
    decreasing_trivial
    exact ⟨_, dd, d, rfl, rfl, rfl, .inr (.inr ⟨rfl, qx h⟩)⟩
  · decreasing_trivial
    exact q nm e hm⟩
/-! _law_allowed -/
theorem pure__law_allowed : PU m__law_allowed 4 3 sp__law_allowed := fun ds C PR PX ⟨nm, n, bar, e, hl, hn, q⟩ => ⟨by rw [e]; rfl, by
  subst e
  change m__law_allowed _ _ [.shr (.str nm), .shr (.int n), .shr (.lst (txs bar)), .non] C
  unfold m__law_allowed
  have hz := sizeLine_eq
  have hsl := spellS_len hl hn
  decreasing_trivial
  refine ⟨nm, n, rfl, hl, hn, ?_⟩
  rw [spells_eq]
  decreasing_trivial
  refine ⟨rfl, compL_flt (spellS nm n) D.str D.str (fun o => !decide (o ∈ bar)) (by omega) (fun t ht acc nxt h1 h2 h3 => ?_) q⟩
  decreasing_trivial
  refine ⟨rfl, ?_⟩
  decreasing_trivial
  refine g_notinT ?_
  decreasing_trivial
  refine ⟨rfl, i_ite (fun h => ?_) fun h => ?_⟩
  · decreasing_trivial
    exact ⟨rfl, h1, h2 h⟩
  · exact h3 h⟩
/-! _law_spells -/
theorem pure__law_spells : PU m__law_spells 8 5 sp__law_spells := fun ds C PR PX ⟨p, nm, n, bar, e, hc, hn, n1, n3, hbl, hb, q⟩ => ⟨by rw [e]; rfl, by
  subst e
  change m__law_spells _ _ [.shr (.cell p), .shr (spD n (sortT (uniT bar))), .shr (.str nm), .shr (.int n), .shr (.lst (txs bar)), .non, .non, .non] C
  unfold m__law_spells
  have hz := sizeLine_eq
  decreasing_trivial
  refine ⟨isOb_obj, ?_⟩
  decreasing_trivial
  refine ⟨isOb_obj, rfl, .str nm, n, _, rfl, .inl (name_in hn), n3, (fun h => by rw [name_word hn] at h; cases h), fun nm' e hm => ?_⟩
  cases e
  rw [shut3]
  decreasing_trivial
  refine ⟨isOb_obj, ?_⟩
  decreasing_trivial
  have abc : nameOk [97, 98, 99, 97, 98, 99] := ⟨by decide, by decide, by decide⟩
  refine ⟨isOb_obj, rfl, .str [97, 98, 99, 97, 98, 99], n, _, rfl, .inl (name_in abc), n3, (fun h => by rw [name_word abc] at h; cases h), fun nm' e hm => ?_⟩
  cases e
  rw [shut3]
  decreasing_trivial
  refine ⟨isOb_obj, ?_⟩
  decreasing_trivial
  refine ⟨isOb_obj, rfl, .str nm, n, _, rfl, .inl (name_in hn), n3, (fun h => by rw [name_word hn] at h; cases h), fun nm' e hm => ?_⟩
  cases e
  rw [shut3]
  decreasing_trivial
  have asn : ∀ t ∈ (spellS nm n).filter (fun o => !decide (o ∈ bar)), asc t := asc_sp3 hn
  have asa : ∀ t ∈ (spellS [97, 98, 99, 97, 98, 99] n).filter (fun o => !decide (o ∈ bar)), asc t := asc_sp3 abc
  refine g_ixL (x := .lst (txs ((spellS nm n).filter (fun o => !decide (o ∈ bar))))) rfl ?_
  decreasing_trivial
  refine g_ixL (x := .lst (txs ((spellS nm n).filter (fun o => !decide (o ∈ bar))))) rfl ?_
  decreasing_trivial
  refine g_txs3 asn ?_
  decreasing_trivial
  refine g_ixL (x := .lst (txs ((spellS [97, 98, 99, 97, 98, 99] n).filter (fun o => !decide (o ∈ bar))))) rfl ?_
  decreasing_trivial
  refine ⟨[97, 98, 99, 97, 98, 99], n, bar, rfl, by decide, n3, ?_⟩
  decreasing_trivial
  refine g_txs3 asa ?_
  decreasing_trivial
  refine ⟨isOb_obj, rfl, n, _, rfl, ?_⟩
  decreasing_trivial
  rw [decide_eq_true rfl]
  decreasing_trivial
  refine ⟨p, rfl, hc, fun t ht => ?_⟩
  decreasing_trivial
  have ass : ∀ t ∈ sortT (uniT bar), asc t := fun t ht x hx => by
    have := (hb t (mem_uniT.mp (mem_sortT.mp ht))).2 x hx; omega
  have hA : nameOk [97] := ⟨by decide, by decide, by decide⟩
  refine ⟨isOb_obj, ?_⟩
  decreasing_trivial
  refine ⟨isOb_obj, rfl, .str nm, n, _, rfl, .inl (name_in hn), n3, (fun h => by rw [name_word hn] at h; cases h), fun nm' e hm => ?_⟩
  cases e
  rw [shut3]
  unfold FrsK
  decreasing_trivial
  refine g_repr rfl (shw_sp3 hn n3) ?_
  decreasing_trivial
  refine ⟨nm, n, bar, rfl, hn.2.1, n3, ?_⟩
  decreasing_trivial
  refine g_repr rfl (shw_sp3 hn n3) ?_
  decreasing_trivial
  rw [decide_eq_true rfl]
  decreasing_trivial
  refine ⟨isOb_obj, rfl, n, _, rfl, ?_⟩
  decreasing_trivial
  refine g_setSortL (by omega) ?_
  decreasing_trivial
  refine g_txs3 ass ?_
  decreasing_trivial
  refine a_app rfl (by have := spellS_len hn.2.1 n3; have := List.length_filter_le (fun o => !decide (o ∈ bar)) (spellS nm n); rw [List.length_map]; omega) ?_
  decreasing_trivial
  refine ⟨isOb_obj, ?_⟩
  decreasing_trivial
  refine ⟨isOb_obj, rfl, .str nm, n, _, rfl, .inl (name_in hn), n3, (fun h => by rw [name_word hn] at h; cases h), fun nm' e hm => ?_⟩
  cases e
  rw [shut3]
  unfold FrsK
  decreasing_trivial
  refine g_repr rfl (shw_sp3 hn n3) ?_
  decreasing_trivial
  refine ⟨nm, n, bar, rfl, hn.2.1, n3, ?_⟩
  decreasing_trivial
  refine g_repr rfl (shw_sp3 hn n3) ?_
  decreasing_trivial
  rw [decide_eq_true rfl]
  decreasing_trivial
  refine ⟨isOb_obj, rfl, n, _, rfl, ?_⟩
  decreasing_trivial
  refine g_setSortL (by omega) ?_
  decreasing_trivial
  refine g_txs3 ass ?_
  decreasing_trivial
  refine a_app rfl (by have := spellS_len hn.2.1 n3; have := List.length_filter_le (fun o => !decide (o ∈ bar)) (spellS nm n); rw [List.length_map]; omega) ?_
  decreasing_trivial
  refine ⟨isOb_obj, ?_⟩
  decreasing_trivial
  refine ⟨isOb_obj, rfl, .str t, n, _, rfl, .inl (name_in ht), n3, (fun h => by rw [name_word ht] at h; cases h), fun nm' e hm => ?_⟩
  cases e
  rw [shut3]
  unfold FrsK
  decreasing_trivial
  refine g_repr rfl (shw_sp3 ht n3) ?_
  decreasing_trivial
  refine ⟨t, n, bar, rfl, ht.2.1, n3, ?_⟩
  decreasing_trivial
  refine g_repr rfl (shw_sp3 ht n3) ?_
  decreasing_trivial
  rw [decide_eq_true rfl]
  decreasing_trivial
  refine ⟨isOb_obj, rfl, n, _, rfl, ?_⟩
  decreasing_trivial
  refine g_setSortL (by omega) ?_
  decreasing_trivial
  refine g_txs3 ass ?_
  decreasing_trivial
  refine a_app rfl (by have := spellS_len ht.2.1 n3; have := List.length_filter_le (fun o => !decide (o ∈ bar)) (spellS t n); rw [List.length_map]; omega) ?_
  decreasing_trivial
  refine ⟨isOb_obj, ?_⟩
  decreasing_trivial
  refine ⟨isOb_obj, rfl, .str [97], n, _, rfl, .inl (name_in hA), n3, (fun h => by rw [name_word hA] at h; cases h), fun nm' e hm => ?_⟩
  cases e
  rw [shut3]
  unfold FrsK
  decreasing_trivial
  refine g_repr rfl (shw_sp3 hA n3) ?_
  decreasing_trivial
  refine ⟨[97], n, bar, rfl, hA.2.1, n3, ?_⟩
  decreasing_trivial
  refine g_repr rfl (shw_sp3 hA n3) ?_
  decreasing_trivial
  rw [decide_eq_true rfl]
  decreasing_trivial
  refine ⟨isOb_obj, rfl, n, _, rfl, ?_⟩
  decreasing_trivial
  refine g_setSortL (by omega) ?_
  decreasing_trivial
  refine g_txs3 ass ?_
  decreasing_trivial
  refine a_app rfl (by have := spellS_len hA.2.1 n3; have := List.length_filter_le (fun o => !decide (o ∈ bar)) (spellS [97] n); rw [List.length_map]; omega) ?_
  decreasing_trivial
  refine g_ixL (x := .lst (txs ((spellS nm n).filter (fun o => !decide (o ∈ bar))))) rfl ?_
  decreasing_trivial
  refine ⟨nm, n, bar, rfl, hn.2.1, n3, ?_⟩
  decreasing_trivial
  exact g_txs3 asn q⟩
/-! _law_any -/
theorem any3_consts : ∀ d ∈ [D.non, .bl true, .int 0, .int 4, .int 2, .str [], .str [65], .str [97, 98, 99, 100], .str [97, 49], .tup [], .lst [.str [97]], .tup [.str [97]], .dct [], .str (mulT [97] 13), .str [97, 98, 10], .str [97], .str [97, 98], .str [97, 98, 99]], Th3 d := by
  intro d hd
  simp only [List.mem_cons, List.not_mem_nil, or_false] at hd
  have key : ∀ d : D, okIn d → (isR d && (toP d).showable && (toP d).leavesShort 103 && decide ((toP d).depth ≤ 2) && decide ((toP d).weight ≤ 400)) = true → (∀ C, dr C d = d) → Th3 d := fun d h1 h2 h3 => by
    simp only [Bool.and_eq_true, decide_eq_true_eq] at h2
    exact ⟨h1, ⟨h2.1.1.1.1, h2.1.1.1.2, h2.1.1.2, h2.1.2, h2.2⟩, h3⟩
  have o : ∀ t : Txt, (decide (t.length ≤ 1000) && t.all fun c => decide (c < 128)) = true → okIn (.str t) := fun t h => by
    rw [Bool.and_eq_true, decide_eq_true_eq, List.all_eq_true] at h
    exact ⟨⟨_, rfl⟩, (fun s e => by cases e; exact h.1), fun s e c hc => by cases e; exact of_decide_eq_true (h.2 c hc)⟩
  rcases hd with rfl | rfl | rfl | rfl | rfl | rfl | rfl | rfl | rfl | rfl | rfl | rfl | rfl | rfl | rfl | rfl | rfl | rfl
  all_goals refine key _ ?_ (by decide +kernel) fun _ => rfl
  all_goals first
    | exact o _ (by decide +kernel)
    | exact ⟨⟨_, rfl⟩, (fun s e => by cases e), fun s e => by cases e⟩
theorem pure__law_any : PU m__law_any 2 1 sp__law_any := fun ds C PR PX ⟨a, e, hc, q⟩ => ⟨by rw [e]; rfl, by
  subst e
  change m__law_any _ _ [.shr (.cell a), .non] C
  unfold m__law_any
  have hz := sizeLine_eq
  decreasing_trivial
  refine g_mulS (by decide +kernel) ?_
  decreasing_trivial
  refine ⟨a, .lst _, _, rfl, hc, .inl rfl, List.cons_ne_nil _ _, by show 18 ≤ 16777216; decide, fun d hd => ?_⟩
  exact q d (any3_consts d hd)⟩
/-! Speller.__contains__ -/
theorem pure_Speller___contains__ : PU m_Speller___contains__ 2 2 sp_Speller___contains__ := fun ds C PR PX ⟨d, n, sh, e, hd, q⟩ => ⟨by rw [e]; rfl, by
  subst e
  change m_Speller___contains__ _ _ [.shr (.obj Cad.c_Speller [("size", .int n), ("shut", .lst (txs sh))]), .shr d] C
  unfold m_Speller___contains__
  decreasing_trivial
  refine ⟨d, n, rfl, .inl hd, ?_⟩
  have q' : PR (.shr (.bl (inSp n sh d))) C := q
  cases hw : isWord d n n with
  | false =>
    have e : inSp n sh d = false := by
      cases d with
      | str t => show (isWord (.str t) n n && _) = false; rw [hw]; rfl
      | _ => rfl
    rw [e] at q'
    decreasing_trivial
    exact q'
  | true =>
    obtain ⟨t, rfl, ht⟩ := word_cd3 hw
    have e : inSp n sh (.str t) = !decide (t ∈ sh) := by show (isWord (.str t) n n && _) = _; rw [hw]; rfl
    rw [e] at q'
    decreasing_trivial
    exact g_notinT q'⟩
/-! _law_is_word -/
theorem pure__law_is_word : PU m__law_is_word 4 3 sp__law_is_word := fun ds C PR PX ⟨d, lo, hi, e, ⟨⟨ty, ht⟩, hs, h128⟩, q⟩ => ⟨by rw [e]; rfl, by
    subst e
    change m__law_is_word _ _ [.shr d, .shr (.int lo), .shr (.int hi), .non] C
    unfold m__law_is_word
    have hz := sizeLine_eq
    cases d with
    | str s =>
      have hl := hs s rfl
      decreasing_trivial
      refine g_isi (b := true) rfl rfl (by decide +kernel) ?_
      decreasing_trivial
      refine g_lenS (by omega) ?_
      decreasing_trivial
      have q' : PR (.shr (.bl (decide (lo ≤ (s.length : Int)) && (decide ((s.length : Int) ≤ hi) && s.all fun c => decide (97 ≤ c) && decide (c ≤ 122))))) C := q
      refine i_ite (fun h => ?_) fun h => ?_
      · rw [h, Bool.true_and] at q'
        decreasing_trivial
        refine i_ite (fun h => ?_) fun h => ?_
        · have h : decide ((s.length : Int) ≤ hi) = false := by simpa using h
          rw [h, Bool.false_and] at q'
          decreasing_trivial
          exact q'
        · have h : decide ((s.length : Int) ≤ hi) = true := by simpa using h
          rw [h, Bool.true_and] at q'
          decreasing_trivial
          refine ⟨rfl, comp_pure (keep := keepW) (f := id) _ _ rfl (by simp; omega) (fun d hd Q' hq => ?_) (fun d hd _ Q' hq => ?_) ?_⟩
          · obtain ⟨c, hc, rfl⟩ := List.mem_map.mp hd
            decreasing_trivial
            have hq' : Q' (!(decide (97 ≤ c) && decide (c ≤ 122))) (([Slot.shr (D.str s), Slot.shr (D.int lo), Slot.shr (D.int hi), Slot.non]).set 3 (.shr (.str [c]))) C := hq
            rw [lt_one]
            refine i_ite (fun h => ?_) fun h => ?_
            · have h1 : decide (97 ≤ c) = true := by simp at h ⊢; omega
              rw [h1, Bool.true_and] at hq'
              decreasing_trivial
              have h2 : (!decide (([122] : Txt) < [c])) = decide (c ≤ 122) := by
                rw [lt_one]
                by_cases h3 : c ≤ 122
                · rw [decide_eq_true h3, decide_eq_false (by omega)]; rfl
                · rw [decide_eq_false h3, decide_eq_true (by omega)]; rfl
              rw [h2]
              exact hq'
            · have h1 : decide (97 ≤ c) = false := by simp at h ⊢; omega
              rw [h1, Bool.false_and] at hq'
              decreasing_trivial
              exact hq'
          · decreasing_trivial
            exact hq
          · decreasing_trivial
            rw [if_neg (by decide), List.nil_append, List.map_id, keep_empty]
            exact q'
      · have h : decide (lo ≤ (s.length : Int)) = false := by simpa using h
        rw [h, Bool.false_and] at q'
        decreasing_trivial
        exact q'
    | obj C fs => cases ht
    | cell a => cases ht
    | ty n => cases ht
    | scr ns => cases ht
    | tupT _ => cases ht
    | kt => cases ht
    | exc _ _ _ _ => cases ht
    | _ =>
      decreasing_trivial
      refine g_isi (b := false) rfl rfl (by decide +kernel) ?_
      decreasing_trivial
      exact q⟩
/-! _law_made -/
theorem pure__law_made : PU m__law_made 4 2 sp__law_made := fun ds C PR PX ⟨l, bs, e, hl, hb, hbl, q⟩ => ⟨by rw [e]; rfl, by
  subst e
  change m__law_made _ _ [.shr l, .shr (.lst bs), .non, .non] C
  unfold m__law_made
  decreasing_trivial
  intro a ha
  refine ⟨rfl, rfl, a, l, .lst bs, bs, rfl, cput_same, hl.put ha, .inl rfl, hbl, fun x hx => (hb x hx).put ha, fun h => ?_, fun n e n1 n3 => ⟨fun ⟨c, z⟩ => (by cases z), fun k x hk h1 h2 => ?_, fun bar e2 hbar => ⟨rfl, _, cput_same, ?_⟩⟩⟩
  · dsimp only
    rw [cdel_cput ha]
    refine .inl ⟨by simp, fun xa dd _ => ?_⟩
    decreasing_trivial
    refine ⟨_, dd, l, rfl, rfl, rfl, .inl ⟨rfl, ?_⟩⟩
    unfold dueD at q
    rw [h] at q
    decreasing_trivial
    exact q
  · subst e
    rw [cdel_cput ha]
    refine .inl ⟨by simp, fun xa dd _ => ?_⟩
    decreasing_trivial
    refine ⟨_, dd, x, rfl, rfl, rfl, .inr (.inl ⟨rfl, ?_⟩)⟩
    unfold dueD at q
    rw [len_ok3 n1 n3, show lenI (.int n) = (n : Int) from rfl, if_pos rfl, find3_at (p := fun x => !isWord x n n) hk (fun y hy => by rw [h1 y hy]; rfl) (by rw [h2]; rfl)] at q
    decreasing_trivial
    exact q
  · subst e e2
    rw [cdel_cput2 ha]
    unfold dueD at q
    rw [len_ok3 n1 n3, show lenI (.int n) = (n : Int) from rfl, if_pos rfl, show (txs bar).find? (fun x => !isWord x n n) = none from List.find?_eq_none.mpr fun x hx => by
      obtain ⟨c, hc, rfl⟩ := List.mem_map.mp hx
      rw [cd_word (hbar c hc)]; decide] at q
    decreasing_trivial
    exact q⟩
/-! _law_due -/
theorem pure__law_due : PU m__law_due 4 2 sp__law_due := fun ds C PR PX ⟨l, bs, e, hl, hb, hbl, q⟩ => ⟨by rw [e]; rfl, by
  subst e
  change m__law_due _ _ [.shr l, .shr (.lst bs), .non, .non] C
  unfold m__law_due
  have hz := sizeLine_eq
  have len : lenOk l = false → PR (.shr (.tup [.str tLen, l])) C := fun h => by unfold dueD at q; rw [h] at q; exact q
  by_cases hi : ∃ i, l = .int i
  rotate_left
  · have hf : lenOk l = false := by
      cases l with
      | int i => exact absurd ⟨i, rfl⟩ hi
      | _ => rfl
    have q' := len hf
    obtain ⟨⟨ty, ht⟩, hs, h128⟩ := hl
    cases l with
    | int i => exact absurd ⟨i, rfl⟩ hi
    | bl b =>
      decreasing_trivial
      refine g_isi (b := true) rfl rfl (by decide +kernel) ?_
      decreasing_trivial
      refine g_isi (b := true) rfl rfl (by decide +kernel) ?_
      decreasing_trivial
      exact q'
    | obj C fs => cases ht
    | cell a => cases ht
    | ty n => cases ht
    | scr ns => cases ht
    | tupT _ => cases ht
    | kt => cases ht
    | exc _ _ _ _ => cases ht
    | _ =>
      decreasing_trivial
      refine g_isi (b := false) rfl rfl (by decide +kernel) ?_
      decreasing_trivial
      exact q'
  obtain ⟨i, rfl⟩ := hi
  decreasing_trivial
  refine g_isi (b := true) rfl rfl (by decide +kernel) ?_
  decreasing_trivial
  refine g_isi (b := false) rfl rfl (by decide +kernel) ?_
  decreasing_trivial
  refine i_ite (fun h1 => ?_) fun h1 => ?_
  rotate_left
  · have hf : lenOk (.int i) = false := by show (decide (1 ≤ i) && _) = false; rw [h1]; rfl
    have q' := len hf
    decreasing_trivial
    exact q'
  decreasing_trivial
  cases h3 : decide (i ≤ 3) with
  | false =>
    have hf : lenOk (.int i) = false := by show (decide (1 ≤ i) && decide (i ≤ 3)) = false; rw [h3, Bool.and_false]
    have q' := len hf
    decreasing_trivial
    exact q'
  | true =>
    have hf : lenOk (.int i) = true := by show (decide (1 ≤ i) && decide (i ≤ 3)) = true; rw [h1, h3]; rfl
    unfold dueD at q
    rw [hf, if_pos rfl, show lenI (.int i) = i from rfl] at q
    decreasing_trivial
    refine ⟨rfl, comp_pure (keep := fun x => !isWord x i i) (f := id) bs [] rfl (by simp; omega) (fun d hd Q' hq => ?_) (fun d hd _ Q' hq => ?_) ?_⟩
    · decreasing_trivial
      exact ⟨d, i, i, rfl, hb d hd, hq⟩
    · decreasing_trivial
      exact hq
    · rw [← find_keep] at q
      rw [List.nil_append, List.map_id]
      decreasing_trivial
      cases hf : bs.filter fun x => !isWord x i i with
      | nil =>
        rw [hf] at q
        decreasing_trivial
        exact q
      | cons y ys =>
        rw [hf] at q
        decreasing_trivial
        refine g_ixL (x := y) atI_03 ?_
        decreasing_trivial
        exact q⟩
/-! _law_copied -/
theorem pure__law_copied : PU m__law_copied 6 5 sp__law_copied := fun ds C PR PX ⟨c, nm, n, bar, e, hc, hn, n1, n3, hbl, hb, q⟩ => ⟨by rw [e]; rfl, by
  subst e
  change m__law_copied _ _ [.shr (spD n (sortT (uniT bar))), .shr (.cell c), .shr (.str nm), .shr (.int n), .shr (.lst (txs bar)), .non] C
  unfold m__law_copied
  have hz := sizeLine_eq
  have hsl := spellS_len hn.2.1 n3
  decreasing_trivial
  refine ⟨nm, n, rfl, hn.2.1, n3, ?_⟩
  rw [spells_eq]
  decreasing_trivial
  refine g_cutS (by show 3 ≤ _; omega) ?_
  rw [cutL_take]
  obtain ⟨ex, hex, hget⟩ : ∃ ex, cdOk n ex ∧ (spellS nm n ++ [([122, 122, 122] : Txt).take n])[0]? = some ex := by
    cases hs : spellS nm n with
    | nil => exact ⟨_, ⟨by rw [List.length_take]; show min n 3 = n; omega, fun x hx => by have := List.mem_of_mem_take hx; simp at this; omega⟩, rfl⟩
    | cons y ys =>
      obtain ⟨h1, h2⟩ := spellS_mem (name := nm) (n := n) (t := y) (by rw [hs]; exact List.mem_cons_self)
      exact ⟨y, ⟨h1, fun x hx => hn.2.2 x (h2 x hx)⟩, rfl⟩
  decreasing_trivial
  refine g_addL (by rw [List.length_map]; show _ + 1 ≤ _; omega) ?_
  rw [show (spellS nm n).map D.str ++ [D.str (([122, 122, 122] : Txt).take n)] = (spellS nm n ++ [([122, 122, 122] : Txt).take n]).map D.str from by rw [List.map_append]; rfl]
  generalize spellS nm n ++ [([122, 122, 122] : Txt).take n] = LL at hget ⊢
  obtain ⟨L2', rfl⟩ : ∃ l, LL = ex :: l := by
    cases LL with
    | nil => cases hget
    | cons y l => cases hget; exact ⟨l, rfl⟩
  decreasing_trivial
  refine g_ixL (x := .str ex) atI_03 ?_
  decreasing_trivial
  refine ⟨c, _, rfl, hc, _, hc, by rw [List.length_map]; omega, ?_⟩
  decreasing_trivial
  have asb : ∀ t ∈ bar ++ [ex], asc t := fun t ht x hx => by
    rcases List.mem_append.mp ht with z | z
    · have := (hb t z).2 x hx; omega
    · rw [List.mem_singleton.mp z] at hx; have := hex.2 x hx; omega
  have ass : ∀ t ∈ sortT (uniT bar), asc t := fun t ht x hx => by
    have := (hb t (mem_uniT.mp (mem_sortT.mp ht))).2 x hx; omega
  refine g_addL (by rw [List.length_map]; show _ + 1 ≤ _; omega) ?_
  rw [show txs bar ++ [D.str ex] = txs (bar ++ [ex]) from by show List.map D.str bar ++ [D.str ex] = List.map D.str (bar ++ [ex]); rw [List.map_append]; rfl]
  have hc1 : (cput C c (Cell.lst (txs (bar ++ [ex])))) c = some (.lst (txs (bar ++ [ex]))) := cput_same
  have hCC : ∀ x, x ≠ c → (cput C c (Cell.lst (txs (bar ++ [ex])))) x = C x := fun x hx => cput_ne hx
  generalize cput C c (Cell.lst (txs (bar ++ [ex]))) = C1 at hc1 hCC ⊢
  rw [show dr C1 (.cell c) = dr C1 (.lst (txs (bar ++ [ex]))) from by rw [dr_cell, hc1]; rfl]
  refine g_txs3 asb ?_
  decreasing_trivial
  refine ⟨isOb_obj, rfl, n, _, rfl, ?_⟩
  decreasing_trivial
  refine g_setSortL (by omega) ?_
  decreasing_trivial
  refine g_txs3 ass ?_
  decreasing_trivial
  refine ⟨isOb_obj, ?_⟩
  decreasing_trivial
  refine ⟨isOb_obj, rfl, .str nm, n, _, rfl, .inl (name_in hn), n3, (fun h => by rw [name_word hn] at h; cases h), fun nm' e hm => ?_⟩
  cases e
  rw [shut3]
  decreasing_trivial
  refine ⟨nm, n, bar, rfl, hn.2.1, n3, ?_⟩
  decreasing_trivial
  refine g_txs3 (asc_sp3 hn) ?_
  decreasing_trivial
  refine ⟨isOb_obj, rfl, .str ex, n, _, rfl, cd_in n3 hex, _, rfl, ?_⟩
  have e1 : inSp n (sortT (uniT bar)) (.str ex) = !decide (ex ∈ bar) := by
    show (isWord (.str ex) n n && !decide (ex ∈ sortT (uniT bar))) = _
    rw [cd_word hex, Bool.true_and]
    exact congrFun shut3 ex
  rw [e1]
  decreasing_trivial
  refine g_notinT ?_
  decreasing_trivial
  refine g_eqBB ?_
  rw [if_neg (by decide), decide_eq_true rfl]
  exact q C1 hCC⟩
/-! _law_values_kept -/
theorem pure__law_values_kept : PU m__law_values_kept 2 0 sp__law_values_kept := fun ds C PR PX ⟨e, q⟩ => ⟨by rw [e]; rfl, by
  subst e
  change m__law_values_kept _ _ [.non, .non] C
  unfold m__law_values_kept
  have hz := sizeLine_eq
  decreasing_trivial
  intro b hb
  have C1 : ∀ x : List D, Thg (cput C b (cellOf (.lst x))) (.cell b) := fun x => .inr ⟨b, x, rfl, cput_same⟩
  decreasing_trivial
  refine ⟨_, [], rfl, C1 _, (fun x hx => by cases hx), by decide, ?_⟩
  decreasing_trivial
  refine ⟨_, [.cell b], rfl, .inl ⟨⟨_, rfl⟩, (fun s e => by cases e), fun s e => by cases e⟩, (fun x hx => by rw [List.mem_singleton.mp hx]; exact C1 _), by show 1 ≤ _; decide, ?_⟩
  decreasing_trivial
  have hb1 : ∀ x : List D, (cput C b (cellOf (.lst x))) b = some (.lst x) := fun x => cput_same
  intro s hs
  have hsb : b ≠ s := fun z => by rw [← z] at hs; rw [hb1] at hs; cases hs
  refine ⟨rfl, rfl, s, .int 1, .kt, [], rfl, cput_same, .inl (len_in3 1), .inr (.inr (.inl ⟨rfl, rfl⟩)), by decide, (fun x hx => by cases hx), (fun h => by cases h), fun n e n1 n3 => ?_⟩
  cases e
  refine ⟨(fun ⟨c, z⟩ => by cases z), (fun k x hk => by cases k <;> cases hk), fun bar e hbar => ⟨rfl, _, cput_same, ?_⟩⟩
  rw [cdel_cput2 hs]
  have ebar : bar = [] := by
    cases bar with
    | nil => rfl
    | cons y l => cases e
  subst ebar
  decreasing_trivial
  refine ⟨.cell b, 1, _, rfl, C1 _, by decide, fun _ => ?_, fun nm z => by cases z⟩
  decreasing_trivial
  refine ⟨b, _, rfl, hb1 _, ?_⟩
  decreasing_trivial
  refine ⟨_, hb1 _, by show 1 < _; omega, ?_⟩
  have e1 : dueD (.cell b) [] = .tup [.str tLen, .cell b] := rfl
  have e2 : dueD (.int 2) [.cell b] = .tup [.str tCode3, .cell b] := rfl
  have e3 : (cput (cput C b (cellOf (.lst [.str [97, 98]]))) b (.lst ([.str [97, 98]] ++ [.int 1]))) = cput C b (.lst [.str [97, 98], .int 1]) := cput_cput
  rw [e3]
  have hc := cput_same (C := C) (a := b) (c := Cell.lst [.str [97, 98], .int 1])
  generalize cput C b (Cell.lst [.str [97, 98], .int 1]) = C9 at hc ⊢
  rw [show (Cont.lst [(Ret.shr (dueD (.cell b) [])).tree, (Ret.shr (dueD (.int 2) [.cell b])).tree, (Ret.shr (.tup [.str tName3, .cell b])).tree]).d = .lst [.tup [.str tLen, .cell b], .tup [.str tCode3, .cell b], .tup [.str tName3, .cell b]] from rfl]
  decreasing_trivial
  refine i_hidE [.shr (.lst [.str [97, 98], .int 1]), .shr (.lst [.tup [.str tLen, .lst [.str [97, 98], .int 1]], .tup [.str tCode3, .lst [.str [97, 98], .int 1]], .tup [.str tName3, .lst [.str [97, 98], .int 1]]])] (.rd (.lst hc) (.rd (.l3 (.two (.same _) (.lst hc)) (.two (.same _) (.lst hc)) (.two (.same _) (.lst hc))) .nil)) ?_
  decreasing_trivial
  have ok : okD (.lst [.tup [.str tLen, .lst [.str [97, 98], .int 1]], .tup [.str tCode3, .lst [.str [97, 98], .int 1]], .tup [.str tName3, .lst [.str [97, 98], .int 1]]]) = true := by decide +kernel
  refine g_eqD ok ok rfl rfl ?_
  have ev := eqv_self ok
  refine ⟨rfl, trivial, ?_⟩
  refine Eq.mp (congrArg (fun b => PR (.shr (.bl b)) C9) ev.symm) ?_
  exact q _⟩
/-! law -/
theorem pure_law : PU m_law 14 1 spLaw := fun ds C PR PX ⟨ns, e, hl, hb, q⟩ => ⟨by rw [e]; rfl, by
  subst e
  change m_law _ _ [.shr (.scr ns), .non, .non, .non, .non, .non, .non, .non, .non, .non, .non, .non, .non, .non] C
  unfold m_law
  have hz := sizeLine_eq
  decreasing_trivial
  have hn : ∀ m : Nat, m ≤ 63 → (if (if (m : Int) < 5 then (m : Int) else 5) > 2 then (if (m : Int) < 5 then (m : Int) else 5) else 2 : Int) ≤ 5 := fun m hm => by split <;> split <;> omega
  generalize hj : (if (if (ns.length : Int) < 5 then (ns.length : Int) else 5) > 2 then (if (ns.length : Int) < 5 then (ns.length : Int) else 5) else 2 : Int) = j
  have hj5 : j ≤ 5 := by rw [← hj]; exact hn _ hl
  have hj2 : 2 ≤ j := by rw [← hj]; split <;> omega
  refine r_rng1 (by omega) ?_
  refine forL_inv (fun _ env _ => ∃ s1 s2 s3 s4 s5 s6 s7 s8 s9 s10 s11 s12 s13, NOw s8 ∧ env = [.shr (.scr ns), s1, s2, s3, s4, s5, s6, s7, s8, s9, s10, s11, s12, s13]) ⟨_, _, _, _, _, _, _, _, _, _, _, _, _, nOw_non, rfl⟩ ?_ ?_
  · rintro k d env C1 nx' hd ⟨s1, s2, s3, s4, s5, s6, s7, s8, s9, s10, s11, s12, s13, n8, rfl⟩ hx
    obtain ⟨rfl, hk⟩ := range_get hd
    decreasing_trivial
    refine ⟨ns, k, rfl, hl, by omega, hb, fun x y y0 y1 => ?_⟩
    refine ⟨true, asPur_vis y0 y1, fun a ha => ?_⟩
    decreasing_trivial
    refine ⟨a, 3, rfl, cput_same, by decide, by decide, fun j0 j00 j03 => ?_⟩
    obtain ⟨n, en, n1, n3⟩ : ∃ n : Nat, (1 : Int) + j0 = n ∧ 1 ≤ n ∧ n ≤ 3 := ⟨(1 + j0).toNat, by omega, by omega, by omega⟩
    decreasing_trivial
    rw [en]
    refine r_rng1 (by decide) ?_
    refine forL_inv (fun _ env C2 => C2 a = some (.pur true) ∧ ∃ s4 s5 s6 s7 s8 s9 s10 s11 s12 s13, NOw s8 ∧ env = [.shr (.scr ns), .shr (.int k), .shr (.cell a), .shr (.int n), s4, s5, s6, s7, s8, s9, s10, s11, s12, s13]) ⟨cput_same, _, _, _, _, _, _, _, _, _, _, n8, rfl⟩ ?_ ?_
    rotate_left
    · rintro env2 C2 ⟨hc, s4, s5, s6, s7, s8, s9, s10, s11, s12, s13, n8, rfl⟩
      exact hx _ _ ⟨_, _, _, _, _, _, _, _, _, _, _, _, _, n8, rfl⟩
    rintro k2 d2 env2 C2 nx2 hd2 ⟨hc, s4, s5, s6, s7, s8, s9, s10, s11, s12, s13, n8, rfl⟩ hx2
    decreasing_trivial
    refine ⟨a, rfl, hc, fun nm hn => ?_⟩
    decreasing_trivial
    refine ⟨nm, n, rfl, hn.2.1, n3, ?_⟩
    rw [spells_eq]
    decreasing_trivial
    refine ⟨a, 4, rfl, hc, by decide, by decide, fun j4 j40 j44 => ?_⟩
    decreasing_trivial
    refine r_rng1 ⟨by omega, by omega⟩ ⟨noOwn3 rfl n8, ?_⟩
    have hsl := spellS_len hn.2.1 n3
    refine comp_all (R := fun y => ∃ c, y = .str c ∧ cdOk n c) _ _ rfl (by rw [intsFrom_len]; simp; omega) (fun d hd Q' hq => ?_) fun ys hl' hy => ?_
    · decreasing_trivial
      refine g_cutS (by show 3 ≤ _; omega) ?_
      rw [cutL_take]
      decreasing_trivial
      refine g_addL (by rw [List.length_map]; show _ + 1 ≤ _; omega) ?_
      decreasing_trivial
      refine ⟨a, _, _, rfl, hc, .inl rfl, by simp, by simp; omega, fun d hd => ?_⟩
      rcases List.mem_append.mp hd with z | z
      · obtain ⟨c, hc', rfl⟩ := List.mem_map.mp z
        obtain ⟨h1, h2⟩ := spellS_mem hc'
        exact hq _ ⟨c, rfl, h1, fun x hx => hn.2.2 x (h2 x hx)⟩
      · rw [List.mem_singleton.mp z]
        exact hq _ ⟨_, rfl, by rw [List.length_take]; show min n 3 = n; omega, fun x hx => by have := List.mem_of_mem_take hx; simp at this; omega⟩
    rw [intsFrom_len] at hl'
    obtain ⟨bar, rfl, hbar⟩ := txs_of3 hy
    rw [List.nil_append]
    have hbl : bar.length ≤ 10 := by rw [List.length_map] at hl'; omega
    decreasing_trivial
    refine i_listC ?_
    decreasing_trivial
    intro c hcn
    have hca : a ≠ c := fun z => by rw [z, hcn] at hc; cases hc
    have hca1 : (cput C2 c (cellOf (Cont.lst (txs bar)))) a = some (.pur true) := by rw [cput_ne hca]; exact hc
    have hcc1 : (cput C2 c (cellOf (Cont.lst (txs bar)))) c = some (.lst (txs bar)) := cput_same
    generalize cput C2 c (cellOf (Cont.lst (txs bar))) = C3 at hca1 hcc1 ⊢
    decreasing_trivial
    refine ⟨a, _, _, rfl, hca1, .inl rfl, by simp, by simp, fun pd hpd => ?_⟩
    have hp : pd = .cell c ∨ pd = .tup (txs bar) := by
      simp only [List.mem_cons, List.not_mem_nil, or_false] at hpd
      exact hpd
    decreasing_trivial
    intro s hs
    have hsa : a ≠ s := fun z => by rw [z, hs] at hca1; cases hca1
    have hsc : c ≠ s := fun z => by rw [z, hs] at hcc1; cases hcc1
    have hthg : ∀ x ∈ txs bar, Thg (cput C3 s (.obj Cad.c_Speller [])) x := fun x hx => by
      obtain ⟨t, ht, rfl⟩ := List.mem_map.mp hx
      exact .inl (cd_in n3 (hbar t ht))
    have hwd : ∀ x ∈ txs bar, isWord x n n = true := fun x hx => by
      obtain ⟨t, ht, rfl⟩ := List.mem_map.mp hx
      exact cd_word (hbar t ht)
    refine ⟨rfl, rfl, s, .int n, pd, txs bar, rfl, cput_same, .inl (len_in3 n), (by
        rcases hp with rfl | rfl
        · exact .inr (.inr (.inr ⟨c, hsc, rfl, by rw [cput_ne hsc]; exact hcc1⟩))
        · exact .inr (.inl rfl)), (by rw [List.length_map]; omega), hthg, (fun h => by rw [len_ok3 n1 n3] at h; cases h), fun n' e _ _ => ?_⟩
    obtain rfl : n = n' := by injection e with e; omega
    refine ⟨(fun _ => hwd), (fun k x hk h1 h2 => by rw [hwd x (List.mem_of_getElem? hk)] at h2; cases h2), fun bar' e2 _ => ⟨rfl, _, cput_same, ?_⟩⟩
    obtain rfl : bar = bar' := txs_inj3 e2
    rw [cdel_cput2 hs]
    decreasing_trivial
    refine ⟨isOb_obj, rfl, n, _, rfl, ?_⟩
    decreasing_trivial
    rw [decide_eq_true rfl]
    decreasing_trivial
    have ass : ∀ t ∈ sortT (uniT bar), asc t := fun t ht x hx => by
      have := (hbar t (mem_uniT.mp (mem_sortT.mp ht))).2 x hx; omega
    have hsl2 : (sortT (uniT bar)).length ≤ 10 := by rw [sortT_len]; exact Nat.le_trans (uniT_len bar) hbl
    refine ⟨⟨_, rfl⟩, rfl, n, _, rfl, ?_⟩
    unfold FrsK
    decreasing_trivial
    refine g_setSortL (by omega) ?_
    decreasing_trivial
    refine g_txs3 ass ?_
    decreasing_trivial
    refine j_appN ?_
    refine i_propF ?_
    decreasing_trivial
    refine ⟨⟨_, rfl⟩, rfl, n, _, rfl, ?_⟩
    refine ⟨⟨_, rfl, by rw [List.length_map]; omega⟩, ?_⟩
    decreasing_trivial
    refine ⟨.str [66, 111, 111, 107], n, _, rfl, .inl ⟨⟨_, rfl⟩, (fun s e => by cases e; decide), fun s e => by cases e; decide⟩, n3, (fun _ => ?_), fun nm' e hm => by cases e; exact absurd (hm.2.2 66 (by decide)) (by decide)⟩
    decreasing_trivial
    refine ⟨a, nm, n, bar, rfl, hca1, hn, n1, n3, hbl, hbar, ?_⟩
    decreasing_trivial
    rw [show (some (3 : Int)) = some ((3 : Nat) : Int) from rfl, cutL_take]
    have ht3 : (((spellS nm n).map D.str).take 3).length ≤ 3 := List.length_take_le _ _
    refine g_addL (by rw [List.length_map]; omega) ?_
    decreasing_trivial
    refine ⟨a, rfl, hca1, fun d1 hd1 => ?_⟩
    decreasing_trivial
    refine g_cutS (by show 3 ≤ _; omega) ?_
    rw [cutL_take]
    decreasing_trivial
    refine g_addL (by rw [List.length_append, List.length_map]; show _ + 3 ≤ _; omega) ?_
    have hall : ∀ d ∈ ((spellS nm n).map D.str).take 3 ++ txs bar ++ [d1, .str (([97, 98, 99] : Txt).take n), .str nm], okIn d := fun d hd => by
      rcases List.mem_append.mp hd with z | z
      · rcases List.mem_append.mp z with z | z
        · obtain ⟨t, ht, rfl⟩ := List.mem_map.mp (List.mem_of_mem_take z)
          obtain ⟨h1, h2⟩ := spellS_mem ht
          exact cd_in n3 ⟨h1, fun x hx => hn.2.2 x (h2 x hx)⟩
        · obtain ⟨t, ht, rfl⟩ := List.mem_map.mp z
          exact cd_in n3 (hbar t ht)
      · simp only [List.mem_cons, List.not_mem_nil, or_false] at z
        rcases z with rfl | rfl | rfl
        · exact hd1.1
        · exact cd_in n3 ⟨by rw [List.length_take]; show min n 3 = n; omega, fun x hx => by have := List.mem_of_mem_take hx; simp at this; omega⟩
        · exact name_in hn
    refine o_lst ?_
    refine forL_inv (fun _ env C' => C' = C3 ∧ ∃ s11, env = [.shr (.scr ns), .shr (.int k), .shr (.cell a), .shr (.int n), .shr d2, .shr (.str nm), .shr (.lst ((spellS nm n).map D.str)), .shr (.lst (txs bar)), s8, .shr pd, .shr (spD n (sortT (uniT bar))), s11, s12, s13]) ⟨rfl, _, rfl⟩ ?_ ?_
    · rintro k3 d env C' nx' hd ⟨rfl, s11, rfl⟩ hx
      have hok := hall d (List.mem_of_getElem? hd)
      decreasing_trivial
      refine ⟨isOb_obj, rfl, d, n, _, rfl, hok, _, rfl, ?_⟩
      rw [if_neg (by decide)]
      decreasing_trivial
      refine g_repr rfl ((shw_bl (k := 0) _).ok (by decide) (by decide)) ?_
      decreasing_trivial
      refine ⟨d, n, n, rfl, hok, ?_⟩
      decreasing_trivial
      have fin : ∀ b : Bool, inSp n (sortT (uniT bar)) d = b → gEq true (dr C' (.str (shT (.bl (inSp n (sortT (uniT bar)) d))))) (dr C' (.str (shT (.bl b)))) fun x => ∃ kk, x = .bl kk ∧ if kk = true then PR (.shr (.bl false)) C' else nx' [.shr (.scr ns), .shr (.int k), .shr (.cell a), .shr (.int n), .shr d2, .shr (.str nm), .shr (.lst ((spellS nm n).map D.str)), .shr (.lst (txs bar)), s8, .shr pd, .shr (spD n (sortT (uniT bar))), .shr d, s12, s13] C' := fun b hb => by
        rw [hb]
        refine g_neS ?_
        rw [decide_eq_true rfl]
        exact ⟨_, rfl, hx _ _ ⟨rfl, _, rfl⟩⟩
      cases hw : isWord d n n with
      | false =>
        have e : inSp n (sortT (uniT bar)) d = false := by
          cases d with
          | str t => show (isWord (.str t) n n && _) = false; rw [hw]; rfl
          | _ => rfl
        decreasing_trivial
        refine g_repr rfl ((shw_bl (k := 0) _).ok (by decide) (by decide)) ?_
        exact fin _ e
      | true =>
        obtain ⟨t, rfl, ht⟩ := word_cd3 hw
        have e : inSp n (sortT (uniT bar)) (.str t) = !decide (t ∈ bar) := by
          show (isWord (.str t) n n && !decide (t ∈ sortT (uniT bar))) = _
          rw [hw, Bool.true_and]
          exact congrFun shut3 t
        decreasing_trivial
        refine g_notinT ?_
        decreasing_trivial
        refine g_repr rfl ((shw_bl (k := 0) _).ok (by decide) (by decide)) ?_
        exact fin _ e
    · rintro env C' ⟨rfl, s11, rfl⟩
      decreasing_trivial
      refine ⟨a, rfl, hca1, fun d3 hd3 => ?_⟩
      decreasing_trivial
      refine ⟨d3, 1, 12, rfl, hd3.1, ?_⟩
      decreasing_trivial
      have rest : (sSeq (sSet 12 (mOp gAdd (mPeek 7) (mMap Cont.d (mLst (mCons (mCall sp__law_any [] (mCons (mVar 2) mNil)) (mCons (mCall sp__law_any [] (mCons (mVar 2) mNil)) mNil)))))) (sSeq (sSet 13 (mCall sp__law_choose [] (mCons (mVar 2) (mCons (mMap Cont.d (mLst (mCons (mCall sp__law_any [] (mCons (mVar 2) mNil)) (mCons (mVar 3) (mCons (mVar 3) (mCons (mVar 3) mNil)))))) mNil)))) (sSeq (sIf (mTst (mOp (gEq true) (mCallB gRepr (mCons (mCall sp__law_made [] (mCons (mVar 13) (mCons (mVar 12) mNil))) mNil)) (mCallB gRepr (mCons (mCall sp__law_due [] (mCons (mVar 13) (mCons (mVar 12) mNil))) mNil)))) (sRet (mC (.bl false))) sNext) (sIf (mAndT (mTru (mCallB gIsi (mCons (mPeek 9) (mCons (mC (.ty "list")) mNil)))) (mNotT (mTru (mCall sp__law_copied [] (mCons (mVar 10) (mCons (mVar 9) (mCons (mVar 5) (mCons (mVar 3) (mCons (mVar 7) mNil))))))))) (sRet (mC (.bl false))) sNext)))) (fun x _ C => PX x C) ⟨nx2, PR, nx', nx2⟩ [.shr (.scr ns), .shr (.int k), .shr (.cell a), .shr (.int n), .shr d2, .shr (.str nm), .shr (.lst ((spellS nm n).map D.str)), .shr (.lst (txs bar)), s8, .shr pd, .shr (spD n (sortT (uniT bar))), .shr d3, s12, s13] C' := by
        decreasing_trivial
        refine ⟨a, rfl, hca1, fun d4 hd4 => ?_⟩
        decreasing_trivial
        refine ⟨a, rfl, hca1, fun d5 hd5 => ?_⟩
        decreasing_trivial
        refine g_addL (by rw [List.length_map]; show _ + 2 ≤ _; omega) ?_
        decreasing_trivial
        refine ⟨a, rfl, hca1, fun d6 hd6 => ?_⟩
        decreasing_trivial
        refine ⟨a, _, _, rfl, hca1, .inl rfl, by simp, by simp, fun d7 hd7 => ?_⟩
        have h7 : Th3 d7 := by
          simp only [List.mem_cons, List.not_mem_nil, or_false, or_self] at hd7
          rcases hd7 with rfl | rfl
          · exact hd6
          · exact Th3.nat n3
        have hb3 : ∀ x ∈ txs bar ++ [d4, d5], Th3 x := fun x hx => by
          rcases List.mem_append.mp hx with z | z
          · obtain ⟨t, ht, rfl⟩ := List.mem_map.mp z
            exact Th3.cd (hbar t ht) n3
          · simp only [List.mem_cons, List.not_mem_nil, or_false] at z
            rcases z with rfl | rfl
            · exact hd4
            · exact hd5
        have hbl3 : (txs bar ++ [d4, d5]).length ≤ 1000 := by rw [List.length_append, List.length_map]; show _ + 2 ≤ _; omega
        generalize txs bar ++ [d4, d5] = bs at hb3 hbl3 ⊢
        obtain ⟨hs1, hs2⟩ := due_sh h7 hb3
        decreasing_trivial
        refine ⟨d7, bs, rfl, .inl h7.1, (fun x hx => .inl (hb3 x hx).1), hbl3, ?_⟩
        decreasing_trivial
        refine g_repr (hs2 _) hs1 ?_
        decreasing_trivial
        refine ⟨d7, bs, rfl, h7.1, (fun x hx => (hb3 x hx).1), hbl3, ?_⟩
        decreasing_trivial
        refine g_repr (hs2 _) hs1 ?_
        decreasing_trivial
        rw [show decide (shT (Ret.shr (dueD d7 bs)).tree = shT (Ret.shr (dueD d7 bs)).tree) = true from decide_eq_true rfl]
        decreasing_trivial
        rcases hp with rfl | rfl
        · refine g_isiC3 hcc1 (b := true) (by decide +kernel) ?_
          decreasing_trivial
          refine ⟨c, nm, n, bar, rfl, hcc1, hn, n1, n3, hbl, hbar, fun C9 h9 => ?_⟩
          decreasing_trivial
          exact hx2 _ _ ⟨by rw [h9 a hca]; exact hca1, _, _, _, _, _, _, _, _, _, _, n8, rfl⟩
        · refine g_isi (b := false) rfl rfl (by decide +kernel) ?_
          decreasing_trivial
          exact hx2 _ _ ⟨hca1, _, _, _, _, _, _, _, _, _, _, n8, rfl⟩
      cases hw : isWord d3 1 12 with
      | true =>
        decreasing_trivial
        exact rest
      | false =>
        decreasing_trivial
        refine ⟨d3, n, _, rfl, .inl hd3.1, n3, (fun _ => ?_), fun nm' e hm => by subst e; rw [name_word hm] at hw; cases hw⟩
        decreasing_trivial
        refine g_repr rfl (shw3 hd3 (by decide) (by decide)) ?_
        decreasing_trivial
        refine g_repr rfl (shw3 hd3 (by decide) (by decide)) ?_
        decreasing_trivial
        rw [show decide (shT (Ret.shr (.tup [.str tName3, d3])).tree = shT (.tup [.str [110, 97, 109, 101], (Ret.shr d3).tree])) = true from decide_eq_true rfl]
        decreasing_trivial
        exact rest
  · rintro env2 C2 ⟨s1, s2, s3, s4, s5, s6, s7, s8, s9, s10, s11, s12, s13, n8, rfl⟩
    decreasing_trivial
    refine ⟨rfl, fun C3 => ?_⟩
    decreasing_trivial
    intro s hs
    refine ⟨rfl, rfl, s, .int 2, .kt, [], rfl, cput_same, .inl (len_in3 2), .inr (.inr (.inl ⟨rfl, rfl⟩)), by decide, (fun x hx => by cases hx), (fun h => by cases h), fun n e n1 n3 => ?_⟩
    cases e
    refine ⟨(fun ⟨c, z⟩ => by cases z), (fun k x hk => by cases k <;> cases hk), fun bar e hbar => ⟨rfl, _, cput_same, ?_⟩⟩
    rw [cdel_cput2 hs]
    have ebar : bar = [] := by
      cases bar with
      | nil => rfl
      | cons y l => cases e
    subst ebar
    decreasing_trivial
    refine ⟨isOb_obj, rfl, 2, [], rfl, ?_⟩
    decreasing_trivial
    exact q _⟩
end
theorem law_me (ns : List Int) (h : ns.length ≤ 63) (hb : ∀ z ∈ ns, Builtin.Int.intBits z ≤ 1048576) : LawSp spLaw ns := ⟨ns, rfl, h, hb, fun _ => rfl⟩
end L2.DL
namespace L2.DL
open PySem PySem.Spec PyProof.Rows
section
variable [Cad] {P : Program} {w : World} {K : PySem.W.Frag} {mg : Str → Option Value} {base : Heap}
theorem ok__law_purse {f : Addr} {fd : FuncData} (F : Fun K "_law_purse" "_law_purse" st__law_purse f fd) (T : Gls K mg) (hbase : ∃ o, base.get? sysModules = some o)  : DFn P w K mg base 1 f fd ["_law_script", "_law_start"] sp__law_purse :=
  dfn_ok F sc__law_purse (fun cdv A fr s H E gd hr => b__law_purse T hbase  gd hr) (by decide) pure__law_purse
theorem ok__law_draw {f : Addr} {fd : FuncData} (F : Fun K "_law_draw" "_law_draw" st__law_draw f fd) (T : Gls K mg) (hbase : ∃ o, base.get? sysModules = some o) : DFn P w K mg base 1 f fd ["_law_purse_here", "_law_size"] sp__law_draw :=
  dfn_draw F sc__law_draw (fun cdv A fr s H E gd hr => b__law_draw T hbase gd hr) (by decide) pure__law_draw
theorem ok__law_choose {f : Addr} {fd : FuncData} (F : Fun K "_law_choose" "_law_choose" st__law_choose f fd) (T : Gls K mg) (hbase : ∃ o, base.get? sysModules = some o) (c__law_draw : Cle P w K mg base 1 "_law_draw" sp__law_draw) : DFn P w K mg base 2 f fd ["_law_purse_here", "_law_things"] sp__law_choose :=
  dfn_ok F sc__law_choose (fun cdv A fr s H E gd hr => b__law_choose T hbase c__law_draw gd hr) (by decide) pure__law_choose
theorem ok__law_word {f : Addr} {fd : FuncData} (F : Fun K "_law_word" "_law_word" st__law_word f fd) (T : Gls K mg) (hbase : ∃ o, base.get? sysModules = some o) (c__law_draw : Cle P w K mg base 1 "_law_draw" sp__law_draw) (c__law_choose : Cle P w K mg base 2 "_law_choose" sp__law_choose) : DFn P w K mg base 3 f fd ["_law_purse_here", "_law_letters", "_law_most"] sp__law_word :=
  dfn_ok F sc__law_word (fun cdv A fr s H E gd hr => b__law_word T hbase c__law_draw c__law_choose gd hr) (by decide) pure__law_word
theorem ok__law_name {f : Addr} {fd : FuncData} (F : Fun K "_law_name" "_law_name" st__law_name f fd) (T : Gls K mg) (hbase : ∃ o, base.get? sysModules = some o) (c__law_word : Cle P w K mg base 3 "_law_word" sp__law_word) (c__law_choose : Cle P w K mg base 2 "_law_choose" sp__law_choose) : DFn P w K mg base 4 f fd ["_law_purse_here"] sp__law_name :=
  dfn_ok F sc__law_name (fun cdv A fr s H E gd hr => b__law_name T hbase c__law_word c__law_choose gd hr) (by decide) pure__law_name
theorem ok__law_places {f : Addr} {fd : FuncData} (F : Fun K "_law_places" "_law_places" st__law_places f fd) (T : Gls K mg) (hbase : ∃ o, base.get? sysModules = some o)  : DFn P w K mg base 1 f fd ["_law_name_here", "_law_length"] sp__law_places :=
  dfn_ok F sc__law_places (fun cdv A fr s H E gd hr => b__law_places T hbase  gd hr) (by decide) pure__law_places
theorem ok__law_spellings {f : Addr} {fd : FuncData} (F : Fun K "_law_spellings" "_law_spellings" st__law_spellings f fd) (T : Gls K mg) (hbase : ∃ o, base.get? sysModules = some o) (c__law_places : Cle P w K mg base 1 "_law_places" sp__law_places) : DFn P w K mg base 2 f fd ["_law_name_here", "_law_length"] sp__law_spellings :=
  dfn_ok F sc__law_spellings (fun cdv A fr s H E gd hr => b__law_spellings T hbase c__law_places gd hr) (by decide) pure__law_spellings
theorem ok_is_length {f : Addr} {fd : FuncData} (F : Fun K "is_length" "is_length" st_is_length f fd) (T : Gls K mg) (hbase : ∃ o, base.get? sysModules = some o)  : DFn P w K mg base 1 f fd ["value"] sp_is_length :=
  dfn_ok F sc_is_length (fun cdv A fr s H E gd hr => b_is_length T hbase  gd hr) (by decide) pure_is_length
theorem ok_is_word {f : Addr} {fd : FuncData} (F : Fun K "is_word" "is_word" st_is_word f fd) (T : Gls K mg) (hbase : ∃ o, base.get? sysModules = some o)  : DFn P w K mg base 1 f fd ["value", "least", "most"] sp_is_word :=
  dfn_ok F sc_is_word (fun cdv A fr s H E gd hr => b_is_word T hbase  gd hr) (by decide) pure_is_word
theorem ok_is_code {f : Addr} {fd : FuncData} (F : Fun K "is_code" "is_code" st_is_code f fd) (T : Gls K mg) (hbase : ∃ o, base.get? sysModules = some o) (c_is_word : Cle P w K mg base 1 "is_word" sp_is_word) : DFn P w K mg base 2 f fd ["value", "length"] sp_is_code :=
  dfn_ok F sc_is_code (fun cdv A fr s H E gd hr => b_is_code T hbase c_is_word gd hr) (by decide) pure_is_code
theorem ok_Speller___init__ {f : Addr} {fd : FuncData} (F : Fun K "__init__" "Speller.__init__" st_Speller___init__ f fd) (T : Gls K mg) (hbase : ∃ o, base.get? sysModules = some o) (c_is_length : Cle P w K mg base 1 "is_length" sp_is_length) (x_BadLength : QRa P w K mg base 1 "BadLength" Cad.c_BadLength "value") (c_is_code : Cle P w K mg base 2 "is_code" sp_is_code) (x_BadCode : QRa P w K mg base 1 "BadCode" Cad.c_BadCode "value") : DFn P w K mg base 3 f fd ["self", "length", "banned"] sp_Speller___init__ :=
  dfn_ok F sc_Speller___init__ (fun cdv A fr s H E gd hr => b_Speller___init__ T hbase c_is_length x_BadLength c_is_code x_BadCode gd hr) (by decide) pure_Speller___init__
theorem ok_Speller_length {f : Addr} {fd : FuncData} (F : Fun K "length" "Speller.length" st_Speller_length f fd) (T : Gls K mg) (hbase : ∃ o, base.get? sysModules = some o)  : DFn P w K mg base 1 f fd ["self"] sp_Speller_length :=
  dfn_ok F sc_Speller_length (fun cdv A fr s H E gd hr => b_Speller_length T hbase  gd hr) (by decide) pure_Speller_length
theorem ok_Speller_banned {f : Addr} {fd : FuncData} (F : Fun K "banned" "Speller.banned" st_Speller_banned f fd) (T : Gls K mg) (hbase : ∃ o, base.get? sysModules = some o)  : DFn P w K mg base 1 f fd ["self"] sp_Speller_banned :=
  dfn_ok F sc_Speller_banned (fun cdv A fr s H E gd hr => b_Speller_banned T hbase  gd hr) (by decide) pure_Speller_banned
theorem ok_is_name {f : Addr} {fd : FuncData} (F : Fun K "is_name" "is_name" st_is_name f fd) (T : Gls K mg) (hbase : ∃ o, base.get? sysModules = some o) (c_is_word : Cle P w K mg base 1 "is_word" sp_is_word) : DFn P w K mg base 2 f fd ["value"] sp_is_name :=
  dfn_ok F sc_is_name (fun cdv A fr s H E gd hr => b_is_name T hbase c_is_word gd hr) (by decide) pure_is_name
theorem okr_place_lists {f : Addr} {fd : FuncData} (F : Fun K "place_lists" "place_lists" st_place_lists f fd) (T : Gls K mg) (hbase : ∃ o, base.get? sysModules = some o)  (hm : mg "place_lists" = some (.ref f)) (hk : PySem.W.keepIn K (.ref f) = true) (hb : Binds K fd ["size", "length"] []) : ∀ n : Nat, DFn P w K mg base (n + 1) f fd ["size", "length"] (spr_place_lists n)
  | 0 => dfn_ok F sc_place_lists (fun cdv A fr s H E gd hr => b_place_lists T hbase (rk := 0) (spr := spNo) ⟨_, _, _, dfn_no, hm, hk, hb⟩ gd hr) (by decide) (pure_place_lists 0)
  | n + 1 => dfn_ok F sc_place_lists (fun cdv A fr s H E gd hr => b_place_lists T hbase (rk := n + 1) (spr := spr_place_lists n) ⟨_, _, _, dfn_mono (okr_place_lists F T hbase  hm hk hb n) (by omega), hm, hk, hb⟩ gd hr) (by decide) (pure_place_lists (n + 1))
theorem ok_place_lists {f : Addr} {fd : FuncData} (F : Fun K "place_lists" "place_lists" st_place_lists f fd) (T : Gls K mg) (hbase : ∃ o, base.get? sysModules = some o)  (hm : mg "place_lists" = some (.ref f)) (hk : PySem.W.keepIn K (.ref f) = true) (hb : Binds K fd ["size", "length"] []) : DFn P w K mg base 4 f fd ["size", "length"] sp_place_lists :=
  dfn_ex (B := 3) fun n hn => dfn_mono (okr_place_lists F T hbase  hm hk hb n) (by omega)
theorem ok_spellings {f : Addr} {fd : FuncData} (F : Fun K "spellings" "spellings" st_spellings f fd) (T : Gls K mg) (hbase : ∃ o, base.get? sysModules = some o) (c_place_lists : Cle P w K mg base 4 "place_lists" sp_place_lists) : DFn P w K mg base 5 f fd ["name", "length"] sp_spellings :=
  dfn_ok F sc_spellings (fun cdv A fr s H E gd hr => b_spellings T hbase c_place_lists gd hr) (by decide) pure_spellings
theorem ok_Speller___call__ {f : Addr} {fd : FuncData} (F : Fun K "__call__" "Speller.__call__" st_Speller___call__ f fd) (T : Gls K mg) (hbase : ∃ o, base.get? sysModules = some o) (c_is_name : Cle P w K mg base 2 "is_name" sp_is_name) (x_BadName : QRa P w K mg base 1 "BadName" Cad.c_BadName "value") (c_spellings : Cle P w K mg base 5 "spellings" sp_spellings) : DFn P w K mg base 6 f fd ["self", "name"] sp_Speller___call__ :=
  dfn_ok F sc_Speller___call__ (fun cdv A fr s H E gd hr => b_Speller___call__ T hbase c_is_name x_BadName c_spellings gd hr) (by decide) pure_Speller___call__
theorem ok__law_error {f : Addr} {fd : FuncData} (F : Fun K "_law_error" "_law_error" st__law_error f fd) (T : Gls K mg) (hbase : ∃ o, base.get? sysModules = some o) : DFnX P w K mg base 1 f fd ["_law_e"] sp__law_error :=
  dfnX_ok F sc__law_error (fun cdv A fr s H E a oe cls d gd hr hz hf => b__law_error T hbase gd hr hz hf) (by decide) pure__law_error
theorem ok__law_called {f : Addr} {fd : FuncData} (F : Fun K "_law_called" "_law_called" st__law_called f fd) (T : Gls K mg) (hbase : ∃ o, base.get? sysModules = some o) (i_Speller : QCo P w K mg base 6 Cad.c_Speller (spV 2 sp_Speller___call__)) (c__law_error : XCle P w K mg base 1 "_law_error" sp__law_error) : DFn P w K mg base 7 f fd ["_law_speller", "_law_thing"] sp__law_called :=
  dfn_ok F sc__law_called (fun cdv A fr s H E gd hr => b__law_called T hbase i_Speller c__law_error gd hr) (by decide) pure__law_called
theorem ok__law_allowed {f : Addr} {fd : FuncData} (F : Fun K "_law_allowed" "_law_allowed" st__law_allowed f fd) (T : Gls K mg) (hbase : ∃ o, base.get? sysModules = some o) (c__law_spellings : Cle P w K mg base 2 "_law_spellings" sp__law_spellings) : DFn P w K mg base 3 f fd ["_law_word_here", "_law_length", "_law_barred"] sp__law_allowed :=
  dfn_ok F sc__law_allowed (fun cdv A fr s H E gd hr => b__law_allowed T hbase c__law_spellings gd hr) (by decide) pure__law_allowed
theorem ok__law_spells {f : Addr} {fd : FuncData} (F : Fun K "_law_spells" "_law_spells" st__law_spells f fd) (T : Gls K mg) (hbase : ∃ o, base.get? sysModules = some o) (i_Speller : QCo P w K mg base 6 Cad.c_Speller (spV 2 sp_Speller___call__)) (c__law_allowed : Cle P w K mg base 3 "_law_allowed" sp__law_allowed) (p_Speller_length : QPr P w K mg base 1 Cad.c_Speller "length" (spV 1 sp_Speller_length)) (c__law_name : Cle P w K mg base 4 "_law_name" sp__law_name) (p_Speller_banned : QPr P w K mg base 1 Cad.c_Speller "banned" (spV 1 sp_Speller_banned)) : DFn P w K mg base 7 f fd ["_law_purse_here", "_law_speller", "_law_name_here", "_law_length", "_law_barred"] sp__law_spells :=
  dfn_ok F sc__law_spells (fun cdv A fr s H E gd hr => b__law_spells T hbase i_Speller c__law_allowed p_Speller_length c__law_name p_Speller_banned gd hr) (by decide) pure__law_spells
theorem ok__law_any {f : Addr} {fd : FuncData} (F : Fun K "_law_any" "_law_any" st__law_any f fd) (T : Gls K mg) (hbase : ∃ o, base.get? sysModules = some o) (c__law_choose : Cle P w K mg base 2 "_law_choose" sp__law_choose) : DFn P w K mg base 3 f fd ["_law_purse_here"] sp__law_any :=
  dfn_ok F sc__law_any (fun cdv A fr s H E gd hr => b__law_any T hbase c__law_choose gd hr) (by decide) pure__law_any
theorem ok_Speller___contains__ {f : Addr} {fd : FuncData} (F : Fun K "__contains__" "Speller.__contains__" st_Speller___contains__ f fd) (T : Gls K mg) (hbase : ∃ o, base.get? sysModules = some o) (c_is_code : Cle P w K mg base 2 "is_code" sp_is_code) : DFn P w K mg base 3 f fd ["self", "code"] sp_Speller___contains__ :=
  dfn_ok F sc_Speller___contains__ (fun cdv A fr s H E gd hr => b_Speller___contains__ T hbase c_is_code gd hr) (by decide) pure_Speller___contains__
theorem ok__law_is_word {f : Addr} {fd : FuncData} (F : Fun K "_law_is_word" "_law_is_word" st__law_is_word f fd) (T : Gls K mg) (hbase : ∃ o, base.get? sysModules = some o)  : DFn P w K mg base 1 f fd ["_law_thing", "_law_least", "_law_most"] sp__law_is_word :=
  dfn_ok F sc__law_is_word (fun cdv A fr s H E gd hr => b__law_is_word T hbase  gd hr) (by decide) pure__law_is_word
theorem ok__law_made {f : Addr} {fd : FuncData} (F : Fun K "_law_made" "_law_made" st__law_made f fd) (T : Gls K mg) (hbase : ∃ o, base.get? sysModules = some o) (k_Speller_2_banned : QNm P w K mg base 4 "Speller" ["banned"] (spMakeF Cad.c_Speller (spvOf sp_Speller___init__ 1 2 [0, 1, 2] []))) (c__law_error : XCle P w K mg base 1 "_law_error" sp__law_error) : DFn P w K mg base 5 f fd ["_law_length", "_law_barred"] sp__law_made :=
  dfn_ok F sc__law_made (fun cdv A fr s H E gd hr => b__law_made T hbase k_Speller_2_banned c__law_error gd hr) (by decide) pure__law_made
theorem ok__law_due {f : Addr} {fd : FuncData} (F : Fun K "_law_due" "_law_due" st__law_due f fd) (T : Gls K mg) (hbase : ∃ o, base.get? sysModules = some o) (c__law_is_word : Cle P w K mg base 1 "_law_is_word" sp__law_is_word) : DFn P w K mg base 2 f fd ["_law_length", "_law_barred"] sp__law_due :=
  dfn_ok F sc__law_due (fun cdv A fr s H E gd hr => b__law_due T hbase c__law_is_word gd hr) (by decide) pure__law_due
theorem ok__law_copied {f : Addr} {fd : FuncData} (F : Fun K "_law_copied" "_law_copied" st__law_copied f fd) (T : Gls K mg) (hbase : ∃ o, base.get? sysModules = some o) (c__law_spellings : Cle P w K mg base 2 "_law_spellings" sp__law_spellings) (p_Speller_banned : QPr P w K mg base 1 Cad.c_Speller "banned" (spV 1 sp_Speller_banned)) (i_Speller : QCo P w K mg base 6 Cad.c_Speller (spV 2 sp_Speller___call__)) (c__law_allowed : Cle P w K mg base 3 "_law_allowed" sp__law_allowed) (o_Speller___contains__ : QOw P w K mg base 3 Cad.c_Speller "__contains__" (spV 2 sp_Speller___contains__)) : DFn P w K mg base 7 f fd ["_law_speller", "_law_passed", "_law_name_here", "_law_length", "_law_barred"] sp__law_copied :=
  dfn_ok F sc__law_copied (fun cdv A fr s H E gd hr => b__law_copied T hbase c__law_spellings p_Speller_banned i_Speller c__law_allowed o_Speller___contains__ gd hr) (by decide) pure__law_copied
theorem ok__law_values_kept {f : Addr} {fd : FuncData} (F : Fun K "_law_values_kept" "_law_values_kept" st__law_values_kept f fd) (T : Gls K mg) (hbase : ∃ o, base.get? sysModules = some o) (c__law_made : Cle P w K mg base 5 "_law_made" sp__law_made) (c__law_called : Cle P w K mg base 7 "_law_called" sp__law_called) (k_Speller_2_ : QNm P w K mg base 4 "Speller" [] (spMakeF Cad.c_Speller (spvOf sp_Speller___init__ 0 2 [0, 1, 2] [.kt]))) : DFn P w K mg base 8 f fd [] sp__law_values_kept :=
  dfn_ok F sc__law_values_kept (fun cdv A fr s H E gd hr => b__law_values_kept T hbase c__law_made c__law_called k_Speller_2_ gd hr) (by decide) pure__law_values_kept
theorem ok_law {f : Addr} {fd : FuncData} (F : Fun K "law" "law" st_law f fd) (T : Gls K mg) (hbase : ∃ o, base.get? sysModules = some o) (c__law_purse : Cle P w K mg base 1 "_law_purse" sp__law_purse) (c__law_draw : Cle P w K mg base 1 "_law_draw" sp__law_draw) (c__law_name : Cle P w K mg base 4 "_law_name" sp__law_name) (c__law_spellings : Cle P w K mg base 2 "_law_spellings" sp__law_spellings) (c__law_choose : Cle P w K mg base 2 "_law_choose" sp__law_choose) (k_Speller_2_banned : QNm P w K mg base 4 "Speller" ["banned"] (spMakeF Cad.c_Speller (spvOf sp_Speller___init__ 1 2 [0, 1, 2] []))) (p_Speller_length : QPr P w K mg base 1 Cad.c_Speller "length" (spV 1 sp_Speller_length)) (p_Speller_banned : QPr P w K mg base 1 Cad.c_Speller "banned" (spV 1 sp_Speller_banned)) (c__law_called : Cle P w K mg base 7 "_law_called" sp__law_called) (c__law_spells : Cle P w K mg base 7 "_law_spells" sp__law_spells) (c__law_any : Cle P w K mg base 3 "_law_any" sp__law_any) (o_Speller___contains__ : QOw P w K mg base 3 Cad.c_Speller "__contains__" (spV 2 sp_Speller___contains__)) (c__law_is_word : Cle P w K mg base 1 "_law_is_word" sp__law_is_word) (c__law_made : Cle P w K mg base 5 "_law_made" sp__law_made) (c__law_due : Cle P w K mg base 2 "_law_due" sp__law_due) (c__law_copied : Cle P w K mg base 7 "_law_copied" sp__law_copied) (c__law_values_kept : Cle P w K mg base 8 "_law_values_kept" sp__law_values_kept) (k_Speller_2_ : QNm P w K mg base 4 "Speller" [] (spMakeF Cad.c_Speller (spvOf sp_Speller___init__ 0 2 [0, 1, 2] [.kt]))) : DFn P w K mg base 9 f fd ["_law_script"] spLaw :=
  dfn_ok F sc_law (fun cdv A fr s H E gd hr => b_law T hbase c__law_purse c__law_draw c__law_name c__law_spellings c__law_choose k_Speller_2_banned p_Speller_length p_Speller_banned c__law_called c__law_spells c__law_any o_Speller___contains__ c__law_is_word c__law_made c__law_due c__law_copied c__law_values_kept k_Speller_2_ gd hr) (by decide) pure_law
end
end L2.DL
namespace L2.DL
open PySem PySem.Spec PyProof.Rows
theorem all_mk {l : PySem.W.OpenLaw} {w : World} {K : PySem.W.Frag} {h : Heap} {mg : Str → Option Value} {fa : Addr} {q1 q2 q3 q4 q5 f1 f2 f3 f4 f5 f6 f7 f8 f9 f10 f30 f31 f11 f12 f13 f14 f15 f16 f32 f17 f18 f19 f20 f21 f22 f23 f24 f25 f26 f27 f28 f29 : Addr} (KX : K.In h) (G : h.Ns mainGlobals mg) (hfa : mg "law" = some (.ref fa))
    {p12 p13 : Addr} {rs12 rs13 : List Value}
    {od1 an1 od2 an2 od3 an3 od4 an4 od5 an5 od6 an6 od7 an7 od8 an8 od9 an9 od10 an10 od30 an30 od31 an31 od11 an11 od12 an12 od13 an13 od14 an14 od15 an15 od16 an16 od32 an32 od17 an17 od18 an18 od19 an19 od20 an20 od21 an21 od22 an22 od23 an23 od24 an24 od25 an25 od26 an26 od27 an27 od28 an28 od29 an29 : Option Addr} {sl1 sl2 sl3 sl4 sl5 sl6 sl7 sl8 sl9 sl10 sl30 sl31 sl11 sl12 sl13 sl14 sl15 sl16 sl32 sl17 sl18 sl19 sl20 sl21 sl22 sl23 sl24 sl25 sl26 sl27 sl28 sl29 : Array (Option Value)} {oc1 kV1 dc1 pm1 cd1 ct1 oc2 kV2 dc2 pm2 cd2 ct2 oc3 kV3 dc3 pm3 cd3 ct3 oc4 kV4 dc4 pm4 cd4 ct4 oc5 kV5 dc5 pm5 cd5 ct5 oc6 kV6 dc6 pm6 cd6 ct6 oc7 kV7 dc7 pm7 cd7 ct7 oc8 kV8 dc8 pm8 cd8 ct8 oc9 kV9 dc9 pm9 cd9 ct9 oc10 kV10 dc10 pm10 cd10 ct10 oc30 kV30 dc30 pm30 cd30 ct30 oc31 kV31 dc31 pm31 cd31 ct31 oc11 dc11 pm11 cd11 ct11 oc12 kV12 dc12 pm12 cd12 ct12 oc13 kV13 dc13 pm13 cd13 ct13 oc14 kV14 dc14 pm14 cd14 ct14 oc15 kV15 dc15 pm15 cd15 ct15 oc16 kV16 dc16 pm16 cd16 ct16 oc32 kV32 dc32 pm32 cd32 ct32 oc17 kV17 dc17 pm17 cd17 ct17 oc18 kV18 dc18 pm18 cd18 ct18 oc19 kV19 dc19 pm19 cd19 ct19 oc20 kV20 dc20 pm20 cd20 ct20 oc21 kV21 dc21 pm21 cd21 ct21 oc22 kV22 dc22 pm22 cd22 ct22 oc23 kV23 dc23 pm23 cd23 ct23 oc24 kV24 dc24 pm24 cd24 ct24 oc25 kV25 dc25 pm25 cd25 ct25 oc26 kV26 dc26 pm26 cd26 ct26 oc27 kV27 dc27 pm27 cd27 ct27 oc28 kV28 dc28 pm28 cd28 ct28 oc29 kV29 dc29 pm29 cd29 ct29 : Value} {gv1 : Value} {gv2 : Value} {gv3 : Value}
    {ka11_banned : Addr} {kd11 : Addr}
    {nm1 qn1 : Str} {N1 : Addr} {bs1 bm1 : List Value} {sn1 : List Str} {sub1 : List Value} {ab1 : Bool} {col1 : Option Bool} {dd1 : Option Addr} {x01 x11 x21 x31 x51 : Option Value}
    {nm3 qn3 : Str} {N3 : Addr} {bs3 bm3 : List Value} {sn3 : List Str} {sub3 : List Value} {ab3 : Bool} {col3 : Option Bool} {dd3 : Option Addr} {x03 x13 x23 x33 x53 : Option Value}
    {nm5 qn5 : Str} {N5 : Addr} {bs5 bm5 : List Value} {sn5 : List Str} {sub5 : List Value} {ab5 : Bool} {col5 : Option Bool} {dd5 : Option Addr} {x05 x15 x25 x35 x55 : Option Value}
    (gC1 : PySem.W.nsIn K mainGlobals "BadLength" = some (some (.ref q1)))
    (gC2 : PySem.W.nsIn K mainGlobals "CodeError" = some (some (.ref q2)))
    (gC3 : PySem.W.nsIn K mainGlobals "BadCode" = some (some (.ref q3)))
    (gC4 : PySem.W.nsIn K mainGlobals "Speller" = some (some (.ref q4)))
    (gC5 : PySem.W.nsIn K mainGlobals "BadName" = some (some (.ref q5)))
    (nf4_shut : PySem.W.findIn K (.ref q4) "shut" = some none)
    (nf4_size : PySem.W.findIn K (.ref q4) "size" = some none)
    (pg4 : PySem.W.plainGet K q4 Str.empty = true)
    (hd4 : PySem.W.hasDictIn K q4 = true)
    (po4 : PySem.W.plainOver K q4 = true)
    (sa4 : PySem.W.findIn K (.ref q4) "__setattr__" = some (some (.builtin "object.__setattr__")))
    (sb1_2 : PySem.W.subIn K (.ref q1) (.ref q2) = some true)
    (bx2 : PySem.W.subIn K (.ref q2) (.type "BaseException") = some true)
    (ic2 : PySem.W.isClsIn K q2 = true)
    (tc2 : PySem.W.typeIn K (.ref q2) = some (.type "type"))
    (sb3_2 : PySem.W.subIn K (.ref q3) (.ref q2) = some true)
    (sb5_2 : PySem.W.subIn K (.ref q5) (.ref q2) = some true)
    (no1_NoneType : PySem.W.subIn K (.type "NoneType") (.ref q1) = some false)
    (no1_bool : PySem.W.subIn K (.type "bool") (.ref q1) = some false)
    (no1_int : PySem.W.subIn K (.type "int") (.ref q1) = some false)
    (no1_str : PySem.W.subIn K (.type "str") (.ref q1) = some false)
    (no1_tuple : PySem.W.subIn K (.type "tuple") (.ref q1) = some false)
    (no1_list : PySem.W.subIn K (.type "list") (.ref q1) = some false)
    (no1_dict : PySem.W.subIn K (.type "dict") (.ref q1) = some false)
    (ic1 : PySem.W.isClsIn K q1 = true)
    (tc1 : PySem.W.typeIn K (.ref q1) = some (.type "type"))
    (ga1 : PySem.W.findIn K (.ref q1) "__getattribute__" = some (some (.builtin "BaseException.__getattribute__")))
    (gg1 : PySem.W.findIn K (.ref q1) "__getattr__" = some none)
    (bx1 : PySem.W.subIn K (.ref q1) (.type "BaseException") = some true)
    (hd1 : PySem.W.hasDictIn K q1 = true)
    (ca1 : PySem.W.findIn K (.ref q1) "__class__" = some (some (.builtin "object.__class__")))
    (ocg : PySem.W.specialIn K (.builtin "object.__class__") "__get__" = some (some (.builtin "getset_descriptor.__get__")))
    (oct : PySem.W.takesIn K (.builtin "object.__class__") = some true)
    (cm1 : PySem.W.mroIn K q1 (.type "object") = some true)
    (ga3 : PySem.W.findIn K (.ref q3) "__getattribute__" = some (some (.builtin "BaseException.__getattribute__")))
    (gg3 : PySem.W.findIn K (.ref q3) "__getattr__" = some none)
    (bx3 : PySem.W.subIn K (.ref q3) (.type "BaseException") = some true)
    (hd3 : PySem.W.hasDictIn K q3 = true)
    (ca3 : PySem.W.findIn K (.ref q3) "__class__" = some (some (.builtin "object.__class__")))
    (cm3 : PySem.W.mroIn K q3 (.type "object") = some true)
    (sb3_1 : PySem.W.subIn K (.ref q3) (.ref q1) = some false)
    (sb1_1 : PySem.W.subIn K (.ref q1) (.ref q1) = some true)
    (ga5 : PySem.W.findIn K (.ref q5) "__getattribute__" = some (some (.builtin "BaseException.__getattribute__")))
    (gg5 : PySem.W.findIn K (.ref q5) "__getattr__" = some none)
    (bx5 : PySem.W.subIn K (.ref q5) (.type "BaseException") = some true)
    (hd5 : PySem.W.hasDictIn K q5 = true)
    (ca5 : PySem.W.findIn K (.ref q5) "__class__" = some (some (.builtin "object.__class__")))
    (cm5 : PySem.W.mroIn K q5 (.type "object") = some true)
    (sb5_1 : PySem.W.subIn K (.ref q5) (.ref q1) = some false)
    (nf1_value : PySem.W.findIn K (.ref q1) "value" = some none)
    (nf3_value : PySem.W.findIn K (.ref q3) "value" = some none)
    (nf5_value : PySem.W.findIn K (.ref q5) "value" = some none)
    (no3_NoneType : PySem.W.subIn K (.type "NoneType") (.ref q3) = some false)
    (no3_bool : PySem.W.subIn K (.type "bool") (.ref q3) = some false)
    (no3_int : PySem.W.subIn K (.type "int") (.ref q3) = some false)
    (no3_str : PySem.W.subIn K (.type "str") (.ref q3) = some false)
    (no3_tuple : PySem.W.subIn K (.type "tuple") (.ref q3) = some false)
    (no3_list : PySem.W.subIn K (.type "list") (.ref q3) = some false)
    (no3_dict : PySem.W.subIn K (.type "dict") (.ref q3) = some false)
    (ic3 : PySem.W.isClsIn K q3 = true)
    (tc3 : PySem.W.typeIn K (.ref q3) = some (.type "type"))
    (sb1_3 : PySem.W.subIn K (.ref q1) (.ref q3) = some false)
    (sb3_3 : PySem.W.subIn K (.ref q3) (.ref q3) = some true)
    (sb5_3 : PySem.W.subIn K (.ref q5) (.ref q3) = some false)
    (no5_NoneType : PySem.W.subIn K (.type "NoneType") (.ref q5) = some false)
    (no5_bool : PySem.W.subIn K (.type "bool") (.ref q5) = some false)
    (no5_int : PySem.W.subIn K (.type "int") (.ref q5) = some false)
    (no5_str : PySem.W.subIn K (.type "str") (.ref q5) = some false)
    (no5_tuple : PySem.W.subIn K (.type "tuple") (.ref q5) = some false)
    (no5_list : PySem.W.subIn K (.type "list") (.ref q5) = some false)
    (no5_dict : PySem.W.subIn K (.type "dict") (.ref q5) = some false)
    (ic5 : PySem.W.isClsIn K q5 = true)
    (tc5 : PySem.W.typeIn K (.ref q5) = some (.type "type"))
    (sb1_5 : PySem.W.subIn K (.ref q1) (.ref q5) = some false)
    (sb5_5 : PySem.W.subIn K (.ref q5) (.ref q5) = some true)
    (sb3_5 : PySem.W.subIn K (.ref q3) (.ref q5) = some false)
    (a1 : PySem.W.nsIn K mainGlobals "_law_purse" = some (some (.ref f1)))
    (l1 : K.lookup f1 = some ⟨oc1, od1, .func (PySem.W.fnOf "_law_purse" "_law_purse" (defArgs st__law_purse) (defBody st__law_purse) (defScope st__law_purse) .none kV1 dc1 pm1 an1 cd1 ct1), sl1⟩)
    (d1 : PySem.W.codeIn K cd1 "_law_purse" = true)
    (k1 : PySem.W.keepIn K (.ref f1) = true)
    (a2 : PySem.W.nsIn K mainGlobals "_law_draw" = some (some (.ref f2)))
    (l2 : K.lookup f2 = some ⟨oc2, od2, .func (PySem.W.fnOf "_law_draw" "_law_draw" (defArgs st__law_draw) (defBody st__law_draw) (defScope st__law_draw) .none kV2 dc2 pm2 an2 cd2 ct2), sl2⟩)
    (d2 : PySem.W.codeIn K cd2 "_law_draw" = true)
    (k2 : PySem.W.keepIn K (.ref f2) = true)
    (a3 : PySem.W.nsIn K mainGlobals "_law_choose" = some (some (.ref f3)))
    (l3 : K.lookup f3 = some ⟨oc3, od3, .func (PySem.W.fnOf "_law_choose" "_law_choose" (defArgs st__law_choose) (defBody st__law_choose) (defScope st__law_choose) .none kV3 dc3 pm3 an3 cd3 ct3), sl3⟩)
    (d3 : PySem.W.codeIn K cd3 "_law_choose" = true)
    (k3 : PySem.W.keepIn K (.ref f3) = true)
    (a4 : PySem.W.nsIn K mainGlobals "_law_word" = some (some (.ref f4)))
    (l4 : K.lookup f4 = some ⟨oc4, od4, .func (PySem.W.fnOf "_law_word" "_law_word" (defArgs st__law_word) (defBody st__law_word) (defScope st__law_word) .none kV4 dc4 pm4 an4 cd4 ct4), sl4⟩)
    (d4 : PySem.W.codeIn K cd4 "_law_word" = true)
    (k4 : PySem.W.keepIn K (.ref f4) = true)
    (a5 : PySem.W.nsIn K mainGlobals "_law_name" = some (some (.ref f5)))
    (l5 : K.lookup f5 = some ⟨oc5, od5, .func (PySem.W.fnOf "_law_name" "_law_name" (defArgs st__law_name) (defBody st__law_name) (defScope st__law_name) .none kV5 dc5 pm5 an5 cd5 ct5), sl5⟩)
    (d5 : PySem.W.codeIn K cd5 "_law_name" = true)
    (k5 : PySem.W.keepIn K (.ref f5) = true)
    (a6 : PySem.W.nsIn K mainGlobals "_law_places" = some (some (.ref f6)))
    (l6 : K.lookup f6 = some ⟨oc6, od6, .func (PySem.W.fnOf "_law_places" "_law_places" (defArgs st__law_places) (defBody st__law_places) (defScope st__law_places) .none kV6 dc6 pm6 an6 cd6 ct6), sl6⟩)
    (d6 : PySem.W.codeIn K cd6 "_law_places" = true)
    (k6 : PySem.W.keepIn K (.ref f6) = true)
    (a7 : PySem.W.nsIn K mainGlobals "_law_spellings" = some (some (.ref f7)))
    (l7 : K.lookup f7 = some ⟨oc7, od7, .func (PySem.W.fnOf "_law_spellings" "_law_spellings" (defArgs st__law_spellings) (defBody st__law_spellings) (defScope st__law_spellings) .none kV7 dc7 pm7 an7 cd7 ct7), sl7⟩)
    (d7 : PySem.W.codeIn K cd7 "_law_spellings" = true)
    (k7 : PySem.W.keepIn K (.ref f7) = true)
    (a8 : PySem.W.nsIn K mainGlobals "is_length" = some (some (.ref f8)))
    (l8 : K.lookup f8 = some ⟨oc8, od8, .func (PySem.W.fnOf "is_length" "is_length" (defArgs st_is_length) (defBody st_is_length) (defScope st_is_length) .none kV8 dc8 pm8 an8 cd8 ct8), sl8⟩)
    (d8 : PySem.W.codeIn K cd8 "is_length" = true)
    (k8 : PySem.W.keepIn K (.ref f8) = true)
    (a9 : PySem.W.nsIn K mainGlobals "is_word" = some (some (.ref f9)))
    (l9 : K.lookup f9 = some ⟨oc9, od9, .func (PySem.W.fnOf "is_word" "is_word" (defArgs st_is_word) (defBody st_is_word) (defScope st_is_word) .none kV9 dc9 pm9 an9 cd9 ct9), sl9⟩)
    (d9 : PySem.W.codeIn K cd9 "is_word" = true)
    (k9 : PySem.W.keepIn K (.ref f9) = true)
    (a10 : PySem.W.nsIn K mainGlobals "is_code" = some (some (.ref f10)))
    (l10 : K.lookup f10 = some ⟨oc10, od10, .func (PySem.W.fnOf "is_code" "is_code" (defArgs st_is_code) (defBody st_is_code) (defScope st_is_code) .none kV10 dc10 pm10 an10 cd10 ct10), sl10⟩)
    (d10 : PySem.W.codeIn K cd10 "is_code" = true)
    (k10 : PySem.W.keepIn K (.ref f10) = true)
    (a30 : PySem.W.findIn K (.ref q1) "__init__" = some (some (.ref f30)))
    (l30 : K.lookup f30 = some ⟨oc30, od30, .func (PySem.W.fnOf "__init__" "BadLength.__init__" (defArgs (inClass (top 4) 0)) (defBody (inClass (top 4) 0)) (defScope (inClass (top 4) 0)) .none kV30 dc30 pm30 an30 cd30 ct30), sl30⟩)
    (d30 : PySem.W.codeIn K cd30 "BadLength.__init__" = true)
    (k30 : PySem.W.keepIn K (.ref f30) = true)
    (t30 : PySem.W.typeIn K (.ref f30) = some (.type "function"))
    (br2 : PySem.W.readsIn K q2 (.type "type") = true)
    (bg2 : PySem.W.specialIn K (.ref q2) "__getattribute__" = some (some (.builtin "type.__getattribute__")))
    (bi2 : PySem.W.findCls K (.ref q2) (.type "type") "__init__" = some (.val (.builtin "ValueError.__init__")))
    (xl1 : K.lookup q1 = some (excClassObj nm1 qn1 q1 N1 bs1 bm1 true sn1 sub1 ab1 col1 dd1 x01 x11 x21 x31 x51 "ValueError.__new__"))
    (xb1 : PySem.HandSPX.refsVE bm1 = true)
    (sa1 : PySem.W.findIn K (.ref q1) "__setattr__" = some (some (.builtin "object.__setattr__")))
    (kc1 : PySem.W.keepIn K (.ref q1) = true)
    (a31 : PySem.W.findIn K (.ref q3) "__init__" = some (some (.ref f31)))
    (l31 : K.lookup f31 = some ⟨oc31, od31, .func (PySem.W.fnOf "__init__" "BadCode.__init__" (defArgs (inClass (top 3) 0)) (defBody (inClass (top 3) 0)) (defScope (inClass (top 3) 0)) .none kV31 dc31 pm31 an31 cd31 ct31), sl31⟩)
    (d31 : PySem.W.codeIn K cd31 "BadCode.__init__" = true)
    (k31 : PySem.W.keepIn K (.ref f31) = true)
    (t31 : PySem.W.typeIn K (.ref f31) = some (.type "function"))
    (xl3 : K.lookup q3 = some (excClassObj nm3 qn3 q3 N3 bs3 bm3 true sn3 sub3 ab3 col3 dd3 x03 x13 x23 x33 x53 "ValueError.__new__"))
    (xb3 : PySem.HandSPX.refsVE bm3 = true)
    (sa3 : PySem.W.findIn K (.ref q3) "__setattr__" = some (some (.builtin "object.__setattr__")))
    (kc3 : PySem.W.keepIn K (.ref q3) = true)
    (a11 : PySem.W.findIn K (.ref q4) "__init__" = some (some (.ref f11)))
    (n11 : PySem.W.isFn K (.ref f11) = true)
    (l11 : K.lookup f11 = some ⟨oc11, od11, .func (PySem.W.fnOf "__init__" "Speller.__init__" (defArgs st_Speller___init__) (defBody st_Speller___init__) (defScope st_Speller___init__) .none (.ref kd11) dc11 pm11 an11 cd11 ct11), sl11⟩)
    (d11 : PySem.W.codeIn K cd11 "Speller.__init__" = true)
    (k11 : PySem.W.keepIn K (.ref f11) = true)
    (kn11_banned : PySem.W.nsIn K kd11 "banned" = some (some (.ref ka11_banned)))
    (kt11_banned : KT0 K ka11_banned)
    (a12 : PySem.W.findIn K (.ref q4) "length" = some (some (.ref p12)))
    (r12 : PySem.W.recIn K p12 "property" = some (.ref f12 :: rs12))
    (pg_12 : PySem.W.specialIn K (.ref p12) "__get__" = some (some (.builtin "property.__get__")))
    (pt_12 : PySem.W.takesIn K (.ref p12) = some true)
    (l12 : K.lookup f12 = some ⟨oc12, od12, .func (PySem.W.fnOf "length" "Speller.length" (defArgs st_Speller_length) (defBody st_Speller_length) (defScope st_Speller_length) .none kV12 dc12 pm12 an12 cd12 ct12), sl12⟩)
    (d12 : PySem.W.codeIn K cd12 "Speller.length" = true)
    (k12 : PySem.W.keepIn K (.ref f12) = true)
    (a13 : PySem.W.findIn K (.ref q4) "banned" = some (some (.ref p13)))
    (r13 : PySem.W.recIn K p13 "property" = some (.ref f13 :: rs13))
    (pg_13 : PySem.W.specialIn K (.ref p13) "__get__" = some (some (.builtin "property.__get__")))
    (pt_13 : PySem.W.takesIn K (.ref p13) = some true)
    (l13 : K.lookup f13 = some ⟨oc13, od13, .func (PySem.W.fnOf "banned" "Speller.banned" (defArgs st_Speller_banned) (defBody st_Speller_banned) (defScope st_Speller_banned) .none kV13 dc13 pm13 an13 cd13 ct13), sl13⟩)
    (d13 : PySem.W.codeIn K cd13 "Speller.banned" = true)
    (k13 : PySem.W.keepIn K (.ref f13) = true)
    (a14 : PySem.W.nsIn K mainGlobals "is_name" = some (some (.ref f14)))
    (l14 : K.lookup f14 = some ⟨oc14, od14, .func (PySem.W.fnOf "is_name" "is_name" (defArgs st_is_name) (defBody st_is_name) (defScope st_is_name) .none kV14 dc14 pm14 an14 cd14 ct14), sl14⟩)
    (d14 : PySem.W.codeIn K cd14 "is_name" = true)
    (k14 : PySem.W.keepIn K (.ref f14) = true)
    (a15 : PySem.W.nsIn K mainGlobals "place_lists" = some (some (.ref f15)))
    (l15 : K.lookup f15 = some ⟨oc15, od15, .func (PySem.W.fnOf "place_lists" "place_lists" (defArgs st_place_lists) (defBody st_place_lists) (defScope st_place_lists) .none kV15 dc15 pm15 an15 cd15 ct15), sl15⟩)
    (d15 : PySem.W.codeIn K cd15 "place_lists" = true)
    (k15 : PySem.W.keepIn K (.ref f15) = true)
    (a16 : PySem.W.nsIn K mainGlobals "spellings" = some (some (.ref f16)))
    (l16 : K.lookup f16 = some ⟨oc16, od16, .func (PySem.W.fnOf "spellings" "spellings" (defArgs st_spellings) (defBody st_spellings) (defScope st_spellings) .none kV16 dc16 pm16 an16 cd16 ct16), sl16⟩)
    (d16 : PySem.W.codeIn K cd16 "spellings" = true)
    (k16 : PySem.W.keepIn K (.ref f16) = true)
    (a32 : PySem.W.findIn K (.ref q5) "__init__" = some (some (.ref f32)))
    (l32 : K.lookup f32 = some ⟨oc32, od32, .func (PySem.W.fnOf "__init__" "BadName.__init__" (defArgs (inClass (top 2) 0)) (defBody (inClass (top 2) 0)) (defScope (inClass (top 2) 0)) .none kV32 dc32 pm32 an32 cd32 ct32), sl32⟩)
    (d32 : PySem.W.codeIn K cd32 "BadName.__init__" = true)
    (k32 : PySem.W.keepIn K (.ref f32) = true)
    (t32 : PySem.W.typeIn K (.ref f32) = some (.type "function"))
    (xl5 : K.lookup q5 = some (excClassObj nm5 qn5 q5 N5 bs5 bm5 true sn5 sub5 ab5 col5 dd5 x05 x15 x25 x35 x55 "ValueError.__new__"))
    (xb5 : PySem.HandSPX.refsVE bm5 = true)
    (sa5 : PySem.W.findIn K (.ref q5) "__setattr__" = some (some (.builtin "object.__setattr__")))
    (kc5 : PySem.W.keepIn K (.ref q5) = true)
    (a17 : PySem.W.findIn K (.ref q4) "__call__" = some (some (.ref f17)))
    (n17 : PySem.W.isFn K (.ref f17) = true)
    (l17 : K.lookup f17 = some ⟨oc17, od17, .func (PySem.W.fnOf "__call__" "Speller.__call__" (defArgs st_Speller___call__) (defBody st_Speller___call__) (defScope st_Speller___call__) .none kV17 dc17 pm17 an17 cd17 ct17), sl17⟩)
    (d17 : PySem.W.codeIn K cd17 "Speller.__call__" = true)
    (k17 : PySem.W.keepIn K (.ref f17) = true)
    (a18 : PySem.W.nsIn K mainGlobals "_law_error" = some (some (.ref f18)))
    (l18 : K.lookup f18 = some ⟨oc18, od18, .func (PySem.W.fnOf "_law_error" "_law_error" (defArgs st__law_error) (defBody st__law_error) (defScope st__law_error) .none kV18 dc18 pm18 an18 cd18 ct18), sl18⟩)
    (d18 : PySem.W.codeIn K cd18 "_law_error" = true)
    (k18 : PySem.W.keepIn K (.ref f18) = true)
    (fi17 : PySem.W.fnIn K f17 = true)
    (a19 : PySem.W.nsIn K mainGlobals "_law_called" = some (some (.ref f19)))
    (l19 : K.lookup f19 = some ⟨oc19, od19, .func (PySem.W.fnOf "_law_called" "_law_called" (defArgs st__law_called) (defBody st__law_called) (defScope st__law_called) .none kV19 dc19 pm19 an19 cd19 ct19), sl19⟩)
    (d19 : PySem.W.codeIn K cd19 "_law_called" = true)
    (k19 : PySem.W.keepIn K (.ref f19) = true)
    (a20 : PySem.W.nsIn K mainGlobals "_law_allowed" = some (some (.ref f20)))
    (l20 : K.lookup f20 = some ⟨oc20, od20, .func (PySem.W.fnOf "_law_allowed" "_law_allowed" (defArgs st__law_allowed) (defBody st__law_allowed) (defScope st__law_allowed) .none kV20 dc20 pm20 an20 cd20 ct20), sl20⟩)
    (d20 : PySem.W.codeIn K cd20 "_law_allowed" = true)
    (k20 : PySem.W.keepIn K (.ref f20) = true)
    (a21 : PySem.W.nsIn K mainGlobals "_law_spells" = some (some (.ref f21)))
    (l21 : K.lookup f21 = some ⟨oc21, od21, .func (PySem.W.fnOf "_law_spells" "_law_spells" (defArgs st__law_spells) (defBody st__law_spells) (defScope st__law_spells) .none kV21 dc21 pm21 an21 cd21 ct21), sl21⟩)
    (d21 : PySem.W.codeIn K cd21 "_law_spells" = true)
    (k21 : PySem.W.keepIn K (.ref f21) = true)
    (a22 : PySem.W.nsIn K mainGlobals "_law_any" = some (some (.ref f22)))
    (l22 : K.lookup f22 = some ⟨oc22, od22, .func (PySem.W.fnOf "_law_any" "_law_any" (defArgs st__law_any) (defBody st__law_any) (defScope st__law_any) .none kV22 dc22 pm22 an22 cd22 ct22), sl22⟩)
    (d22 : PySem.W.codeIn K cd22 "_law_any" = true)
    (k22 : PySem.W.keepIn K (.ref f22) = true)
    (a23 : PySem.W.findIn K (.ref q4) "__contains__" = some (some (.ref f23)))
    (n23 : PySem.W.isFn K (.ref f23) = true)
    (l23 : K.lookup f23 = some ⟨oc23, od23, .func (PySem.W.fnOf "__contains__" "Speller.__contains__" (defArgs st_Speller___contains__) (defBody st_Speller___contains__) (defScope st_Speller___contains__) .none kV23 dc23 pm23 an23 cd23 ct23), sl23⟩)
    (d23 : PySem.W.codeIn K cd23 "Speller.__contains__" = true)
    (k23 : PySem.W.keepIn K (.ref f23) = true)
    (a24 : PySem.W.nsIn K mainGlobals "_law_is_word" = some (some (.ref f24)))
    (l24 : K.lookup f24 = some ⟨oc24, od24, .func (PySem.W.fnOf "_law_is_word" "_law_is_word" (defArgs st__law_is_word) (defBody st__law_is_word) (defScope st__law_is_word) .none kV24 dc24 pm24 an24 cd24 ct24), sl24⟩)
    (d24 : PySem.W.codeIn K cd24 "_law_is_word" = true)
    (k24 : PySem.W.keepIn K (.ref f24) = true)
    (mk4 : PySem.W.makesIn K q4 = true)
    (kc4 : PySem.W.keepIn K (.ref q4) = true)
    (a25 : PySem.W.nsIn K mainGlobals "_law_made" = some (some (.ref f25)))
    (l25 : K.lookup f25 = some ⟨oc25, od25, .func (PySem.W.fnOf "_law_made" "_law_made" (defArgs st__law_made) (defBody st__law_made) (defScope st__law_made) .none kV25 dc25 pm25 an25 cd25 ct25), sl25⟩)
    (d25 : PySem.W.codeIn K cd25 "_law_made" = true)
    (k25 : PySem.W.keepIn K (.ref f25) = true)
    (a26 : PySem.W.nsIn K mainGlobals "_law_due" = some (some (.ref f26)))
    (l26 : K.lookup f26 = some ⟨oc26, od26, .func (PySem.W.fnOf "_law_due" "_law_due" (defArgs st__law_due) (defBody st__law_due) (defScope st__law_due) .none kV26 dc26 pm26 an26 cd26 ct26), sl26⟩)
    (d26 : PySem.W.codeIn K cd26 "_law_due" = true)
    (k26 : PySem.W.keepIn K (.ref f26) = true)
    (a27 : PySem.W.nsIn K mainGlobals "_law_copied" = some (some (.ref f27)))
    (l27 : K.lookup f27 = some ⟨oc27, od27, .func (PySem.W.fnOf "_law_copied" "_law_copied" (defArgs st__law_copied) (defBody st__law_copied) (defScope st__law_copied) .none kV27 dc27 pm27 an27 cd27 ct27), sl27⟩)
    (d27 : PySem.W.codeIn K cd27 "_law_copied" = true)
    (k27 : PySem.W.keepIn K (.ref f27) = true)
    (a28 : PySem.W.nsIn K mainGlobals "_law_values_kept" = some (some (.ref f28)))
    (l28 : K.lookup f28 = some ⟨oc28, od28, .func (PySem.W.fnOf "_law_values_kept" "_law_values_kept" (defArgs st__law_values_kept) (defBody st__law_values_kept) (defScope st__law_values_kept) .none kV28 dc28 pm28 an28 cd28 ct28), sl28⟩)
    (d28 : PySem.W.codeIn K cd28 "_law_values_kept" = true)
    (k28 : PySem.W.keepIn K (.ref f28) = true)
    (a29 : PySem.W.nsIn K mainGlobals "law" = some (some (.ref f29)))
    (l29 : K.lookup f29 = some ⟨oc29, od29, .func (PySem.W.fnOf "law" "law" (defArgs st_law) (defBody st_law) (defScope st_law) .none kV29 dc29 pm29 an29 cd29 ct29), sl29⟩)
    (d29 : PySem.W.codeIn K cd29 "law" = true)
    (k29 : PySem.W.keepIn K (.ref f29) = true)
    (z1 : PySem.W.nsIn K mainGlobals "all" = some none)
    (z2 : PySem.W.nsIn K mainGlobals "bool" = some none)
    (z3 : PySem.W.nsIn K mainGlobals "int" = some none)
    (z4 : PySem.W.nsIn K mainGlobals "isinstance" = some none)
    (z5 : PySem.W.nsIn K mainGlobals "len" = some none)
    (z6 : PySem.W.nsIn K mainGlobals "list" = some none)
    (z7 : PySem.W.nsIn K mainGlobals "max" = some none)
    (z8 : PySem.W.nsIn K mainGlobals "min" = some none)
    (z9 : PySem.W.nsIn K mainGlobals "range" = some none)
    (z10 : PySem.W.nsIn K mainGlobals "repr" = some none)
    (z11 : PySem.W.nsIn K mainGlobals "set" = some none)
    (z12 : PySem.W.nsIn K mainGlobals "sorted" = some none)
    (z13 : PySem.W.nsIn K mainGlobals "str" = some none)
    (z14 : PySem.W.nsIn K mainGlobals "tuple" = some none)
    (g1 : PySem.W.nsIn K mainGlobals "GREATEST_LENGTH" = some (some gv1))
    (e1 : ∃ t, gv1 = .int 3 t)
    (g2 : PySem.W.nsIn K mainGlobals "LETTERS" = some (some gv2))
    (e2 : ∃ x t, gv2 = .str x t ∧ x.cps.toList = [97, 98, 99, 100, 101, 102, 103, 104, 105, 106, 107, 108, 109, 110, 111, 112, 113, 114, 115, 116, 117, 118, 119, 120, 121, 122])
    (g3 : PySem.W.nsIn K mainGlobals "LONGEST_NAME" = some (some gv3))
    (e3 : ∃ t, gv3 = .int 12 t) :
    ∃ fd : FuncData, (∀ (s : Shared) (v : Value), BindsTo s fd ⟨[v], []⟩ [("_law_script", v)]) ∧ ∀ base : Heap, K.In base → base.Ns mainGlobals mg → (∃ o, base.get? sysModules = some o) → DFn l.prog w K mg base 9 fa fd ["_law_script"] spLaw := by
  have e := hfa.symm.trans (PySem.W.mg_of KX G a29)
  cases e
  letI : Cad := ⟨q1, q2, q3, q4, q5⟩
  have T : Gls K mg := ⟨(by obtain ⟨gt, rfl⟩ := e1; exact ⟨_, PySem.W.mg_of KX G g1, gt, rfl⟩), (by obtain ⟨gx, gt, rfl, e⟩ := e2; exact ⟨_, PySem.W.mg_of KX G g2, gt, by rw [← e, sV_of]⟩), (by obtain ⟨gt, rfl⟩ := e3; exact ⟨_, PySem.W.mg_of KX G g3, gt, rfl⟩), PySem.W.mg_none_of KX G z1, PySem.W.mg_none_of KX G z2, PySem.W.mg_none_of KX G z3, PySem.W.mg_none_of KX G z4, PySem.W.mg_none_of KX G z5, PySem.W.mg_none_of KX G z6, PySem.W.mg_none_of KX G z7, PySem.W.mg_none_of KX G z8, PySem.W.mg_none_of KX G z9, PySem.W.mg_none_of KX G z10, PySem.W.mg_none_of KX G z11, PySem.W.mg_none_of KX G z12, PySem.W.mg_none_of KX G z13, PySem.W.mg_none_of KX G z14, PySem.W.mg_of KX G gC1, PySem.W.mg_of KX G gC3, ⟨⟨pg4, hd4, po4, sa4⟩, (fld_cons nf4_size (fld_cons nf4_shut nofld))⟩, PySem.W.mg_of KX G gC4, PySem.W.mg_of KX G gC2, PySem.W.mg_of KX G gC5, exm_of bx2 ic2 tc2 sb1_2, exm_of bx2 ic2 tc2 sb3_2, exm_of bx2 ic2 tc2 sb5_2, ⟨ic1, tc1, no1_NoneType, no1_bool, no1_int, no1_str, no1_tuple, no1_list, no1_dict⟩, ⟨⟨ga1, gg1, bx1, hd1, ca1, ocg, oct, cm1⟩, isi_self⟩, ⟨⟨ga3, gg3, bx3, hd3, ca3, ocg, oct, cm3⟩, kit_no ⟨ic1, tc1, no1_NoneType, no1_bool, no1_int, no1_str, no1_tuple, no1_list, no1_dict⟩ sb3_1 sb1_1⟩, ⟨⟨ga5, gg5, bx5, hd5, ca5, ocg, oct, cm5⟩, kit_no ⟨ic1, tc1, no1_NoneType, no1_bool, no1_int, no1_str, no1_tuple, no1_list, no1_dict⟩ sb5_1 sb1_1⟩, ⟨⟨ga1, gg1, bx1, hd1⟩, nf1_value⟩, ⟨⟨ga3, gg3, bx3, hd3⟩, nf3_value⟩, ⟨⟨ga5, gg5, bx5, hd5⟩, nf5_value⟩, ⟨ic3, tc3, no3_NoneType, no3_bool, no3_int, no3_str, no3_tuple, no3_list, no3_dict⟩, ⟨⟨ga1, gg1, bx1, hd1, ca1, ocg, oct, cm1⟩, kit_no ⟨ic3, tc3, no3_NoneType, no3_bool, no3_int, no3_str, no3_tuple, no3_list, no3_dict⟩ sb1_3 sb3_3⟩, ⟨⟨ga3, gg3, bx3, hd3, ca3, ocg, oct, cm3⟩, isi_self⟩, ⟨⟨ga5, gg5, bx5, hd5, ca5, ocg, oct, cm5⟩, kit_no ⟨ic3, tc3, no3_NoneType, no3_bool, no3_int, no3_str, no3_tuple, no3_list, no3_dict⟩ sb5_3 sb3_3⟩, ⟨ic5, tc5, no5_NoneType, no5_bool, no5_int, no5_str, no5_tuple, no5_list, no5_dict⟩, ⟨⟨ga1, gg1, bx1, hd1, ca1, ocg, oct, cm1⟩, kit_no ⟨ic5, tc5, no5_NoneType, no5_bool, no5_int, no5_str, no5_tuple, no5_list, no5_dict⟩ sb1_5 sb5_5⟩, ⟨⟨ga3, gg3, bx3, hd3, ca3, ocg, oct, cm3⟩, kit_no ⟨ic5, tc5, no5_NoneType, no5_bool, no5_int, no5_str, no5_tuple, no5_list, no5_dict⟩ sb3_5 sb5_5⟩, ⟨⟨ga5, gg5, bx5, hd5, ca5, ocg, oct, cm5⟩, isi_self⟩⟩
  refine ⟨PySem.W.fnOf "law" "law" (defArgs st_law) (defBody st_law) (defScope st_law) .none kV29 dc29 pm29 an29 cd29 ct29, fun s v => .of_eq rfl, fun base _ _ hbs => ?_⟩
  have F1 := fun_mk (st := st__law_purse) l1 d1 k1
  have b1 := F1.binds (ps := ["_law_script", "_law_start"]) fun _ _ _ _ _ _ us hl => match us, hl with | [_, _], _ => rfl
  have d1_ := ok__law_purse (P := l.prog) (w := w) (base := base) F1 T hbs 
  have F2 := fun_mk (st := st__law_draw) l2 d2 k2
  have b2 := F2.binds (ps := ["_law_purse_here", "_law_size"]) fun _ _ _ _ _ _ us hl => match us, hl with | [_, _], _ => rfl
  have d2_ := ok__law_draw (P := l.prog) (w := w) (base := base) F2 T hbs 
  have c__law_draw : Cle l.prog w K mg base 1 "_law_draw" sp__law_draw := ⟨_, _, _, d2_, PySem.W.mg_of KX G a2, k2, b2⟩
  have F3 := fun_mk (st := st__law_choose) l3 d3 k3
  have b3 := F3.binds (ps := ["_law_purse_here", "_law_things"]) fun _ _ _ _ _ _ us hl => match us, hl with | [_, _], _ => rfl
  have d3_ := ok__law_choose (P := l.prog) (w := w) (base := base) F3 T hbs c__law_draw
  have c__law_choose : Cle l.prog w K mg base 2 "_law_choose" sp__law_choose := ⟨_, _, _, d3_, PySem.W.mg_of KX G a3, k3, b3⟩
  have F4 := fun_mk (st := st__law_word) l4 d4 k4
  have b4 := F4.binds (ps := ["_law_purse_here", "_law_letters", "_law_most"]) fun _ _ _ _ _ _ us hl => match us, hl with | [_, _, _], _ => rfl
  have d4_ := ok__law_word (P := l.prog) (w := w) (base := base) F4 T hbs c__law_draw c__law_choose
  have c__law_word : Cle l.prog w K mg base 3 "_law_word" sp__law_word := ⟨_, _, _, d4_, PySem.W.mg_of KX G a4, k4, b4⟩
  have F5 := fun_mk (st := st__law_name) l5 d5 k5
  have b5 := F5.binds (ps := ["_law_purse_here"]) fun _ _ _ _ _ _ us hl => match us, hl with | [_], _ => rfl
  have d5_ := ok__law_name (P := l.prog) (w := w) (base := base) F5 T hbs c__law_word c__law_choose
  have F6 := fun_mk (st := st__law_places) l6 d6 k6
  have b6 := F6.binds (ps := ["_law_name_here", "_law_length"]) fun _ _ _ _ _ _ us hl => match us, hl with | [_, _], _ => rfl
  have d6_ := ok__law_places (P := l.prog) (w := w) (base := base) F6 T hbs 
  have c__law_places : Cle l.prog w K mg base 1 "_law_places" sp__law_places := ⟨_, _, _, d6_, PySem.W.mg_of KX G a6, k6, b6⟩
  have F7 := fun_mk (st := st__law_spellings) l7 d7 k7
  have b7 := F7.binds (ps := ["_law_name_here", "_law_length"]) fun _ _ _ _ _ _ us hl => match us, hl with | [_, _], _ => rfl
  have d7_ := ok__law_spellings (P := l.prog) (w := w) (base := base) F7 T hbs c__law_places
  have F8 := fun_mk (st := st_is_length) l8 d8 k8
  have b8 := F8.binds (ps := ["value"]) fun _ _ _ _ _ _ us hl => match us, hl with | [_], _ => rfl
  have d8_ := ok_is_length (P := l.prog) (w := w) (base := base) F8 T hbs 
  have F9 := fun_mk (st := st_is_word) l9 d9 k9
  have b9 := F9.binds (ps := ["value", "least", "most"]) fun _ _ _ _ _ _ us hl => match us, hl with | [_, _, _], _ => rfl
  have d9_ := ok_is_word (P := l.prog) (w := w) (base := base) F9 T hbs 
  have c_is_word : Cle l.prog w K mg base 1 "is_word" sp_is_word := ⟨_, _, _, d9_, PySem.W.mg_of KX G a9, k9, b9⟩
  have F10 := fun_mk (st := st_is_code) l10 d10 k10
  have b10 := F10.binds (ps := ["value", "length"]) fun _ _ _ _ _ _ us hl => match us, hl with | [_, _], _ => rfl
  have d10_ := ok_is_code (P := l.prog) (w := w) (base := base) F10 T hbs c_is_word
  have c_is_length : Cle l.prog w K mg base 1 "is_length" sp_is_length := ⟨_, _, _, d8_, PySem.W.mg_of KX G a8, k8, b8⟩
  have F30 := fun_mk (st := (inClass (top 4) 0)) l30 d30 k30
  have b30 := F30.binds (ps := ["self", "value"]) fun _ _ _ _ _ _ us hl => match us, hl with | [_, _], _ => rfl
  have X30 : XcT K q1 f30 "value" := ⟨⟨⟨_, _, _, _, _, _, _, _, _, _, _, _, _, _, _, xl1, xb1⟩, sa1, bx1, tc1, kc1⟩, ⟨ga1, gg1, bx1, hd1⟩, nf1_value, a30, t30⟩
  have B30 : BaseT K q2 (.type "type") := ⟨br2, bg2, bi2⟩
  have x_BadLength : QRa l.prog w K mg base 1 "BadLength" Cad.c_BadLength "value" := ⟨_, _, _, X30, xc_ok (P := l.prog) (w := w) (mg := mg) (base := base) (x := "value") (u := .str "invalid length") F30 ⟨rfl, rfl, rfl, by decide +kernel, rfl, by decide +kernel, by decide +kernel⟩ X30 (fun cdv A outer s H E => pss_cons (ps_expr (pe_ceinit (by rfl) (PySem.W.mg_of KX G gC2) (by decide) B30 (pa_cons (pv 0) (pa_cons pe_str pa_nil)) rfl rfl rfl) rfl) (pss_one (ps_ost (pv 0) (pv 1) rfl))), b30, T.g_BadLength⟩
  have c_is_code : Cle l.prog w K mg base 2 "is_code" sp_is_code := ⟨_, _, _, d10_, PySem.W.mg_of KX G a10, k10, b10⟩
  have F31 := fun_mk (st := (inClass (top 3) 0)) l31 d31 k31
  have b31 := F31.binds (ps := ["self", "value"]) fun _ _ _ _ _ _ us hl => match us, hl with | [_, _], _ => rfl
  have X31 : XcT K q3 f31 "value" := ⟨⟨⟨_, _, _, _, _, _, _, _, _, _, _, _, _, _, _, xl3, xb3⟩, sa3, bx3, tc3, kc3⟩, ⟨ga3, gg3, bx3, hd3⟩, nf3_value, a31, t31⟩
  have B31 : BaseT K q2 (.type "type") := ⟨br2, bg2, bi2⟩
  have x_BadCode : QRa l.prog w K mg base 1 "BadCode" Cad.c_BadCode "value" := ⟨_, _, _, X31, xc_ok (P := l.prog) (w := w) (mg := mg) (base := base) (x := "value") (u := .str "invalid code") F31 ⟨rfl, rfl, rfl, by decide +kernel, rfl, by decide +kernel, by decide +kernel⟩ X31 (fun cdv A outer s H E => pss_cons (ps_expr (pe_ceinit (by rfl) (PySem.W.mg_of KX G gC2) (by decide) B31 (pa_cons (pv 0) (pa_cons pe_str pa_nil)) rfl rfl rfl) rfl) (pss_one (ps_ost (pv 0) (pv 1) rfl))), b31, T.g_BadCode⟩
  have F11 := fun_mk (st := st_Speller___init__) l11 d11 k11
  have d11_ := ok_Speller___init__ (P := l.prog) (w := w) (base := base) F11 T hbs c_is_length x_BadLength c_is_code x_BadCode
  have F12 := fun_mk (st := st_Speller_length) l12 d12 k12
  have b12 := F12.binds (ps := ["self"]) fun _ _ _ _ _ _ us hl => match us, hl with | [_], _ => rfl
  have d12_ := ok_Speller_length (P := l.prog) (w := w) (base := base) F12 T hbs 
  have F13 := fun_mk (st := st_Speller_banned) l13 d13 k13
  have b13 := F13.binds (ps := ["self"]) fun _ _ _ _ _ _ us hl => match us, hl with | [_], _ => rfl
  have d13_ := ok_Speller_banned (P := l.prog) (w := w) (base := base) F13 T hbs 
  have F14 := fun_mk (st := st_is_name) l14 d14 k14
  have b14 := F14.binds (ps := ["value"]) fun _ _ _ _ _ _ us hl => match us, hl with | [_], _ => rfl
  have d14_ := ok_is_name (P := l.prog) (w := w) (base := base) F14 T hbs c_is_word
  have F15 := fun_mk (st := st_place_lists) l15 d15 k15
  have b15 := F15.binds (ps := ["size", "length"]) fun _ _ _ _ _ _ us hl => match us, hl with | [_, _], _ => rfl
  have d15_ := ok_place_lists (P := l.prog) (w := w) (base := base) F15 T hbs  (PySem.W.mg_of KX G a15) k15 b15
  have c_place_lists : Cle l.prog w K mg base 4 "place_lists" sp_place_lists := ⟨_, _, _, d15_, PySem.W.mg_of KX G a15, k15, b15⟩
  have F16 := fun_mk (st := st_spellings) l16 d16 k16
  have b16 := F16.binds (ps := ["name", "length"]) fun _ _ _ _ _ _ us hl => match us, hl with | [_, _], _ => rfl
  have d16_ := ok_spellings (P := l.prog) (w := w) (base := base) F16 T hbs c_place_lists
  have c_is_name : Cle l.prog w K mg base 2 "is_name" sp_is_name := ⟨_, _, _, d14_, PySem.W.mg_of KX G a14, k14, b14⟩
  have F32 := fun_mk (st := (inClass (top 2) 0)) l32 d32 k32
  have b32 := F32.binds (ps := ["self", "value"]) fun _ _ _ _ _ _ us hl => match us, hl with | [_, _], _ => rfl
  have X32 : XcT K q5 f32 "value" := ⟨⟨⟨_, _, _, _, _, _, _, _, _, _, _, _, _, _, _, xl5, xb5⟩, sa5, bx5, tc5, kc5⟩, ⟨ga5, gg5, bx5, hd5⟩, nf5_value, a32, t32⟩
  have B32 : BaseT K q2 (.type "type") := ⟨br2, bg2, bi2⟩
  have x_BadName : QRa l.prog w K mg base 1 "BadName" Cad.c_BadName "value" := ⟨_, _, _, X32, xc_ok (P := l.prog) (w := w) (mg := mg) (base := base) (x := "value") (u := .str "invalid name") F32 ⟨rfl, rfl, rfl, by decide +kernel, rfl, by decide +kernel, by decide +kernel⟩ X32 (fun cdv A outer s H E => pss_cons (ps_expr (pe_ceinit (by rfl) (PySem.W.mg_of KX G gC2) (by decide) B32 (pa_cons (pv 0) (pa_cons pe_str pa_nil)) rfl rfl rfl) rfl) (pss_one (ps_ost (pv 0) (pv 1) rfl))), b32, T.g_BadName⟩
  have c_spellings : Cle l.prog w K mg base 5 "spellings" sp_spellings := ⟨_, _, _, d16_, PySem.W.mg_of KX G a16, k16, b16⟩
  have F17 := fun_mk (st := st_Speller___call__) l17 d17 k17
  have b17 := F17.binds (ps := ["self", "name"]) fun _ _ _ _ _ _ us hl => match us, hl with | [_, _], _ => rfl
  have d17_ := ok_Speller___call__ (P := l.prog) (w := w) (base := base) F17 T hbs c_is_name x_BadName c_spellings
  have F18 := fun_mk (st := st__law_error) l18 d18 k18
  have b18 := F18.binds (ps := ["_law_e"]) fun _ _ _ _ _ _ us hl => match us, hl with | [_], _ => rfl
  have d18_ := ok__law_error (P := l.prog) (w := w) (base := base) F18 T hbs 
  have i_Speller : QCo l.prog w K mg base 6 Cad.c_Speller (spV 2 sp_Speller___call__) := ⟨_, (dcal_pos d17_ b17), ⟨a17, n17, fi17⟩⟩
  have c__law_error : XCle l.prog w K mg base 1 "_law_error" sp__law_error := ⟨_, _, _, d18_, PySem.W.mg_of KX G a18, k18, b18⟩
  have F19 := fun_mk (st := st__law_called) l19 d19 k19
  have b19 := F19.binds (ps := ["_law_speller", "_law_thing"]) fun _ _ _ _ _ _ us hl => match us, hl with | [_, _], _ => rfl
  have d19_ := ok__law_called (P := l.prog) (w := w) (base := base) F19 T hbs i_Speller c__law_error
  have c__law_spellings : Cle l.prog w K mg base 2 "_law_spellings" sp__law_spellings := ⟨_, _, _, d7_, PySem.W.mg_of KX G a7, k7, b7⟩
  have F20 := fun_mk (st := st__law_allowed) l20 d20 k20
  have b20 := F20.binds (ps := ["_law_word_here", "_law_length", "_law_barred"]) fun _ _ _ _ _ _ us hl => match us, hl with | [_, _, _], _ => rfl
  have d20_ := ok__law_allowed (P := l.prog) (w := w) (base := base) F20 T hbs c__law_spellings
  have c__law_allowed : Cle l.prog w K mg base 3 "_law_allowed" sp__law_allowed := ⟨_, _, _, d20_, PySem.W.mg_of KX G a20, k20, b20⟩
  have p_Speller_length : QPr l.prog w K mg base 1 Cad.c_Speller "length" (spV 1 sp_Speller_length) := ⟨_, _, (dcal_pos d12_ b12), ⟨pg4, hd4, po4, sa4⟩, ⟨a12, pg_12, pt_12, _, r12⟩⟩
  have c__law_name : Cle l.prog w K mg base 4 "_law_name" sp__law_name := ⟨_, _, _, d5_, PySem.W.mg_of KX G a5, k5, b5⟩
  have p_Speller_banned : QPr l.prog w K mg base 1 Cad.c_Speller "banned" (spV 1 sp_Speller_banned) := ⟨_, _, (dcal_pos d13_ b13), ⟨pg4, hd4, po4, sa4⟩, ⟨a13, pg_13, pt_13, _, r13⟩⟩
  have F21 := fun_mk (st := st__law_spells) l21 d21 k21
  have b21 := F21.binds (ps := ["_law_purse_here", "_law_speller", "_law_name_here", "_law_length", "_law_barred"]) fun _ _ _ _ _ _ us hl => match us, hl with | [_, _, _, _, _], _ => rfl
  have d21_ := ok__law_spells (P := l.prog) (w := w) (base := base) F21 T hbs i_Speller c__law_allowed p_Speller_length c__law_name p_Speller_banned
  have F22 := fun_mk (st := st__law_any) l22 d22 k22
  have b22 := F22.binds (ps := ["_law_purse_here"]) fun _ _ _ _ _ _ us hl => match us, hl with | [_], _ => rfl
  have d22_ := ok__law_any (P := l.prog) (w := w) (base := base) F22 T hbs c__law_choose
  have F23 := fun_mk (st := st_Speller___contains__) l23 d23 k23
  have b23 := F23.binds (ps := ["self", "code"]) fun _ _ _ _ _ _ us hl => match us, hl with | [_, _], _ => rfl
  have d23_ := ok_Speller___contains__ (P := l.prog) (w := w) (base := base) F23 T hbs c_is_code
  have F24 := fun_mk (st := st__law_is_word) l24 d24 k24
  have b24 := F24.binds (ps := ["_law_thing", "_law_least", "_law_most"]) fun _ _ _ _ _ _ us hl => match us, hl with | [_, _, _], _ => rfl
  have d24_ := ok__law_is_word (P := l.prog) (w := w) (base := base) F24 T hbs 
  have k_Speller_2_banned : QNm l.prog w K mg base 4 "Speller" ["banned"] (spMakeF Cad.c_Speller (spvOf sp_Speller___init__ 1 2 [0, 1, 2] [])) := ⟨_, dcal_makeF ⟨mk4, a11, n11, kc4⟩ (dcal_of (ks := ["banned"]) (n := 2) (perm := [0, 1, 2]) (dus := []) (dvs := []) (dfl := []) d11_ (fun s us ws _ h1 h2 => match us, ws, h1, h2 with | [_, _], [_], _, _ => .of_eq rfl) .nil (fun _ => .nil)), T.g_Speller, kc4⟩
  have F25 := fun_mk (st := st__law_made) l25 d25 k25
  have b25 := F25.binds (ps := ["_law_length", "_law_barred"]) fun _ _ _ _ _ _ us hl => match us, hl with | [_, _], _ => rfl
  have d25_ := ok__law_made (P := l.prog) (w := w) (base := base) F25 T hbs k_Speller_2_banned c__law_error
  have c__law_is_word : Cle l.prog w K mg base 1 "_law_is_word" sp__law_is_word := ⟨_, _, _, d24_, PySem.W.mg_of KX G a24, k24, b24⟩
  have F26 := fun_mk (st := st__law_due) l26 d26 k26
  have b26 := F26.binds (ps := ["_law_length", "_law_barred"]) fun _ _ _ _ _ _ us hl => match us, hl with | [_, _], _ => rfl
  have d26_ := ok__law_due (P := l.prog) (w := w) (base := base) F26 T hbs c__law_is_word
  have o_Speller___contains__ : QOw l.prog w K mg base 3 Cad.c_Speller "__contains__" (spV 2 sp_Speller___contains__) := ⟨_, (dcal_pos d23_ b23), ⟨a23, n23⟩⟩
  have F27 := fun_mk (st := st__law_copied) l27 d27 k27
  have b27 := F27.binds (ps := ["_law_speller", "_law_passed", "_law_name_here", "_law_length", "_law_barred"]) fun _ _ _ _ _ _ us hl => match us, hl with | [_, _, _, _, _], _ => rfl
  have d27_ := ok__law_copied (P := l.prog) (w := w) (base := base) F27 T hbs c__law_spellings p_Speller_banned i_Speller c__law_allowed o_Speller___contains__
  have c__law_made : Cle l.prog w K mg base 5 "_law_made" sp__law_made := ⟨_, _, _, d25_, PySem.W.mg_of KX G a25, k25, b25⟩
  have c__law_called : Cle l.prog w K mg base 7 "_law_called" sp__law_called := ⟨_, _, _, d19_, PySem.W.mg_of KX G a19, k19, b19⟩
  have k_Speller_2_ : QNm l.prog w K mg base 4 "Speller" [] (spMakeF Cad.c_Speller (spvOf sp_Speller___init__ 0 2 [0, 1, 2] [.kt])) := ⟨_, dcal_makeF ⟨mk4, a11, n11, kc4⟩ (dcal_of (ks := []) (n := 2) (perm := [0, 1, 2]) (dus := [.ref ka11_banned]) (dvs := [.ref ka11_banned]) (dfl := [.kt]) d11_ (kb_kw (ms := [("banned", .ref ka11_banned)]) (kf_cons kn11_banned kf_nil) fun us ws h1 h2 => match us, ws, h1, h2 with | [_, _], [], _, _ => ⟨_, _, _, _, _, _, rfl, rfl, rfl⟩) (.cons (rel_ref _) .nil) fun _ => (.cons (.kt kt11_banned) .nil)), T.g_Speller, kc4⟩
  have F28 := fun_mk (st := st__law_values_kept) l28 d28 k28
  have b28 := F28.binds (ps := []) fun _ _ _ _ _ _ us hl => match us, hl with | [], _ => rfl
  have d28_ := ok__law_values_kept (P := l.prog) (w := w) (base := base) F28 T hbs c__law_made c__law_called k_Speller_2_
  have c__law_purse : Cle l.prog w K mg base 1 "_law_purse" sp__law_purse := ⟨_, _, _, d1_, PySem.W.mg_of KX G a1, k1, b1⟩
  have c__law_spells : Cle l.prog w K mg base 7 "_law_spells" sp__law_spells := ⟨_, _, _, d21_, PySem.W.mg_of KX G a21, k21, b21⟩
  have c__law_any : Cle l.prog w K mg base 3 "_law_any" sp__law_any := ⟨_, _, _, d22_, PySem.W.mg_of KX G a22, k22, b22⟩
  have c__law_due : Cle l.prog w K mg base 2 "_law_due" sp__law_due := ⟨_, _, _, d26_, PySem.W.mg_of KX G a26, k26, b26⟩
  have c__law_copied : Cle l.prog w K mg base 7 "_law_copied" sp__law_copied := ⟨_, _, _, d27_, PySem.W.mg_of KX G a27, k27, b27⟩
  have c__law_values_kept : Cle l.prog w K mg base 8 "_law_values_kept" sp__law_values_kept := ⟨_, _, _, d28_, PySem.W.mg_of KX G a28, k28, b28⟩
  have F29 := fun_mk (st := st_law) l29 d29 k29
  exact ok_law F29 T hbs c__law_purse c__law_draw c__law_name c__law_spellings c__law_choose k_Speller_2_banned p_Speller_length p_Speller_banned c__law_called c__law_spells c__law_any o_Speller___contains__ c__law_is_word c__law_made c__law_due c__law_copied c__law_values_kept k_Speller_2_
theorem walk {l : PySem.W.OpenLaw} {q : Program} {loose : List Str} {XP : (Str → Option Value) → Heap → Prop} {YP : World → Heap → Prop} {d : DefRec} {K : Params → PySem.W.Frag} (hn : l.most = some 63) (hdf : d.params.defaults = []) (imp : importsNone q = true) (hY : ∀ (w : World) (h : Heap), YP w h → (K w.params).In h)
    (F : ∀ (w : World) (mg : Str → Option Value) (fa : Addr) (h : Heap), (K w.params).In h → h.Ns mainGlobals mg → mg d.name = some (.ref fa) → ∃ fd : FuncData, (∀ (s : Shared) (u : Value), BindsTo s fd ⟨[u], []⟩ [("_law_script", u)]) ∧ ∀ base : Heap, (K w.params).In base → base.Ns mainGlobals mg → (∃ o, base.get? sysModules = some o) → DFn l.prog w (K w.params) mg base 9 fa fd ["_law_script"] spLaw) :
    PySem.W.WalkO q loose XP YP l.row.toRowW d [] (fun f vs => PySem.call f vs) :=
  walkG hn hdf ⟨rfl, by decide, by decide⟩ imp hY F law_me
end L2.DL
open PySem PySem.W PyProof.Rows in
set_option maxHeartbeats 0 in
theorem PySem.Challenge.cw_ownletters_k03_spellers_holds : PySem.Challenge.rw_ownletters_k03_spellers.Holds := by
  refine L2.DL.head ?_
  k_fill
  refine L2.DL.walk (l := PySem.Challenge.rw_ownletters_k03_spellers) rfl rfl (by decide +kernel) (fun w h Y => PySem.W.kIn_of Y) ?F
  case F =>
    intro w mg fa h KX G hmg
    exact L2.DL.all_mk KX G hmg (by k_is) (by k_is) (by k_is) (by k_is) (by k_is) (by k_is) (by k_is) (by k_is) (by k_is) (by k_is) (by k_is) (by first | rfl | k_is) (by k_is) (by k_is) (by k_is) (by first | rfl | k_is) (by first | rfl | k_is) (by k_is) (by k_is) (by k_is) (by k_is) (by k_is) (by k_is) (by k_is) (by k_is) (by k_is) (by k_is) (by k_is) (by k_is) (by k_is) (by k_is) (by k_is) (by k_is) (by k_is) (by k_is) (by k_is) (by k_is) (by k_is) (by k_is) (by k_is) (by first | rfl | k_is) (by first | rfl | k_is) (by k_is) (by k_is) (by k_is) (by k_is) (by k_is) (by k_is) (by first | rfl | k_is) (by k_is) (by k_is) (by k_is) (by k_is) (by k_is) (by k_is) (by k_is) (by k_is) (by k_is) (by k_is) (by k_is) (by k_is) (by first | rfl | k_is) (by first | rfl | k_is) (by first | rfl | k_is) (by k_is) (by k_is) (by k_is) (by k_is) (by k_is) (by k_is) (by k_is) (by k_is) (by k_is) (by first | rfl | k_is) (by first | rfl | k_is) (by first | rfl | k_is) (by k_is) (by k_is) (by k_is) (by k_is) (by k_is) (by k_is) (by k_is) (by k_is) (by k_is) (by k_is) (by k_is) (by k_is) (by k_is) (by k_is) (by k_is) (by k_is) (by k_is) (by k_is) (by k_is) (by k_is) (by k_is) (by k_is) (by k_is) (by k_is) (by k_is) (by k_is) (by k_is) (by k_is) (by k_is) (by k_is) (by k_is) (by k_is) (by k_is) (by k_is) (by k_is) (by k_is) (by k_is) (by k_is) (by k_is) (by k_is) (by k_is) (by k_is) (by k_is) (by k_is) (by k_is) (by k_is) (by k_is) (by k_is) (by k_is) (by first | rfl | decide +kernel | k_is) (by k_is) (by k_is) (by k_is) (by k_is) (by k_is) (by k_is) (by k_is) (by k_is) (by first | rfl | decide +kernel | k_is) (by k_is) (by k_is) (by k_is) (by k_is) (by k_is) (by k_is) (by k_is) (by k_is) (by exact ⟨_, _, by k_is, by rfl, by rfl⟩) (by k_is) (by k_is) (by k_is) (by k_is) (by k_is) (by k_is) (by k_is) (by k_is) (by k_is) (by k_is) (by k_is) (by k_is) (by k_is) (by k_is) (by k_is) (by k_is) (by k_is) (by k_is) (by k_is) (by k_is) (by k_is) (by k_is) (by k_is) (by k_is) (by k_is) (by k_is) (by k_is) (by k_is) (by k_is) (by k_is) (by k_is) (by k_is) (by first | rfl | decide +kernel | k_is) (by k_is) (by k_is) (by k_is) (by k_is) (by k_is) (by k_is) (by k_is) (by k_is) (by k_is) (by k_is) (by k_is) (by k_is) (by k_is) (by k_is) (by k_is) (by k_is) (by k_is) (by k_is) (by k_is) (by k_is) (by k_is) (by k_is) (by k_is) (by k_is) (by k_is) (by k_is) (by k_is) (by k_is) (by k_is) (by k_is) (by k_is) (by k_is) (by k_is) (by k_is) (by k_is) (by k_is) (by k_is) (by k_is) (by k_is) (by k_is) (by k_is) (by k_is) (by k_is) (by k_is) (by k_is) (by k_is) (by k_is) (by k_is) (by k_is) (by k_is) (by k_is) (by k_is) (by k_is) (by k_is) (by k_is) (by k_is) (by k_is) (by k_is) (by k_is) (by k_is) (by k_is) (by k_is) (by k_is) (by k_is) (by k_is) (by k_is) (by k_is) (by k_is) (by k_is) (by k_is) (by k_is) (by k_is) (by k_is) (by k_is) (by exact ⟨_, rfl⟩) (by k_is) (by exact ⟨_, _, rfl, by decide +kernel⟩) (by k_is) (by exact ⟨_, rfl⟩)
#print axioms PySem.Challenge.cw_ownletters_k03_spellers_holds
