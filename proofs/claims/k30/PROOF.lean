import PyProof.Rows.All
import Wide.All
import OpenK.AllK
import Wide.FinOn
import KE.OsRunLaw
import PySem.Challenge.RW_ownletters_k30_reaches_judged
import HandS.ForMost
import HandS.Exc
import HandS.TupAny
import HandS.WideBits
import HandS.TupLe
import HandS.Deep
import HandS.IsInst
import HandS.RaiseMore
import HandS.WordsExc
import HandS.CallSlots
import HandS.EndBits
import HandS.Conv
import HandS.More
import HandS.Text
import PyProof.ListStr
import HandS.TupMul
import HandS.Small
import HandS.Words
import HandS.Codes
import PyProof.ReprLen
import HandS.StrMore
import HandS.Style
import PyProof.SliceStr2
import PyProof.StrLawsIn
import HandS.Star
import HandS.Property
import HandS.ClsMeth
import HandS.ExcInit
import HandS.ExcField
import HandS.TryOnly
import HandS.Zip
import HandS.NoneIn
import HandS.SetFor
import HandS.Strs
import HandS.Flow
import HandS.DictComp
import HandS.ListItems
import KE.KOpsOwn
import KE.KDictList
import HandS.Finally
import KE.KDictZip
import KE.KTurns
import HandS.Set
import HandS.List
import PyProof.Rows.SortShellAny
import HandS.GenCall
import HandS.GenList
import KE.LtSeq
import KE.GoesMore
import HandS.Iter
import HandS.Defaults
import KE.KRevSl
import OpenK.KMeth
import PyProof.TupleOfStr
import HandS.TryMany
import HandS.SortRule
import KE.KSortTupAny
import HandS.SetKeys
import KE.KDictCopyH
set_option Elab.async false
set_option linter.all false
set_option maxRecDepth 100000
set_option maxHeartbeats 4000000
namespace L2.DL
section
local macro_rules | `(tactic| k_head) => `(tactic| k_headL)
open PySem PySem.W PyProof.Rows in
set_option maxHeartbeats 0 in
open_top head for PySem.Challenge.rw_ownletters_k30_reaches_judged
end
end L2.DL
/-! DLa: data trees over the hand layer: trees, what stands for them, the state relation. -/
namespace L2.DL
open PySem PySem.Spec PyProof.Rows
abbrev Txt := List Nat
def sV (s : Txt) : Str := ⟨s.toArray⟩
theorem sV_inj {s t : Txt} (h : sV s = sV t) : s = t := by
  unfold sV at h
  have : s.toArray = t.toArray := congrArg Str.cps h
  simpa using congrArg Array.toList this
theorem sV_cps (s : Txt) : (sV s).cps.toList = s := by simp [sV]
theorem sV_len (s : Txt) : (sV s).length = s.length := by simp [sV, Str.length]
theorem sV_of (x : Str) : sV x.cps.toList = x := by cases x; simp [sV]
abbrev DK := Sum Int Txt
def kOf : DK → Key
  | .inl i => .inl i
  | .inr s => .inr (sV s)
theorem kOf_inj {a b : DK} (h : kOf a = kOf b) : a = b := by
  cases a <;> cases b <;> simp [kOf] at h
  · rw [h]
  · rw [sV_inj h]
/-- data trees -/
inductive D where
  | non | bl (b : Bool) | int (i : Int) | str (s : Txt)
  | tup (xs : List D) | lst (xs : List D) | dct (kvs : List (DK × D))
  | obj (C : Addr) (fs : List (Str × D))
  | cell (a : Addr) | ty (n : String) | scr (ns : List Int)
  | exc (a C dd : Addr) (fs : List (Str × D))
  | tupT (ts : List Txt)
  | kt
  deriving Inhabited
/-- a tuple: as it was laid, or its object told -/
def TupA (H : Hp) (a : Addr) (vs : List V) : Prop := H a = some (.tup vs) ∨ ∃ o : Obj, o.dict = none ∧ H a = some (.frz o (.tup vs))
theorem TupA.same {H H' : Hp} {a : Addr} {vs : List V} (s : Same H H') (h : TupA H a vs) : TupA H' a vs := by
  rcases h with h | ⟨o, d, h⟩
  · exact .inl (s _ _ h)
  · exact .inr ⟨o, d, s _ _ h⟩
/-- the empty tuple that stands in the text (a default) -/
def KT0 (K : PySem.W.Frag) (a : Addr) : Prop := ∃ (o : Obj) (n : Nat), K.lookup a = some o ∧ o.cls = .type "tuple" ∧ o.data = .seq #[] n
theorem KT0.sq {K : PySem.W.Frag} {H : Hp} {a : Addr} (h : KT0 K a) : SqT K H a [] := by
  obtain ⟨o, n, h1, h2, h3⟩ := h
  exact .inr ⟨o, #[], n, h1, h2, h3, Nat.zero_le _, .nil⟩
theorem TupA.sq {K : PySem.W.Frag} {H H' : Hp} {a : Addr} {vs : List V} (s : Same H H') (h : TupA H a vs) : SqT K H' a vs := by
  rcases h with h | ⟨o, d, h⟩
  · exact .inl (.inl (s _ _ h))
  · exact .inl (.inr ⟨o, s _ _ h⟩)
mutual
/-- in the part H of the heap that stays, v is the tree d -/
inductive Rep (K : PySem.W.Frag) (H : Hp) : D → V → Prop
  | non : Rep K H .non .non
  | bl (b : Bool) : Rep K H (.bl b) (.bl b)
  | int (i : Int) : Rep K H (.int i) (.int i)
  | str (s : Txt) : Rep K H (.str s) (.str (sV s))
  | tup {xs : List D} {a : Addr} {vs : List V} : TupA H a vs → RepL K H xs vs → Rep K H (.tup xs) (.ref a)
  | lst {xs : List D} {a : Addr} {vs : List V} : H a = some (.lst vs) → RepL K H xs vs → Rep K H (.lst xs) (.ref a)
  | dct {kvs : List (DK × D)} {a : Addr} {ws : List (Key × V)} : Rd H a (.dK ws) → RepKV K H kvs ws → Rep K H (.dct kvs) (.ref a)
  | obj {C a dx : Addr} {fs : List (Str × D)} {ws : List (Str × V)} : H a = some (.ins C dx ws) → RepF K H fs ws → Rep K H (.obj C fs) (.ref a)
  | cell (a : Addr) : Rep K H (.cell a) (.ref a)
  | ty (n : String) : Rep K H (.ty n) (.ty n)
  | scr {ns : List Int} {a : Addr} : SqL K H a (ns.map V.int) → Rep K H (.scr ns) (.ref a)
  | exc {a C dd : Addr} {fs : List (Str × D)} {ws : List (Str × V)} : H dd = some (.xd ws) → RepF K H fs ws → Rep K H (.exc a C dd fs) (.ref a)
  | tupT {ts : List Txt} {a : Addr} {o : Obj} : o.dict = none → H a = some (.frz o (.tup ((ts.map sV).map V.str))) → Rep K H (.tupT ts) (.ref a)
  | kt {a : Addr} : KT0 K a → Rep K H .kt (.ref a)
inductive RepL (K : PySem.W.Frag) (H : Hp) : List D → List V → Prop
  | nil : RepL K H [] []
  | cons {d : D} {v : V} {ds : List D} {vs : List V} : Rep K H d v → RepL K H ds vs → RepL K H (d :: ds) (v :: vs)
inductive RepKV (K : PySem.W.Frag) (H : Hp) : List (DK × D) → List (Key × V) → Prop
  | nil : RepKV K H [] []
  | cons {k : DK} {d : D} {v : V} {ds : List (DK × D)} {vs : List (Key × V)} : Rep K H d v → RepKV K H ds vs → RepKV K H ((k, d) :: ds) ((kOf k, v) :: vs)
inductive RepF (K : PySem.W.Frag) (H : Hp) : List (Str × D) → List (Str × V) → Prop
  | nil : RepF K H [] []
  | cons {k : Str} {d : D} {v : V} {ds : List (Str × D)} {vs : List (Str × V)} : Rep K H d v → RepF K H ds vs → RepF K H ((k, d) :: ds) ((k, v) :: vs)
end
/-- one part of the heap reads as another does -/
structure Le (K : PySem.W.Frag) (H H' : Hp) : Prop where
  tup : ∀ a vs, TupA H a vs → TupA H' a vs
  lst : ∀ a vs, H a = some (.lst vs) → H' a = some (.lst vs)
  dct : ∀ a ws, Rd H a (.dK ws) → Rd H' a (.dK ws)
  obj : ∀ a C dx ws, H a = some (.ins C dx ws) → H' a = some (.ins C dx ws)
  scr : ∀ a vs, SqL K H a vs → SqL K H' a vs
  xd : ∀ a ws, H a = some (.xd ws) → H' a = some (.xd ws)
  tx : ∀ a o vs, H a = some (.frz o (.tup vs)) → H' a = some (.frz o (.tup vs))
theorem Same.rd {H H' : Hp} {a : Addr} {u : HO} (s : Same H H') (h : Rd H a u) : Rd H' a u := by
  rcases h with h | ⟨o, h⟩
  · exact .inl (s _ _ h)
  · exact .inr ⟨o, s _ _ h⟩
theorem Le.of {K : PySem.W.Frag} {H H' : Hp} (s : Same H H') : Le K H H' :=
  ⟨fun _ _ h => TupA.same s h, fun _ _ h => s _ _ h, fun _ _ h => Same.rd s h, fun _ _ _ _ h => s _ _ h, fun _ _ h => s.seq h, fun _ _ h => s _ _ h, fun _ _ _ h => s _ _ h⟩
theorem Le.trans {K : PySem.W.Frag} {A B C : Hp} (h : Le K A B) (g : Le K B C) : Le K A C := ⟨fun a vs q => g.tup a vs (h.tup a vs q), fun a vs q => g.lst a vs (h.lst a vs q), fun a vs q => g.dct a vs (h.dct a vs q), fun a c dx vs q => g.obj a c dx vs (h.obj a c dx vs q), fun a vs q => g.scr a vs (h.scr a vs q), fun a vs q => g.xd a vs (h.xd a vs q), fun a o vs q => g.tx a o vs (h.tx a o vs q)⟩
section
variable {K : PySem.W.Frag} {H H' : Hp}
mutual
theorem Rep.le (l : Le K H H') : ∀ {d : D} {v : V}, Rep K H d v → Rep K H' d v
  | _, _, .non => .non
  | _, _, .bl b => .bl b
  | _, _, .int i => .int i
  | _, _, .str s => .str s
  | _, _, .tup h r => .tup (l.tup _ _ h) (RepL.le l r)
  | _, _, .lst h r => .lst (l.lst _ _ h) (RepL.le l r)
  | _, _, .dct h r => .dct (l.dct _ _ h) (RepKV.le l r)
  | _, _, .obj h r => .obj (l.obj _ _ _ _ h) (RepF.le l r)
  | _, _, .cell a => .cell a
  | _, _, .ty n => .ty n
  | _, _, .scr h => .scr (l.scr _ _ h)
  | _, _, .exc h r => .exc (l.xd _ _ h) (RepF.le l r)
  | _, _, .tupT d h => .tupT d (l.tx _ _ _ h)
  | _, _, .kt h => .kt h
theorem RepL.le (l : Le K H H') : ∀ {d : List D} {v : List V}, RepL K H d v → RepL K H' d v
  | _, _, .nil => .nil
  | _, _, .cons h r => .cons (Rep.le l h) (RepL.le l r)
theorem RepKV.le (l : Le K H H') : ∀ {d : List (DK × D)} {v : List (Key × V)}, RepKV K H d v → RepKV K H' d v
  | _, _, .nil => .nil
  | _, _, .cons h r => .cons (Rep.le l h) (RepKV.le l r)
theorem RepF.le (l : Le K H H') : ∀ {d : List (Str × D)} {v : List (Str × V)}, RepF K H d v → RepF K H' d v
  | _, _, .nil => .nil
  | _, _, .cons h r => .cons (Rep.le l h) (RepF.le l r)
end
theorem Rep.same {d : D} {v : V} (r : Rep K H d v) (s : Same H H') : Rep K H' d v := r.le (Le.of s)
theorem RepL.same {d : List D} {v : List V} (r : RepL K H d v) (s : Same H H') : RepL K H' d v := r.le (Le.of s)
theorem RepKV.same {d : List (DK × D)} {v : List (Key × V)} (r : RepKV K H d v) (s : Same H H') : RepKV K H' d v := r.le (Le.of s)
theorem RepF.same {d : List (Str × D)} {v : List (Str × V)} (r : RepF K H d v) (s : Same H H') : RepF K H' d v := r.le (Le.of s)
theorem RepL.length : ∀ {d : List D} {v : List V}, RepL K H d v → d.length = v.length
  | _, _, .nil => rfl
  | _, _, .cons _ r => by simp [RepL.length r]
theorem RepL.get : ∀ {ds : List D} {vs : List V} {i : Nat} {v : V}, RepL K H ds vs → vs[i]? = some v → ∃ d, ds[i]? = some d ∧ Rep K H d v
  | _, _, _, _, .nil, e => by simp at e
  | _, _, 0, _, .cons h _, e => by simp at e; subst e; exact ⟨_, rfl, h⟩
  | _, _, i + 1, _, .cons _ r, e => by
    obtain ⟨d, h1, h2⟩ := RepL.get (i := i) r (by simpa using e)
    exact ⟨d, by simpa using h1, h2⟩
theorem RepL.get' : ∀ {ds : List D} {vs : List V} {i : Nat} {d : D}, RepL K H ds vs → ds[i]? = some d → ∃ v, vs[i]? = some v ∧ Rep K H d v
  | _, _, _, _, .nil, e => by simp at e
  | _, _, 0, _, .cons h _, e => by simp at e; subst e; exact ⟨_, rfl, h⟩
  | _, _, i + 1, _, .cons _ r, e => by
    obtain ⟨d, h1, h2⟩ := RepL.get' (i := i) r (by simpa using e)
    exact ⟨d, by simpa using h1, h2⟩
theorem RepL.append : ∀ {ds es : List D} {vs ws : List V}, RepL K H ds vs → RepL K H es ws → RepL K H (ds ++ es) (vs ++ ws)
  | _, _, _, _, .nil, s => s
  | _, _, _, _, .cons h r, s => .cons h (RepL.append r s)
theorem RepL.take : ∀ {ds : List D} {vs : List V} (n : Nat), RepL K H ds vs → RepL K H (ds.take n) (vs.take n)
  | _, _, 0, _ => by simp; exact .nil
  | _, _, _ + 1, .nil => .nil
  | _, _, n + 1, .cons h r => .cons h (RepL.take n r)
theorem RepL.drop : ∀ {ds : List D} {vs : List V} (n : Nat), RepL K H ds vs → RepL K H (ds.drop n) (vs.drop n)
  | _, _, 0, r => r
  | _, _, _ + 1, .nil => .nil
  | _, _, n + 1, .cons _ r => RepL.drop n r
theorem RepL.set : ∀ {ds : List D} {vs : List V} (n : Nat) {d : D} {v : V}, RepL K H ds vs → Rep K H d v → RepL K H (ds.set n d) (vs.set n v)
  | _, _, _, _, _, .nil, _ => .nil
  | _, _, 0, _, _, .cons _ r, q => .cons q r
  | _, _, n + 1, _, _, .cons h r, q => .cons h (RepL.set n r q)
theorem RepL.eraseIdx : ∀ {ds : List D} {vs : List V} (n : Nat), RepL K H ds vs → RepL K H (ds.eraseIdx n) (vs.eraseIdx n)
  | _, _, _, .nil => .nil
  | _, _, 0, .cons _ r => r
  | _, _, n + 1, .cons h r => .cons h (RepL.eraseIdx n r)
theorem RepL.dropLast : ∀ {ds : List D} {vs : List V}, RepL K H ds vs → RepL K H ds.dropLast vs.dropLast
  | _, _, .nil => .nil
  | _, _, .cons _ .nil => .nil
  | _, _, .cons h (.cons h' r) => .cons h (RepL.dropLast (.cons h' r))
theorem RepL.reverse : ∀ {ds : List D} {vs : List V}, RepL K H ds vs → RepL K H ds.reverse vs.reverse
  | _, _, .nil => .nil
  | _, _, .cons h r => by
    rw [List.reverse_cons, List.reverse_cons]
    exact RepL.append (RepL.reverse r) (.cons h .nil)
end
/-! ### cells, own slots -/
inductive Cell where
  | pur (tab : Bool) | lst (xs : List D) | dct (kvs : List (DK × D)) | obj (C : Addr) (fs : List (Str × D))
  /-- a table that is walked: it is read alone meanwhile -/
  | lck (o : Obj) (ws : List (Key × V)) (kvs : List (DK × D))
  /-- a thing told by what is true of its object -/
  | ext (φ : PySem.W.Frag → Hp → HO → Prop)
abbrev Cs := Addr → Option Cell
def cput (C : Cs) (a : Addr) (c : Cell) : Cs := fun b => if b = a then some c else C b
theorem cput_same {C : Cs} {a : Addr} {c : Cell} : cput C a c a = some c := by unfold cput; rw [if_pos rfl]
theorem cput_ne {C : Cs} {a b : Addr} {c : Cell} (h : b ≠ a) : cput C a c b = C b := by unfold cput; rw [if_neg h]
/-- a source of draws, a table or a list: what it holds is not told -/
def PurO : Bool → HO → Prop
  | true, o => ∃ i j : Int, 0 ≤ j ∧ j < 4294967296 ∧ o = .dK [(.inr (sV [100, 105, 103, 105, 116, 115]), .int i), (.inr (sV [109, 105, 120, 101, 100]), .int j)]
  | false, o => ∃ i j : Int, 0 ≤ j ∧ j < 4294967296 ∧ o = .lst [.int i, .int j]
inductive Cont where
  | lst (xs : List D) | dct (kvs : List (DK × D)) | obj (C : Addr) (fs : List (Str × D))
@[reducible] def Cont.d : Cont → D
  | .lst xs => .lst xs
  | .dct kvs => .dct kvs
  | .obj C fs => .obj C fs
def RepC (K : PySem.W.Frag) (Hs : Hp) : Cell → HO → Prop
  | .pur b, o => PurO b o
  | .lst xs, o => ∃ vs, o = .lst vs ∧ RepL K Hs xs vs
  | .dct kvs, o => ∃ ws, o = .dK ws ∧ RepKV K Hs kvs ws
  | .obj C fs, o => ∃ dx ws, o = .ins C dx ws ∧ RepF K Hs fs ws
  | .lck od ws kvs, o => o = .frz od (.dK ws) ∧ RepKV K Hs kvs ws
  | .ext φ, o => ∃ Hs0, Le K Hs0 Hs ∧ φ K Hs0 o
def RepO (K : PySem.W.Frag) (Hs : Hp) : Cont → HO → Prop
  | .lst xs, o => ∃ vs, o = .lst vs ∧ RepL K Hs xs vs
  | .dct kvs, o => ∃ ws, o = .dK ws ∧ RepKV K Hs kvs ws
  | .obj C fs, o => ∃ dx ws, o = .ins C dx ws ∧ RepF K Hs fs ws
theorem RepC.same {K : PySem.W.Frag} {H H' : Hp} {c : Cell} {o : HO} (r : RepC K H c o) (s : Same H H') : RepC K H' c o := by
  cases c with
  | pur b => exact r
  | lst xs => obtain ⟨vs, e, r⟩ := r; exact ⟨vs, e, r.same s⟩
  | dct kvs => obtain ⟨vs, e, r⟩ := r; exact ⟨vs, e, r.same s⟩
  | obj C fs => obtain ⟨dx, vs, e, r⟩ := r; exact ⟨dx, vs, e, r.same s⟩
  | lck od ws kvs => exact ⟨r.1, r.2.same s⟩
  | ext φ => obtain ⟨Hs0, s0, r⟩ := r; exact ⟨Hs0, s0.trans (Le.of s), r⟩
theorem RepO.same {K : PySem.W.Frag} {H H' : Hp} {c : Cont} {o : HO} (r : RepO K H c o) (s : Same H H') : RepO K H' c o := by
  cases c with
  | lst xs => obtain ⟨vs, e, r⟩ := r; exact ⟨vs, e, r.same s⟩
  | dct kvs => obtain ⟨vs, e, r⟩ := r; exact ⟨vs, e, r.same s⟩
  | obj C fs => obtain ⟨dx, vs, e, r⟩ := r; exact ⟨dx, vs, e, r.same s⟩
theorem RepO.rep {K : PySem.W.Frag} {H : Hp} {c : Cont} {o : HO} {p : Addr} (r : RepO K H c o) (h : H p = some o) : Rep K H c.d (.ref p) := by
  cases c with
  | lst xs => obtain ⟨vs, e, r⟩ := r; subst e; exact .lst h r
  | dct kvs => obtain ⟨vs, e, r⟩ := r; subst e; exact .dct (.inl h) r
  | obj C fs => obtain ⟨dx, vs, e, r⟩ := r; subst e; exact .obj h r
inductive Slot where
  | non | shr (d : D) | own (c : Cont)
abbrev Env := List Slot
structure Fits (K : PySem.W.Frag) (Hs H : Hp) (C : Cs) : Prop where
  sub : Same Hs H
  cel : ∀ a c, C a = some c → Hs a = none ∧ ∃ o, H a = some o ∧ RepC K Hs c o
/-- the entry: what stays, the heap, the cells; the floor: what stays at least -/
structure Z0 where
  Hs : Hp
  H : Hp
  C : Cs
  F : Hp
structure Bas (Z : Z0) (Hs H : Hp) (C : Cs) : Prop where
  fl : Same Z.F Hs
  kp : ∀ a o, Z.H a = some o → Z.C a = none → H a = some o ∧ C a = none ∧ (Z.Hs a = none → Hs a = none)
  th : ∀ a o, Z.H a = some o → ∃ o', H a = some o'
structure Slots (K : PySem.W.Frag) (Z : Z0) (σ : St) (Hs H : Hp) (env : Env) (C : Cs) : Prop where
  len : env.length = σ.length
  shr : ∀ (i : Nat) (d : D), env[i]? = some (Slot.shr d) → ∃ v, σ[i]? = some (some v) ∧ Rep K Hs d v
  own : ∀ (i : Nat) (c : Cont), env[i]? = some (Slot.own c) → ∃ p o, σ[i]? = some (some (V.ref p)) ∧ H p = some o ∧ RepO K Hs c o ∧ Hs p = none ∧ C p = none ∧ Z.H p = none
  sep : ∀ (i j : Nat) (c c' : Cont) (p : Addr), i ≠ j → env[i]? = some (Slot.own c) → env[j]? = some (Slot.own c') → σ[i]? = some (some (V.ref p)) → σ[j]? ≠ some (some (V.ref p))
structure SR (K : PySem.W.Frag) (Z : Z0) (σ : St) (Hs H : Hp) (env : Env) (C : Cs) : Prop where
  fit : Fits K Hs H C
  bas : Bas Z Hs H C
  slt : Slots K Z σ Hs H env C
/-- a step of an expression -/
structure Tr (Hs H : Hp) (C : Cs) (Hs' H' : Hp) (C' : Cs) : Prop where
  fr : Same Hs Hs'
  kp : ∀ a o, H a = some o → C a = none → H' a = some o ∧ C' a = none
theorem Tr.refl {Hs H : Hp} {C : Cs} : Tr Hs H C Hs H C := ⟨Same.refl _, fun _ _ h c => ⟨h, c⟩⟩
theorem Tr.trans {Hs H Hs1 H1 Hs2 H2 : Hp} {C C1 C2 : Cs} (a : Tr Hs H C Hs1 H1 C1) (b : Tr Hs1 H1 C1 Hs2 H2 C2) : Tr Hs H C Hs2 H2 C2 :=
  ⟨a.fr.trans b.fr, fun x o h c => let ⟨h1, c1⟩ := a.kp x o h c; b.kp x o h1 c1⟩
/-! ### results -/
abbrev RR (α : Type) := PySem.W.Frag → Z0 → St → Hp → Hp → Env → Cs → α → V → Prop
def RShr : RR D := fun K _ _ Hs _ _ _ d v => Rep K Hs d v
/-- shared, or a container of nobody else's whose items are shared -/
def RPk : RR D := fun K _ _ Hs H _ C d v => Rep K Hs d v ∨ ∃ c p o, d = c.d ∧ v = .ref p ∧ H p = some o ∧ RepO K Hs c o ∧ C p = none
/-- a new container -/
def RFr : RR Cont := fun K Z σ Hs H env C c v => ∃ p o, v = .ref p ∧ H p = some o ∧ RepO K Hs c o ∧ Hs p = none ∧ C p = none ∧ Z.H p = none ∧
  ∀ (i : Nat) (c' : Cont), env[i]? = some (Slot.own c') → σ[i]? ≠ some (some (V.ref p))
inductive XD where
  | own (C : Addr) (fs : List (Str × D)) | blt (n : String)
abbrev DM (α : Type) := Env → Cs → (α → Env → Cs → Prop) → Prop
abbrev EX := XD → Env → Cs → Prop
abbrev EM (α : Type) := EX → DM α
def RX (K : PySem.W.Frag) (Hs H : Hp) : XD → Value → Option Addr → Prop
  | .own C fs, cls, dx => cls = .ref C ∧ ∃ x ws, dx = some x ∧ Hs x = some (.xd ws) ∧ RepF K Hs fs ws
  | .blt n, cls, _ => cls = .type n
def LG (K : PySem.W.Frag) {α : Type} (R : RR α) (Z : Z0) (m : DM α) : TE := fun σ H Q => ∃ Hs env C P, SR K Z σ Hs H env C ∧ m env C P ∧
  ∀ d env' C' v Hs' H', P d env' C' → Tr Hs H C Hs' H' C' → SR K Z σ Hs' H' env' C' → R K Z σ Hs' H' env' C' d v → Q v H'
def LT (K : PySem.W.Frag) (Z : Z0) (m : DM Bool) : TT := fun σ H Q => ∃ Hs env C P, SR K Z σ Hs H env C ∧ m env C P ∧
  ∀ b env' C' Hs' H', P b env' C' → Tr Hs H C Hs' H' C' → SR K Z σ Hs' H' env' C' → Q b H'
/-- several results -/
inductive RAll (K : PySem.W.Frag) (R : RR D) (Z : Z0) (σ : St) (Hs H : Hp) (env : Env) (C : Cs) : List D → List V → Prop
  | nil : RAll K R Z σ Hs H env C [] []
  | cons {d : D} {v : V} {ds : List D} {vs : List V} : R K Z σ Hs H env C d v → RAll K R Z σ Hs H env C ds vs → RAll K R Z σ Hs H env C (d :: ds) (v :: vs)
def LA (K : PySem.W.Frag) (R : RR D) (Z : Z0) (m : DM (List D)) : TA := fun σ H Q => ∃ Hs env C P, SR K Z σ Hs H env C ∧ m env C P ∧
  ∀ ds env' C' vs Hs' H', P ds env' C' → Tr Hs H C Hs' H' C' → SR K Z σ Hs' H' env' C' → RAll K R Z σ Hs' H' env' C' ds vs → Q vs H'
/-- what is wished of exceptions is taken -/
def DXw (K : PySem.W.Frag) (Z : Z0) (E : EX) : WX := fun cls dx σ H => ∃ Hs env C x, SR K Z σ Hs H env C ∧ RX K Hs H x cls dx ∧ E x env C
def DX (X : Cx) (Z : Z0) (E : EX) : Prop := Takes X (DXw X.K Z E)
def DE (X : Cx) {α : Type} (R : RR α) (e : Expr) (m : EM α) : Prop := ∀ Z E, DX X Z E → PE X e (LG X.K R Z (m E))
def DT (X : Cx) (e : Expr) (m : EM Bool) : Prop := ∀ Z E, DX X Z E → PT X e (LT X.K Z (m E))
def DA (X : Cx) (R : RR D) (es : List Expr) (m : EM (List D)) : Prop := ∀ Z E, DX X Z E → PA X es (LA X.K R Z (m E))
/-! ### statements -/
inductive Ret where
  | shr (d : D) | frs (c : Cont)
def RRet (K : PySem.W.Frag) (Z : Z0) (Hs H : Hp) (C : Cs) : Ret → V → Prop
  | .shr d, v => Rep K Hs d v
  | .frs c, v => ∃ p o, v = .ref p ∧ H p = some o ∧ RepO K Hs c o ∧ Hs p = none ∧ C p = none ∧ Z.H p = none
structure DEnds where
  nx : Env → Cs → Prop
  rt : Ret → Cs → Prop
  bk : Env → Cs → Prop := fun _ _ => False
  ct : Env → Cs → Prop := fun _ _ => False
abbrev SM := EX → DEnds → Env → Cs → Prop
def EndsOk (K : PySem.W.Frag) (Z : Z0) (dE : DEnds) (D : Ends) : Prop :=
  (∀ σ Hs H env C, SR K Z σ Hs H env C → dE.nx env C → D.nx σ H) ∧
  (∀ r v Hs H C, Fits K Hs H C → Bas Z Hs H C → RRet K Z Hs H C r v → dE.rt r C → D.rt v H) ∧
  (∀ σ Hs H env C, SR K Z σ Hs H env C → dE.bk env C → D.bk σ H) ∧
  (∀ σ Hs H env C, SR K Z σ Hs H env C → dE.ct env C → D.ct σ H)
def LS (K : PySem.W.Frag) (Z : Z0) (m : DEnds → Env → Cs → Prop) : TS := fun D σ H => ∃ Hs env C dE, SR K Z σ Hs H env C ∧ EndsOk K Z dE D ∧ m dE env C
def DS (X : Cx) (st : Stmt) (m : SM) : Prop := ∀ Z E, DX X Z E → PS X st (LS X.K Z (m E))
def DSs (X : Cx) (sts : List Stmt) (m : SM) : Prop := ∀ Z E, DX X Z E → PSs X sts (LS X.K Z (m E))
end L2.DL
/-! DLb: steps of the state; operators, names, constants, tests. -/
namespace L2.DL
open PySem PySem.Spec PyProof.Rows
section
variable {K : PySem.W.Frag} {Z : Z0} {σ : St} {Hs H Hs' H' : Hp} {env : DL.Env} {C C' : Cs} {p : Addr} {o : HO} {d : D} {v : V} {c : Cont}
theorem same_upd {H : Hp} {p : Addr} {o : HO} (h : H p = none) : Same H (upd H p o) := fun b u e => by
  rw [upd_ne (ne_of_none e h)]; exact e
theorem Fits.nothing (f : Fits K Hs H C) (h : H p = none) : Hs p = none ∧ C p = none := by
  constructor
  · cases e : Hs p with
    | none => rfl
    | some u => rw [f.sub _ _ e] at h; cases h
  · cases e : C p with
    | none => rfl
    | some u => obtain ⟨_, o, e1, _⟩ := f.cel _ _ e; rw [e1] at h; cases h
theorem Fits.lay (f : Fits K Hs H C) (h : H p = none) : Fits K (upd Hs p o) (upd H p o) C := by
  obtain ⟨h1, h2⟩ := f.nothing h
  refine ⟨fun b u e => ?_, fun a c e => ?_⟩
  · by_cases hb : b = p
    · subst hb; rw [upd_same] at e ⊢; exact e
    · rw [upd_ne hb] at e ⊢; exact f.sub _ _ e
  · have ha : a ≠ p := fun q => by rw [q, h2] at e; cases e
    obtain ⟨q, u, e1, r⟩ := f.cel _ _ e
    exact ⟨by rw [upd_ne ha]; exact q, u, by rw [upd_ne ha]; exact e1, r.same (same_upd h1)⟩
theorem Fits.layP (f : Fits K Hs H C) (h : H p = none) : Fits K Hs (upd H p o) C := by
  refine ⟨fun b u e => ?_, fun a c e => ?_⟩
  · rw [upd_ne (ne_of_none (f.sub _ _ e) h)]; exact f.sub _ _ e
  · obtain ⟨q, u, e1, r⟩ := f.cel _ _ e
    exact ⟨q, u, by rw [upd_ne (ne_of_none e1 h)]; exact e1, r⟩
theorem Fits.frz (f : Fits K Hs H C) (h : H p = some o) (h1 : Hs p = Option.none) (h2 : C p = Option.none) : Fits K (upd Hs p o) H C := by
  refine ⟨fun b u e => ?_, fun a c e => ?_⟩
  · by_cases hb : b = p
    · subst hb; rw [upd_same] at e; cases e; exact h
    · rw [upd_ne hb] at e; exact f.sub _ _ e
  · have ha : a ≠ p := fun q => by rw [q, h2] at e; cases e
    obtain ⟨q, u, e1, r⟩ := f.cel _ _ e
    exact ⟨by rw [upd_ne ha]; exact q, u, e1, r.same (same_upd h1)⟩
theorem Bas.lay (b : Bas Z Hs H C) (f : Fits K Hs H C) (h : H p = none) : Bas Z (upd Hs p o) (upd H p o) C := by
  obtain ⟨h1, h2⟩ := f.nothing h
  refine ⟨fun x u e => same_upd h1 _ _ (b.fl _ _ e), fun a u e c => ?_, fun a u e => ?_⟩
  · obtain ⟨e1, e2, e3⟩ := b.kp a u e c
    have ha : a ≠ p := ne_of_none e1 h
    exact ⟨by rw [upd_ne ha]; exact e1, e2, fun q => by rw [upd_ne ha]; exact e3 q⟩
  · obtain ⟨o', e1⟩ := b.th a u e
    exact ⟨o', by rw [upd_ne (ne_of_none e1 h)]; exact e1⟩
theorem Bas.layP (b : Bas Z Hs H C) (h : H p = none) : Bas Z Hs (upd H p o) C := by
  refine ⟨b.fl, fun a u e c => ?_, fun a u e => ?_⟩
  · obtain ⟨e1, e2, e3⟩ := b.kp a u e c
    exact ⟨by rw [upd_ne (ne_of_none e1 h)]; exact e1, e2, e3⟩
  · obtain ⟨o', e1⟩ := b.th a u e
    exact ⟨o', by rw [upd_ne (ne_of_none e1 h)]; exact e1⟩
theorem Bas.frz (b : Bas Z Hs H C) (h1 : Hs p = none) (hz : Z.H p = none) : Bas Z (upd Hs p o) H C := by
  refine ⟨fun x u e => same_upd h1 _ _ (b.fl _ _ e), fun a u e c => ?_, b.th⟩
  obtain ⟨e1, e2, e3⟩ := b.kp a u e c
  have ha : a ≠ p := ne_of_none e hz
  exact ⟨e1, e2, fun q => by rw [upd_ne ha]; exact e3 q⟩
theorem Bas.zfree (b : Bas Z Hs H C) (h : H p = none) : Z.H p = none := by
  cases e : Z.H p with
  | none => rfl
  | some u =>
    obtain ⟨o', e1⟩ := b.th _ _ e
    rw [e1] at h
    cases h
theorem th_upd {o' : HO} (t : ∀ a o, Z.H a = some o → ∃ o', H a = some o') : ∀ a o, Z.H a = some o → ∃ u, upd H p o' a = some u := fun a u e => by
  by_cases ha : a = p
  · subst ha
    exact ⟨o', upd_same⟩
  · rw [upd_ne ha]
    exact t a u e
/-- a new object that stays -/
theorem SR.lay (r : SR K Z σ Hs H env C) (h : H p = none) (o : HO) : SR K Z σ (upd Hs p o) (upd H p o) env C := by
  obtain ⟨h1, h2⟩ := r.fit.nothing h
  refine ⟨r.fit.lay h, r.bas.lay r.fit h, r.slt.len, fun i d e => ?_, fun i c e => ?_, r.slt.sep⟩
  · obtain ⟨v, e1, q⟩ := r.slt.shr i d e
    exact ⟨v, e1, q.same (same_upd h1)⟩
  · obtain ⟨q, u, e1, e2, r1, n1, n2, n3⟩ := r.slt.own i c e
    have hq : q ≠ p := ne_of_none e2 h
    exact ⟨q, u, e1, by rw [upd_ne hq]; exact e2, r1.same (same_upd h1), by rw [upd_ne hq]; exact n1, n2, n3⟩
theorem Tr.lay (f : Fits K Hs H C) (h : H p = none) (o : HO) : Tr Hs H C (upd Hs p o) (upd H p o) C :=
  ⟨same_upd (f.nothing h).1, fun a u e c => ⟨by rw [upd_ne (ne_of_none e h)]; exact e, c⟩⟩
/-- a new object of nobody's -/
theorem SR.layP (r : SR K Z σ Hs H env C) (h : H p = none) (o : HO) : SR K Z σ Hs (upd H p o) env C := by
  refine ⟨r.fit.layP h, r.bas.layP h, r.slt.len, r.slt.shr, fun i c e => ?_, r.slt.sep⟩
  obtain ⟨q, u, e1, e2, r1, n1, n2, n3⟩ := r.slt.own i c e
  exact ⟨q, u, e1, by rw [upd_ne (ne_of_none e2 h)]; exact e2, r1, n1, n2, n3⟩
theorem Tr.layP (h : H p = none) (o : HO) : Tr Hs H C Hs (upd H p o) C :=
  ⟨Same.refl _, fun a u e c => ⟨by rw [upd_ne (ne_of_none e h)]; exact e, c⟩⟩
/-- a thing of nobody's stays from now on -/
theorem SR.frz (r : SR K Z σ Hs H env C) (h : H p = some o) (h1 : Hs p = none) (h2 : C p = none) (hz : Z.H p = none)
    (no : ∀ (i : Nat) (c' : Cont), env[i]? = some (Slot.own c') → σ[i]? ≠ some (some (V.ref p))) : SR K Z σ (upd Hs p o) H env C := by
  refine ⟨r.fit.frz h h1 h2, r.bas.frz h1 hz, r.slt.len, fun i d e => ?_, fun i c e => ?_, r.slt.sep⟩
  · obtain ⟨v, e1, q⟩ := r.slt.shr i d e
    exact ⟨v, e1, q.same (same_upd h1)⟩
  · obtain ⟨q, u, e1, e2, r1, n1, n2, n3⟩ := r.slt.own i c e
    have hq : q ≠ p := fun z => no i c e (by rw [← z]; exact e1)
    exact ⟨q, u, e1, e2, r1.same (same_upd h1), by rw [upd_ne hq]; exact n1, n2, n3⟩
theorem Tr.frz (h1 : Hs p = none) : Tr Hs H C (upd Hs p o) H C := ⟨same_upd h1, fun _ _ e c => ⟨e, c⟩⟩
/-- a slot's container stays from now on -/
theorem SR.frzS {i : Nat} (r : SR K Z σ Hs H env C) (hi : env[i]? = some (Slot.own c)) :
    ∃ p o, σ[i]? = some (some (V.ref p)) ∧ H p = some o ∧ Hs p = none ∧ RepO K Hs c o ∧ SR K Z σ (upd Hs p o) H (env.set i (.shr c.d)) C := by
  obtain ⟨p, o, e1, e2, r1, n1, n2, n3⟩ := r.slt.own i c hi
  refine ⟨p, o, e1, e2, n1, r1, r.fit.frz e2 n1 n2, r.bas.frz n1 n3, by rw [List.length_set]; exact r.slt.len, fun j d e => ?_, fun j c' e => ?_, fun j k c' c'' q ne e f => ?_⟩
  · by_cases hj : i = j
    · subst hj
      rw [List.getElem?_set_self (List.getElem?_eq_some_iff.mp hi).1] at e
      cases e
      exact ⟨_, e1, (r1.same (same_upd n1)).rep upd_same⟩
    · rw [List.getElem?_set_ne hj] at e
      obtain ⟨v, e1, q⟩ := r.slt.shr j d e
      exact ⟨v, e1, q.same (same_upd n1)⟩
  · by_cases hj : i = j
    · subst hj
      rw [List.getElem?_set_self (List.getElem?_eq_some_iff.mp hi).1] at e
      cases e
    · rw [List.getElem?_set_ne hj] at e
      obtain ⟨q, u, f1, f2, r2, m1, m2, m3⟩ := r.slt.own j c' e
      have hq : q ≠ p := fun z => r.slt.sep i j c c' p hj hi e e1 (by rw [← z]; exact f1)
      exact ⟨q, u, f1, f2, r2.same (same_upd n1), by rw [upd_ne hq]; exact m1, m2, m3⟩
  · by_cases hj : i = j
    · subst hj
      rw [List.getElem?_set_self (List.getElem?_eq_some_iff.mp hi).1] at e
      cases e
    · by_cases hk : i = k
      · subst hk
        rw [List.getElem?_set_self (List.getElem?_eq_some_iff.mp hi).1] at f
        cases f
      · rw [List.getElem?_set_ne hj] at e
        rw [List.getElem?_set_ne hk] at f
        exact r.slt.sep j k c' c'' q ne e f
/-- a slot is stored, shared -/
theorem SR.setS {i : Nat} (r : SR K Z σ Hs H env C) (hv : Rep K Hs d v) : SR K Z (σ.set i (some v)) Hs H (env.set i (.shr d)) C := by
  refine ⟨r.fit, r.bas, by rw [List.length_set, List.length_set]; exact r.slt.len, fun j d' e => ?_, fun j c' e => ?_, fun j k c' c'' q ne e f => ?_⟩
  · by_cases hj : i = j
    · subst hj
      have hl : i < env.length := by
        have := (List.getElem?_eq_some_iff.mp e).1
        simpa using this
      rw [List.getElem?_set_self hl] at e
      cases e
      exact ⟨v, List.getElem?_set_self (by rw [← r.slt.len]; exact hl), hv⟩
    · rw [List.getElem?_set_ne hj] at e ⊢
      exact r.slt.shr j d' e
  · by_cases hj : i = j
    · subst hj
      have hl : i < env.length := by
        have := (List.getElem?_eq_some_iff.mp e).1
        simpa using this
      rw [List.getElem?_set_self hl] at e
      cases e
    · rw [List.getElem?_set_ne hj] at e ⊢
      exact r.slt.own j c' e
  · by_cases hj : i = j
    · subst hj
      have hl : i < env.length := by
        have := (List.getElem?_eq_some_iff.mp e).1
        simpa using this
      rw [List.getElem?_set_self hl] at e
      cases e
    · by_cases hk : i = k
      · subst hk
        have hl : i < env.length := by
          have := (List.getElem?_eq_some_iff.mp f).1
          simpa using this
        rw [List.getElem?_set_self hl] at f
        cases f
      · rw [List.getElem?_set_ne hj] at e ⊢
        rw [List.getElem?_set_ne hk] at f ⊢
        exact r.slt.sep j k c' c'' q ne e f
/-- a slot takes a new container -/
theorem SR.setO {i : Nat} (r : SR K Z σ Hs H env C) (h : RFr K Z σ Hs H env C c v) : SR K Z (σ.set i (some v)) Hs H (env.set i (.own c)) C := by
  obtain ⟨p, o, rfl, e2, r1, n1, n2, n3, no⟩ := h
  have lt : ∀ {x : Slot}, (env.set i x)[i]? = some x → i < env.length := fun e => by
    have := (List.getElem?_eq_some_iff.mp e).1
    simpa using this
  refine ⟨r.fit, r.bas, by rw [List.length_set, List.length_set]; exact r.slt.len, fun j d' e => ?_, fun j c' e => ?_, fun j k c' c'' q ne e f g => ?_⟩
  · by_cases hj : i = j
    · subst hj
      have hl : i < env.length := by
        have := (List.getElem?_eq_some_iff.mp e).1
        simpa using this
      rw [List.getElem?_set_self hl] at e
      cases e
    · rw [List.getElem?_set_ne hj] at e ⊢
      exact r.slt.shr j d' e
  · by_cases hj : i = j
    · subst hj
      have hl : i < env.length := by
        have := (List.getElem?_eq_some_iff.mp e).1
        simpa using this
      rw [List.getElem?_set_self hl] at e
      cases e
      exact ⟨p, o, List.getElem?_set_self (by rw [← r.slt.len]; exact hl), e2, r1, n1, n2, n3⟩
    · rw [List.getElem?_set_ne hj] at e ⊢
      exact r.slt.own j c' e
  · by_cases hj : i = j
    · subst hj
      have hl : i < env.length := by
        have := (List.getElem?_eq_some_iff.mp e).1
        simpa using this
      rw [List.getElem?_set_self (by rw [← r.slt.len]; exact hl)] at g
      cases g
      rw [List.getElem?_set_ne ne] at f ⊢
      exact no k c'' f
    · by_cases hk : i = k
      · subst hk
        have hl : i < env.length := by
          have := (List.getElem?_eq_some_iff.mp f).1
          simpa using this
        rw [List.getElem?_set_self (by rw [← r.slt.len]; exact hl)]
        rw [List.getElem?_set_ne hj] at e g
        intro z
        cases z
        exact no j c' e g
      · rw [List.getElem?_set_ne hj] at e g
        rw [List.getElem?_set_ne hk] at f ⊢
        exact r.slt.sep j k c' c'' q ne e f g
/-- a slot's container is written -/
theorem SR.wrO {i : Nat} {c' : Cont} {o' : HO} (r : SR K Z σ Hs H env C) (hi : env[i]? = some (Slot.own c)) (hp : σ[i]? = some (some (V.ref p))) (h : RepO K Hs c' o') :
    SR K Z σ Hs (upd H p o') (env.set i (.own c')) C := by
  obtain ⟨p', o, e1, e2, r1, n1, n2, n3⟩ := r.slt.own i c hi
  rw [hp] at e1
  cases e1
  have il := (List.getElem?_eq_some_iff.mp hi).1
  refine ⟨⟨fun b u e => ?_, fun a c e => ?_⟩, ⟨r.bas.fl, fun a u e c => ?_, th_upd r.bas.th⟩, by rw [List.length_set]; exact r.slt.len, fun j d' e => ?_, fun j c2 e => ?_, fun j k c2 c3 q ne e f => ?_⟩
  · rw [upd_ne (ne_of_none e n1)]; exact r.fit.sub _ _ e
  · obtain ⟨q, u, e1, r2⟩ := r.fit.cel _ _ e
    have ha : a ≠ p := fun z => by rw [z, n2] at e; cases e
    exact ⟨q, u, by rw [upd_ne ha]; exact e1, r2⟩
  · obtain ⟨q1, q2, q3⟩ := r.bas.kp a u e c
    exact ⟨by rw [upd_ne (ne_of_none e n3)]; exact q1, q2, q3⟩
  · by_cases hj : i = j
    · subst hj
      rw [List.getElem?_set_self il] at e
      cases e
    · rw [List.getElem?_set_ne hj] at e
      exact r.slt.shr j d' e
  · by_cases hj : i = j
    · subst hj
      rw [List.getElem?_set_self il] at e
      cases e
      exact ⟨p, o', hp, upd_same, h, n1, n2, n3⟩
    · rw [List.getElem?_set_ne hj] at e
      obtain ⟨q, u, f1, f2, r2, m1, m2, m3⟩ := r.slt.own j c2 e
      have hq : q ≠ p := fun z => r.slt.sep i j c c2 p hj hi e hp (by rw [← z]; exact f1)
      exact ⟨q, u, f1, by rw [upd_ne hq]; exact f2, r2, m1, m2, m3⟩
  · by_cases hj : i = j
    · subst hj
      by_cases hk : i = k
      · exact absurd hk ne
      · rw [List.getElem?_set_ne hk] at f
        exact r.slt.sep i k c c3 q ne hi f
    · rw [List.getElem?_set_ne hj] at e
      by_cases hk : i = k
      · subst hk
        exact r.slt.sep j i c2 c q ne e hi
      · rw [List.getElem?_set_ne hk] at f
        exact r.slt.sep j k c2 c3 q ne e f
/-- a cell is written -/
theorem SR.wrC {a : Addr} {cl cl' : Cell} {o' : HO} (r : SR K Z σ Hs H env C) (ha : C a = some cl) (h : RepC K Hs cl' o') : SR K Z σ Hs (upd H a o') env (cput C a cl') := by
  obtain ⟨q, u, e1, r1⟩ := r.fit.cel _ _ ha
  refine ⟨⟨fun b u e => ?_, fun b c e => ?_⟩, ⟨r.bas.fl, fun b u e c => ?_, th_upd r.bas.th⟩, r.slt.len, r.slt.shr, fun j c2 e => ?_, r.slt.sep⟩
  · rw [upd_ne (ne_of_none e q)]; exact r.fit.sub _ _ e
  · by_cases hb : b = a
    · subst hb
      rw [cput_same] at e
      cases e
      exact ⟨q, o', upd_same, h⟩
    · rw [cput_ne hb] at e
      obtain ⟨q, u, e1, r2⟩ := r.fit.cel _ _ e
      exact ⟨q, u, by rw [upd_ne hb]; exact e1, r2⟩
  · obtain ⟨q1, q2, q3⟩ := r.bas.kp b u e c
    have hb : b ≠ a := fun z => by rw [z, ha] at q2; cases q2
    exact ⟨by rw [upd_ne hb]; exact q1, by rw [cput_ne hb]; exact q2, q3⟩
  · obtain ⟨q, u, f1, f2, r2, m1, m2, m3⟩ := r.slt.own j c2 e
    have hq : q ≠ a := fun z => by rw [z, ha] at m2; cases m2
    exact ⟨q, u, f1, by rw [upd_ne hq]; exact f2, r2, m1, by rw [cput_ne hq]; exact m2, m3⟩
/-! ### reading a result -/
theorem RPk.tr (h : RPk K Z σ Hs H env C d v) (t : Tr Hs H C Hs' H' C') {Z' : Z0} {σ' : St} {env' : DL.Env} : RPk K Z' σ' Hs' H' env' C' d v := by
  rcases h with h | ⟨c, p, o, e1, e2, e3, e4, e5⟩
  · exact .inl (h.same t.fr)
  · obtain ⟨q1, q2⟩ := t.kp _ _ e3 e5
    exact .inr ⟨c, p, o, e1, e2, q1, e4.same t.fr, q2⟩
/-- read through a cell -/
def dr (C : Cs) : D → D
  | .cell a => match C a with
    | some (.lst xs) => .lst xs
    | some (.dct kvs) => .dct kvs
    | some (.obj c fs) => .obj c fs
    | some (.lck _ _ kvs) => .dct kvs
    | _ => .cell a
  | .tupT ts => .tup (ts.map .str)
  | d => d
theorem repl_strs {K : PySem.W.Frag} {Hs : Hp} : ∀ ts : List Txt, RepL K Hs (ts.map .str) ((ts.map sV).map V.str)
  | [] => .nil
  | t :: r => .cons (.str t) (repl_strs r)
/-- what v is now -/
inductive RNow (K : PySem.W.Frag) (Hs H : Hp) : D → V → Prop
  | non : RNow K Hs H .non .non
  | bl (b : Bool) : RNow K Hs H (.bl b) (.bl b)
  | int (i : Int) : RNow K Hs H (.int i) (.int i)
  | str (s : Txt) : RNow K Hs H (.str s) (.str (sV s))
  | tup {xs : List D} {a : Addr} {vs : List V} : TupA Hs a vs → RepL K Hs xs vs → RNow K Hs H (.tup xs) (.ref a)
  | lst {xs : List D} {a : Addr} {vs : List V} : H a = some (.lst vs) → RepL K Hs xs vs → RNow K Hs H (.lst xs) (.ref a)
  | dct {kvs : List (DK × D)} {a : Addr} {ws : List (Key × V)} : Rd H a (.dK ws) → RepKV K Hs kvs ws → RNow K Hs H (.dct kvs) (.ref a)
  | obj {C a dx : Addr} {fs : List (Str × D)} {ws : List (Str × V)} : H a = some (.ins C dx ws) → RepF K Hs fs ws → RNow K Hs H (.obj C fs) (.ref a)
  | cell (a : Addr) : RNow K Hs H (.cell a) (.ref a)
  | ty (n : String) : RNow K Hs H (.ty n) (.ty n)
  | scr {ns : List Int} {a : Addr} : SqL K H a (ns.map V.int) → RNow K Hs H (.scr ns) (.ref a)
  | exc {a C dd : Addr} {fs : List (Str × D)} {ws : List (Str × V)} : Hs dd = some (.xd ws) → RepF K Hs fs ws → RNow K Hs H (.exc a C dd fs) (.ref a)
  | tupT {ts : List Txt} {a : Addr} {o : Obj} : o.dict = none → Hs a = some (.frz o (.tup ((ts.map sV).map V.str))) → RNow K Hs H (.tupT ts) (.ref a)
  | kt {a : Addr} : KT0 K a → RNow K Hs H .kt (.ref a)
theorem Rep.now (f : Fits K Hs H C) (h : Rep K Hs d v) : RNow K Hs H d v := by
  cases h with
  | non => exact .non
  | bl b => exact .bl b
  | int i => exact .int i
  | str s => exact .str s
  | tup e r => exact .tup e r
  | lst e r => exact .lst (f.sub _ _ e) r
  | dct e r => exact .dct (Same.rd f.sub e) r
  | obj e r => exact .obj (f.sub _ _ e) r
  | cell a => exact .cell a
  | ty n => exact .ty n
  | scr e => exact .scr (f.sub.seq e)
  | exc e r => exact .exc e r
  | tupT d e => exact .tupT d e
  | kt h => exact .kt h
theorem RPk.now (f : Fits K Hs H C) (h : RPk K Z σ Hs H env C d v) : RNow K Hs H (dr C d) v := by
  rcases h with h | ⟨c, p, o, e1, e2, e3, e4, e5⟩
  · have h' := h.now f
    cases h' with
    | cell a =>
      show RNow K Hs H (match C a with
        | some (.lst xs) => D.lst xs
        | some (.dct kvs) => D.dct kvs
        | some (.obj c fs) => D.obj c fs
        | some (.lck _ _ kvs) => D.dct kvs
        | _ => D.cell a) (.ref a)
      cases e : C a with
      | none => exact .cell a
      | some cl =>
        obtain ⟨_, o, e1, r⟩ := f.cel _ _ e
        cases cl with
        | pur => exact .cell a
        | ext φ => exact .cell a
        | lst xs => obtain ⟨vs, rfl, r⟩ := r; exact .lst e1 r
        | dct xs => obtain ⟨vs, rfl, r⟩ := r; exact .dct (.inl e1) r
        | lck od ws xs => obtain ⟨rfl, r⟩ := r; exact .dct (.inr ⟨_, e1⟩) r
        | obj C fs => obtain ⟨dx, vs, rfl, r⟩ := r; exact .obj e1 r
    | non => exact .non
    | bl b => exact .bl b
    | int i => exact .int i
    | str s => exact .str s
    | tup e r => exact .tup e r
    | lst e r => exact .lst e r
    | dct e r => exact .dct e r
    | obj e r => exact .obj e r
    | ty n => exact .ty n
    | scr e => exact .scr e
    | exc e r => exact .exc e r
    | tupT d e => exact .tup (.inr ⟨_, d, e⟩) (repl_strs _)
    | kt e => exact .kt e
  · subst e1 e2
    cases c with
    | lst xs => obtain ⟨vs, rfl, r⟩ := e4; exact .lst e3 r
    | dct kvs => obtain ⟨vs, rfl, r⟩ := e4; exact .dct (.inl e3) r
    | obj C fs => obtain ⟨dx, vs, rfl, r⟩ := e4; exact .obj e3 r
@[simp] theorem dr_non {C : Cs} : dr C .non = .non := rfl
@[simp] theorem dr_bl {C : Cs} {b} : dr C (.bl b) = .bl b := rfl
@[simp] theorem dr_int {C : Cs} {b} : dr C (.int b) = .int b := rfl
@[simp] theorem dr_str {C : Cs} {b} : dr C (.str b) = .str b := rfl
@[simp] theorem dr_tup {C : Cs} {b} : dr C (.tup b) = .tup b := rfl
@[simp] theorem dr_lst {C : Cs} {b} : dr C (.lst b) = .lst b := rfl
@[simp] theorem dr_dct {C : Cs} {b} : dr C (.dct b) = .dct b := rfl
@[simp] theorem dr_obj {C : Cs} {b c} : dr C (.obj b c) = .obj b c := rfl
@[simp] theorem dr_ty {C : Cs} {b} : dr C (.ty b) = .ty b := rfl
@[simp] theorem dr_scr {C : Cs} {b} : dr C (.scr b) = .scr b := rfl
theorem dr_cell {C : Cs} {a : Addr} : dr C (.cell a) = match C a with
    | some (.lst xs) => .lst xs
    | some (.dct kvs) => .dct kvs
    | some (.obj c fs) => .obj c fs
    | some (.lck _ _ kvs) => .dct kvs
    | _ => .cell a := rfl
end
/-! ### a result stands for another kind of result -/
section
variable {X : Cx} {e : Expr}
/-- the mapping of a result -/
def mMap {α β : Type} (f : α → β) (m : EM α) : EM β := fun E env C Q => m E env C fun a env' C' => Q (f a) env' C'
theorem DE.pk {m : EM D} (h : DE X RShr e m) : DE X RPk e m := fun Z E hE => ⟨fun pins s σ H Q I ⟨Hs, env, C, P, r, q, k⟩ =>
  (h Z E hE).run pins s σ H Q I ⟨Hs, env, C, P, r, q, fun d env' C' v Hs' H' p t s rr => k d env' C' v Hs' H' p t s (.inl rr)⟩⟩
/-- a new container, read as a tree -/
theorem DE.frz {m : EM Cont} (h : DE X RFr e m) : DE X RShr e (mMap Cont.d m) := fun Z E hE => ⟨fun pins s σ H Q I ⟨Hs, env, C, P, r, q, k⟩ =>
  (h Z E hE).run pins s σ H Q I ⟨Hs, env, C, fun c env' C' => P c.d env' C', r, q, fun c env' C' v Hs' H' p t s ⟨p', o, e1, e2, r1, n1, n2, n3, no⟩ => by
    subst e1
    exact k c.d env' C' _ (upd Hs' p' o) H' p (t.trans (Tr.frz n1)) (s.frz e2 n1 n2 n3 no) ((r1.same (same_upd n1)).rep upd_same)⟩⟩
theorem DE.frP {m : EM Cont} (h : DE X RFr e m) : DE X RPk e (mMap Cont.d m) := (DE.frz h).pk
end
end L2.DL
/-! DLc: expressions: names, constants, operators, comparisons, tests. -/
namespace L2.DL
open PySem PySem.Spec PyProof.Rows
section
variable {X : Cx} {e a b : Expr} {pos : Pos}
/-! ### names, constants -/
def mC {α : Type} (d : α) : EM α := fun _ env C Q => Q d env C
def mVar (i : Nat) : EM D := fun _ env C Q => match env[i]? with
  | some (.shr d) => Q d env C
  | some (.own c) => Q c.d (env.set i (.shr c.d)) C
  | _ => False
def mPeek (i : Nat) : EM D := fun _ env C Q => match env[i]? with
  | some (.shr d) => Q d env C
  | some (.own c) => Q c.d env C
  | _ => False
theorem d_var {i : Nat} (h : PE X e (tVar i)) : DE X RShr e (mVar i) := fun Z E hE => ⟨fun pins s σ H Q I ⟨Hs, env, C, P, r, q, k⟩ => by
  refine h.run pins s σ H Q I ?_
  unfold mVar at q
  split at q
  · rename_i d he
    obtain ⟨v, e1, rv⟩ := r.slt.shr i d he
    exact ⟨v, e1, k _ _ _ v Hs H q Tr.refl r rv⟩
  · rename_i c he
    obtain ⟨p, o, e1, e2, n1, rc, r'⟩ := r.frzS he
    exact ⟨_, e1, k _ _ _ _ _ H q (Tr.frz n1) r' ((rc.same (same_upd n1)).rep upd_same)⟩
  · exact q.elim⟩
theorem d_peek {i : Nat} (h : PE X e (tVar i)) : DE X RPk e (mPeek i) := fun Z E hE => ⟨fun pins s σ H Q I ⟨Hs, env, C, P, r, q, k⟩ => by
  refine h.run pins s σ H Q I ?_
  unfold mPeek at q
  split at q
  · rename_i d he
    obtain ⟨v, e1, rv⟩ := r.slt.shr i d he
    exact ⟨v, e1, k _ _ _ v Hs H q Tr.refl r (.inl rv)⟩
  · rename_i c he
    obtain ⟨p, o, e1, e2, rc, n1, n2, n3⟩ := r.slt.own i c he
    exact ⟨_, e1, k _ _ _ _ Hs H q Tr.refl r (.inr ⟨c, p, o, rfl, rfl, e2, rc, n2⟩)⟩
  · exact q.elim⟩
/-- a value that leans on no heap -/
theorem d_const {v : V} {d : D} (h : PE X e (tC v)) (r : ∀ Hs, Rep X.K Hs d v) : DE X RShr e (mC d) := fun Z E hE => ⟨fun pins s σ H Q I ⟨Hs, env, C, P, sr, q, k⟩ =>
  h.run pins s σ H Q I (k _ _ _ v Hs H q Tr.refl sr (r Hs))⟩
theorem d_int {i : Int} {j pos} : DE X RShr (.Constant (.int i) j pos) (mC (.int i)) := d_const pe_int fun _ => .int i
theorem d_bl {i : Bool} {j pos} : DE X RShr (.Constant (.bool i) j pos) (mC (.bl i)) := d_const pe_bl fun _ => .bl i
theorem d_non {j pos} : DE X RShr (.Constant .none j pos) (mC .non) := d_const pe_non fun _ => .non
theorem d_str {x : Str} {j pos} : DE X RShr (.Constant (.str x) j pos) (mC (.str x.cps.toList)) := d_const pe_str fun _ => by
  have := @Rep.str X.K (fun _ => none) x.cps.toList
  rename_i Hs
  have h := @Rep.str X.K Hs x.cps.toList
  rw [sV_of] at h
  exact h
/-! ### operators by values -/
structure OpD (X : Cx) (f : Value → Value → Sem Value) {α : Type} (R : RR α) (g : D → D → (α → Prop) → Prop) : Prop where
  ex : ∃ r : R2, OpR X f r ∧ ∀ Z σ Hs H env C d e v u (P : α → Prop) Q, SR X.K Z σ Hs H env C → RNow X.K Hs H d v → RNow X.K Hs H e u → g d e P →
    (∀ a w Hs' H', P a → Tr Hs H C Hs' H' C → SR X.K Z σ Hs' H' env C → R X.K Z σ Hs' H' env C a w → Q w H') → r v u H Q
def mOp {α : Type} (g : D → D → (α → Prop) → Prop) (ma mb : EM D) : EM α := fun E env C Q => ma E env C fun d env1 C1 => mb E env1 C1 fun e env2 C2 => g (dr C2 d) (dr C2 e) fun x => Q x env2 C2
theorem opd_run {f : Value → Value → Sem Value} {α : Type} {R : RR α} {g : D → D → (α → Prop) → Prop} (o : OpD X f R g) {ma mb : EM D} (ha : DE X RPk a ma) (hb : DE X RPk b mb) :
    ∃ r : R2, OpR X f r ∧ ∀ Z E, DX X Z E → ∀ σ H Q, LG X.K R Z (mOp g ma mb E) σ H Q → tOp r (LG X.K RPk Z (ma E)) (LG X.K RPk Z (mb E)) σ H Q := by
  obtain ⟨r, hr, hg⟩ := o.ex
  refine ⟨r, hr, fun Z E hE σ H Q ⟨Hs, env, C, P, sr, q, k⟩ => ?_⟩
  refine ⟨Hs, env, C, _, sr, q, fun d env1 C1 v Hs1 H1 q1 t1 s1 r1 => ?_⟩
  refine ⟨Hs1, env1, C1, _, s1, q1, fun e env2 C2 u Hs2 H2 q2 t2 s2 r2 => ?_⟩
  exact hg Z σ Hs2 H2 env2 C2 _ _ v u _ Q s2 ((r1.tr t2 (Z' := Z) (σ' := σ) (env' := env2)).now s2.fit) (r2.now s2.fit) q2 fun x w Hs' H' p t s rr => k _ _ _ w Hs' H' p ((t1.trans t2).trans t) s rr
theorem d_op {op : Operator} {α : Type} {R : RR α} {g : D → D → (α → Prop) → Prop} (o : OpD X (binaryOp op) R g) {ma mb : EM D} (ha : DE X RPk a ma) (hb : DE X RPk b mb) : DE X R (.BinOp a op b pos) (mOp g ma mb) := fun Z E hE => by
  obtain ⟨r, hr, i⟩ := opd_run o ha hb
  exact ⟨fun pins s σ H Q I q => (pe_op hr (ha Z E hE) (hb Z E hE)).run pins s σ H Q I (i Z E hE σ H Q q)⟩
theorem d_cmp {op : CmpOp} {g : D → D → (D → Prop) → Prop} (o : OpD X (compareOp op) RShr g) {ma mb : EM D} (ha : DE X RPk a ma) (hb : DE X RPk b mb) (hm : behindInMarks op b = false) : DE X RShr (.Compare a [op] [b] pos) (mOp g ma mb) := fun Z E hE => by
  obtain ⟨r, hr, i⟩ := opd_run o ha hb
  exact ⟨fun pins s σ H Q I q => (pe_cmpR hr (ha Z E hE) (hb Z E hE) hm).run pins s σ H Q I (i Z E hE σ H Q q)⟩
/-- a value as a test -/
def mTst (m : EM D) : EM Bool := fun E env C Q => m E env C fun d env1 C1 => ∃ k, d = .bl k ∧ Q k env1 C1
theorem dt_cmp {op : CmpOp} {g : D → D → (D → Prop) → Prop} (o : OpD X (compareOp op) RShr g) {ma mb : EM D} (ha : DE X RPk a ma) (hb : DE X RPk b mb) (hm : behindInMarks op b = false) : DT X (.Compare a [op] [b] pos) (mTst (mOp g ma mb)) := fun Z E hE => by
  obtain ⟨r, hr, i⟩ := opd_run o ha hb
  refine ⟨fun pins s σ H Q I ⟨Hs, env, C, P, sr, q, k⟩ => (pt_cmpR hr (ha Z E hE) (hb Z E hE) hm).run pins s σ H Q I ?_⟩
  refine i Z E hE σ H _ ⟨Hs, env, C, _, sr, q, fun d env' C' v Hs' H' p t s rr => ?_⟩
  obtain ⟨b, rfl, p⟩ := p
  cases rr
  exact ⟨b, rfl, k _ _ _ Hs' H' p t s⟩
/-! ### chains a < b < c -/
def mChain (g g' : D → D → (D → Prop) → Prop) (ma mb mc : EM D) : EM D := fun E env C Q => ma E env C fun d env1 C1 => mb E env1 C1 fun e env2 C2 => g (dr C2 d) (dr C2 e) fun x => ∃ k, x = .bl k ∧
  (if k = true then mc E env2 C2 fun f env3 C3 => g' (dr C3 e) (dr C3 f) fun y => Q y env3 C3 else Q (.bl false) env2 C2)
/-! ### and, or, not, if as values and tests -/
/-- a plain expression as a test: its truth -/
def truD : D → Option Bool
  | .non => some false
  | .bl b => some b
  | .int i => some (i != 0)
  | .str s => if s.length ≤ sizeLine then some (!s.isEmpty) else none
  | .tup xs => some (!xs.isEmpty)
  | .lst xs => some (!xs.isEmpty)
  | .dct kvs => none
  | _ => none
def mTru (m : EM D) : EM Bool := fun E env C Q => m E env C fun d env1 C1 => match truD (dr C1 d) with
  | some k => Q k env1 C1
  | none => False
theorem isEmpty_rep {K : PySem.W.Frag} {H : Hp} {ds : List D} {vs : List V} (r : RepL K H ds vs) : ds.isEmpty = vs.isEmpty := by
  cases r <;> rfl
theorem tru_now {K : PySem.W.Frag} {Hs H : Hp} {d : D} {v : V} {k : Bool} (sub : Same Hs H) (r : RNow K Hs H d v) (h : truD d = some k) : TruV K v H k := by
  cases r with
  | non => simpa [truD, TruV] using h.symm
  | bl b => simpa [truD, TruV] using h.symm
  | int i => simpa [truD, TruV] using h.symm
  | str s =>
    have h' : (if s.length ≤ sizeLine then some (!s.isEmpty) else none) = some k := h
    split at h'
    · rename_i hs
      refine ⟨by rw [sV_len]; exact hs, ?_⟩
      have e : k = !s.isEmpty := (Option.some.inj h').symm
      rw [e, sV_len]
      cases s with
      | nil => rfl
      | cons x r =>
        show true = (((r.length + 1 : Nat) : Int) != 0)
        symm
        rw [bne_iff_ne]
        omega
    · cases h'
  | tup e r =>
    refine .inr (.inl ⟨_, TupA.sq sub e, ?_⟩)
    rw [← isEmpty_rep r]
    exact (Option.some.inj h).symm
  | lst e r =>
    refine .inl ⟨_, SqL.of e, ?_⟩
    rw [← isEmpty_rep r]
    exact (Option.some.inj h).symm
  | dct e r => cases h
  | obj e r => cases h
  | cell a => cases h
  | ty n => cases h
  | scr e => cases h
  | exc e r => cases h
  | tupT d e => cases h
  | kt e => cases h
theorem dt_tru {ma : EM D} (ha : DE X RPk a ma) (he : ∀ whole, isTrue a X.env whole = (do let v ← whole; standAt a.pos; holding [v] (truthy v))) : DT X a (mTru ma) := fun Z E hE => by
  refine ⟨fun pins s σ H Q I ⟨Hs, env, C, P, sr, q, k⟩ => (pt_truth (ha Z E hE) he).run pins s σ H Q I ?_⟩
  refine ⟨Hs, env, C, _, sr, q, fun d env1 C1 v Hs1 H1 q1 t1 s1 r1 => ?_⟩
  have n := r1.now s1.fit
  cases e : truD (dr C1 d) with
  | none => simp only [e] at q1
  | some b =>
    simp only [e] at q1
    exact ⟨b, tru_now s1.fit.sub n e, k _ _ _ Hs1 H1 q1 t1 s1⟩
def mAndT (m m' : EM Bool) : EM Bool := fun E env C Q => m E env C fun k env1 C1 => if k = true then m' E env1 C1 Q else Q false env1 C1
def mOrT (m m' : EM Bool) : EM Bool := fun E env C Q => m E env C fun k env1 C1 => if k = true then Q true env1 C1 else m' E env1 C1 Q
def mNotT (m : EM Bool) : EM Bool := fun E env C Q => m E env C fun k env1 C1 => Q (!k) env1 C1
def DW (X : Cx) (e : Expr) (m : EM Bool) : Prop := ∀ Z E, DX X Z E → PW X e (LT X.K Z (m E))
theorem DW.pt {m : EM Bool} (h : DW X e m) : DT X e m := fun Z E hE => (h Z E hE).pt
variable {rest : List Expr} {mA mB : EM Bool}
theorem dw_and1 (ha : DT X a mA) : DW X (.BoolOp .And [a] pos) mA := fun Z E hE => pw_and1 (ha Z E hE)
theorem dw_or1 (ha : DT X a mA) : DW X (.BoolOp .Or [a] pos) mA := fun Z E hE => pw_or1 (ha Z E hE)
theorem dw_and (ha : DT X a mA) (hb : DW X (.BoolOp .And (b :: rest) pos) mB) : DW X (.BoolOp .And (a :: b :: rest) pos) (mAndT mA mB) := fun Z E hE => by
  refine ⟨fun wh pins s σ H Q I ⟨Hs, env, C, P, sr, q, k⟩ => (pw_and (ha Z E hE) (hb Z E hE)).run wh pins s σ H Q I ?_⟩
  refine ⟨Hs, env, C, _, sr, q, fun b env1 C1 Hs1 H1 q1 t1 s1 => ?_⟩
  cases b with
  | true =>
    rw [if_pos rfl] at q1 ⊢
    exact ⟨Hs1, env1, C1, P, s1, q1, fun b env2 C2 Hs2 H2 q2 t2 s2 => k _ _ _ _ _ q2 (t1.trans t2) s2⟩
  | false =>
    rw [if_neg Bool.false_ne_true] at q1 ⊢
    exact k _ _ _ _ _ q1 t1 s1
theorem dw_or (ha : DT X a mA) (hb : DW X (.BoolOp .Or (b :: rest) pos) mB) : DW X (.BoolOp .Or (a :: b :: rest) pos) (mOrT mA mB) := fun Z E hE => by
  refine ⟨fun wh pins s σ H Q I ⟨Hs, env, C, P, sr, q, k⟩ => (pw_or (ha Z E hE) (hb Z E hE)).run wh pins s σ H Q I ?_⟩
  refine ⟨Hs, env, C, _, sr, q, fun b env1 C1 Hs1 H1 q1 t1 s1 => ?_⟩
  cases b with
  | true =>
    rw [if_pos rfl] at q1 ⊢
    exact k _ _ _ _ _ q1 t1 s1
  | false =>
    rw [if_neg Bool.false_ne_true] at q1 ⊢
    exact ⟨Hs1, env1, C1, P, s1, q1, fun b env2 C2 Hs2 H2 q2 t2 s2 => k _ _ _ _ _ q2 (t1.trans t2) s2⟩
theorem dt_not (ha : DT X a mA) : DT X (.UnaryOp .Not a pos) (mNotT mA) := fun Z E hE => by
  refine ⟨fun pins s σ H Q I ⟨Hs, env, C, P, sr, q, k⟩ => (pt_not (ha Z E hE)).run pins s σ H Q I ?_⟩
  exact ⟨Hs, env, C, _, sr, q, fun b env1 C1 Hs1 H1 q1 t1 s1 => k _ _ _ _ _ q1 t1 s1⟩
/-- as values: all but the last True or False -/
def mAndV (m m' : EM D) : EM D := fun E env C Q => m E env C fun x env1 C1 => ∃ k, x = .bl k ∧ if k = true then m' E env1 C1 Q else Q (.bl false) env1 C1
def mOrV (m m' : EM D) : EM D := fun E env C Q => m E env C fun x env1 C1 => ∃ k, x = .bl k ∧ if k = true then Q (.bl true) env1 C1 else m' E env1 C1 Q
def mNotV (m : EM D) : EM D := fun E env C Q => m E env C fun x env1 C1 => ∃ k, x = .bl k ∧ Q (.bl (!k)) env1 C1
theorem d_one {op} {ma : EM D} (ha : DE X RShr a ma) : DE X RShr (.BoolOp op [a] pos) ma := fun Z E hE => pe_one (ha Z E hE)
theorem d_and {ma mb : EM D} (ha : DE X RShr a ma) (hb : DE X RShr (.BoolOp .And (b :: rest) pos) mb) : DE X RShr (.BoolOp .And (a :: b :: rest) pos) (mAndV ma mb) := fun Z E hE => by
  refine ⟨fun pins s σ H Q I ⟨Hs, env, C, P, sr, q, k⟩ => (pe_and (ha Z E hE) (hb Z E hE)).run pins s σ H Q I ?_⟩
  refine ⟨Hs, env, C, _, sr, q, fun d env1 C1 v Hs1 H1 q1 t1 s1 r1 => ?_⟩
  obtain ⟨c, rfl, q1⟩ := q1
  cases r1
  refine ⟨c, rfl, ?_⟩
  cases c with
  | true =>
    rw [if_pos rfl] at q1 ⊢
    exact ⟨Hs1, env1, C1, P, s1, q1, fun d env2 C2 v Hs2 H2 q2 t2 s2 r2 => k _ _ _ _ _ _ q2 (t1.trans t2) s2 r2⟩
  | false =>
    rw [if_neg Bool.false_ne_true] at q1 ⊢
    exact k _ _ _ _ _ _ q1 t1 s1 (.bl false)
theorem d_or {ma mb : EM D} (ha : DE X RShr a ma) (hb : DE X RShr (.BoolOp .Or (b :: rest) pos) mb) : DE X RShr (.BoolOp .Or (a :: b :: rest) pos) (mOrV ma mb) := fun Z E hE => by
  refine ⟨fun pins s σ H Q I ⟨Hs, env, C, P, sr, q, k⟩ => (pe_or (ha Z E hE) (hb Z E hE)).run pins s σ H Q I ?_⟩
  refine ⟨Hs, env, C, _, sr, q, fun d env1 C1 v Hs1 H1 q1 t1 s1 r1 => ?_⟩
  obtain ⟨c, rfl, q1⟩ := q1
  cases r1
  refine ⟨c, rfl, ?_⟩
  cases c with
  | true =>
    rw [if_pos rfl] at q1 ⊢
    exact k _ _ _ _ _ _ q1 t1 s1 (.bl true)
  | false =>
    rw [if_neg Bool.false_ne_true] at q1 ⊢
    exact ⟨Hs1, env1, C1, P, s1, q1, fun d env2 C2 v Hs2 H2 q2 t2 s2 r2 => k _ _ _ _ _ _ q2 (t1.trans t2) s2 r2⟩
theorem d_not {ma : EM D} (ha : DE X RShr a ma) : DE X RShr (.UnaryOp .Not a pos) (mNotV ma) := fun Z E hE => by
  refine ⟨fun pins s σ H Q I ⟨Hs, env, C, P, sr, q, k⟩ => (pe_not (ha Z E hE)).run pins s σ H Q I ?_⟩
  refine ⟨Hs, env, C, _, sr, q, fun d env1 C1 v Hs1 H1 q1 t1 s1 r1 => ?_⟩
  obtain ⟨c, rfl, q1⟩ := q1
  cases r1
  exact ⟨c, rfl, k _ _ _ _ _ _ q1 t1 s1 (.bl _)⟩
def mIf {α : Type} (t : EM Bool) (ma mb : EM α) : EM α := fun E env C Q => t E env C fun k env1 C1 => if k = true then ma E env1 C1 Q else mb E env1 C1 Q
theorem d_if {α : Type} {R : RR α} {c : Expr} {mc : EM Bool} {ma mb : EM α} (hc : DT X c mc) (ha : DE X R a ma) (hb : DE X R b mb) : DE X R (.IfExp c a b pos) (mIf mc ma mb) := fun Z E hE => by
  refine ⟨fun pins s σ H Q I ⟨Hs, env, C, P, sr, q, k⟩ => (pe_ifExp (hc Z E hE) (ha Z E hE) (hb Z E hE)).run pins s σ H Q I ?_⟩
  refine ⟨Hs, env, C, _, sr, q, fun c env1 C1 Hs1 H1 q1 t1 s1 => ?_⟩
  cases c with
  | true =>
    rw [if_pos rfl] at q1 ⊢
    exact ⟨Hs1, env1, C1, P, s1, q1, fun d env2 C2 v Hs2 H2 q2 t2 s2 r2 => k _ _ _ _ _ _ q2 (t1.trans t2) s2 r2⟩
  | false =>
    rw [if_neg Bool.false_ne_true] at q1 ⊢
    exact ⟨Hs1, env1, C1, P, s1, q1, fun d env2 C2 v Hs2 H2 q2 t2 s2 r2 => k _ _ _ _ _ _ q2 (t1.trans t2) s2 r2⟩
/-- - a -/
def gNeg (d : D) (P : D → Prop) : Prop := match d with
  | .int i => P (.int (-i))
  | _ => False
def mUn (g : D → (D → Prop) → Prop) (ma : EM D) : EM D := fun E env C Q => ma E env C fun d env1 C1 => g (dr C1 d) fun x => Q x env1 C1
theorem d_neg {ma : EM D} (ha : DE X RPk a ma) : DE X RShr (.UnaryOp .USub a pos) (mUn gNeg ma) := fun Z E hE => by
  refine ⟨fun pins s σ H Q I ⟨Hs, env, C, P, sr, q, k⟩ => (pe_un un_neg (ha Z E hE)).run pins s σ H Q I ?_⟩
  refine ⟨Hs, env, C, _, sr, q, fun d env1 C1 v Hs1 H1 q1 t1 s1 r1 => ?_⟩
  have n := r1.now s1.fit
  generalize dr C1 d = x at n q1
  cases n with
  | int i => exact ⟨i, rfl, k _ _ _ _ _ _ q1 t1 s1 (.int _)⟩
  | _ => exact False.elim q1
end
end L2.DL
/-! DLd: the operators over trees. -/
namespace L2.DL
open PySem PySem.Spec PyProof.Rows
theorem sV_app (s t : Txt) : sV s ++ sV t = sV (s ++ t) := by
  show Str.append _ _ = _
  unfold Str.append sV
  simp
def keyP : DK → PyData
  | .inl i => .int i
  | .inr s => .str (sV s)
/-! trees that are data -/
mutual
def toP : D → PyData
  | .non => .none
  | .bl b => .bool b
  | .int i => .int i
  | .str s => .str (sV s)
  | .tup xs => .tuple (toPs xs)
  | .lst xs => .list (toPs xs)
  | .dct kvs => .dict (toPkv kvs)
  | .tupT ts => .tuple (ts.map fun t => .str (sV t))
  | _ => .none
def toPs : List D → List PyData
  | [] => []
  | d :: r => toP d :: toPs r
def toPkv : List (DK × D) → List (PyData × PyData)
  | [] => []
  | (k, d) :: r => (keyP k, toP d) :: toPkv r
end
mutual
/-- plain data: no dicts, no objects -/
def isP : D → Bool
  | .non => true
  | .bl _ => true
  | .int _ => true
  | .str _ => true
  | .tup xs => isPs xs
  | .lst xs => isPs xs
  | .tupT _ => true
  | _ => false
def isPs : List D → Bool
  | [] => true
  | d :: r => isP d && isPs r
end
section
variable {K : PySem.W.Frag} {Hs H : Hp}
theorem dp_strs : ∀ ts : List Txt, DpAll K H ((ts.map sV).map V.str) (ts.map fun t => PyData.str (sV t))
  | [] => .nil
  | t :: r => .cons (.str _) (dp_strs r)
mutual
theorem Rep.dp (s : Same Hs H) : ∀ {d : D} {v : V}, Rep K Hs d v → isP d = true → Dp K H v (toP d)
  | _, _, .non, _ => .non
  | _, _, .bl b, _ => .bl b
  | _, _, .int i, _ => .int i
  | _, _, .str x, _ => .str _
  | _, _, .tup h r, p => .tup (TupA.sq s h) (RepL.dp s r p)
  | _, _, .lst h r, p => .lst (SqL.of (s _ _ h)) (RepL.dp s r p)
  | _, _, .dct h r, p => by cases p
  | _, _, .obj h r, p => by cases p
  | _, _, .cell a, p => by cases p
  | _, _, .ty n, p => by cases p
  | _, _, .scr h, p => by cases p
  | _, _, .exc h r, p => by cases p
  | _, _, .tupT d h, _ => .tup (TupA.sq s (.inr ⟨_, d, h⟩)) (dp_strs _)
  | _, _, .kt h, p => by cases p
theorem RepL.dp (s : Same Hs H) : ∀ {d : List D} {v : List V}, RepL K Hs d v → isPs d = true → DpAll K H v (toPs d)
  | _, _, .nil, _ => .nil
  | _, _, .cons h r, p => by
    have p' := Bool.and_eq_true_iff.mp p
    exact .cons (Rep.dp s h p'.1) (RepL.dp s r p'.2)
end
theorem RNow.dp (s : Same Hs H) {d : D} {v : V} (n : RNow K Hs H d v) (p : isP d = true) : Dp K H v (toP d) := by
  cases n with
  | non => exact .non
  | bl b => exact .bl b
  | int i => exact .int i
  | str x => exact .str _
  | tup h r => exact .tup (TupA.sq s h) (RepL.dp s r p)
  | lst h r => exact .lst (SqL.of h) (RepL.dp s r p)
  | dct h r => cases p
  | obj h r => cases p
  | cell a => cases p
  | ty n => cases p
  | scr h => cases p
  | exc h r => cases p
  | tupT d h => exact .tup (TupA.sq s (.inr ⟨_, d, h⟩)) (dp_strs _)
  | kt h => cases p
end
/-- may be compared as data -/
def okD (d : D) : Bool := isP d && SeqAt.shaped (toP d)
/-- == of data -/
def eqv (d e : D) : Bool := PyData.eqv (toP d) (toP e)
section
variable {X : Cx}
/-! ### + -/
def gAdd (d e : D) (P : D → Prop) : Prop := match d, e with
  | .int i, .int j => P (.int (i + j))
  | .str s, .str t => s.length + t.length ≤ sizeLine ∧ P (.str (s ++ t))
  | .tup xs, .tup ys => xs.length + ys.length ≤ sizeLine ∧ P (.tup (xs ++ ys))
  | .lst xs, .lst ys => xs.length + ys.length ≤ sizeLine ∧ P (.lst (xs ++ ys))
  | _, _ => False
theorem opd_add : OpD X (binaryOp .Add) RShr gAdd := by
  refine ⟨_, op_add.or (op_add_str.or (op_catA.or op_cat)), ?_⟩
  intro Z σ Hs H env C d e v u P Q sr n n' g k
  cases n with
  | int i => cases n' with
    | int j => exact .inl ⟨i, j, rfl, rfl, k _ _ Hs H g Tr.refl sr (.int _)⟩
    | _ => exact False.elim g
  | str s => cases n' with
    | str t =>
      refine .inr (.inl ⟨_, _, rfl, rfl, by rw [sV_len, sV_len]; exact g.1, ?_⟩)
      rw [sV_app]
      exact k _ _ Hs H g.2 Tr.refl sr (.str _)
    | _ => exact False.elim g
  | tup h r => cases n' with
    | tup h' r' =>
      have l1 := r.length
      have l2 := r'.length
      refine .inr (.inr (.inl ⟨_, _, _, _, rfl, rfl, TupA.sq sr.fit.sub h, TupA.sq sr.fit.sub h', by rw [← l1, ← l2]; exact g.1, fun e => ?_, fun ne e => ?_, fun ne ne' p hp => ?_⟩))
      · subst e
        cases r
        exact k _ _ Hs H g.2 Tr.refl sr (.tup h' r')
      · subst e
        cases r'
        have g2 := g.2
        rw [List.append_nil] at g2
        exact k _ _ Hs H g2 Tr.refl sr (.tup h r)
      · exact k _ _ _ _ g.2 (Tr.lay sr.fit hp _) (sr.lay hp _) (.tup (.inl upd_same) ((r.same (same_upd (sr.fit.nothing hp).1)).append (r'.same (same_upd (sr.fit.nothing hp).1))))
    | _ => exact False.elim g
  | lst h r => cases n' with
    | lst h' r' =>
      have l1 := r.length
      have l2 := r'.length
      refine .inr (.inr (.inr ⟨_, _, _, _, rfl, rfl, h, h', by rw [← l1, ← l2]; exact g.1, fun p hp => ?_⟩))
      exact k _ _ _ _ g.2 (Tr.lay sr.fit hp _) (sr.lay hp _) (.lst upd_same ((r.same (same_upd (sr.fit.nothing hp).1)).append (r'.same (same_upd (sr.fit.nothing hp).1))))
    | _ => exact False.elim g
  | _ => exact False.elim g
/-- an int operator under a condition -/
def gI (C : Int → Int → Prop) (f : Int → Int → Int) (d e : D) (P : D → Prop) : Prop := match d, e with
  | .int i, .int j => C i j ∧ P (.int (f i j))
  | _, _ => False
theorem opd_I {f : Value → Value → Sem Value} {C : Int → Int → Prop} {h : Int → Int → Int} (o : OpR X f (rI C fun i j => .int (h i j))) : OpD X f RShr (gI C h) := by
  refine ⟨_, o, ?_⟩
  intro Z σ Hs H env C d e v u P Q sr n n' g k
  cases n with
  | int i => cases n' with
    | int j => exact ⟨i, j, rfl, rfl, g.1, k _ _ Hs H g.2 Tr.refl sr (.int _)⟩
    | _ => exact False.elim g
  | _ => exact False.elim g
def gI0 (f : Int → Int → Int) (d e : D) (P : D → Prop) : Prop := match d, e with
  | .int i, .int j => P (.int (f i j))
  | _, _ => False
theorem opd_I0 {f : Value → Value → Sem Value} {h : Int → Int → Int} (o : OpR X f (rI0 fun i j => .int (h i j))) : OpD X f RShr (gI0 h) := by
  refine ⟨_, o, ?_⟩
  intro Z σ Hs H env C d e v u P Q sr n n' g k
  cases n with
  | int i => cases n' with
    | int j => exact ⟨i, j, rfl, rfl, k _ _ Hs H g Tr.refl sr (.int _)⟩
    | _ => exact False.elim g
  | _ => exact False.elim g
theorem opd_sub : OpD X (binaryOp .Sub) RShr (gI0 fun i j => i - j) := opd_I0 op_sub
def MulOk (i j : Int) : Prop := CMulX i j
def DivOk (i j : Int) : Prop := CDivW i j
theorem opd_div : OpD X (binaryOp .FloorDiv) RShr (gI DivOk fun i j => i / j) := opd_I op_fdivW
theorem opd_mod : OpD X (binaryOp .Mod) RShr (gI (fun _ j => 0 < j) fun i j => i % j) := opd_I op_mod
def PowOk (i j : Int) : Prop := 0 ≤ j ∧ (Builtin.Int.intBits i : Int) * j ≤ 2 ^ 27
theorem op_powW : OpR X (binaryOp .Pow) (rI PowOk fun i j => .int (i ^ j.toNat)) := opI fun _ _ _ _ _ _ _ hc q => pow_int hc.1 hc.2 q
theorem opd_pow : OpD X (binaryOp .Pow) RShr (gI PowOk fun i j => i ^ j.toNat) := opd_I op_powW
/-! ### ==, != -/
def scD : D → D → Bool
  | .non, .non => true | .non, .int _ => true | .int _, .non => true | .non, .bl _ => true | .bl _, .non => true | .non, .str _ => true | .str _, .non => true
  | .int _, .int _ => true | .bl _, .bl _ => true | .str _, .str _ => true
  | .int _, .str _ => true | .str _, .int _ => true | .bl _, .str _ => true | .str _, .bl _ => true
  | _, _ => false
theorem scal_of {K : PySem.W.Frag} {Hs H : Hp} {d e : D} {v u : V} (n : RNow K Hs H d v) (n' : RNow K Hs H e u) (h : scD d e = true) : scal v u = true ∧ decide (v = u) = eqv d e := by
  cases n <;> cases n' <;> first
    | (cases h; done)
    | exact ⟨rfl, rfl⟩
    | (refine ⟨rfl, ?_⟩; simp [eqv, toP, PyData.eqv]; done)
    | (refine ⟨rfl, ?_⟩; simp only [eqv, toP, PyData.eqv, V.int.injEq, V.bl.injEq, V.str.injEq]; rw [Bool.beq_eq_decide_eq]; done)
def gEq (neg : Bool) (d e : D) (P : D → Prop) : Prop := (scD d e = true ∨ (okD d = true ∧ okD e = true)) ∧ P (.bl (if neg then !eqv d e else eqv d e))
theorem opd_eq (hu : X.A.units + 64 < cLine) : OpD X (compareOp .Eq) RShr (gEq false) := by
  refine ⟨_, op_eq.or (op_eqD hu), ?_⟩
  intro Z σ Hs H env C d e v u P Q sr n n' g k
  obtain ⟨h | ⟨h1, h2⟩, p⟩ := g
  · obtain ⟨s1, s2⟩ := scal_of n n' h
    refine .inl ⟨s1, ?_⟩
    rw [s2]
    exact k _ _ Hs H p Tr.refl sr (.bl _)
  · have a1 := Bool.and_eq_true_iff.mp h1
    have a2 := Bool.and_eq_true_iff.mp h2
    exact .inr ⟨_, _, n.dp sr.fit.sub a1.1, n'.dp sr.fit.sub a2.1, a1.2, a2.2, k _ _ Hs H p Tr.refl sr (.bl _)⟩
theorem opd_ne (hu : X.A.units + 64 < cLine) : OpD X (compareOp .NotEq) RShr (gEq true) := by
  refine ⟨_, op_ne.or (op_neD hu), ?_⟩
  intro Z σ Hs H env C d e v u P Q sr n n' g k
  obtain ⟨h | ⟨h1, h2⟩, p⟩ := g
  · obtain ⟨s1, s2⟩ := scal_of n n' h
    refine .inl ⟨s1, ?_⟩
    rw [s2]
    exact k _ _ Hs H p Tr.refl sr (.bl _)
  · have a1 := Bool.and_eq_true_iff.mp h1
    have a2 := Bool.and_eq_true_iff.mp h2
    exact .inr ⟨_, _, n.dp sr.fit.sub a1.1, n'.dp sr.fit.sub a2.1, a1.2, a2.2, k _ _ Hs H p Tr.refl sr (.bl _)⟩
/-! ### order -/
def gOrd (fi : Int → Int → Bool) (fs : Txt → Txt → Bool) (d e : D) (P : D → Prop) : Prop := match d, e with
  | .int i, .int j => P (.bl (fi i j))
  | .str s, .str t => P (.bl (fs s t))
  | _, _ => False
theorem opd_lt : OpD X (compareOp .Lt) RShr (gOrd (fun i j => decide (i < j)) fun s t => decide (s < t)) := by
  refine ⟨_, op_lt.or op_lt_str, ?_⟩
  intro Z σ Hs H env C d e v u P Q sr n n' g k
  cases n with
  | int i => cases n' with
    | int j => exact .inl ⟨i, j, rfl, rfl, k _ _ Hs H g Tr.refl sr (.bl _)⟩
    | _ => exact False.elim g
  | str s => cases n' with
    | str t => exact .inr ⟨_, _, rfl, rfl, by rw [sV_cps, sV_cps]; exact k _ _ Hs H g Tr.refl sr (.bl _)⟩
    | _ => exact False.elim g
  | _ => exact False.elim g
theorem opd_gt : OpD X (compareOp .Gt) RShr (gOrd (fun i j => decide (j < i)) fun s t => decide (t < s)) := by
  refine ⟨_, op_gt.or op_gt_str, ?_⟩
  intro Z σ Hs H env C d e v u P Q sr n n' g k
  cases n with
  | int i => cases n' with
    | int j => exact .inl ⟨i, j, rfl, rfl, k _ _ Hs H g Tr.refl sr (.bl _)⟩
    | _ => exact False.elim g
  | str s => cases n' with
    | str t => exact .inr ⟨_, _, rfl, rfl, by rw [sV_cps, sV_cps]; exact k _ _ Hs H g Tr.refl sr (.bl _)⟩
    | _ => exact False.elim g
  | _ => exact False.elim g
theorem opd_ge : OpD X (compareOp .GtE) RShr (gOrd (fun i j => decide (j ≤ i)) fun s t => !decide (s < t)) := by
  refine ⟨_, op_ge.or op_ge_str, ?_⟩
  intro Z σ Hs H env C d e v u P Q sr n n' g k
  cases n with
  | int i => cases n' with
    | int j => exact .inl ⟨i, j, rfl, rfl, k _ _ Hs H g Tr.refl sr (.bl _)⟩
    | _ => exact False.elim g
  | str s => cases n' with
    | str t => exact .inr ⟨_, _, rfl, rfl, by rw [sV_cps, sV_cps]; exact k _ _ Hs H g Tr.refl sr (.bl _)⟩
    | _ => exact False.elim g
  | _ => exact False.elim g
/-! ### in, not in -/
def flD : D → Bool
  | .non => true | .bl _ => true | .int _ => true | .str _ => true | _ => false
theorem flat_now {K : PySem.W.Frag} {Hs H : Hp} {d : D} {v : V} (n : RNow K Hs H d v) (h : flD d = true) : flatV v = true := by
  cases n <;> first | rfl | (cases h; done)
theorem flat_rep {K : PySem.W.Frag} {Hs : Hp} {d : D} {v : V} (n : Rep K Hs d v) (h : flD d = true) : flatV v = true := by
  cases n <;> first | rfl | (cases h; done)
theorem flats_rep {K : PySem.W.Frag} {Hs : Hp} : ∀ {ds : List D} {vs : List V}, RepL K Hs ds vs → ds.all flD = true → vs.all flatV = true
  | _, _, .nil, _ => rfl
  | _, _, .cons h r, f => by
    rw [List.all_cons, Bool.and_eq_true] at f ⊢
    exact ⟨flat_rep h f.1, flats_rep r f.2⟩
theorem eqV_now {K : PySem.W.Frag} {Hs H : Hp} {d e : D} {v u : V} (n : Rep K Hs d v) (n' : RNow K Hs H e u) (h : flD d = true) (h' : flD e = true) : eqV v u = eqv d e := by
  cases n <;> first | (cases h; done) | (cases n' <;> first | (cases h'; done) | rfl | (simp [eqV, eqv, toP, PyData.eqv]; done))
theorem any_now {K : PySem.W.Frag} {Hs H : Hp} {e : D} {u : V} (n' : RNow K Hs H e u) (h' : flD e = true) : ∀ {ds : List D} {vs : List V}, RepL K Hs ds vs → ds.all flD = true → (vs.any fun y => eqV y u) = ds.any fun y => eqv y e
  | _, _, .nil, _ => rfl
  | _, _, .cons h r, f => by
    rw [List.all_cons, Bool.and_eq_true] at f
    rw [List.any_cons, List.any_cons, eqV_now h n' f.1 h', any_now n' h' r f.2]
theorem any_toP (e : PyData) : ∀ ds : List D, ((toPs ds).any fun z => PyData.eqv z e) = ds.any fun y => PyData.eqv (toP y) e
  | [] => rfl
  | d :: r => by
    rw [toPs, List.any_cons, List.any_cons, any_toP e r]
/-- membership -/
def inD (e : D) (ds : List D) : Bool := ds.any fun y => eqv y e
def dkOf : D → Option DK
  | .int i => some (.inl i)
  | .str s => some (.inr s)
  | _ => none
/-- what a table holds at a key -/
def look (k : DK) : List (DK × D) → Option D
  | [] => none
  | (j, d) :: r => if j = k then some d else look k r
def gIn (neg : Bool) (d e : D) (P : D → Prop) : Prop := match e with
  | .lst xs => ((flD d = true ∧ xs.all flD = true) ∨ (okD d = true ∧ okD (.lst xs) = true)) ∧ P (.bl (if neg then !inD d xs else inD d xs))
  | .tup xs => (flD d = true ∧ xs.all flD = true) ∧ P (.bl (if neg then !inD d xs else inD d xs))
  | .str t => ∃ c, d = .str [c] ∧ P (.bl (if neg then !decide (c ∈ t) else decide (c ∈ t)))
  | .dct kvs => ∃ k, dkOf d = some k ∧ P (.bl (if neg then !(look k kvs).isSome else (look k kvs).isSome))
  | _ => False
theorem dk_now {K : PySem.W.Frag} {Hs H : Hp} {d : D} {v : V} {k : DK} (n : RNow K Hs H d v) (h : dkOf d = some k) : v = kV (kOf k) := by
  cases n <;> first | (simp [dkOf] at h; done) | (simp only [dkOf, Option.some.injEq] at h; subst h; rfl)
theorem look_rep {K : PySem.W.Frag} {Hs : Hp} {k : DK} : ∀ {kvs : List (DK × D)} {ws : List (Key × V)}, RepKV K Hs kvs ws →
    (∀ d, look k kvs = some d → ∃ v, valV ws (kOf k) = some v ∧ Rep K Hs d v) ∧ (look k kvs = none → valV ws (kOf k) = none)
  | _, _, .nil => ⟨fun d h => by simp [look] at h, fun _ => rfl⟩
  | _, _, @RepKV.cons _ _ j d v ds vs h r => by
    obtain ⟨i1, i2⟩ := look_rep (k := k) r
    by_cases e : j = k
    · subst e
      refine ⟨fun d' h' => ?_, fun h' => ?_⟩
      · have h2 : d = d' := by simpa [look] using h'
        subst h2
        exact ⟨v, valV_pos rfl, h⟩
      · simp [look] at h'
    · have ne : ¬ kOf j = kOf k := fun z => e (kOf_inj z)
      refine ⟨fun d' h' => ?_, fun h' => ?_⟩
      · simp only [look, if_neg e] at h'
        obtain ⟨v', q1, q2⟩ := i1 d' h'
        exact ⟨v', (valV_neg (p := (kOf j, v)) ne).trans q1, q2⟩
      · simp only [look, if_neg e] at h'
        exact (valV_neg (p := (kOf j, v)) ne).trans (i2 h')
theorem look_some {K : PySem.W.Frag} {Hs : Hp} {k : DK} {kvs : List (DK × D)} {ws : List (Key × V)} (r : RepKV K Hs kvs ws) : (valV ws (kOf k)).isSome = (look k kvs).isSome := by
  obtain ⟨i1, i2⟩ := look_rep (k := k) r
  cases e : look k kvs with
  | none => rw [i2 e]; rfl
  | some d => obtain ⟨v, q, _⟩ := i1 d e; rw [q]; rfl
theorem op_din (hu : X.A.units + 1 < cLine) : OpR X (compareOp .In) (fun y x H Q => ∃ a o, x = .ref a ∧ DGet H a y o ∧ Q (.bl o.isSome) H) := by
  intro pins s σ H x y v u Q I rx ry h
  obtain ⟨a, o, rfl, g, q⟩ := h
  cases ry
  exact d_in hu I g rx fun s' I' => ⟨.bl _, H, I', rfl, q⟩
theorem op_dnotIn (hu : X.A.units + 1 < cLine) : OpR X (compareOp .NotIn) (fun y x H Q => ∃ a o, x = .ref a ∧ DGet H a y o ∧ Q (.bl (!o.isSome)) H) := by
  intro pins s σ H x y v u Q I rx ry h
  obtain ⟨a, o, rfl, g, q⟩ := h
  cases ry
  exact d_notIn hu I g rx fun s' I' => ⟨.bl _, H, I', rfl, q⟩
theorem opd_in (hu : X.A.units + 65 < cLine) : OpD X (compareOp .In) RShr (gIn false) := by
  refine ⟨_, op_in_seq.or ((op_inD hu).or (op_in_sign.or (op_din (by omega)))), ?_⟩
  intro Z σ Hs H env C d e v u P Q sr n n' g k
  cases n' with
  | lst h r =>
    obtain ⟨⟨f1, f2⟩ | ⟨o1, o2⟩, p⟩ := g
    · refine .inl ⟨_, _, rfl, .inl (SqL.of h), flat_now n f1, flats_rep r f2, ?_⟩
      have e1 : inV v _ = inD d _ := any_now n f1 r f2
      rw [if_neg Bool.false_ne_true, e1]
      exact k _ _ Hs H p Tr.refl sr (.bl _)
    · have a1 := Bool.and_eq_true_iff.mp o1
      have a2 := Bool.and_eq_true_iff.mp o2
      refine .inr (.inl ⟨toP d, toPs _, n.dp sr.fit.sub a1.1, .lst (SqL.of h) (RepL.dp sr.fit.sub r a2.1), a1.2, a2.2, ?_⟩)
      rw [any_toP]
      exact k _ _ Hs H p Tr.refl sr (.bl _)
  | tup h r =>
    obtain ⟨⟨f1, f2⟩, p⟩ := g
    refine .inl ⟨_, _, rfl, .inr (TupA.sq sr.fit.sub h), flat_now n f1, flats_rep r f2, ?_⟩
    have e1 : inV v _ = inD d _ := any_now n f1 r f2
    rw [if_neg Bool.false_ne_true, e1]
    exact k _ _ Hs H p Tr.refl sr (.bl _)
  | str t =>
    obtain ⟨c, rfl, p⟩ := g
    cases n with
    | str s =>
      refine .inr (.inr (.inl ⟨c, _, rfl, rfl, ?_⟩))
      rw [sV_cps]
      exact k _ _ Hs H p Tr.refl sr (.bl _)
  | dct h r =>
    obtain ⟨kk, e, p⟩ := g
    have hv := dk_now n e
    subst hv
    refine .inr (.inr (.inr ⟨_, _, rfl, .inl ⟨_, _, h, rfl, rfl⟩, ?_⟩))
    rw [look_some r]
    exact k _ _ Hs H p Tr.refl sr (.bl _)
  | _ => exact False.elim g
theorem opd_notin (hu : X.A.units + 65 < cLine) : OpD X (compareOp .NotIn) RShr (gIn true) := by
  refine ⟨_, op_notIn_seq.or ((op_notInD hu).or (op_notIn_sign.or (op_dnotIn (by omega)))), ?_⟩
  intro Z σ Hs H env C d e v u P Q sr n n' g k
  cases n' with
  | lst h r =>
    obtain ⟨⟨f1, f2⟩ | ⟨o1, o2⟩, p⟩ := g
    · refine .inl ⟨_, _, rfl, .inl (SqL.of h), flat_now n f1, flats_rep r f2, ?_⟩
      have e1 : inV v _ = inD d _ := any_now n f1 r f2
      rw [if_pos rfl, e1]
      exact k _ _ Hs H p Tr.refl sr (.bl _)
    · have a1 := Bool.and_eq_true_iff.mp o1
      have a2 := Bool.and_eq_true_iff.mp o2
      refine .inr (.inl ⟨toP d, toPs _, n.dp sr.fit.sub a1.1, .lst (SqL.of h) (RepL.dp sr.fit.sub r a2.1), a1.2, a2.2, ?_⟩)
      rw [any_toP]
      exact k _ _ Hs H p Tr.refl sr (.bl _)
  | tup h r =>
    obtain ⟨⟨f1, f2⟩, p⟩ := g
    refine .inl ⟨_, _, rfl, .inr (TupA.sq sr.fit.sub h), flat_now n f1, flats_rep r f2, ?_⟩
    have e1 : inV v _ = inD d _ := any_now n f1 r f2
    rw [if_pos rfl, e1]
    exact k _ _ Hs H p Tr.refl sr (.bl _)
  | str t =>
    obtain ⟨c, rfl, p⟩ := g
    cases n with
    | str s =>
      refine .inr (.inr (.inl ⟨c, _, rfl, rfl, ?_⟩))
      rw [sV_cps]
      exact k _ _ Hs H p Tr.refl sr (.bl _)
  | dct h r =>
    obtain ⟨kk, e, p⟩ := g
    have hv := dk_now n e
    subst hv
    refine .inr (.inr (.inr ⟨_, _, rfl, .inl ⟨_, _, h, rfl, rfl⟩, ?_⟩))
    rw [look_some r]
    exact k _ _ Hs H p Tr.refl sr (.bl _)
  | _ => exact False.elim g
end
end L2.DL
/-! DLe: argument lists, displays, subscripts, slices, calls of built-ins. -/
namespace L2.DL
open PySem PySem.Spec PyProof.Rows
section
variable {X : Cx} {e a b : Expr} {es : List Expr} {pos : Pos}
/-! ### argument lists -/
/-- a kind of result that lasts -/
def Lasts (R : RR D) : Prop := ∀ K Z σ Hs H env C d v Hs' H' env' C', R K Z σ Hs H env C d v → Tr Hs H C Hs' H' C' → R K Z σ Hs' H' env' C' d v
theorem lasts_shr : Lasts RShr := fun _ _ _ _ _ _ _ _ _ _ _ _ _ r t => r.same t.fr
theorem lasts_pk : Lasts RPk := fun _ _ _ _ _ _ _ _ _ _ _ _ _ r t => r.tr t
theorem RAll.tr {R : RR D} (l : Lasts R) {K : PySem.W.Frag} {Z : Z0} {σ : St} {Hs H Hs' H' : Hp} {env env' : DL.Env} {C C' : Cs} (t : Tr Hs H C Hs' H' C') :
    ∀ {ds : List D} {vs : List V}, RAll K R Z σ Hs H env C ds vs → RAll K R Z σ Hs' H' env' C' ds vs
  | _, _, .nil => .nil
  | _, _, .cons h r => .cons (l _ _ _ _ _ _ _ _ _ _ _ _ _ h t) (RAll.tr l t r)
def mNil : EM (List D) := fun _ env C Q => Q [] env C
def mCons (m : EM D) (ms : EM (List D)) : EM (List D) := fun E env C Q => m E env C fun d env1 C1 => ms E env1 C1 fun ds env2 C2 => Q (d :: ds) env2 C2
theorem da_nil {R : RR D} : DA X R [] mNil := fun Z E hE => ⟨fun pos pins s σ H Q I ⟨Hs, env, C, P, sr, q, k⟩ => (pa_nil).run pos pins s σ H Q I (k _ _ _ _ _ _ q Tr.refl sr .nil)⟩
theorem da_cons {R : RR D} (l : Lasts R) {m : EM D} {ms : EM (List D)} (h : DE X R e m) (hs : DA X R es ms) (st : starEach (e :: es) X.env = (false, eval e X.env) :: starEach es X.env) : DA X R (e :: es) (mCons m ms) := fun Z E hE => by
  refine ⟨fun pos pins s σ H Q I ⟨Hs, env, C, P, sr, q, k⟩ => (pa_cons (h Z E hE) (hs Z E hE) st).run pos pins s σ H Q I ?_⟩
  refine ⟨Hs, env, C, _, sr, q, fun d env1 C1 v Hs1 H1 q1 t1 s1 r1 => ?_⟩
  refine ⟨Hs1, env1, C1, _, s1, q1, fun ds env2 C2 vs Hs2 H2 q2 t2 s2 r2 => ?_⟩
  exact k _ _ _ _ Hs2 H2 q2 (t1.trans t2) s2 (.cons (l _ _ _ _ _ _ _ _ _ _ _ _ _ r1 t2) r2)
theorem RAll.rep {K : PySem.W.Frag} {Z : Z0} {σ : St} {Hs H : Hp} {env : DL.Env} {C : Cs} : ∀ {ds : List D} {vs : List V}, RAll K RShr Z σ Hs H env C ds vs → RepL K Hs ds vs
  | _, _, .nil => .nil
  | _, _, .cons h r => .cons h r.rep
/-! ### displays -/
def mLst (ms : EM (List D)) : EM Cont := fun E env C Q => ms E env C fun ds env1 C1 => ds.length ≤ sizeLine ∧ Q (.lst ds) env1 C1
def mTup (ms : EM (List D)) : EM D := fun E env C Q => ms E env C fun ds env1 C1 => ds.length ≤ sizeLine ∧ Q (.tup ds) env1 C1
/-- a fresh container laid -/
theorem fr_lay {K : PySem.W.Frag} {Z : Z0} {σ : St} {Hs H : Hp} {env : DL.Env} {C : Cs} {p : Addr} {o : HO} {c : Cont} (sr : SR K Z σ Hs H env C) (hp : H p = none) (r : RepO K Hs c o) :
    RFr K Z σ Hs (upd H p o) env C c (.ref p) := by
  obtain ⟨n1, n2⟩ := sr.fit.nothing hp
  refine ⟨p, o, rfl, upd_same, r, n1, n2, sr.bas.zfree hp, fun i c' e z => ?_⟩
  obtain ⟨q, u, e1, e2, _⟩ := sr.slt.own i c' e
  rw [e1] at z
  cases z
  rw [hp] at e2
  cases e2
theorem d_lst {ms : EM (List D)} (h : DA X RShr es ms) : DE X RFr (.List es pos) (mLst ms) := fun Z E hE => by
  refine ⟨fun pins s σ H Q I ⟨Hs, env, C, P, sr, q, k⟩ => (pe_lst (h Z E hE)).run pins s σ H Q I ?_⟩
  refine ⟨Hs, env, C, _, sr, q, fun ds env1 C1 vs Hs1 H1 q1 t1 s1 r1 => ?_⟩
  have r := r1.rep
  refine ⟨by rw [← r.length]; exact q1.1, fun p hp => ?_⟩
  exact k _ _ _ _ Hs1 _ q1.2 (t1.trans (Tr.layP hp _)) (s1.layP hp _) (fr_lay s1 hp ⟨_, rfl, r⟩)
theorem d_tup {ms : EM (List D)} {kk : Nat} (h : DA X RShr es ms) : DE X RShr (.Tuple es kk pos) (mTup ms) := fun Z E hE => by
  refine ⟨fun pins s σ H Q I ⟨Hs, env, C, P, sr, q, k⟩ => (pe_tup (h Z E hE)).run pins s σ H Q I ?_⟩
  refine ⟨Hs, env, C, _, sr, q, fun ds env1 C1 vs Hs1 H1 q1 t1 s1 r1 => ?_⟩
  have r := r1.rep
  refine ⟨by rw [← r.length]; exact q1.1, fun p hp => ?_⟩
  exact k _ _ _ _ _ _ q1.2 (t1.trans (Tr.lay s1.fit hp _)) (s1.lay hp _) (.tup (.inl upd_same) (r.same (same_upd (s1.fit.nothing hp).1)))
theorem d_dct0 : DE X RFr (.Dict [] [] pos) (mC (.dct [])) := fun Z E hE => by
  refine ⟨fun pins s σ H Q I ⟨Hs, env, C, P, sr, q, k⟩ => pe_dnewK.run pins s σ H Q I fun p hp => ?_⟩
  exact k _ _ _ _ Hs _ q (Tr.layP hp _) (sr.layP hp _) (fr_lay sr hp ⟨_, rfl, .nil⟩)
/-! ### subscripts -/
structure IxD (X : Cx) (g : D → D → (D → Prop) → Prop) : Prop where
  ex : ∃ r : R2, IxR X r ∧ ∀ Z σ Hs H env C d e v u (P : D → Prop) Q, SR X.K Z σ Hs H env C → RNow X.K Hs H d v → RNow X.K Hs H e u → g d e P →
    (∀ a w Hs' H', P a → Tr Hs H C Hs' H' C → SR X.K Z σ Hs' H' env C → RShr X.K Z σ Hs' H' env C a w → Q w H') → r v u H Q
def gIx (d e : D) (P : D → Prop) : Prop := match d with
  | .lst xs => ∃ i x, e = .int i ∧ atI xs i = some x ∧ P x
  | .tup xs => ∃ i x, e = .int i ∧ atI xs i = some x ∧ P x
  | .str s => ∃ i c, e = .int i ∧ s.length ≤ sizeLine ∧ atI s i = some c ∧ P (.str [c])
  | .dct kvs => ∃ k x, dkOf e = some k ∧ look k kvs = some x ∧ P x
  | .scr ns => ∃ i n, e = .int i ∧ atI ns i = some n ∧ P (.int n)
  | _ => False
theorem ix_dict (hu : X.A.units + 1 < cLine) : IxR X (fun x y H Q => ∃ a v, x = .ref a ∧ DGet H a y (some v) ∧ Q v H) := by
  intro value slice pins s σ H x y v u Q I rx ry h hs
  obtain ⟨a, z, rfl, g, q⟩ := h
  cases rx
  exact tail_any (dict_typeIs I g) F.slot_dict_getitem.lookup (d_getItem hu I g ry fun w' s' I' r' => ⟨z, H, I', r', q⟩) hs
theorem atI_rep {K : PySem.W.Frag} {Hs : Hp} {xs : List D} {vs : List V} {i : Int} {x : D} (r : RepL K Hs xs vs) (h : atI xs i = some x) : ∃ v, atI vs i = some v ∧ Rep K Hs x v := by
  unfold atI at h ⊢
  rw [r.length] at h
  cases e : ixN vs.length i with
  | none => rw [e] at h; cases h
  | some j =>
    rw [e] at h
    obtain ⟨v, h1, h2⟩ := r.get' (i := j) h
    exact ⟨v, h1, h2⟩
theorem atI_map {α β : Type} (f : α → β) {xs : List α} {i : Int} {x : α} (h : atI xs i = some x) : atI (xs.map f) i = some (f x) := by
  unfold atI at h ⊢
  rw [List.length_map]
  cases e : ixN xs.length i with
  | none => rw [e] at h; cases h
  | some j =>
    rw [e] at h
    show (xs.map f)[j]? = some (f x)
    rw [List.getElem?_map, show xs[j]? = some x from h]
    rfl
theorem ixd (hu : X.A.units + 1 < cLine) : IxD X gIx := by
  refine ⟨_, ix_seq.or (ix_dict hu), ?_⟩
  intro Z σ Hs H env C d e v u P Q sr n n' g k
  cases n with
  | lst h r =>
    obtain ⟨i, x, rfl, hi, p⟩ := g
    cases n'
    obtain ⟨w, h1, h2⟩ := atI_rep r hi
    exact .inl (.inl ⟨_, _, i, w, rfl, rfl, SqL.of h, h1, k _ _ Hs H p Tr.refl sr h2⟩)
  | tup h r =>
    obtain ⟨i, x, rfl, hi, p⟩ := g
    cases n'
    obtain ⟨w, h1, h2⟩ := atI_rep r hi
    exact .inl (.inr (.inl ⟨_, _, i, w, rfl, rfl, TupA.sq sr.fit.sub h, h1, k _ _ Hs H p Tr.refl sr h2⟩))
  | str s =>
    obtain ⟨i, c, rfl, hl, hi, p⟩ := g
    cases n'
    exact .inl (.inr (.inr ⟨_, i, c, rfl, rfl, by rw [sV_len]; exact hl, by rw [sV_cps]; exact hi, k _ _ Hs H p Tr.refl sr (.str [c])⟩))
  | dct h r =>
    obtain ⟨kk, x, e1, hl, p⟩ := g
    have hv := dk_now n' e1
    subst hv
    obtain ⟨w, q1, q2⟩ := (look_rep r).1 x hl
    exact .inr ⟨_, w, rfl, .inl ⟨_, _, h, rfl, q1.symm⟩, k _ _ Hs H p Tr.refl sr q2⟩
  | scr h =>
    obtain ⟨i, m, rfl, hi, p⟩ := g
    cases n'
    exact .inl (.inl ⟨_, _, i, .int m, rfl, rfl, h, atI_map V.int hi, k _ _ Hs H p Tr.refl sr (.int m)⟩)
  | _ => exact False.elim g
theorem d_ix (hu : X.A.units + 1 < cLine) {ma mb : EM D} (ha : DE X RPk a ma) (hb : DE X RPk b mb) (hs : PlainIx b) : DE X RShr (.Subscript a b pos) (mOp gIx ma mb) := fun Z E hE => by
  obtain ⟨r, hr, hg⟩ := (ixd (X := X) hu).ex
  refine ⟨fun pins s σ H Q I ⟨Hs, env, C, P, sr, q, k⟩ => (pe_ix hr (ha Z E hE) (hb Z E hE) hs).run pins s σ H Q I ?_⟩
  refine ⟨Hs, env, C, _, sr, q, fun d env1 C1 v Hs1 H1 q1 t1 s1 r1 => ?_⟩
  refine ⟨Hs1, env1, C1, _, s1, q1, fun e env2 C2 u Hs2 H2 q2 t2 s2 r2 => ?_⟩
  exact hg Z σ Hs2 H2 env2 C2 _ _ v u _ Q s2 ((r1.tr t2 (Z' := Z) (σ' := σ) (env' := env2)).now s2.fit) (r2.now s2.fit) q2 fun x w Hs' H' p t s rr => k _ _ _ w Hs' H' p ((t1.trans t2).trans t) s rr
/-! ### slices -/
/-- the part from lo to hi -/
def cutL {α : Type} (xs : List α) (lo hi : Option Int) : List α := (xs.drop (HT.sIx xs.length 0 lo)).take (HT.sIx xs.length xs.length hi - HT.sIx xs.length 0 lo)
def mPart (m : EM D) : EM (Option Int) := fun E env C Q => m E env C fun d env1 C1 => ∃ i, d = .int i ∧ Q (some i) env1 C1
def mNoP : EM (Option Int) := fun _ env C Q => Q none env C
def gCut (d : D) (lo hi : Option Int) (P : D → Prop) : Prop := match d with
  | .lst xs => P (.lst (cutL xs lo hi))
  | .tup xs => P (.tup (cutL xs lo hi))
  | .str s => s.length ≤ sizeLine ∧ P (.str (cutL s lo hi))
  | _ => False
def mCut (m : EM D) (ml mh : EM (Option Int)) : EM D := fun E env C Q => m E env C fun d env1 C1 => ml E env1 C1 fun lo env2 C2 => mh E env2 C2 fun hi env3 C3 => gCut (dr C3 d) lo hi fun x => Q x env3 C3
/-! ### calls of built-ins by name -/
inductive RNs (K : PySem.W.Frag) (Hs H : Hp) : List D → List V → Prop
  | nil : RNs K Hs H [] []
  | cons {d : D} {v : V} {ds : List D} {vs : List V} : RNow K Hs H d v → RNs K Hs H ds vs → RNs K Hs H (d :: ds) (v :: vs)
theorem RAll.now {K : PySem.W.Frag} {Z : Z0} {σ : St} {Hs H : Hp} {env : DL.Env} {C : Cs} (f : Fits K Hs H C) : ∀ {ds : List D} {vs : List V}, RAll K RPk Z σ Hs H env C ds vs → RNs K Hs H (ds.map (dr C)) vs
  | _, _, .nil => .nil
  | _, _, .cons h r => .cons (h.now f) (r.now f)
structure CallD (X : Cx) (f : Value) {α : Type} (R : RR α) (g : List D → (α → Prop) → Prop) : Prop where
  ex : ∃ r, CallR X f r ∧ ∀ Z σ Hs H env C ds vs (P : α → Prop) Q, SR X.K Z σ Hs H env C → RNs X.K Hs H ds vs → g ds P →
    (∀ a w Hs' H', P a → Tr Hs H C Hs' H' C → SR X.K Z σ Hs' H' env C → R X.K Z σ Hs' H' env C a w → Q w H') → r vs H Q
def mCallB {α : Type} (g : List D → (α → Prop) → Prop) (ms : EM (List D)) : EM α := fun E env C Q => ms E env C fun ds env1 C1 => g (ds.map (dr C1)) fun x => Q x env1 C1
theorem callB_run {α : Type} {R : RR α} {f : Value} {g : List D → (α → Prop) → Prop} (c : CallD X f R g) {ms : EM (List D)} (h : DA X RPk es ms) :
    ∃ r, CallR X f r ∧ ∀ Z E, DX X Z E → ∀ σ H Q, LG X.K R Z (mCallB g ms E) σ H Q → tCB r (LA X.K RPk Z (ms E)) σ H Q := by
  obtain ⟨r, hr, hg⟩ := c.ex
  refine ⟨r, hr, fun Z E hE σ H Q ⟨Hs, env, C, P, sr, q, k⟩ => ?_⟩
  refine ⟨Hs, env, C, _, sr, q, fun ds env1 C1 vs Hs1 H1 q1 t1 s1 r1 => ?_⟩
  exact hg Z σ Hs1 H1 env1 C1 _ vs _ Q s1 (r1.now s1.fit) q1 fun x w Hs' H' p t s rr => k _ _ _ w Hs' H' p (t1.trans t) s rr
theorem d_callB {α : Type} {R : RR α} {id : String} {x : Str} {p : Pos} {g : List D → (α → Prop) → Prop} (c : CallD X (.builtin id) R g) {ms : EM (List D)} (h : DA X RPk (e :: es) ms)
    (hg : Gl X x) (hm : X.mg x = none) (hv : bootBuiltins x = some (.builtin id)) (hn : x ≠ "__name__") (hdb : (x == ("__debug__" : Str)) = false)
    (he : starEach (e :: es) X.env = (false, eval e X.env) :: starEach es X.env) (hpl : (backTo pos (starEach es X.env)).any (·.1) = false) : DE X R (.Call (.Name x p) (e :: es) [] pos) (mCallB g ms) := fun Z E hE => by
  obtain ⟨r, hr, i⟩ := callB_run c h
  exact ⟨fun pins s σ H Q I q => (pe_callB hr hg hm hv (h Z E hE) hn hdb he hpl).run pins s σ H Q I (i Z E hE σ H Q q)⟩
theorem d_callTy {α : Type} {R : RR α} {T : String} {x : Str} {p : Pos} {g : List D → (α → Prop) → Prop} (c : CallD X (.type T) R g) {ms : EM (List D)} (h : DA X RPk (e :: es) ms)
    (hg : Gl X x) (hm : X.mg x = none) (hv : bootBuiltins x = some (.type T)) (hn : x ≠ "__name__") (hdb : (x == ("__debug__" : Str)) = false)
    (he : starEach (e :: es) X.env = (false, eval e X.env) :: starEach es X.env) (hpl : (backTo pos (starEach es X.env)).any (·.1) = false) : DE X R (.Call (.Name x p) (e :: es) [] pos) (mCallB g ms) := fun Z E hE => by
  obtain ⟨r, hr, i⟩ := callB_run c h
  exact ⟨fun pins s σ H Q I q => (pe_callTy hr hg hm hv (h Z E hE) hn hdb he hpl).run pins s σ H Q I (i Z E hE σ H Q q)⟩
end
end L2.DL
/-! DLg: statements. -/
namespace L2.DL
open PySem PySem.Spec PyProof.Rows
section
variable {X : Cx} {e a b : Expr} {es : List Expr} {st : Stmt} {sts : List Stmt} {pos : Pos} {K : PySem.W.Frag} {Z Z' : Z0}
/-! ### a raised floor -/
structure Up (Z Z' : Z0) : Prop where
  fl : Same Z.F Z'.F
  hs : Z'.Hs = Z.Hs
  h : Z'.H = Z.H
  c : Z'.C = Z.C
theorem Bas.up {Hs H : Hp} {C : Cs} (u : Up Z Z') (b : Bas Z' Hs H C) : Bas Z Hs H C :=
  ⟨u.fl.trans b.fl, by rw [← u.hs, ← u.h, ← u.c]; exact b.kp, by rw [← u.h]; exact b.th⟩
theorem SR.up {σ : St} {Hs H : Hp} {env : DL.Env} {C : Cs} (u : Up Z Z') (r : SR K Z' σ Hs H env C) : SR K Z σ Hs H env C :=
  ⟨r.fit, r.bas.up u, r.slt.len, r.slt.shr, fun i c e => by
    obtain ⟨p, o, e1, e2, r1, n1, n2, n3⟩ := r.slt.own i c e
    exact ⟨p, o, e1, e2, r1, n1, n2, by rw [← u.h]; exact n3⟩, r.slt.sep⟩
theorem SR.raise {σ : St} {Hs H : Hp} {env : DL.Env} {C : Cs} (r : SR K Z σ Hs H env C) : SR K { Z with F := Hs } σ Hs H env C :=
  ⟨r.fit, ⟨Same.refl _, r.bas.kp, r.bas.th⟩, r.slt.len, r.slt.shr, r.slt.own, r.slt.sep⟩
theorem Up.raise {σ : St} {Hs H : Hp} {env : DL.Env} {C : Cs} (r : SR K Z σ Hs H env C) : Up Z { Z with F := Hs } := ⟨r.bas.fl, rfl, rfl, rfl⟩
theorem DX.up {E : EX} (u : Up Z Z') (h : DX X Z E) : DX X Z' E := Takes.imp h fun _ _ _ _ ⟨Hs, env, C, x, r, q, e⟩ => ⟨Hs, env, C, x, r.up u, q, e⟩
theorem RRet.up {Hs H : Hp} {C : Cs} {r : Ret} {v : V} (u : Up Z Z') (h : RRet K Z' Hs H C r v) : RRet K Z Hs H C r v := by
  cases r with
  | shr d => exact h
  | frs c => obtain ⟨p, o, e1, e2, r1, n1, n2, n3⟩ := h; exact ⟨p, o, e1, e2, r1, n1, n2, by rw [← u.h]; exact n3⟩
theorem EndsOk.up {dE : DEnds} {D : Ends} (u : Up Z Z') (h : EndsOk K Z dE D) : EndsOk K Z' dE D :=
  ⟨fun σ Hs H env C r q => h.1 σ Hs H env C (r.up u) q, fun r v Hs H C f b rr q => h.2.1 r v Hs H C f (b.up u) (rr.up u) q,
    fun σ Hs H env C r q => h.2.2.1 σ Hs H env C (r.up u) q, fun σ Hs H env C r q => h.2.2.2 σ Hs H env C (r.up u) q⟩
/-! ### blocks -/
def sNext : SM := fun _ dE env C => dE.nx env C
def sSeq (m m' : SM) : SM := fun E dE env C => m E { dE with nx := fun env1 C1 => m' E dE env1 C1 } env C
theorem ds_nil : DSs X [] sNext := fun Z E hE => ⟨fun pins s σ H D I ⟨Hs, env, C, dE, sr, ok, q⟩ => pss_nil.run pins s σ H D I (ok.1 _ _ _ _ _ sr q)⟩
theorem ds_cons {m m' : SM} (h : DS X st m) (h' : DSs X sts m') : DSs X (st :: sts) (sSeq m m') := fun Z E hE => ⟨fun pins s σ H D I ⟨Hs, env, C, dE, sr, ok, q⟩ =>
  (pss_cons (h Z E hE) (h' Z E hE)).run pins s σ H D I ⟨Hs, env, C, { dE with nx := fun env1 C1 => m' E dE env1 C1 }, sr, ⟨fun σ1 Hs1 H1 env1 C1 r1 q1 => ⟨Hs1, env1, C1, dE, r1, ok, q1⟩, ok.2.1, ok.2.2.1, ok.2.2.2⟩, q⟩⟩
theorem ds_one {m : SM} (h : DS X st m) : DSs X [st] m := fun Z E hE => pss_one (h Z E hE)
def sDrop (m : EM D) : SM := fun E dE env C => m E env C fun _ env1 C1 => dE.nx env1 C1
def sRet (m : EM D) : SM := fun E dE env C => m E env C fun d _ C1 => dE.rt (.shr d) C1
theorem ds_ret {m : EM D} (h : DE X RShr e m) : DS X (.Return (some e) pos) (sRet m) := fun Z E hE => ⟨fun pins s σ H D I ⟨Hs, env, C, dE, sr, ok, q⟩ =>
  (ps_ret (h Z E hE)).run pins s σ H D I ⟨Hs, env, C, _, sr, q, fun d env1 C1 v Hs1 H1 q1 t1 s1 r1 => ok.2.1 (.shr d) _ _ _ _ s1.fit s1.bas r1 q1⟩⟩
def sRetF (m : EM Cont) : SM := fun E dE env C => m E env C fun c _ C1 => dE.rt (.frs c) C1
theorem ds_retF {m : EM Cont} (h : DE X RFr e m) : DS X (.Return (some e) pos) (sRetF m) := fun Z E hE => ⟨fun pins s σ H D I ⟨Hs, env, C, dE, sr, ok, q⟩ =>
  (ps_ret (h Z E hE)).run pins s σ H D I ⟨Hs, env, C, _, sr, q, fun d env1 C1 v Hs1 H1 q1 t1 s1 ⟨p, o, e1, e2, r1, n1, n2, n3, no⟩ => ok.2.1 (.frs d) _ _ _ _ s1.fit s1.bas ⟨p, o, e1, e2, r1, n1, n2, n3⟩ q1⟩⟩
/-- return of a container that the slot owns -/
def sRetO (i : Nat) : SM := fun _ dE env C => match env[i]? with
  | some (.own c) => dE.rt (.frs c) C
  | some (.shr d) => dE.rt (.shr d) C
  | _ => False
theorem ds_retO {i : Nat} (h : PE X e (tVar i)) : DS X (.Return (some e) pos) (sRetO i) := fun Z E hE => ⟨fun pins s σ H D I ⟨Hs, env, C, dE, sr, ok, q⟩ => by
  refine (ps_ret h).run pins s σ H D I ?_
  unfold sRetO at q
  split at q
  · rename_i c he
    obtain ⟨p, o, e1, e2, rc, n1, n2, n3⟩ := sr.slt.own i c he
    exact ⟨_, e1, ok.2.1 (.frs c) _ _ _ _ sr.fit sr.bas ⟨p, o, rfl, e2, rc, n1, n2, n3⟩ q⟩
  · rename_i d he
    obtain ⟨v, e1, rv⟩ := sr.slt.shr i d he
    exact ⟨_, e1, ok.2.1 (.shr d) _ _ _ _ sr.fit sr.bas rv q⟩
  · exact q.elim⟩
def sIf (t : EM Bool) (m m' : SM) : SM := fun E dE env C => t E env C fun k env1 C1 => if k = true then m E dE env1 C1 else m' E dE env1 C1
theorem ds_if {c : Expr} {sa sb : List Stmt} {mc : EM Bool} {m m' : SM} (hc : DT X c mc) (h : DSs X sa m) (h' : DSs X sb m') : DS X (.If c sa sb pos) (sIf mc m m') := fun Z E hE => ⟨fun pins s σ H D I ⟨Hs, env, C, dE, sr, ok, q⟩ => by
  refine (ps_if (hc Z E hE) (h Z E hE) (h' Z E hE)).run pins s σ H D I ?_
  refine ⟨Hs, env, C, _, sr, q, fun k env1 C1 Hs1 H1 q1 t1 s1 => ?_⟩
  cases k with
  | true => rw [if_pos rfl] at q1 ⊢; exact ⟨Hs1, env1, C1, dE, s1, ok, q1⟩
  | false => rw [if_neg Bool.false_ne_true] at q1 ⊢; exact ⟨Hs1, env1, C1, dE, s1, ok, q1⟩⟩
/-! ### name = e -/
def sSet (i : Nat) (m : EM D) : SM := fun E dE env C => m E env C fun d env1 C1 => dE.nx (env1.set i (.shr d)) C1
theorem ds_set {i : Nat} {te : Expr} {m : EM D} (h : DE X RShr e m) (hp : ∀ {t : TE}, PE X e t → PS X (.Assign [te] e pos) (tAsg t (gName i))) : DS X (.Assign [te] e pos) (sSet i m) := fun Z E hE => ⟨fun pins s σ H D I ⟨Hs, env, C, dE, sr, ok, q⟩ =>
  (hp (h Z E hE)).run pins s σ H D I ⟨Hs, env, C, _, sr, q, fun d env1 C1 v Hs1 H1 q1 t1 s1 r1 => ok.1 _ _ _ _ _ (s1.setS r1) q1⟩⟩
def sSetO (i : Nat) (m : EM Cont) : SM := fun E dE env C => m E env C fun c env1 C1 => dE.nx (env1.set i (.own c)) C1
theorem ds_setO {i : Nat} {te : Expr} {m : EM Cont} (h : DE X RFr e m) (hp : ∀ {t : TE}, PE X e t → PS X (.Assign [te] e pos) (tAsg t (gName i))) : DS X (.Assign [te] e pos) (sSetO i m) := fun Z E hE => ⟨fun pins s σ H D I ⟨Hs, env, C, dE, sr, ok, q⟩ =>
  (hp (h Z E hE)).run pins s σ H D I ⟨Hs, env, C, _, sr, q, fun d env1 C1 v Hs1 H1 q1 t1 s1 r1 => ok.1 _ _ _ _ _ (s1.setO r1) q1⟩⟩
/-! ### targets -/
abbrev GM := D → (DL.Env → Cs → Prop) → DL.Env → Cs → Prop
def LGt (K : PySem.W.Frag) (Z : Z0) (m : GM) : TG := fun v σ H Q => ∃ Hs env C d P, SR K Z σ Hs H env C ∧ Rep K Hs d v ∧ m d P env C ∧ ∀ σ' Hs' H' env' C', SR K Z σ' Hs' H' env' C' → P env' C' → Q σ' H'
def DG (X : Cx) (tg : Expr) (m : GM) : Prop := ∀ Z, PG X tg (LGt X.K Z m)
def gN (i : Nat) : GM := fun d P env C => P (env.set i (.shr d)) C
theorem dg_name {i : Nat} (h : PG X e (gName i)) : DG X e (gN i) := fun Z => ⟨fun pins s σ H v u Q I r ⟨Hs, env, C, d, P, sr, rd, q, k⟩ => h.run pins s σ H v u Q I r (k _ _ _ _ _ (sr.setS rd) q)⟩
abbrev GMs := List D → (DL.Env → Cs → Prop) → DL.Env → Cs → Prop
def LGs (K : PySem.W.Frag) (Z : Z0) (m : GMs) : TGs := fun vs σ H Q => ∃ Hs env C ds P, SR K Z σ Hs H env C ∧ RepL K Hs ds vs ∧ m ds P env C ∧ ∀ σ' Hs' H' env' C', SR K Z σ' Hs' H' env' C' → P env' C' → Q σ' H'
def DGs (X : Cx) (tgs : List Expr) (m : GMs) : Prop := ∀ Z, PGs X tgs (LGs X.K Z m)
def gsNil : GMs := fun ds P env C => ds = [] ∧ P env C
def gsCons (m : GM) (ms : GMs) : GMs := fun ds P env C => match ds with
  | d :: r => m d (fun env1 C1 => ms r P env1 C1) env C
  | [] => False
theorem dgs_nil : DGs X [] gsNil := fun Z => ⟨fun pins s σ H vs us Q I r ⟨Hs, env, C, ds, P, sr, rd, q, k⟩ => pgs_nil.run pins s σ H vs us Q I r (by
  obtain ⟨rfl, q⟩ := q
  cases rd
  exact ⟨rfl, k _ _ _ _ _ sr q⟩)⟩
/-- the targets behind the first keep what stays (they are names) -/
theorem dgs_cons {i : Nat} {ms : GMs} (h : PG X e (gName i)) (h' : DGs X es ms) (hs : (assignEach (e :: es) X.env).map (·.2) = assign e X.env :: (assignEach es X.env).map (·.2)) : DGs X (e :: es) (gsCons (gN i) ms) := fun Z => by
  refine ⟨fun pins s σ H vs us Q I r ⟨Hs, env, C, ds, P, sr, rd, q, k⟩ => (pgs_cons h (h' Z) hs).run pins s σ H vs us Q I r ?_⟩
  cases rd with
  | nil => exact q.elim
  | cons h1 r1 => exact ⟨_, _, rfl, Hs, _, C, _, P, sr.setS h1, r1, q, k⟩
def gTupD (n : Nat) (ms : GMs) : GM := fun d P env C => match d with
  | .tup ds => ds.length = n ∧ ms ds P env C
  | _ => False
theorem dg_tup {k n : Nat} {ms : GMs} (hc : X.calm = true) (h : DGs X es ms) (hn : (assignEach es X.env).length = n) (hst : (assignEach es X.env).findIdx? (·.1) = none) : DG X (.Tuple es k pos) (gTupD n ms) := fun Z => by
  refine ⟨fun pins s σ H v u Q I r ⟨Hs, env, C, d, P, sr, rd, q, kk⟩ => (pg_tup hc (h Z) hn hst).run pins s σ H v u Q I r ?_⟩
  cases rd with
  | tup h1 r1 => exact ⟨_, _, rfl, TupA.sq sr.fit.sub h1, by rw [← r1.length]; exact q.1, Hs, env, C, _, P, sr, r1, q.2, kk⟩
  | _ => exact q.elim
/-- target = e -/
def sAsg (g : GM) (m : EM D) : SM := fun E dE env C => m E env C fun d env1 C1 => g d dE.nx env1 C1
theorem ds_asg {tg : Expr} {m : EM D} {g : GM} (h : DE X RShr e m) (hg : DG X tg g) (hs : swapsWithSole [tg] e pos.line X.env = pure false) (hw : swappedStores [tg] e X.env = pure none)
    (h1 : (assignEach [tg] X.env).map (·.2) = [assign tg X.env]) : DS X (.Assign [tg] e pos) (sAsg g m) := fun Z E hE => ⟨fun pins s σ H D I ⟨Hs, env, C, dE, sr, ok, q⟩ =>
  (ps_asg (h Z E hE) (hg Z) hs hw h1).run pins s σ H D I ⟨Hs, env, C, _, sr, q, fun d env1 C1 v Hs1 H1 q1 t1 s1 r1 => ⟨Hs1, env1, C1, d, dE.nx, s1, r1, q1, fun σ' Hs' H' env' C' s' p => ok.1 _ _ _ _ _ s' p⟩⟩⟩
/-- a, b = x, y by the stores swapped -/
def sPar (i j : Nat) (ms : EM (List D)) : SM := fun E dE env C => ms E env C fun ds env1 C1 => match ds with
  | [d, e] => dE.nx ((env1.set i (.shr d)).set j (.shr e)) C1
  | _ => False
theorem ds_par {i j : Nat} {ms : EM (List D)} (h : DA X RShr es ms) (hp : ∀ {t : TA}, PA X es t → PS X st (tPar i j t)) : DS X st (sPar i j ms) := fun Z E hE => ⟨fun pins s σ H D I ⟨Hs, env, C, dE, sr, ok, q⟩ =>
  (hp (h Z E hE)).run pins s σ H D I ⟨Hs, env, C, _, sr, q, fun ds env1 C1 vs Hs1 H1 q1 t1 s1 r1 => by
    have r := r1.rep
    cases r with
    | nil => exact q1.elim
    | cons h1 r => cases r with
      | nil => exact q1.elim
      | cons h2 r => cases r with
        | cons h3 r => exact q1.elim
        | nil => exact ⟨_, _, rfl, ok.1 _ _ _ _ _ ((s1.setS h1).setS h2) q1⟩⟩⟩
/-! ### while -/
def sWhile (mc : EM Bool) (mb : SM) : SM := fun E dE env C => ∃ W : Nat → DL.Env → Cs → Prop, (∃ m, W m env C) ∧ ∀ m env C, W m env C → mc E env C fun k env1 C1 =>
  if k = true then mb E { dE with nx := fun env' C' => ∃ m', m' < m ∧ W m' env' C', ct := fun env' C' => ∃ m', m' < m ∧ W m' env' C', bk := dE.nx } env1 C1 else dE.nx env1 C1
theorem ds_while {c : Expr} {body : List Stmt} {mc : EM Bool} {mb : SM} (hp : PassesOwn (model X.prog X.w) X.A X.env X.xe) (hc : DT X c mc) (hb : DSs X body mb) : DS X (.While c body [] pos) (sWhile mc mb) := fun Z E hE => ⟨fun pins s σ H D I ⟨Hs, env, C, dE, sr, ok, W, ⟨m0, w0⟩, turn⟩ => by
  refine (ps_while hp (hc Z E hE) (hb Z E hE)).run pins s σ H D I ?_
  refine ⟨fun m σ H => ∃ Hs env C, SR X.K Z σ Hs H env C ∧ W m env C, ⟨m0, Hs, env, C, sr, w0⟩, fun m σ1 H1 ⟨Hs1, env1, C1, s1, w1⟩ => ?_⟩
  refine ⟨Hs1, env1, C1, _, s1, turn m env1 C1 w1, fun k env2 C2 Hs2 H2 q2 t2 s2 => ?_⟩
  cases k with
  | true =>
    rw [if_pos rfl] at q2 ⊢
    refine ⟨fun σ' H' => ∃ m', m' < m ∧ ∃ Hs env C, SR X.K Z σ' Hs H' env C ∧ W m' env C, fun σ' H' z => z, Hs2, env2, C2, { dE with nx := fun env' C' => ∃ m', m' < m ∧ W m' env' C', ct := fun env' C' => ∃ m', m' < m ∧ W m' env' C', bk := dE.nx }, s2, ⟨fun σ' Hs' H' env' C' r ⟨m', l, w⟩ => ⟨m', l, Hs', env', C', r, w⟩, ok.2.1, ok.1, fun σ' Hs' H' env' C' r ⟨m', l, w⟩ => ⟨m', l, Hs', env', C', r, w⟩⟩, q2⟩
  | false =>
    rw [if_neg Bool.false_ne_true] at q2 ⊢
    exact ok.1 _ _ _ _ _ s2 q2⟩
/-! ### for -/
/-- what an iterator gives: the trees ds, whatever else the heap does -/
structure Walks (K : PySem.W.Frag) (J : It) (ds : List D) (F : Hp) : Prop where
  go : ∀ (i : Nat) (d : D) Hs H C, ds[i]? = some d → Same F Hs → Fits K Hs H C → J.go i H
  yld : ∀ (i : Nat) (d : D) Hs H C x H', ds[i]? = some d → Same F Hs → Fits K Hs H C → J.yld i H x H' → ∃ Hs', Rep K Hs' d x ∧ Same Hs Hs' ∧ ∀ Z σ env, SR K Z σ Hs H env C → SR K Z σ Hs' H' env C ∧ Tr Hs H C Hs' H' C
  stop : ∀ Hs H C, Same F Hs → Fits K Hs H C → J.stop ds.length H
def LI (K : PySem.W.Frag) (Z : Z0) (m : DM (List D)) : TI := fun σ H R => ∃ Hs env C P, SR K Z σ Hs H env C ∧ m env C P ∧
  ∀ ds env' C' J Hs' H', P ds env' C' → Tr Hs H C Hs' H' C' → SR K Z σ Hs' H' env' C' → Walks K J ds Hs' → R J H'
def DI (X : Cx) (tg iter : Expr) (m : EM (List D)) : Prop := ∀ Z E, DX X Z E → PI X tg iter (LI X.K Z (m E))
def forL (g : GM) (mb : SM) (E : EX) (dE : DEnds) : List D → DL.Env → Cs → Prop
  | [], env, C => dE.nx env C
  | d :: ds, env, C => g d (fun env1 C1 => mb E { dE with nx := forL g mb E dE ds, ct := forL g mb E dE ds, bk := dE.nx } env1 C1) env C
def sFor (g : GM) (mi : EM (List D)) (mb : SM) : SM := fun E dE env C => mi E env C fun ds env1 C1 => forL g mb E dE ds env1 C1
theorem ds_for {tg iter : Expr} {body : List Stmt} {g : GM} {mi : EM (List D)} {mb : SM} (hp : PassesOwn (model X.prog X.w) X.A X.env X.xe) (hc : X.calm = true) (hi : DI X tg iter mi) (hg : DG X tg g) (hb : DSs X body mb)
    (hs : ∀ x, foldedSetIterable iter X.env x = pure x) : DS X (.For tg iter body [] pos) (sFor g mi mb) := fun Z E hE => ⟨fun pins s σ H D I ⟨Hs, env, C, dE, sr, ok, q⟩ => by
  have hg' : PG X tg (fun v σ H Q => ∃ Z', LGt X.K Z' g v σ H Q) := ⟨fun pins s σ H v u Q I r ⟨Z', q⟩ => (hg Z').run pins s σ H v u Q I r q⟩
  have hb' : PSs X body (fun D σ H => ∃ Z', DX X Z' E ∧ LS X.K Z' (mb E) D σ H) := ⟨fun pins s σ H D I ⟨Z', hE', q⟩ => (hb Z' E hE').run pins s σ H D I q⟩
  refine (ps_for hp hc (hi Z E hE) hg' hb' hs).run pins s σ H D I ?_
  refine ⟨Hs, env, C, _, sr, q, fun ds env1 C1 J Hs1 H1 q1 t1 s1 wk => ?_⟩
  have u : Up Z { Z with F := Hs1 } := Up.raise s1
  refine ⟨fun i m σ H => m = ds.length - i ∧ i ≤ ds.length ∧ ∃ Hs env C, SR X.K { Z with F := Hs1 } σ Hs H env C ∧ forL g mb E dE (ds.drop i) env C, ⟨ds.length, by simp, Nat.zero_le _, Hs1, env1, C1, s1.raise, by simpa using q1⟩, ?_⟩
  rintro i m σ2 H2 ⟨rfl, hi2, Hs2, env2, C2, s2, q2⟩
  by_cases hlt : i < ds.length
  · have hd : ds[i]? = some ds[i] := by simp [hlt]
    rw [List.drop_eq_getElem_cons hlt] at q2
    refine .inr ⟨wk.go i _ Hs2 H2 C2 hd s2.bas.fl s2.fit, fun σ' H' => ∃ Hs env C, SR X.K { Z with F := Hs1 } σ' Hs H' env C ∧ forL g mb E dE (ds.drop (i + 1)) env C, fun σ' H' ⟨Hs', env', C', s', q'⟩ => ⟨ds.length - (i + 1), by omega, rfl, hlt, Hs', env', C', s', q'⟩, fun x H' y => ?_⟩
    obtain ⟨Hs3, r3, l3, f3⟩ := wk.yld i _ Hs2 H2 C2 x H' hd s2.bas.fl s2.fit y
    obtain ⟨s3, t3⟩ := f3 _ _ _ s2
    refine ⟨{ Z with F := Hs1 }, Hs3, env2, C2, _, fun env1 C1 => mb E { dE with nx := forL g mb E dE (ds.drop (i + 1)), ct := forL g mb E dE (ds.drop (i + 1)), bk := dE.nx } env1 C1, s3, r3, q2, fun σ' Hs' H' env' C' s' p => ⟨{ Z with F := Hs1 }, DX.up u hE, Hs', env', C', { dE with nx := forL g mb E dE (ds.drop (i + 1)), ct := forL g mb E dE (ds.drop (i + 1)), bk := dE.nx }, s', ⟨?_, (ok.up u).2.1, (ok.up u).1, ?_⟩, p⟩⟩
    · exact fun σ Hs H env C r z => ⟨Hs, env, C, r, z⟩
    · exact fun σ Hs H env C r z => ⟨Hs, env, C, r, z⟩
  · have e : i = ds.length := by omega
    subst e
    rw [List.drop_length] at q2
    exact .inl ⟨wk.stop Hs2 H2 C2 s2.bas.fl s2.fit, (ok.up u).1 _ _ _ _ _ s2 q2⟩⟩
end
end L2.DL
/-! DLh: what is walked; list comprehensions. -/
namespace L2.DL
open PySem PySem.Spec PyProof.Rows
section
variable {X : Cx} {tg e e2 : Expr} {es : List Expr} {pos : Pos} {K : PySem.W.Frag} {Z Z' : Z0}
/-- a list, a tuple, a text, by what it is -/
def iSeq (K : PySem.W.Frag) (te : TE) : TI := fun σ H R => te σ H fun x H1 => (∃ a, x = .ref a ∧ (∃ xs, SqL K H1 a xs) ∧ R (Itl K a) H1) ∨ (∃ a, x = .ref a ∧ (∃ xs, SqT K H1 a xs) ∧ R (Itt K a) H1) ∨ ∃ z, x = .str z ∧ R (Its z) H1
theorem pi_seq {te : TE} (he : PE X e te) : PI X tg e (iSeq X.K te) := by
  refine ⟨fun pins s σ H R I h => ?_⟩
  refine thn (he.run pins s σ H _ I h) fun v s1 ⟨x, H1, I1, r1, q1⟩ => ?_
  rcases q1 with ⟨a, rfl, ⟨xs, hq⟩, q⟩ | ⟨a, rfl, ⟨xs, hq⟩, q⟩ | ⟨z, rfl, q⟩
  · cases r1
    obtain ⟨its, rv, p, hz⟩ := I1.list hq
    refine wpAny_pyIter_list p.isList ?_
    refine ⟨s1.heap.objs.size, [s1.heap.objs.size], _, _, H1, rfl, I1.kept (t' := s1.toks) fun b o e => Heap.get?_push_of_some _ e, turn_list a _, ⟨_, Heap.get?_push_size _ rfl, rfl, rfl⟩, fun b hb => ?_, q⟩
    have e : b = s1.heap.objs.size := by simpa using hb
    subst e
    exact I1.fpOk (Nat.le_refl _) (I1.hok.fresh (Nat.le_refl _))
  · cases r1
    obtain ⟨its, rv, p, hz⟩ := I1.tuple hq
    refine wpAny_pyIter_tuple (show s1.heap.IsTuple a its.toArray from p) ?_
    refine ⟨s1.heap.objs.size, [s1.heap.objs.size], _, _, H1, rfl, I1.kept (t' := s1.toks) fun b o e => Heap.get?_push_of_some _ e, turn_tuple a _, ⟨_, Heap.get?_push_size _ rfl, rfl, rfl⟩, fun b hb => ?_, q⟩
    have e : b = s1.heap.objs.size := by simpa using hb
    subst e
    exact I1.fpOk (Nat.le_refl _) (I1.hok.fresh (Nat.le_refl _))
  · obtain ⟨t, rfl⟩ := r1
    cases ha : z.cps.all (· < 128)
    · exact wpAny_pyIter_wide ha (pi_one (tk := s1.toks) I1 _ (turn_str _ z t "str_iterator" (.inr rfl)) ⟨_, Heap.get?_push_size _ rfl, rfl, rfl⟩ q)
    · exact wpAny_pyIter_ascii ha (pi_one (tk := s1.toks) I1 _ (turn_str _ z t "str_ascii_iterator" (.inl rfl)) ⟨_, Heap.get?_push_size _ rfl, rfl, rfl⟩ q)
/-- the trees that are walked -/
def iterD : D → Option (List D)
  | .lst xs => some xs
  | .tup xs => some xs
  | .tupT ts => some (ts.map .str)
  | .kt => some []
  | .str s => some (s.map fun c => .str [c])
  | .scr ns => some (ns.map .int)
  | _ => none
/-- what stays in F is read alike from there on -/
theorem rep_walk_list {a : Addr} {ds : List D} {F : Hp} {vs : List V} (h : F a = some (.lst vs)) (r : RepL K F ds vs) : Walks K (Itl K a) ds F := by
  refine ⟨fun i d Hs H C e s f => ?_, fun i d Hs H C x H' e s f y => ?_, fun Hs H C s f => ?_⟩
  · obtain ⟨v, h1, h2⟩ := r.get' e
    exact ⟨vs, v, SqL.of (f.sub _ _ (s _ _ h)), h1⟩
  · obtain ⟨rfl, y⟩ := y
    obtain ⟨v, h1, h2⟩ := r.get' e
    have e1 := y vs (SqL.of (f.sub _ _ (s _ _ h)))
    rw [h1] at e1
    cases e1
    exact ⟨Hs, h2.same s, Same.refl _, fun Z σ env sr => ⟨sr, Tr.refl⟩⟩
  · exact ⟨vs, SqL.of (f.sub _ _ (s _ _ h)), by rw [r.length]; exact Nat.le_refl _⟩
theorem rep_walk_tup {a : Addr} {ds : List D} {F : Hp} {vs : List V} (h : TupA F a vs) (r : RepL K F ds vs) : Walks K (Itt K a) ds F := by
  refine ⟨fun i d Hs H C e s f => ?_, fun i d Hs H C x H' e s f y => ?_, fun Hs H C s f => ?_⟩
  · obtain ⟨v, h1, h2⟩ := r.get' e
    exact ⟨vs, v, TupA.sq f.sub (TupA.same s h), h1⟩
  · obtain ⟨rfl, y⟩ := y
    obtain ⟨v, h1, h2⟩ := r.get' e
    have e1 := y vs (TupA.sq f.sub (TupA.same s h))
    rw [h1] at e1
    cases e1
    exact ⟨Hs, h2.same s, Same.refl _, fun Z σ env sr => ⟨sr, Tr.refl⟩⟩
  · exact ⟨vs, TupA.sq f.sub (TupA.same s h), by rw [r.length]; exact Nat.le_refl _⟩
theorem rep_walk_kt {a : Addr} {F : Hp} (h : KT0 K a) : Walks K (Itt K a) [] F := by
  refine ⟨fun i d Hs H C e s f => by simp at e, fun i d Hs H C x H' e s f y => by simp at e, fun Hs H C s f => ?_⟩
  exact ⟨[], h.sq, Nat.le_refl _⟩
theorem rep_walk_scr {a : Addr} {ns : List Int} {F : Hp} (h : SqL K F a (ns.map V.int)) : Walks K (Itl K a) (ns.map .int) F := by
  refine ⟨fun i d Hs H C e s f => ?_, fun i d Hs H C x H' e s f y => ?_, fun Hs H C s f => ?_⟩
  · obtain ⟨n, h1, rfl⟩ := List.getElem?_map (f := D.int) (l := ns) (i := i) ▸ e |> Option.map_eq_some_iff.mp
    exact ⟨_, .int n, f.sub.seq (s.seq h), by rw [List.getElem?_map, h1]; rfl⟩
  · obtain ⟨rfl, y⟩ := y
    obtain ⟨n, h1, rfl⟩ := List.getElem?_map (f := D.int) (l := ns) (i := i) ▸ e |> Option.map_eq_some_iff.mp
    have e1 := y _ (f.sub.seq (s.seq h))
    rw [List.getElem?_map, h1] at e1
    cases e1
    exact ⟨Hs, .int n, Same.refl _, fun Z σ env sr => ⟨sr, Tr.refl⟩⟩
  · exact ⟨_, f.sub.seq (s.seq h), by simp⟩
theorem walk_str {s : Txt} {F : Hp} : Walks K (Its (sV s)) (s.map fun c => D.str [c]) F := by
  refine ⟨fun i d Hs H C e _ f => ?_, fun i d Hs H C x H' e _ f y => ?_, fun Hs H C _ f => ?_⟩
  · have := (List.getElem?_eq_some_iff.mp e).1
    show i < (sV s).cps.size
    simpa [sV] using this
  · obtain ⟨rfl, c, h1, rfl⟩ := y
    rw [List.getElem?_map] at e
    obtain ⟨c', h2, rfl⟩ := Option.map_eq_some_iff.mp e
    have h3 : s[i]? = some c := by simpa [sV] using h1
    rw [h2] at h3
    cases h3
    exact ⟨Hs, .str [c], Same.refl _, fun Z σ env sr => ⟨sr, Tr.refl⟩⟩
  · show (sV s).cps.size ≤ _
    simp [sV]
def mIter (m : EM D) : EM (List D) := fun E env C Q => m E env C fun d env1 C1 => match iterD d with
  | some ds => Q ds env1 C1
  | none => False
theorem di_seq {m : EM D} (h : DE X RShr e m) : DI X tg e (mIter m) := fun Z E hE => ⟨fun pins s σ H R I ⟨Hs, env, C, P, sr, q, k⟩ => by
  refine (pi_seq (h Z E hE)).run pins s σ H R I ?_
  refine ⟨Hs, env, C, _, sr, q, fun d env1 C1 v Hs1 H1 q1 t1 s1 r1 => ?_⟩
  cases r1 with
  | lst e1 r => exact .inl ⟨_, rfl, ⟨_, SqL.of (s1.fit.sub _ _ e1)⟩, k _ _ _ _ _ _ q1 t1 s1 (rep_walk_list e1 r)⟩
  | tup e1 r => exact .inr (.inl ⟨_, rfl, ⟨_, TupA.sq s1.fit.sub e1⟩, k _ _ _ _ _ _ q1 t1 s1 (rep_walk_tup e1 r)⟩)
  | tupT d e1 => exact .inr (.inl ⟨_, rfl, ⟨_, TupA.sq s1.fit.sub (.inr ⟨_, d, e1⟩)⟩, k _ _ _ _ _ _ q1 t1 s1 (rep_walk_tup (.inr ⟨_, d, e1⟩) (repl_strs _))⟩)
  | kt h => exact .inr (.inl ⟨_, rfl, ⟨_, h.sq⟩, k _ _ _ _ _ _ q1 t1 s1 (rep_walk_kt h)⟩)
  | str z => exact .inr (.inr ⟨_, rfl, k _ _ _ _ _ _ q1 t1 s1 walk_str⟩)
  | scr e1 => exact .inl ⟨_, rfl, ⟨_, s1.fit.sub.seq e1⟩, k _ _ _ _ _ _ q1 t1 s1 (rep_walk_scr e1)⟩
  | _ => exact q1.elim⟩
/-- the ints from lo on -/
def intsFrom (lo : Int) : Nat → List D
  | 0 => []
  | n + 1 => .int lo :: intsFrom (lo + 1) n
theorem intsFrom_get : ∀ (n : Nat) (lo : Int) (i : Nat), (intsFrom lo n)[i]? = if i < n then some (.int (lo + i)) else none
  | 0, lo, i => by simp [intsFrom]
  | n + 1, lo, 0 => by simp [intsFrom]
  | n + 1, lo, i + 1 => by
    simp only [intsFrom, List.getElem?_cons_succ, intsFrom_get n]
    by_cases h : i < n
    · rw [if_pos h, if_pos (by omega)]
      congr 2
      push_cast
      omega
    · rw [if_neg h, if_neg (by omega)]
theorem intsFrom_len : ∀ (n : Nat) (lo : Int), (intsFrom lo n).length = n
  | 0, _ => rfl
  | n + 1, lo => by simp [intsFrom, intsFrom_len n]
theorem walk_range {lo : Int} {n : Nat} {F : Hp} : Walks K (Itr lo n) (intsFrom lo n) F := by
  refine ⟨fun i d Hs H C e _ f => ?_, fun i d Hs H C x H' e _ f y => ?_, fun Hs H C _ f => ?_⟩
  · rw [intsFrom_get] at e
    show i < n
    by_cases h : i < n
    · exact h
    · rw [if_neg h] at e; cases e
  · obtain ⟨rfl, rfl⟩ := y
    rw [intsFrom_get] at e
    by_cases h : i < n
    · rw [if_pos h] at e
      cases e
      exact ⟨Hs, .int _, Same.refl _, fun Z σ env sr => ⟨sr, Tr.refl⟩⟩
    · rw [if_neg h] at e; cases e
  · show n ≤ _
    rw [intsFrom_len]
    exact Nat.le_refl _
def mRng1 (ms : EM (List D)) : EM (List D) := fun E env C Q => ms E env C fun ds env1 C1 => match ds with
  | [.int j] => (-(2 ^ 62) ≤ j ∧ j < 2 ^ 62) ∧ Q (intsFrom 0 j.toNat) env1 C1
  | _ => False
def mRng2 (ms : EM (List D)) : EM (List D) := fun E env C Q => ms E env C fun ds env1 C1 => match ds with
  | [.int i, .int j] => (-(2 ^ 62) ≤ i ∧ i < 2 ^ 62 ∧ -(2 ^ 62) ≤ j ∧ j < 2 ^ 62) ∧ Q (intsFrom i (j - i).toNat) env1 C1
  | _ => False
theorem di_rng1 {p : Pos} {ms : EM (List D)} (hg : Gl X "range") (hm : X.mg "range" = none) (h : DA X RShr [e] ms) (hs : starEach [e] X.env = [(false, eval e X.env)]) : DI X tg (.Call (.Name "range" p) [e] [] pos) (mRng1 ms) := fun Z E hE => ⟨fun pins s σ H R I ⟨Hs, env, C, P, sr, q, k⟩ => by
  refine (pi_range1 hg hm (h Z E hE) hs).run pins s σ H R I ?_
  refine ⟨Hs, env, C, _, sr, q, fun ds env1 C1 vs Hs1 H1 q1 t1 s1 r1 => ?_⟩
  split at q1
  · rename_i j
    have r := r1.rep
    cases r with
    | cons a r => cases a; cases r; exact ⟨j, rfl, q1.1.1, q1.1.2, k _ _ _ _ _ _ q1.2 t1 s1 walk_range⟩
  · exact q1.elim⟩
theorem di_rng2 {p : Pos} {ms : EM (List D)} (hg : Gl X "range") (hm : X.mg "range" = none) (h : DA X RShr [e, e2] ms) (hs : starEach [e, e2] X.env = [(false, eval e X.env), (false, eval e2 X.env)]) (hs2 : starEach [e2] X.env = [(false, eval e2 X.env)]) : DI X tg (.Call (.Name "range" p) [e, e2] [] pos) (mRng2 ms) := fun Z E hE => ⟨fun pins s σ H R I ⟨Hs, env, C, P, sr, q, k⟩ => by
  refine (pi_range2 hg hm (h Z E hE) hs hs2).run pins s σ H R I ?_
  refine ⟨Hs, env, C, _, sr, q, fun ds env1 C1 vs Hs1 H1 q1 t1 s1 r1 => ?_⟩
  split at q1
  · rename_i i j
    have r := r1.rep
    cases r with
    | cons a r => cases a; cases r with
      | cons b r => cases b; cases r; exact ⟨i, j, rfl, q1.1, k _ _ _ _ _ _ q1.2 t1 s1 walk_range⟩
  · exact q1.elim⟩
/-- pairs (0, a), (1, b), .. -/
def enumD : Nat → List D → List D
  | _, [] => []
  | i, d :: r => .tup [.int i, d] :: enumD (i + 1) r
/-- pairs of the items at the same places -/
def zipD : List D → List D → List D
  | d :: r, e :: r' => .tup [d, e] :: zipD r r'
  | _, _ => []
end
end L2.DL
/-! DLi: list comprehensions. -/
namespace L2.DL
open PySem PySem.Spec PyProof.Rows
section
variable {X : Cx} {tg e e2 : Expr} {es : List Expr} {pos : Pos} {K : PySem.W.Frag} {Z Z' : Z0}
/-! ### targets that store names at vs alone -/
def LGw (K : PySem.W.Frag) (vs : List Nat) (Z : Z0) (m : GM) : TG := fun v σ H Q => ∃ Hs env C d P, SR K Z σ Hs H env C ∧ Rep K Hs d v ∧ m d P env C ∧ ∀ σ' Hs' H' env' C', SR K Z σ' Hs' H' env' C' → Tr Hs H C Hs' H' C' → wipe σ' vs = wipe σ vs → P env' C' → Q σ' H'
def DGw (X : Cx) (vs : List Nat) (tg : Expr) (m : GM) : Prop := ∀ Z, PG X tg (LGw X.K vs Z m)
theorem wipe_set {σ : St} {v : Option V} {i : Nat} : ∀ {vs : List Nat}, i ∈ vs → wipe (σ.set i v) vs = wipe σ vs
  | w :: vs, h => by
    unfold wipe
    by_cases hm : i ∈ vs
    · rw [wipe_set hm]
    · have e : i = w := by
        rcases List.mem_cons.mp h with h | h
        · exact h
        · exact absurd h hm
      subst e
      have : ∀ (us : List Nat), i ∉ us → wipe (σ.set i v) us = (wipe σ us).set i v := by
        intro us
        induction us with
        | nil => intro _; rfl
        | cons u us ih =>
          intro hn
          unfold wipe
          rw [ih (fun z => hn (List.mem_cons_of_mem _ z))]
          rw [List.set_comm]
          intro z
          exact hn (by rw [z]; exact List.mem_cons_self)
      rw [this vs hm, List.set_set]
theorem wipe_wipe {σ : St} {vs : List Nat} : wipe (wipe σ vs) vs = wipe σ vs := by
  have : ∀ us : List Nat, (∀ i ∈ us, i ∈ vs) → wipe (wipe σ us) vs = wipe σ vs := by
    intro us
    induction us with
    | nil => intro _; rfl
    | cons u us ih =>
      intro h
      show wipe ((wipe σ us).set u none) vs = wipe σ vs
      rw [wipe_set (h u List.mem_cons_self)]
      exact ih fun i hi => h i (List.mem_cons_of_mem _ hi)
  exact this vs fun _ h => h
theorem dgw_name {i : Nat} {vs : List Nat} (h : PG X e (gName i)) (hi : i ∈ vs) : DGw X vs e (gN i) := fun Z => ⟨fun pins s σ H v u Q I r ⟨Hs, env, C, d, P, sr, rd, q, k⟩ => h.run pins s σ H v u Q I r (k _ _ _ _ _ (sr.setS rd) Tr.refl (wipe_set hi) q)⟩
def LGsw (K : PySem.W.Frag) (vs : List Nat) (Z : Z0) (m : GMs) : TGs := fun xs σ H Q => ∃ Hs env C ds P, SR K Z σ Hs H env C ∧ RepL K Hs ds xs ∧ m ds P env C ∧ ∀ σ' Hs' H' env' C', SR K Z σ' Hs' H' env' C' → Tr Hs H C Hs' H' C' → wipe σ' vs = wipe σ vs → P env' C' → Q σ' H'
def DGsw (X : Cx) (vs : List Nat) (tgs : List Expr) (m : GMs) : Prop := ∀ Z, PGs X tgs (LGsw X.K vs Z m)
theorem dgsw_nil {vs : List Nat} : DGsw X vs [] gsNil := fun Z => ⟨fun pins s σ H vs us Q I r ⟨Hs, env, C, ds, P, sr, rd, q, k⟩ => pgs_nil.run pins s σ H vs us Q I r (by
  obtain ⟨rfl, q⟩ := q
  cases rd
  exact ⟨rfl, k _ _ _ _ _ sr Tr.refl rfl q⟩)⟩
theorem dgsw_cons {i : Nat} {vs : List Nat} {ms : GMs} (h : PG X e (gName i)) (hi : i ∈ vs) (h' : DGsw X vs es ms) (hs : (assignEach (e :: es) X.env).map (·.2) = assign e X.env :: (assignEach es X.env).map (·.2)) : DGsw X vs (e :: es) (gsCons (gN i) ms) := fun Z => by
  refine ⟨fun pins s σ H xs us Q I r ⟨Hs, env, C, ds, P, sr, rd, q, k⟩ => (pgs_cons h (h' Z) hs).run pins s σ H xs us Q I r ?_⟩
  cases rd with
  | nil => exact q.elim
  | cons h1 r1 => exact ⟨_, _, rfl, Hs, _, C, _, P, sr.setS h1, r1, q, fun σ' Hs' H' env' C' s t w p => k _ _ _ _ _ s t (w.trans (wipe_set hi)) p⟩
theorem dgw_tup {k n : Nat} {vs : List Nat} {ms : GMs} (hc : X.calm = true) (h : DGsw X vs es ms) (hn : (assignEach es X.env).length = n) (hst : (assignEach es X.env).findIdx? (·.1) = none) : DGw X vs (.Tuple es k pos) (gTupD n ms) := fun Z => by
  refine ⟨fun pins s σ H v u Q I r ⟨Hs, env, C, d, P, sr, rd, q, kk⟩ => (pg_tup hc (h Z) hn hst).run pins s σ H v u Q I r ?_⟩
  cases rd with
  | tup h1 r1 => exact ⟨_, _, rfl, TupA.sq sr.fit.sub h1, by rw [← r1.length]; exact q.1, Hs, env, C, _, P, sr, r1, q.2, kk⟩
  | _ => exact q.elim
/-! ### slots forgotten for a while -/
def wipeE (env : DL.Env) : List Nat → DL.Env
  | [] => env
  | v :: vs => (wipeE env vs).set v .non
theorem wipeE_len (env : DL.Env) : ∀ vs, (wipeE env vs).length = env.length
  | [] => rfl
  | v :: vs => by unfold wipeE; rw [List.length_set, wipeE_len env vs]
theorem wipeE_get {env : DL.Env} {i : Nat} {x : Slot} : ∀ {vs : List Nat}, (wipeE env vs)[i]? = some x → (i ∉ vs ∧ env[i]? = some x) ∨ x = .non
  | [], h => .inl ⟨by simp, h⟩
  | v :: vs, h => by
    unfold wipeE at h
    by_cases hv : v = i
    · subst hv
      have hl : v < (wipeE env vs).length := by
        have := (List.getElem?_eq_some_iff.mp h).1
        simpa using this
      rw [List.getElem?_set_self hl] at h
      exact .inr (Option.some.inj h).symm
    · rw [List.getElem?_set_ne hv] at h
      rcases wipeE_get h with ⟨h1, h2⟩ | h1
      · exact .inl ⟨by simp only [List.mem_cons, not_or]; exact ⟨fun z => hv z.symm, h1⟩, h2⟩
      · exact .inr h1
/-- no slot at vs owns a thing -/
def noOwn (env : DL.Env) (vs : List Nat) : Bool := vs.all fun i => match env[i]? with
  | some (.own _) => false
  | _ => true
theorem SR.wiped {σ : St} {Hs H : Hp} {env : DL.Env} {C : Cs} {vs : List Nat} (r : SR K Z σ Hs H env C) : SR K Z (wipe σ vs) Hs H (wipeE env vs) C := by
  refine ⟨r.fit, r.bas, by rw [wipeE_len, wipe_length]; exact r.slt.len, fun i d e => ?_, fun i c e => ?_, fun i j c c' p ne e f g => ?_⟩
  · rcases wipeE_get e with ⟨h1, h2⟩ | h1
    · obtain ⟨v, e1, q⟩ := r.slt.shr i d h2
      exact ⟨v, by rw [wipe_out h1]; exact e1, q⟩
    · cases h1
  · rcases wipeE_get e with ⟨h1, h2⟩ | h1
    · rw [wipe_out h1]
      exact r.slt.own i c h2
    · cases h1
  · rcases wipeE_get e with ⟨h1, h2⟩ | h1
    · rcases wipeE_get f with ⟨h3, h4⟩ | h3
      · rw [wipe_out h1] at g
        rw [wipe_out h3]
        exact r.slt.sep i j c c' p ne h2 h4 g
      · cases h3
    · cases h1
theorem wipeE_out {env : DL.Env} {i : Nat} : ∀ {vs : List Nat}, i ∉ vs → (wipeE env vs)[i]? = env[i]?
  | [], _ => rfl
  | v :: vs, h => by
    have h1 : v ≠ i := fun z => h (by rw [z]; exact List.mem_cons_self)
    unfold wipeE
    rw [List.getElem?_set_ne h1]
    exact wipeE_out fun z => h (List.mem_cons_of_mem _ z)
/-- the forgotten slots come back -/
theorem SR.unwipe {σ : St} {Hs H Hs' H' : Hp} {env : DL.Env} {C C' : Cs} {vs : List Nat} (no : noOwn env vs = true) (r : SR K Z σ Hs H env C) (s : Same Hs Hs') (r' : SR K Z' (wipe σ vs) Hs' H' (wipeE env vs) C')
    (b : Bas Z Hs' H' C') (zh : ∀ p, Z'.H p = none → Z.H p = none) : SR K Z σ Hs' H' env C' := by
  have out : ∀ {i : Nat} {c : Cont}, env[i]? = some (Slot.own c) → i ∉ vs := fun {i c} e hm => by
    have := List.all_eq_true.mp no i hm
    simp only [e] at this
    cases this
  refine ⟨r'.fit, b, r.slt.len, fun i d e => ?_, fun i c e => ?_, fun i j c c' p ne e f g => ?_⟩
  · obtain ⟨v, e1, q⟩ := r.slt.shr i d e
    exact ⟨v, e1, q.same s⟩
  · have hi := out e
    obtain ⟨p, o, e1, e2, r1, n1, n2, n3⟩ := r'.slt.own i c (by rw [wipeE_out hi]; exact e)
    rw [wipe_out hi] at e1
    exact ⟨p, o, e1, e2, r1, n1, n2, zh p n3⟩
  · exact r.slt.sep i j c c' p ne e f g
/-! ### the list that is made is nobody else's -/
def prot (Z : Z0) (D : Addr) (o : HO) : Z0 := ⟨fun a => if a = D then none else Z.Hs a, upd Z.H D o, fun a => if a = D then none else Z.C a, Z.F⟩
theorem SR.prot {σ : St} {Hs H : Hp} {env : DL.Env} {C : Cs} {D : Addr} {o : HO} (r : SR K Z σ Hs H env C) (h : H D = some o) (h1 : Hs D = none) (h2 : C D = none) (no : ∀ (i : Nat) (c : Cont), env[i]? = some (Slot.own c) → σ[i]? ≠ some (some (V.ref D))) :
    SR K (DL.prot Z D o) σ Hs H env C := by
  refine ⟨r.fit, ⟨r.bas.fl, fun a u e c => ?_, fun a u e => ?_⟩, r.slt.len, r.slt.shr, fun i c e => ?_, r.slt.sep⟩
  · have e' : upd Z.H D o a = some u := e
    by_cases ha : a = D
    · subst ha
      rw [upd_same] at e'
      cases e'
      exact ⟨h, h2, fun _ => h1⟩
    · rw [upd_ne ha] at e'
      have c' : Z.C a = none := by simpa [DL.prot, ha] using c
      obtain ⟨q1, q2, q3⟩ := r.bas.kp a u e' c'
      exact ⟨q1, q2, fun z => q3 (by simpa [DL.prot, ha] using z)⟩
  · have e' : upd Z.H D o a = some u := e
    by_cases ha : a = D
    · subst ha
      exact ⟨_, h⟩
    · rw [upd_ne ha] at e'
      exact r.bas.th a u e'
  · obtain ⟨p, u, e1, e2, r1, n1, n2, n3⟩ := r.slt.own i c e
    refine ⟨p, u, e1, e2, r1, n1, n2, ?_⟩
    have hp : p ≠ D := fun z => no i c e (by rw [← z]; exact e1)
    show upd Z.H D o p = none
    rw [upd_ne hp]
    exact n3
theorem Bas.unprot {Hs H : Hp} {C : Cs} {D : Addr} {o : HO} (z : Z.H D = none) (b : Bas (DL.prot Z D o) Hs H C) : Bas Z Hs H C := by
  refine ⟨b.fl, fun a u e c => ?_, fun a u e => ?_⟩
  · have ha : a ≠ D := ne_of_none e z
    obtain ⟨q1, q2, q3⟩ := b.kp a u (by show upd Z.H D o a = some u; rw [upd_ne ha]; exact e) (by simpa [DL.prot, ha] using c)
    exact ⟨q1, q2, fun w => q3 (by simpa [DL.prot, ha] using w)⟩
  · have ha : a ≠ D := ne_of_none e z
    exact b.th a u (by show upd Z.H D o a = some u; rw [upd_ne ha]; exact e)
theorem prot_free {D p : Addr} {o : HO} (h : (DL.prot Z D o).H p = none) : Z.H p = none ∧ p ≠ D := by
  have h' : upd Z.H D o p = none := h
  by_cases hp : p = D
  · subst hp; rw [upd_same] at h'; cases h'
  · rw [upd_ne hp] at h'; exact ⟨h', hp⟩
theorem SR.unprot {σ : St} {Hs H : Hp} {env : DL.Env} {C : Cs} {D : Addr} {o : HO} (z : Z.H D = none) (r : SR K (DL.prot Z D o) σ Hs H env C) : SR K Z σ Hs H env C :=
  ⟨r.fit, r.bas.unprot z, r.slt.len, r.slt.shr, fun i c e => by
    obtain ⟨p, u, e1, e2, r1, n1, n2, n3⟩ := r.slt.own i c e
    exact ⟨p, u, e1, e2, r1, n1, n2, (prot_free n3).1⟩, r.slt.sep⟩
/-- what is private may be written -/
theorem SR.wrP {σ : St} {Hs H : Hp} {env : DL.Env} {C : Cs} {D : Addr} {o' : HO} (r : SR K Z σ Hs H env C) (h1 : Hs D = none) (h2 : C D = none) (z : Z.H D = none) (no : ∀ (i : Nat) (c : Cont), env[i]? = some (Slot.own c) → σ[i]? ≠ some (some (V.ref D))) :
    SR K Z σ Hs (upd H D o') env C := by
  refine ⟨⟨fun b u e => ?_, fun a c e => ?_⟩, ⟨r.bas.fl, fun a u e c => ?_, th_upd r.bas.th⟩, r.slt.len, r.slt.shr, fun i c e => ?_, r.slt.sep⟩
  · rw [upd_ne (ne_of_none e h1)]; exact r.fit.sub _ _ e
  · obtain ⟨q, u, e1, r2⟩ := r.fit.cel _ _ e
    have ha : a ≠ D := fun w => by rw [w, h2] at e; cases e
    exact ⟨q, u, by rw [upd_ne ha]; exact e1, r2⟩
  · obtain ⟨q1, q2, q3⟩ := r.bas.kp a u e c
    exact ⟨by rw [upd_ne (ne_of_none e z)]; exact q1, q2, q3⟩
  · obtain ⟨p, u, e1, e2, r1, n1, n2, n3⟩ := r.slt.own i c e
    have hp : p ≠ D := fun w => no i c e (by rw [← w]; exact e1)
    exact ⟨p, u, e1, by rw [upd_ne hp]; exact e2, r1, n1, n2, n3⟩
/-! ### [elt for tg in iter if cond] -/
def E0 : EX := fun _ _ _ => False
theorem dx0 : DX X Z E0 := fun _ _ x => by
  obtain ⟨_, _, _, _, _, _, _, _, _, _, _, _, _, _, _, _, w⟩ := x
  obtain ⟨_, _, _, _, _, _, z⟩ := w
  exact z.elim
def compL (vs : List Nat) (g : GM) (mc : EM Bool) (me : EM D) (Q : Cont → Cs → Prop) : List D → List D → DL.Env → Cs → Prop
  | [], acc, _, C => Q (.lst acc) C
  | d :: ds, acc, env, C => g d (fun env1 C1 => wipeE env1 vs = env ∧ mc E0 env1 C1 fun b env2 C2 => env2 = env1 ∧
      if b = true then me E0 env1 C2 fun y env3 C3 => env3 = env1 ∧ acc.length < sizeLine ∧ compL vs g mc me Q ds (acc ++ [y]) env C3 else compL vs g mc me Q ds acc env C2) env C
def mComp (vs : List Nat) (g : GM) (mi : EM (List D)) (mc : EM Bool) (me : EM D) : EM Cont := fun E env C Q => mi E env C fun ds env1 C1 => noOwn env1 vs = true ∧ compL vs g mc me (fun c C2 => Q c env1 C2) ds [] (wipeE env1 vs) C1
/-- the block's context -/
abbrev Blk (X : Cx) (scope : Scope) (s : Shared) (H : Hp) (C : Addr) (cl : List (Str × Addr)) (fp : List Addr) : Cx := X.blk s H scope (compEnvC scope cl C X.env) fp
def DTs (X : Cx) (ifs : List Expr) (m : EM Bool) : Prop := ∀ Z E, DX X Z E → PTs X ifs (LT X.K Z (m E))
theorem dts_nil : DTs X [] (mC true) := fun Z E hE => ⟨fun pins s σ H Q I ⟨Hs, env, C, P, sr, q, k⟩ => pts_nil.run pins s σ H Q I (k _ _ _ Hs H q Tr.refl sr)⟩
theorem dts_one {c : Expr} {m : EM Bool} (h : DT X c m) : DTs X [c] m := fun Z E hE => pts_one (h Z E hE)
/-- the tree of a comprehension, from its meaning -/
abbrev WG (K : PySem.W.Frag) (vs : List Nat) (g : GM) : TG := fun v σ H Q => ∃ Z', LGw K vs Z' g v σ H Q
abbrev WT (K : PySem.W.Frag) (mc : EM Bool) : TT := fun σ H Q => ∃ Z', LT K Z' (mc E0) σ H Q
abbrev WE1 (K : PySem.W.Frag) (me : EM D) : TE := fun σ H Q => ∃ Z', LG K RShr Z' (me E0) σ H Q
theorem comp_tree {own : List (Str × Nat)} {g : GM} {mi : EM (List D)} {mc : EM Bool} {me : EM D} {E : EX} {σ : St} {H : Hp} {Q : VK} (q0 : LG K RFr Z (mComp (own.map (·.2)) g mi mc me E) σ H Q) :
    tLc (LI K Z (mi E)) (WG K (own.map (·.2)) g) (WT K mc) (WE1 K me) (own.map (·.2)) σ H Q := by
  obtain ⟨Hs, env, C, P, sr, q, k⟩ := q0
  refine ⟨Hs, env, C, _, sr, q, fun ds env1 C1 J Hs1 H1 q1 t1 s1 wk => ?_⟩
  obtain ⟨nO, q1⟩ := q1
  intro D hD
  obtain ⟨hD1, hD2⟩ := s1.fit.nothing hD
  have hDz : Z.H D = none := s1.bas.zfree hD
  have u : Up Z { Z with F := Hs1 } := Up.raise s1
  have noD : ∀ (i : Nat) (c : Cont), env1[i]? = some (Slot.own c) → σ[i]? ≠ some (some (V.ref D)) := fun i c e z => by
    obtain ⟨p, o, e1, e2, _⟩ := s1.slt.own i c e
    rw [e1] at z
    cases z
    rw [hD] at e2
    cases e2
  -- the wiped state
  let vs := own.map (·.2)
  refine ⟨fun i m H => m = ds.length - i ∧ i ≤ ds.length ∧ ∃ Hs C acc xs, SR K { Z with F := Hs1 } (wipe σ vs) Hs H (wipeE env1 vs) C ∧ H D = some (.lst xs) ∧ RepL K Hs acc xs ∧ Hs D = none ∧ C D = none ∧
      (∀ a o, H1 a = some o → C1 a = none → H a = some o ∧ C a = none) ∧ compL vs g mc me (fun c C2 => P c env1 C2) (ds.drop i) acc (wipeE env1 vs) C, ⟨ds.length, by simp, Nat.zero_le _, Hs1, C1, [], [], ?_, upd_same, .nil, hD1, hD2, ?_, by simpa using q1⟩, ?_⟩
  · exact (s1.raise.layP hD _).wiped
  · intro a o e c
    exact ⟨by rw [upd_ne (ne_of_none e hD)]; exact e, c⟩
  rintro i m H2 ⟨rfl, hi2, Hs2, C2, acc, xs, s2, hx, rx, d1, d2, kp2, q2⟩
  have noD2 : ∀ (i : Nat) (c : Cont), (wipeE env1 vs)[i]? = some (Slot.own c) → (wipe σ vs)[i]? ≠ some (some (V.ref D)) := fun i c e z => by
    rcases wipeE_get e with ⟨h1, h2⟩ | h1
    · rw [wipe_out h1] at z
      exact noD i c h2 z
    · cases h1
  by_cases hlt : i < ds.length
  · have hd : ds[i]? = some ds[i] := by simp [hlt]
    rw [List.drop_eq_getElem_cons hlt] at q2
    refine .inr ⟨wk.go i _ Hs2 H2 C2 hd s2.bas.fl s2.fit, fun H' => ∃ Hs C acc xs, SR K { Z with F := Hs1 } (wipe σ vs) Hs H' (wipeE env1 vs) C ∧ H' D = some (.lst xs) ∧ RepL K Hs acc xs ∧ Hs D = none ∧ C D = none ∧
      (∀ a o, H1 a = some o → C1 a = none → H' a = some o ∧ C a = none) ∧ compL vs g mc me (fun c C2 => P c env1 C2) (ds.drop (i + 1)) acc (wipeE env1 vs) C, fun H' z => ⟨ds.length - (i + 1), by omega, rfl, hlt, z⟩, fun x H' y => ?_⟩
    obtain ⟨Hs3, r3, l3, f3⟩ := wk.yld i _ Hs2 H2 C2 x H' hd s2.bas.fl s2.fit y
    have sp := s2.prot hx d1 d2 noD2
    obtain ⟨s3', t3⟩ := f3 _ _ _ sp
    have s3 := s3'.raise
    have zD : ({ DL.prot { Z with F := Hs1 } D (.lst xs) with F := Hs3 } : Z0).H D = some (.lst xs) := upd_same
    have zDc : ({ DL.prot { Z with F := Hs1 } D (.lst xs) with F := Hs3 } : Z0).C D = none := by simp [DL.prot]
    have zDs : ({ DL.prot { Z with F := Hs1 } D (.lst xs) with F := Hs3 } : Z0).Hs D = none := by simp [DL.prot]
    -- what a state behind a part of the turn gives for the next turn
    have back : ∀ {σ5 : St} {Hs5 H5 : Hp} {env5 : DL.Env} {C5 : Cs}, SR K { DL.prot { Z with F := Hs1 } D (.lst xs) with F := Hs3 } σ5 Hs5 H5 env5 C5 → wipe σ5 vs = wipe σ vs → wipeE env5 vs = wipeE env1 vs → Tr Hs2 H2 C2 Hs5 H5 C5 →
        SR K { Z with F := Hs1 } (wipe σ vs) Hs5 H5 (wipeE env1 vs) C5 ∧ H5 D = some (.lst xs) ∧ RepL K Hs5 acc xs ∧ Hs5 D = none ∧ C5 D = none ∧ (∀ a o, H1 a = some o → C1 a = none → H5 a = some o ∧ C5 a = none) ∧
          ∀ (j : Nat) (c : Cont), (wipeE env1 vs)[j]? = some (Slot.own c) → (wipe σ vs)[j]? ≠ some (some (V.ref D)) := by
      intro σ5 Hs5 H5 env5 C5 s5 w5 e5 t5
      obtain ⟨b1, b2, b3⟩ := s5.bas.kp D _ zD zDc
      have s6 : SR K { Z with F := Hs1 } σ5 Hs5 H5 env5 C5 := SR.unprot hDz (SR.up (Up.raise s3') s5)
      have s7 := s6.wiped (vs := vs)
      rw [w5, e5] at s7
      refine ⟨s7, b1, rx.same (l3.trans s5.bas.fl), b3 zDs, b2, fun a o h c => ?_, noD2⟩
      obtain ⟨k1, k2⟩ := kp2 a o h c
      exact t5.kp a o k1 k2
    refine ⟨{ DL.prot { Z with F := Hs1 } D (.lst xs) with F := Hs3 }, Hs3, wipeE env1 vs, C2, _, _, s3, r3, q2, fun σ4 Hs4 H4 env4 C4 s4 t4 w4 q4 => ⟨w4.trans wipe_wipe, ?_⟩⟩
    obtain ⟨e4, q4⟩ := q4
    have w4' : wipe σ4 vs = wipe σ vs := w4.trans wipe_wipe
    refine ⟨_, Hs4, env4, C4, _, s4, q4, fun b env5 C5 Hs5 H5 q5 t5 s5 => ?_⟩
    obtain ⟨rfl, q5⟩ := q5
    cases b with
    | true =>
      rw [if_pos rfl] at q5 ⊢
      refine ⟨_, Hs5, env5, C5, _, s5, q5, fun y env6 C6 v6 Hs6 H6 q6 t6 s6 r6 => ?_⟩
      obtain ⟨rfl, l6, q6⟩ := q6
      obtain ⟨b1, b2, b3, b4, b5, b6, b7⟩ := back s6 w4' e4 (((t3.trans t4).trans t5).trans t6)
      refine ⟨xs, b2, by rw [← rx.length]; exact l6, Hs6, C6, acc ++ [y], xs ++ [v6], b1.wrP b4 b5 hDz b7, upd_same, b3.append (.cons r6 .nil), b4, b5, fun a o h c => ?_, q6⟩
      obtain ⟨k1, k2⟩ := b6 a o h c
      have ha : a ≠ D := ne_of_none h hD
      exact ⟨by rw [upd_ne ha]; exact k1, k2⟩
    | false =>
      rw [if_neg Bool.false_ne_true] at q5 ⊢
      obtain ⟨b1, b2, b3, b4, b5, b6, b7⟩ := back s5 w4' e4 ((t3.trans t4).trans t5)
      exact ⟨Hs5, C5, acc, xs, b1, b2, b3, b4, b5, b6, q5⟩
  · have e : i = ds.length := by omega
    subst e
    rw [List.drop_length] at q2
    refine .inl ⟨wk.stop Hs2 H2 C2 s2.bas.fl s2.fit, ?_⟩
    have sb : SR K Z σ Hs2 H2 env1 C2 := SR.unwipe nO s1 s2.bas.fl s2 (s2.bas.up u) fun p h => h
    exact k _ _ _ _ _ _ q2 (t1.trans ⟨s2.bas.fl, kp2⟩) sb ⟨D, _, rfl, hx, ⟨_, rfl, rx⟩, d1, d2, hDz, noD⟩
theorem d_comp {iter elt : Expr} {ifs : List Expr} {scope : Scope} {own : List (Str × Nat)} {g : GM} {mi : EM (List D)} {mc : EM Bool} {me : EM D} (hc : X.calm = true) (hN : X.N.Nodup) (hi : DI X tg iter mi) (ok : BlkOk X.N X.env.scope scope own)
    (hg : ∀ (s : Shared) (H : Hp) (C : Addr) (cl : List (Str × Addr)) (fp : List Addr), DGw (Blk X scope s H C cl fp) (own.map (·.2)) tg g) (ht : ∀ (s : Shared) (H : Hp) (C : Addr) (cl : List (Str × Addr)) (fp : List Addr), DTs (Blk X scope s H C cl fp) ifs mc)
    (he : ∀ (s : Shared) (H : Hp) (C : Addr) (cl : List (Str × Addr)) (fp : List Addr), DE (Blk X scope s H C cl fp) RShr elt me) (hs : ∀ x, foldedSetIterable iter X.env x = pure x) :
    DE X RFr (.ListComp elt [⟨tg, iter, ifs, 0⟩] scope pos) (mComp (own.map (·.2)) g mi mc me) := fun Z E hE =>
  ⟨fun pins s σ H Q I q => (pe_lc (wi := LI X.K Z (mi E)) (g := WG X.K (own.map (·.2)) g) (tt := WT X.K mc) (te := WE1 X.K me) hc hN (hi Z E hE) ok
    (fun s H C cl fp => ⟨fun pins s σ H v u Q I r ⟨Z', q⟩ => (hg _ _ _ _ _ Z').run pins s σ H v u Q I r q⟩)
    (fun s H C cl fp => ⟨fun pins s σ H Q I ⟨Z', q⟩ => (ht _ _ _ _ _ Z' E0 dx0).run pins s σ H Q I q⟩)
    (fun s H C cl fp => ⟨fun pins s σ H Q I ⟨Z', q⟩ => (he _ _ _ _ _ Z' E0 dx0).run pins s σ H Q I q⟩) hs).run pins s σ H Q I (comp_tree q)⟩
/-- name = [.. for ..] on one row: the name is stored ahead of the block's end -/
theorem ps_comp {i : Nat} {y : Str} {py spos : Pos} {iter elt : Expr} {ifs : List Expr} {scope : Scope} {own : List (Str × Nat)} {g : GM} {mi : EM (List D)} {mc : EM Bool} {me : EM D} (hc : X.calm = true) (hN : X.N.Nodup) (hy : X.N[i]? = some y) (hyl : X.env.scope.names.lookup y = some .local)
    (hsw : swapsWith (.ListComp elt [⟨tg, iter, ifs, 0⟩] scope pos) (some (.Name y py)) spos.line X.env = pure true) (hi : DI X tg iter mi) (ok : BlkOk X.N X.env.scope scope own)
    (hg : ∀ (s : Shared) (H : Hp) (C : Addr) (cl : List (Str × Addr)) (fp : List Addr), DGw (Blk X scope s H C cl fp) (own.map (·.2)) tg g) (ht : ∀ (s : Shared) (H : Hp) (C : Addr) (cl : List (Str × Addr)) (fp : List Addr), DTs (Blk X scope s H C cl fp) ifs mc)
    (he : ∀ (s : Shared) (H : Hp) (C : Addr) (cl : List (Str × Addr)) (fp : List Addr), DE (Blk X scope s H C cl fp) RShr elt me) (hs : ∀ x, foldedSetIterable iter X.env x = pure x) {E : EX} (hE : DX X Z E) :
    PS X (.Assign [.Name y py] (.ListComp elt [⟨tg, iter, ifs, 0⟩] scope pos) spos) (tAsg (LG X.K RFr Z (mComp (own.map (·.2)) g mi mc me E)) (gName i)) :=
  ⟨fun pins s σ H D I q => (ps_setLc (wi := LI X.K Z (mi E)) (g := WG X.K (own.map (·.2)) g) (tt := WT X.K mc) (te := WE1 X.K me) hc hN hy hyl hsw (hi Z E hE) ok
    (fun s H C cl fp => ⟨fun pins s σ H v u Q I r ⟨Z', q⟩ => (hg _ _ _ _ _ Z').run pins s σ H v u Q I r q⟩)
    (fun s H C cl fp => ⟨fun pins s σ H Q I ⟨Z', q⟩ => (ht _ _ _ _ _ Z' E0 dx0).run pins s σ H Q I q⟩)
    (fun s H C cl fp => ⟨fun pins s σ H Q I ⟨Z', q⟩ => (he _ _ _ _ _ Z' E0 dx0).run pins s σ H Q I q⟩) hs).run pins s σ H D I (comp_tree (Q := fun x H1 => gName i x σ H1 D.nx) q)⟩
theorem ds_compS {st : Stmt} {i : Nat} {m : EM Cont} (h : ∀ Z E, DX X Z E → PS X st (tAsg (LG X.K RFr Z (m E)) (gName i))) : DS X st (sSet i (mMap Cont.d m)) := fun Z E hE => ⟨fun pins s σ H D I ⟨Hs, env, C, dE, sr, ok, q⟩ =>
  (h Z E hE).run pins s σ H D I ⟨Hs, env, C, _, sr, q, fun d env1 C1 v Hs1 H1 q1 t1 s1 r1 => by
    obtain ⟨p, o, rfl, e2, r2, n1, n2, n3, no⟩ := r1
    exact ok.1 _ _ _ _ _ ((s1.frz e2 n1 n2 n3 no).setS ((r2.same (same_upd n1)).rep upd_same)) q1⟩⟩
end
end L2.DL
/-! DLj: promises over trees; calls of defs. FnG is a promise where no repr is under way. -/
namespace L2.DL
open PySem PySem.Spec PyProof.Rows
/-- nothing guards itself on the stack -/
def Gd (A : Around) : Prop := A.guards = some []
structure FnG (P : Program) (w : World) (K : PySem.W.Frag) (mg : Str → Option Value) (base : Heap) (k : Nat) (f : Addr) (fd : FuncData) (ps : List Str) (sp : Sp) : Prop where
  len : ∀ vs H Q E, sp vs H Q E → vs.length = ps.length
  run : ∀ (A : Around) (fr : List PySem.Env) (s : Shared) (H : Hp) (ar : Args) (us : List Value) (vs : List V) (Q : VK) (E : XK), Gd A → Room k A → Env0 P w K mg base A fr s H → BindsTo s fd ar (ps.zip us) → Vals vs us → sp vs H Q E →
    codeAny (model P w) A (.call (.ref f) ar) (CR (L2.CX P w) fr P w H s Q E) s
/-- a def's body keeps the promise -/
theorem fnG_of {P : Program} {w : World} {K : PySem.W.Frag} {mg : Str → Option Value} {base : Heap} {xn qual : Str} {st : Stmt} {f : Addr} {fd : FuncData} {N ps : List Str} {k : Nat} {sp : Sp} (F : Fun K xn qual st f fd) (S : FnScope N ps (defScope st))
    (len : ∀ vs H Q E, sp vs H Q E → vs.length = ps.length)
    (bd : ∀ (cdv : Value) (A : Around) (fr : List PySem.Env) (s : Shared) (H : Hp) (vs : List V) (Q : VK) (E : XK), Gd A → Room k (A.deeper (envOfC qual (defScope st) s.heap.objs.size f cdv)) → sp vs H Q E →
      ∃ t, PSs (cxOf (L2.CX P w) P w K mg base N qual (defScope st) f cdv A fr s H E) (defBody st) t ∧ t { nx := fun _ H' => Q .non H', rt := Q } (start N vs) H) : FnG P w K mg base (k + 1) f fd ps sp := by
  obtain ⟨oc, od, kV, doc, pm, an, cdv, ct, osl, rfl, lk, code⟩ := F.ex
  refine ⟨len, ?_⟩
  intro A fr s H ar us vs Q E gd room st0 bnd rel want
  have lenV := len _ _ _ _ want
  have kept : ∀ b o, base.get? b = some o → s.heap.get? b = some o := fun b o q => (st0.bs b o q).1
  have kin : K.In s.heap := st0.mod.kin.keeps kept
  have noLim : s.heap.NoLimit := st0.mod.nolimit.keeps kept
  refine codeAny_call_function room.depth (kin _ _ lk) rfl S.co S.gen rfl (PySem.W.codeRec_of kin code) (bnd _ _ _ _ ?_)
  refine wpAny_newFunctionEnv_cells S.kind (fun y hy => ?_) fun env eqv s1 there => ?_
  · rcases S.par y.1 (List.of_mem_zip (a := y.1) (b := y.2) hy).1 with loc | cel
    · exact .inl loc
    · exact .inr ⟨cel, PySem.W.cellsFrom_some _ _ _ (.inl cel)⟩
  subst eqv
  refine ⟨noLim.keeps there.toInCall.keep, codeAny_func ?_⟩
  obtain ⟨t, walked, end_⟩ := bd cdv A fr s H vs Q E gd (room.deeper _) want
  have inv0 := inv_start (CX := L2.CX P w) (E := E) S room.hd st0 lenV rel there
  refine wpAny_mono (walked.run [] s1 (start N vs) H _ inv0 end_) ?_ fun _ _ z => z
  intro fl s2 res
  cases fl with
  | ret u => obtain ⟨v, _, H2, J, rv, q⟩ := res; exact ⟨v, H2, J.os, J.bare, J.base, J.hok, rv, q⟩
  | next => obtain ⟨_, H2, J, q⟩ := res; exact ⟨.non, H2, J.os, J.bare, J.base, J.hok, rfl, q⟩
  | brk => obtain ⟨_, _, _, q⟩ := res; exact q.elim
  | cont => obtain ⟨_, _, _, q⟩ := res; exact q.elim
/-- a call of it -/
theorem run_fnG {X : Cx} {k : Nat} {f : Addr} {fd : FuncData} {ps : List Str} {sp : Sp} {E : XK} {ar : Args} {us : List Value} {vs : List V} {pins : List (Addr × Obj)} {σ : St} {H : Hp} {s : Shared} {Q : VK} (F : FnG X.prog X.w X.K X.mg X.base k f fd ps sp) (gd : Gd X.A) (hr : Room k X.A)
    (hb : BindsTo s fd ar (ps.zip us)) (hx : PassesAt (L2.CX X.prog X.w) X σ E) (I : Inv X pins σ H s) (r : Vals vs us) (h : sp vs H Q E) : codeAny (model X.prog X.w) X.A (.call (.ref f) ar) (fun q s' => match q with
      | .ok (.ret v) => EP X pins σ Q v s'
      | .ok _ => False
      | .error e => X.xe e s') s := by
  refine codeAny_mono (F.run X.A X.stack s H ar us vs Q E gd hr I.env0 hb r h) fun q s' z => ?_
  cases q with
  | error e => exact hx pins H s e s' I z
  | ok fl => cases fl with
    | ret u => exact I.after z
    | next => exact z.elim
    | brk => exact z.elim
    | cont => exact z.elim
section
variable {X : Cx} {e : Expr} {es : List Expr} {pos p : Pos} {x : Str} {t : TA} {k : Nat} {f : Addr} {fd : FuncData} {ps : List Str} {sp : Sp} {E : St → XK} {dvs : List V} {dus : List Value}
theorem pe_callG (F : FnG X.prog X.w X.K X.mg X.base k f fd ps sp) (gd : Gd X.A) (hr : Room k X.A) (hg : Gl X x) (hm : X.mg x = some (.ref f)) (hk : PySem.W.keepIn X.K (.ref f) = true) (hb : Binds X.K fd ps dus) (hd : Vals dvs dus) (hx : ∀ σ, PassesAt (L2.CX X.prog X.w) X σ (E σ))
    (ha : PA X (e :: es) t) (hdb : (x == ("__debug__" : Str)) = false) (he : starEach (e :: es) X.env = (false, eval e X.env) :: starEach es X.env) (hpl : (backTo pos (starEach es X.env)).any (·.1) = false) :
    PE X (.Call (.Name x p) (e :: es) [] pos) (tCallSD sp dvs E t) := ⟨fun pins s σ H Q I h => by
  refine wpAny_Call_Name_kw (ld_glob I hg hm (PySem.W.callWith_K (h₀ := X.base) I.ok.mod.kin hk (thn (ha.run pos pins s σ H _ I h) ?_) he hpl) hdb)
  intro us s1 ⟨vs, H1, J, r, q⟩
  have r2 := r.append hd
  exact ⟨J.kIn, wpAny_call (run_fnG F gd hr (hb s1 us J.kIn (by rw [← r2.length]; exact F.len _ _ _ _ q)) (hx σ) J r2 q)⟩⟩
end
/-- a promise over trees: the arguments, the cells; what is wanted of the result, of an exception -/
abbrev DSp := List D → Cs → (Ret → Cs → Prop) → (XD → Cs → Prop) → Prop
def zOf (Hs H : Hp) (C : Cs) : Z0 := ⟨Hs, H, C, Hs⟩
def lift (K : PySem.W.Frag) (sp : DSp) : Sp := fun vs H Q E => ∃ Hs C ds P PX, Fits K Hs H C ∧ RepL K Hs ds vs ∧ sp ds C P PX ∧
  (∀ r C' v Hs' H', P r C' → Fits K Hs' H' C' → Bas (zOf Hs H C) Hs' H' C' → RRet K (zOf Hs H C) Hs' H' C' r v → Q v H') ∧
  (∀ x C' cls dx Hs' H', PX x C' → Fits K Hs' H' C' → Bas (zOf Hs H C) Hs' H' C' → RX K Hs' H' x cls dx → E cls dx H')
section
variable {X : Cx} {e : Expr} {es : List Expr} {pos : Pos} {K : PySem.W.Frag} {Z : Z0}
theorem Bas.start {Hs H : Hp} {C : Cs} : Bas (zOf Hs H C) Hs H C := ⟨Same.refl _, fun _ _ h c => ⟨h, c, fun z => z⟩, fun _ o h => ⟨o, h⟩⟩
/-- behind a call -/
theorem SR.call {σ : St} {Hs H Hs' H' : Hp} {env : DL.Env} {C C' : Cs} (r : SR K Z σ Hs H env C) (f : Fits K Hs' H' C') (b : Bas (zOf Hs H C) Hs' H' C') : SR K Z σ Hs' H' env C' ∧ Tr Hs H C Hs' H' C' := by
  have fl : Same Hs Hs' := b.fl
  refine ⟨⟨f, ⟨r.bas.fl.trans fl, fun a o e c => ?_, fun a o e => ?_⟩, r.slt.len, fun i d e => ?_, fun i c e => ?_, r.slt.sep⟩, fl, fun a o e c => ?_⟩
  · obtain ⟨q1, q2, q3⟩ := r.bas.kp a o e c
    obtain ⟨k1, k2, k3⟩ := b.kp a o q1 q2
    exact ⟨k1, k2, fun z => k3 (q3 z)⟩
  · obtain ⟨o1, e1⟩ := r.bas.th a o e
    exact b.th a o1 e1
  · obtain ⟨v, e1, q⟩ := r.slt.shr i d e
    exact ⟨v, e1, q.same fl⟩
  · obtain ⟨p, o, e1, e2, r1, n1, n2, n3⟩ := r.slt.own i c e
    obtain ⟨k1, k2, k3⟩ := b.kp p o e2 n2
    exact ⟨p, o, e1, k1, r1.same fl, k3 n1, k2, n3⟩
  · obtain ⟨k1, k2, _⟩ := b.kp a o e c
    exact ⟨k1, k2⟩
/-- the result as a tree -/
@[reducible] def Ret.tree : Ret → D
  | .shr d => d
  | .frs c => c.d
theorem ret_shr {σ : St} {Hs H Hs' H' : Hp} {env : DL.Env} {C C' : Cs} {rt : Ret} {v : V} (sr : SR K Z σ Hs H env C) (s : SR K Z σ Hs' H' env C') (t : Tr Hs H C Hs' H' C') (rr : RRet K (zOf Hs H C) Hs' H' C' rt v) :
    ∃ Hs2, SR K Z σ Hs2 H' env C' ∧ Tr Hs H C Hs2 H' C' ∧ Rep K Hs2 rt.tree v := by
  cases rt with
  | shr d => exact ⟨Hs', s, t, rr⟩
  | frs c =>
    obtain ⟨p, o, rfl, e2, r1, n1, n2, n3⟩ := rr
    have hp : H p = none := n3
    refine ⟨upd Hs' p o, s.frz e2 n1 n2 (sr.bas.zfree hp) (fun i c' e z => ?_), t.trans (Tr.frz n1), (r1.same (same_upd n1)).rep upd_same⟩
    obtain ⟨q, u, e1, e3, _⟩ := sr.slt.own i c' e
    rw [e1] at z
    cases z
    rw [hp] at e3
    cases e3
/-- a def of the text that is called -/
abbrev DFn (P : Program) (w : World) (K : PySem.W.Frag) (mg : Str → Option Value) (base : Heap) (k : Nat) (f : Addr) (fd : FuncData) (ps : List Str) (sp : DSp) : Prop := FnG P w K mg base k f fd ps (lift K sp)
def mCall (sp : DSp) (dfl : List D) (ms : EM (List D)) : EM D := fun E env C Q => ms E env C fun ds env1 C1 => sp (ds ++ dfl) C1 (fun r C2 => Q r.tree env1 C2) fun x C2 => E x env1 C2
def mCallF (sp : DSp) (dfl : List D) (ms : EM (List D)) : EM Cont := fun E env C Q => ms E env C fun ds env1 C1 => sp (ds ++ dfl) C1 (fun r C2 => match r with
  | .frs c => Q c env1 C2
  | .shr _ => False) fun x C2 => E x env1 C2
section
variable {sp : DSp} {dfl : List D} {dvs : List V} {dus : List Value} {k : Nat} {f : Addr} {fd : FuncData} {ps : List Str} {x : Str} {p : Pos} {ms : EM (List D)}
theorem lift_call {E : EX} {σ : St} {Hs H : Hp} {env : DL.Env} {C : Cs} {ds : List D} {vs : List V} {Q : VK} {P : Ret → Cs → Prop} (sr : SR K Z σ Hs H env C) (r : RepL K Hs ds vs) (q : sp ds C P fun x C2 => E x env C2)
    (kk : ∀ rt C' v Hs' H', P rt C' → SR K Z σ Hs' H' env C' → Tr Hs H C Hs' H' C' → RRet K (zOf Hs H C) Hs' H' C' rt v → Q v H') : lift K sp vs H Q (WE (DXw K Z E) σ) :=
  ⟨Hs, C, ds, P, _, sr.fit, r, q, fun rt C' v Hs' H' pr f b rr => let ⟨s, t⟩ := sr.call f b; kk rt C' v Hs' H' pr s t rr,
    fun x C' cls dx Hs' H' px f b rx => ⟨Hs', env, C', x, (sr.call f b).1, rx, px⟩⟩
theorem call_shr {E : EX} {σ : St} {H : Hp} {Q : VK} (hd' : ∀ Hs, RepL K Hs dfl dvs) (q : LG K RShr Z (mCall sp dfl ms E) σ H Q) : tCallSD (lift K sp) dvs (fun σ => WE (DXw K Z E) σ) (LA K RShr Z (ms E)) σ H Q := by
  obtain ⟨Hs, env, C, P, sr, q, kk⟩ := q
  refine ⟨Hs, env, C, _, sr, q, fun ds env1 C1 vs Hs1 H1 q1 t1 s1 r1 => ?_⟩
  refine lift_call s1 (r1.rep.append (hd' Hs1)) q1 fun rt C' v Hs' H' pr s' t' rr => ?_
  obtain ⟨Hs2, s2, t2, r2⟩ := ret_shr s1 s' t' rr
  exact kk _ _ _ _ _ _ pr (t1.trans t2) s2 r2
theorem call_frs {E : EX} {σ : St} {H : Hp} {Q : VK} (hd' : ∀ Hs, RepL K Hs dfl dvs) (q : LG K RFr Z (mCallF sp dfl ms E) σ H Q) : tCallSD (lift K sp) dvs (fun σ => WE (DXw K Z E) σ) (LA K RShr Z (ms E)) σ H Q := by
  obtain ⟨Hs, env, C, P, sr, q, kk⟩ := q
  refine ⟨Hs, env, C, _, sr, q, fun ds env1 C1 vs Hs1 H1 q1 t1 s1 r1 => ?_⟩
  refine lift_call s1 (r1.rep.append (hd' Hs1)) q1 fun rt C' v Hs' H' pr s' t' rr => ?_
  cases rt with
  | shr d => exact pr.elim
  | frs c =>
    obtain ⟨p, o, rfl, e2, r1, n1, n2, n3⟩ := rr
    have hp : H1 p = none := n3
    refine kk c _ _ _ _ _ pr (t1.trans t') s' ⟨p, o, rfl, e2, r1, n1, n2, s1.bas.zfree hp, fun i c' e z => ?_⟩
    obtain ⟨q, u, e1, e3, _⟩ := s1.slt.own i c' e
    rw [e1] at z
    cases z
    rw [hp] at e3
    cases e3
/-- what a call of a def by its name wants -/
structure Callee (X : Cx) (x : Str) (sp : DSp) (dfl : List D) : Prop where
  ex : ∃ k f fd ps dvs dus, DFn X.prog X.w X.K X.mg X.base k f fd ps sp ∧ Room k X.A ∧ X.mg x = some (.ref f) ∧ PySem.W.keepIn X.K (.ref f) = true ∧ Binds X.K fd ps dus ∧ Vals dvs dus ∧ ∀ Hs, RepL X.K Hs dfl dvs
theorem d_call (c : Callee X x sp dfl) (gd : Gd X.A) (hg : Gl X x) (ha : DA X RShr (e :: es) ms) (hdb : (x == ("__debug__" : Str)) = false) (he : starEach (e :: es) X.env = (false, eval e X.env) :: starEach es X.env) (hpl : (backTo pos (starEach es X.env)).any (·.1) = false) :
    DE X RShr (.Call (.Name x p) (e :: es) [] pos) (mCall sp dfl ms) := fun Z E hE => by
  obtain ⟨k, f, fd, ps, dvs, dus, F, hr, hm, hk, hb, hd, hd'⟩ := c.ex
  exact ⟨fun pins s σ H Q I q => (pe_callG F gd hr hg hm hk hb hd (fun σ => passAt hE σ) (ha Z E hE) hdb he hpl).run pins s σ H Q I (call_shr hd' q)⟩
theorem d_callF (c : Callee X x sp dfl) (gd : Gd X.A) (hg : Gl X x) (ha : DA X RShr (e :: es) ms) (hdb : (x == ("__debug__" : Str)) = false) (he : starEach (e :: es) X.env = (false, eval e X.env) :: starEach es X.env) (hpl : (backTo pos (starEach es X.env)).any (·.1) = false) :
    DE X RFr (.Call (.Name x p) (e :: es) [] pos) (mCallF sp dfl ms) := fun Z E hE => by
  obtain ⟨k, f, fd, ps, dvs, dus, F, hr, hm, hk, hb, hd, hd'⟩ := c.ex
  exact ⟨fun pins s σ H Q I q => (pe_callG F gd hr hg hm hk hb hd (fun σ => passAt hE σ) (ha Z E hE) hdb he hpl).run pins s σ H Q I (call_frs hd' q)⟩
end
/-! ### a def keeps its promise -/
def slots0 (N : Nat) (ds : List D) : DL.Env := ds.map Slot.shr ++ List.replicate (N - ds.length) Slot.non
theorem start_rep {N : List Str} {Hs H : Hp} {C : Cs} {ds : List D} {vs : List V} (f : Fits K Hs H C) (r : RepL K Hs ds vs) (hl : vs.length ≤ N.length) : SR K (zOf Hs H C) (start N vs) Hs H (slots0 N.length ds) C := by
  have e := r.length
  refine ⟨f, Bas.start, ?_, fun i d h => ?_, fun i c h => ?_, fun i j c c' p ne h => ?_⟩
  · simp [slots0, start, e]
  · unfold slots0 at h
    unfold start
    by_cases hi : i < ds.length
    · rw [List.getElem?_append_left (by simpa using hi)] at h
      rw [List.getElem?_append_left (by simp; omega)]
      rw [List.getElem?_map] at h
      obtain ⟨d', h1, h2⟩ := Option.map_eq_some_iff.mp h
      cases h2
      obtain ⟨v, h3, h4⟩ := r.get' h1
      exact ⟨v, by rw [List.getElem?_map, h3]; rfl, h4⟩
    · rw [List.getElem?_append_right (by simp; omega)] at h
      have := List.mem_of_getElem? h
      have := List.eq_of_mem_replicate this
      cases this
  all_goals
    exfalso
    unfold slots0 at h
    have hm := List.mem_of_getElem? h
    rcases List.mem_append.mp hm with z | z
    · obtain ⟨d, _, q⟩ := List.mem_map.mp z
      cases q
    · have := List.eq_of_mem_replicate z
      cases this
/-- the context of a def's body -/
abbrev BodyX (P : Program) (w : World) (K : PySem.W.Frag) (mg : Str → Option Value) (base : Heap) (N : List Str) (qual : Str) (st : Stmt) (f : Addr) (cdv : Value) (A : Around) (fr : List PySem.Env) (s : Shared) (H : Hp) (E : XK) : Cx :=
  cxOf (L2.CX P w) P w K mg base N qual (defScope st) f cdv A fr s H E
/-- THE RULE for a def: its body's meaning m, and the promise from it -/
theorem dfn_ok {P : Program} {w : World} {mg : Str → Option Value} {base : Heap} {xn qual : Str} {st : Stmt} {f : Addr} {fd : FuncData} {N ps : List Str} {k : Nat} {sp : DSp} {m : SM} (F : Fun K xn qual st f fd) (S : FnScope N ps (defScope st))
    (hb : ∀ (cdv : Value) (A : Around) (fr : List PySem.Env) (s : Shared) (H : Hp) (E : XK), Gd A → Room k (A.deeper (envOfC qual (defScope st) s.heap.objs.size f cdv)) → DSs (BodyX P w K mg base N qual st f cdv A fr s H E) (defBody st) m)
    (hl : ps.length ≤ N.length) (hsp : ∀ ds C PR PX, sp ds C PR PX → ds.length = ps.length ∧ m (fun x _ C => PX x C) { nx := fun _ C => PR (.shr .non) C, rt := PR } (slots0 N.length ds) C) : DFn P w K mg base (k + 1) f fd ps sp := by
  refine fnG_of F S (fun vs H Q E h => ?_) fun cdv A fr s H vs Q E gd hr h => ?_
  · obtain ⟨Hs, C, ds, PR, PX, f1, r, q, _⟩ := h
    rw [← r.length]
    exact (hsp ds C PR PX q).1
  · obtain ⟨Hs, C, ds, PR, PX, f1, r, q, k1, k2⟩ := h
    obtain ⟨l1, q1⟩ := hsp ds C PR PX q
    have hE : DX (BodyX P w K mg base N qual st f cdv A fr s H E) (zOf Hs H C) (fun x _ C => PX x C) := by
      have tk : Takes (BodyX P w K mg base N qual st f cdv A fr s H E) (fun cls d _ H => E cls d H) := takes_of rfl rfl rfl rfl
      exact Takes.imp tk fun cls dx σ H' ⟨Hs', env', C', x, sr, rx, px⟩ => k2 x C' cls dx Hs' H' px sr.fit sr.bas rx
    refine ⟨_, hb cdv A fr s H E gd hr (zOf Hs H C) _ hE, Hs, slots0 N.length ds, C, _, start_rep f1 r (by rw [← r.length, l1]; exact hl), ⟨fun σ Hs' H' env' C' sr p => ?_, fun rt v Hs' H' C' f' b' rr p => ?_, fun _ _ _ _ _ _ z => z, fun _ _ _ _ _ _ z => z⟩, q1⟩
    · exact k1 _ C' _ Hs' H' p sr.fit sr.bas Rep.non
    · exact k1 rt C' v Hs' H' p f' b' rr
end
end L2.DL
/-! DLk: built-ins over trees. -/
namespace L2.DL
open PySem PySem.Spec PyProof.Rows
/-! ### repr -/
mutual
def isR : D → Bool
  | .non => true
  | .bl _ => true
  | .int _ => true
  | .str _ => true
  | .tup xs => isRs xs
  | .lst xs => isRs xs
  | .dct kvs => isRkv kvs
  | .tupT _ => true
  | _ => false
def isRs : List D → Bool
  | [] => true
  | d :: r => isR d && isRs r
def isRkv : List (DK × D) → Bool
  | [] => true
  | (_, d) :: r => isR d && isRkv r
end
section
variable {X : Cx} {pins : List (Addr × Obj)} {σ : St} {Hs H : Hp} {s : Shared} {C : Cs}
theorem pairs_read {P : Program} {w : World} {h : Heap} : ∀ {es : List DictEntry} {kvs : List (Key × Value)} {ks : List DK}, Pairs (mixKind P w) es kvs → kvs.map (·.1) = ks.map kOf → ReadsAll h (es.map (·.key)) (ks.map keyP) []
  | _, _, [], .nil, _ => .nil
  | _, _, _ :: _, .nil, e => by cases e
  | _, _, [], .cons _ _ _, e => by cases e
  | _, _, k :: ks, .cons h1 h2 h3, e => by
    rw [List.map_cons, List.map_cons] at e
    injection e with e1 e2
    rw [e1] at h1
    have h4 := pairs_read (h := h) h3 e2
    rw [List.map_cons, List.map_cons]
    cases k with
    | inl i =>
      obtain ⟨t, q⟩ := Value.isInt_shape h1
      rw [q]
      exact ReadsAll.cons (.int i t) h4
    | inr z =>
      obtain ⟨t, q⟩ := Value.isStrOf_shape h1
      rw [q]
      exact ReadsAll.cons (.str (sV z) t) h4
theorem pairs_vals {P : Program} {w : World} : ∀ {es : List DictEntry} {kvs : List (Key × Value)}, Pairs (mixKind P w) es kvs → es.map (·.val) = kvs.map (·.2)
  | _, _, .nil => rfl
  | _, _, .cons _ h2 h3 => by rw [List.map_cons, List.map_cons, h2, pairs_vals h3]
theorem keys_rep {K : PySem.W.Frag} : ∀ {kvs : List (DK × D)} {ws : List (Key × V)}, RepKV K Hs kvs ws → ws.map (·.1) = (kvs.map (·.1)).map kOf
  | _, _, .nil => rfl
  | _, _, .cons _ r => by rw [List.map_cons, keys_rep r]; rfl
theorem toPkv_1 : ∀ kvs : List (DK × D), (toPkv kvs).map (·.1) = (kvs.map (·.1)).map keyP
  | [] => rfl
  | (k, d) :: r => by simp only [toPkv, List.map_cons, toPkv_1 r]
theorem toPkv_2 : ∀ kvs : List (DK × D), (toPkv kvs).map (·.2) = toPs (kvs.map (·.2))
  | [] => rfl
  | (k, d) :: r => by simp only [toPkv, List.map_cons, toPs, toPkv_2 r]
theorem repKV_vals {K : PySem.W.Frag} : ∀ {kvs : List (DK × D)} {ws : List (Key × V)}, RepKV K Hs kvs ws → RepL K Hs (kvs.map (·.2)) (ws.map (·.2))
  | _, _, .nil => .nil
  | _, _, .cons h r => .cons h (repKV_vals r)
theorem kv_vals : ∀ {ws : List (Key × V)} {us : List (Key × Value)}, KV ws us → Vals (ws.map (·.2)) (us.map (·.2))
  | _, _, .nil => .nil
  | _, _, .cons h r => .cons h.2 (kv_vals r)
theorem reads_strs {h : Heap} : ∀ (ts : List Txt) {us : List Value}, Vals ((ts.map sV).map V.str) us → ReadsAll h us (ts.map fun t => PyData.str (sV t)) []
  | [], _, .nil => .nil
  | t :: r, _, .cons ⟨k, e⟩ q => by
    subst e
    exact ReadsAll.cons (Reads.str _ k) (reads_strs r q)
mutual
theorem Rep.reads (I : Inv X pins σ H s) (sub : Same Hs H) : ∀ {d : D} {v : V} {u : Value}, Rep X.K Hs d v → RelV v u → isR d = true → ∃ as, Reads s.heap u (toP d) as ∧ ∀ b ∈ as, H b ≠ none
  | _, _, _, .non, r, _ => by cases r; exact ⟨_, Reads.none, fun _ h => by cases h⟩
  | _, _, _, .bl b, r, _ => by cases r; exact ⟨_, Reads.bool b, fun _ h => by cases h⟩
  | _, _, _, .int i, r, _ => by obtain ⟨t, rfl⟩ := r; exact ⟨_, Reads.int i t, fun _ h => by cases h⟩
  | _, _, _, .str z, r, _ => by obtain ⟨t, rfl⟩ := r; exact ⟨_, Reads.str _ t, fun _ h => by cases h⟩
  | _, _, _, .tup (xs := xs) h q, r, p => by
    cases r
    obtain ⟨its, rv, ⟨o, ho, hc, n, hd⟩, _⟩ := I.tuple (TupA.sq sub h)
    obtain ⟨as, h1, h2⟩ := RepL.reads I sub q rv p
    exact ⟨_, Reads.tuple ho hc hd h1, h2⟩
  | _, _, _, .lst (xs := xs) (a := a) h q, r, p => by
    cases r
    obtain ⟨its, rv, ⟨o, n, ho, hc, _, hd⟩, _⟩ := I.list (SqL.of (K := X.K) (sub _ _ h))
    obtain ⟨as, h1, h2⟩ := RepL.reads I sub q rv p
    refine ⟨_, Reads.list ho hc hd h1, fun b hb => ?_⟩
    rcases List.mem_cons.mp hb with e | hb
    · rw [e, sub _ _ h]
      intro z
      cases z
    · exact h2 b hb
  | _, _, _, .dct (kvs := kvs) (a := a) h q, r, p => by
    cases r
    have h' := Same.rd sub h
    obtain ⟨_, hs, vs, kv, o, es, ep, ho, hx, hd, _, pr, _⟩ := dk_rd I.hok h'
    have k1 := pairs_read (h := s.heap) pr (ks := kvs.map (·.1)) (by rw [← kv.keys, keys_rep q])
    obtain ⟨as, h1, h2⟩ := RepKV.reads I sub q (kv_vals kv) p
    refine ⟨_, Reads.dict ho hx.1 hd (by rw [toPkv_1]; exact k1) (by rw [toPkv_2, pairs_vals pr]; exact h1), fun b hb => ?_⟩
    rcases List.mem_append.mp hb with hb | hb
    · rcases List.mem_cons.mp hb with e | hb
      · rw [e]
        rcases h' with z | ⟨_, z⟩ <;> (rw [z]; intro w; cases w)
      · cases hb
    · exact h2 b hb
  | _, _, _, .obj h q, r, p => by cases p
  | _, _, _, .cell a, r, p => by cases p
  | _, _, _, .ty n, r, p => by cases p
  | _, _, _, .scr h, r, p => by cases p
  | _, _, _, .exc h q, r, p => by cases p
  | _, _, _, .kt h, r, p => by cases p
  | _, _, _, .tupT (ts := ts) d h, r, p => by
    cases r
    obtain ⟨its, rv, ⟨o, ho, hc, n, hd⟩, _⟩ := I.tuple (TupA.sq (K := X.K) sub (.inr ⟨_, d, h⟩))
    exact ⟨_, Reads.tuple ho hc hd (reads_strs ts rv), fun _ h => by cases h⟩
theorem RepL.reads (I : Inv X pins σ H s) (sub : Same Hs H) : ∀ {d : List D} {v : List V} {u : List Value}, RepL X.K Hs d v → Vals v u → isRs d = true → ∃ as, ReadsAll s.heap u (toPs d) as ∧ ∀ b ∈ as, H b ≠ none
  | _, _, _, .nil, r, _ => by cases r; exact ⟨_, ReadsAll.nil, fun _ h => by cases h⟩
  | _, _, _, .cons h q, r, p => by
    cases r with
    | cons r1 r2 =>
      have p' := Bool.and_eq_true_iff.mp p
      obtain ⟨as, h1, h2⟩ := Rep.reads I sub h r1 p'.1
      obtain ⟨bs, h3, h4⟩ := RepL.reads I sub q r2 p'.2
      exact ⟨_, ReadsAll.cons h1 h3, fun b hb => (List.mem_append.mp hb).elim (h2 b) (h4 b)⟩
theorem RepKV.reads (I : Inv X pins σ H s) (sub : Same Hs H) : ∀ {d : List (DK × D)} {v : List (Key × V)} {u : List Value}, RepKV X.K Hs d v → Vals (v.map (·.2)) u → isRkv d = true → ∃ as, ReadsAll s.heap u (toPs (d.map (·.2))) as ∧ ∀ b ∈ as, H b ≠ none
  | _, _, _, .nil, r, _ => by cases r; exact ⟨_, ReadsAll.nil, fun _ h => by cases h⟩
  | _, _, _, .cons h q, r, p => by
    rw [List.map_cons] at r
    cases r with
    | cons r1 r2 =>
      have p' := Bool.and_eq_true_iff.mp p
      obtain ⟨as, h1, h2⟩ := Rep.reads I sub h r1 p'.1
      obtain ⟨bs, h3, h4⟩ := RepKV.reads I sub q r2 p'.2
      exact ⟨_, ReadsAll.cons h1 h3, fun b hb => (List.mem_append.mp hb).elim (h2 b) (h4 b)⟩
end
/-- may be shown -/
def shOk (d : D) : Prop := isR d = true ∧ (toP d).showable = true ∧ (toP d).depth ≤ 40 ∧ (toP d).shown.length ≤ sizeLine
@[irreducible] def shT (d : D) : Txt := (toP d).shown.cps.toList
def gRepr (ds : List D) (P : D → Prop) : Prop := match ds with
  | [d] => shOk d ∧ P (.str (shT d))
  | _ => False
/-- repr of a thing that reads as data -/
theorem repr_run {A : Around} {E Q : Value → Shared → Prop} {d : D} {u : Value} {as : List Addr} (gd : Gd A) (hu : A.units + 60 < cLine) (r : Reads s.heap u (toP d) as) (nm : sysModules ∉ as) (ok : shOk d)
    (k : ∀ h' t tk, (∀ b o, s.heap.get? b = some o → h'.get? b = some o) → Q (.str (toP d).shown t) { s with heap := h', toks := tk }) : wpAny (model X.prog X.w) A (call (.builtin "repr") [u]) Q E s := by
  obtain ⟨o1, o2, o3, o4⟩ := ok
  have kk : ∀ b o, s.heap.get? b = some o → s.heap.get? b = some o := fun _ _ e => e
  cases u with
  | ref a => exact repr_of_reads' r o2 (fun _ => nm) gd (by omega) (fun _ _ e => e) k o4
  | none =>
    generalize toP d = p at *
    cases r
    exact PySem.P.repr_of_none (k s.heap _ _ kk)
  | bool b =>
    generalize toP d = p at *
    cases r
    have e : (PyData.bool b).shown = (if b then "True" else "False" : String) := by cases b <;> rfl
    refine PySem.P.repr_of_bool ?_
    have := k s.heap s.toks (s.toks + 1) kk
    rw [e] at this
    cases b <;> exact this
  | int i t =>
    generalize toP d = p at *
    cases r
    refine PySem.P.repr_of_int (of_decide_eq_true (by simpa [PyData.showable] using o2)) (k s.heap _ _ kk)
  | str x t =>
    generalize toP d = p at *
    cases r
    exact PySem.P.repr_of_str (k s.heap _ _ kk) o4
  | _ =>
    generalize toP d = p at *
    cases r
theorem noMods (I : Inv X pins σ H s) (hb : ∃ o, X.base.get? sysModules = some o) {as : List Addr} (h : ∀ b ∈ as, H b ≠ none) : sysModules ∉ as := fun hm => by
  obtain ⟨o, e⟩ := hb
  exact h _ hm (I.bs _ o e).2
end
section
variable {X : Cx}
/-- reading of a call over one value that is known as data -/
theorem calld_repr (gd : Gd X.A) (hu : X.A.units + 60 < cLine) (hb : ∃ o, X.base.get? sysModules = some o) : CallD X (.builtin "repr") RShr gRepr := by
  refine ⟨⟨fun xs H Q => ∃ (v : V) (d : D), xs = [v] ∧ (∀ (pins : List (Addr × Obj)) (σ : St) (s : Shared) (u : Value), Inv X pins σ H s → RelV v u → ∃ as, Reads s.heap u (toP d) as ∧ ∀ b ∈ as, H b ≠ none) ∧ shOk d ∧ Q (.str (sV (shT d))) H, ?_, ?_⟩⟩
  · intro pins s σ H xs us Q I r h
    obtain ⟨v, d, rfl, rd, ok, q⟩ := h
    obtain ⟨u, rfl, ru⟩ := vals1 r
    obtain ⟨as, r1, r2⟩ := rd pins σ s u I ru
    refine repr_run (X := X) gd hu r1 (noMods I hb r2) ok fun h' t tk kk => ?_
    exact ⟨.str (sV (shT d)), H, I.kept kk, ⟨t, by unfold shT; rw [sV_of]⟩, q⟩
  · intro Z σ Hs H env C ds vs P Q sr n g k
    unfold gRepr at g
    split at g
    · rename_i d
      cases n with
      | cons n1 n2 =>
        cases n2
        refine ⟨_, d, rfl, fun pins σ' s u I ru => ?_, g.1, k _ _ Hs H g.2 Tr.refl sr (.str _)⟩
        have ok := g.1.1
        cases n1 with
        | non => exact (Rep.non : Rep X.K Hs _ _).reads I sr.fit.sub ru ok
        | bl b => exact (Rep.bl b : Rep X.K Hs _ _).reads I sr.fit.sub ru ok
        | int i => exact (Rep.int i : Rep X.K Hs _ _).reads I sr.fit.sub ru ok
        | str z => exact (Rep.str z : Rep X.K Hs _ _).reads I sr.fit.sub ru ok
        | tup h q => exact (Rep.tup h q).reads I sr.fit.sub ru ok
        | lst h q => exact (Rep.lst h (q.same sr.fit.sub)).reads I (Same.refl _) ru ok
        | dct h q => exact (Rep.dct h (q.same sr.fit.sub)).reads I (Same.refl _) ru ok
        | tupT d h => exact (Rep.tupT d h : Rep X.K Hs _ _).reads I sr.fit.sub ru ok
        | _ => cases ok
    · exact g.elim
end
end L2.DL
/-! DLl: built-ins over trees: len, isinstance, max, min, all, any, list, tuple, join, products. -/
namespace L2.DL
open PySem PySem.Spec PyProof.Rows
section
variable {X : Cx}
/-- a rule that changes nothing and gives a plain value -/
theorem calld_pure {f : Value} {r : List V → Hp → VK → Prop} {g : List D → (D → Prop) → Prop} (hr : CallR X f r)
    (h : ∀ Hs H ds vs (P : D → Prop) Q, Same Hs H → RNs X.K Hs H ds vs → g ds P → (∀ a w, P a → Rep X.K Hs a w → Q w H) → r vs H Q) : CallD X f RShr g :=
  ⟨⟨r, hr, fun Z σ Hs H env C ds vs P Q sr n gg k => h Hs H ds vs P Q sr.fit.sub n gg fun a w p ra => k a w Hs H p Tr.refl sr ra⟩⟩
def gLen (ds : List D) (P : D → Prop) : Prop := match ds with
  | [.str s] => s.length ≤ sizeLine ∧ P (.int s.length)
  | [.lst xs] => P (.int xs.length)
  | [.tup xs] => P (.int xs.length)
  | [.dct xs] => P (.int xs.length)
  | [.scr xs] => P (.int xs.length)
  | _ => False
theorem RepKV.length {K : PySem.W.Frag} {H : Hp} : ∀ {d : List (DK × D)} {v : List (Key × V)}, RepKV K H d v → d.length = v.length
  | _, _, .nil => rfl
  | _, _, .cons _ r => by simp [RepKV.length r]
theorem call_lenD : CallR X (.builtin "len") (fun xs H Q => ∃ a kvs, xs = [.ref a] ∧ Rd H a (.dK kvs) ∧ Q (.int (kvs.length : Nat)) H) := by
  intro pins s σ H xs us Q I r h
  obtain ⟨a, kvs, rfl, e, q⟩ := h
  obtain ⟨u, rfl, rx⟩ := vals1 r
  cases rx
  exact d_len I e fun t s' I' => ⟨.int (kvs.length : Nat), H, I', ⟨_, rfl⟩, q⟩
theorem calld_len : CallD X (.builtin "len") RShr gLen := by
  refine calld_pure (call_len.or call_lenD) fun Hs H ds vs P Q sub n g k => ?_
  cases n with
  | nil => exact g.elim
  | cons n n2 =>
    cases n2 with
    | cons _ _ => cases n <;> exact g.elim
    | nil =>
      cases n with
      | str s => exact .inl ⟨_, s.length, rfl, ⟨by rw [sV_len]; exact g.1, by rw [sV_len]⟩, k _ _ g.2 (.int _)⟩
      | lst e r => exact .inl ⟨_, _, rfl, .inl ⟨_, SqL.of e, rfl⟩, k _ _ g (by rw [r.length]; exact .int _)⟩
      | tup e r => exact .inl ⟨_, _, rfl, .inr ⟨_, TupA.sq sub e, rfl⟩, k _ _ g (by rw [r.length]; exact .int _)⟩
      | dct e r => exact .inr ⟨_, _, rfl, e, k _ _ g (by rw [r.length]; exact .int _)⟩
      | @scr ns a e => exact .inl ⟨_, ns.length, rfl, .inl ⟨_, e, by simp⟩, k _ _ g (.int _)⟩
      | _ => exact g.elim
/-! ### isinstance -/
def tyD : D → Option String
  | .non => some "NoneType" | .bl _ => some "bool" | .int _ => some "int" | .str _ => some "str"
  | .tup _ => some "tuple" | .lst _ => some "list" | .dct _ => some "dict" | _ => none
def gIsi (ds : List D) (P : D → Prop) : Prop := match ds with
  | [d, .ty n] => ∃ t b, tyD d = some t ∧ kitB t n = some b ∧ P (.bl b)
  | _ => False
theorem tyd_now {K : PySem.W.Frag} {Hs H : Hp} {d : D} {v : V} {t : String} (sub : Same Hs H) (n : RNow K Hs H d v) (h : tyD d = some t) : TyX K H v (.type t) := by
  cases n with
  | non => cases h; exact .base .non
  | bl b => cases h; exact .base (.bl b)
  | int i => cases h; exact .base (.int i)
  | str s => cases h; exact .base (.str _)
  | tup e r =>
    cases h
    rcases TupA.same sub e with e | ⟨o, _, e⟩
    · exact .base (.tup e)
    · exact .fTuple e
  | lst e r => cases h; exact .base (.lst e)
  | dct e r =>
    cases h
    rcases e with e | ⟨o, e⟩
    · exact .base (.dK e)
    · exact .fDict e
  | _ => cases h
theorem calld_isi : CallD X (.builtin "isinstance") RShr gIsi := by
  refine calld_pure call_isi fun Hs H ds vs P Q sub n g k => ?_
  unfold gIsi at g
  split at g
  · rename_i d nm
    obtain ⟨t, b, e1, e2, p⟩ := g
    cases n with
    | cons n1 n2 => cases n2 with
      | cons n2 n3 =>
        cases n2
        cases n3
        exact ⟨_, _, _, _, b, rfl, .ty nm, tyd_now sub n1 e1, kit_ty e2, k _ _ p (.bl b)⟩
  · exact g.elim
/-! ### max, min -/
def g2I (f : Int → Int → Int) (ds : List D) (P : D → Prop) : Prop := match ds with
  | [.int i, .int j] => P (.int (f i j))
  | _ => False
theorem rns2 {K : PySem.W.Frag} {Hs H : Hp} {i j : Int} {vs : List V} (n : RNs K Hs H [.int i, .int j] vs) : vs = [.int i, .int j] := by
  cases n with
  | cons n1 n2 => cases n2 with
    | cons n2 n3 => cases n1; cases n2; cases n3; rfl
theorem calld_max (hc : X.calm = true) : CallD X (.builtin "max") RShr (g2I fun i j => if j > i then j else i) := by
  refine calld_pure (call_max2 hc) fun Hs H ds vs P Q sub n g k => ?_
  unfold g2I at g
  split at g
  · rename_i i j
    exact ⟨i, j, rns2 n, k _ _ g (.int _)⟩
  · exact g.elim
theorem calld_min (hc : X.calm = true) : CallD X (.builtin "min") RShr (g2I fun i j => if j < i then j else i) := by
  refine calld_pure (call_min2 hc) fun Hs H ds vs P Q sub n g k => ?_
  unfold g2I at g
  split at g
  · rename_i i j
    exact ⟨i, j, rns2 n, k _ _ g (.int _)⟩
  · exact g.elim
/-! ### all, any of a list of bools -/
def blsOf : List D → Option (List Bool)
  | [] => some []
  | .bl b :: r => (blsOf r).map (b :: ·)
  | _ => none
theorem bls_rep {K : PySem.W.Frag} {Hs : Hp} : ∀ {xs : List D} {vs : List V} {bs : List Bool}, RepL K Hs xs vs → blsOf xs = some bs → vs = bs.map V.bl
  | _, _, _, .nil, h => by
    simp only [blsOf, Option.some.injEq] at h
    subst h
    rfl
  | _, _, _, .cons h r, e => by
    cases h with
    | bl b =>
      simp only [blsOf, Option.map_eq_some_iff] at e
      obtain ⟨ms, e1, rfl⟩ := e
      rw [bls_rep r e1]
      rfl
    | _ => simp [blsOf] at e
def gBls (f : List Bool → Bool) (ds : List D) (P : D → Prop) : Prop := match ds with
  | [.lst xs] => ∃ bs, blsOf xs = some bs ∧ P (.bl (f bs))
  | _ => False
theorem calld_all (hc : X.calm = true) : CallD X (.builtin "all") RShr (gBls fun bs => bs.all id) := by
  refine calld_pure (cr_all hc) fun Hs H ds vs P Q sub n g k => ?_
  unfold gBls at g
  split at g
  · obtain ⟨bs, e, p⟩ := g
    cases n with
    | cons n1 n2 =>
      cases n2
      cases n1 with
      | lst e1 r => exact ⟨_, bs, rfl, SqL.of (by rw [← bls_rep r e]; exact e1), k _ _ p (.bl _)⟩
  · exact g.elim
theorem calld_any (hc : X.calm = true) : CallD X (.builtin "any") RShr (gBls fun bs => bs.any id) := by
  refine calld_pure (cr_any hc) fun Hs H ds vs P Q sub n g k => ?_
  unfold gBls at g
  split at g
  · obtain ⟨bs, e, p⟩ := g
    cases n with
    | cons n1 n2 =>
      cases n2
      cases n1 with
      | lst e1 r => exact ⟨_, bs, rfl, SqL.of (by rw [← bls_rep r e]; exact e1), k _ _ p (.bl _)⟩
  · exact g.elim
/-! ### list(..), tuple(..) -/
theorem rep_chars {K : PySem.W.Frag} {Hs : Hp} : ∀ s : Txt, RepL K Hs (s.map fun c => D.str [c]) (s.map fun c => V.str (sV [c]))
  | [] => .nil
  | c :: r => .cons (.str [c]) (rep_chars r)
theorem signs_vals : ∀ (cs : List Nat) (its : List Value), its.length = cs.length → (∀ (j : Nat) v, its[j]? = some v → ∃ c u, cs[j]? = some c ∧ v = Value.str ⟨#[c]⟩ u) → Vals (cs.map fun c => V.str (sV [c])) its
  | [], [], _, _ => .nil
  | [], _ :: _, h, _ => by simp at h
  | _ :: _, [], h, _ => by simp at h
  | c :: cs, v :: its, h, k => by
    obtain ⟨c', u, h1, h2⟩ := k 0 v rfl
    cases h1
    exact .cons ⟨u, h2⟩ (signs_vals cs its (by simpa using h) fun j v' e => k (j + 1) v' (by simpa using e))
theorem call_listS (hc : X.calm = true) : CallR X (.type "list") (fun xs H Q => ∃ s : Txt, xs = [.str (sV s)] ∧ s.length ≤ sizeLine ∧ ∀ l, H l = none → Q (.ref l) (upd H l (.lst (s.map fun c => V.str (sV [c]))))) := by
  intro pins s σ H xs us Q I r h
  obtain ⟨z, rfl, hz, q⟩ := h
  obtain ⟨u, rfl, t, rfl⟩ := vals1 r
  refine call_list_str (I.ok.hd hc) (sV z) t (hn := by simpa [sV] using hz) fun h' tk acc' c' hk hS' hacc => ?_
  have hv : Vals (z.map fun c => V.str (sV [c])) acc'.toList := signs_vals z _ (by have := hacc.1; simpa [sV] using this) fun j v e => by
    obtain ⟨c, u, h1, h2⟩ := hacc.2 j v (by simpa using e)
    exact ⟨c, u, by simpa [sV] using h1, h2⟩
  exact ⟨.ref s.heap.objs.size, _, I.laid (t' := tk) hk (Nat.le_refl _) (show ObjOk X.prog X.w _ h' _ (.lst _) from ⟨by simpa using hz, acc'.toList, c', hv, by simpa using hS'⟩), rfl, q _ (I.hok.fresh (Nat.le_refl _))⟩
def gList (ds : List D) (P : Cont → Prop) : Prop := match ds with
  | [.lst xs] => P (.lst xs)
  | [.tup xs] => P (.lst xs)
  | [.str s] => s.length ≤ sizeLine ∧ P (.lst (s.map fun c => .str [c]))
  | [.scr ns] => P (.lst (ns.map .int))
  | _ => False
theorem rep_ints {K : PySem.W.Frag} {Hs : Hp} : ∀ ns : List Int, RepL K Hs (ns.map D.int) (ns.map V.int)
  | [] => .nil
  | c :: r => .cons (.int c) (rep_ints r)
theorem calld_list (hc : X.calm = true) : CallD X (.type "list") RFr gList := by
  refine ⟨⟨_, call_list_of.or (call_listS hc), fun Z σ Hs H env C ds vs P Q sr n g k => ?_⟩⟩
  cases n with
  | nil => exact g.elim
  | cons n n2 =>
    cases n2 with
    | cons _ _ => cases n <;> exact g.elim
    | nil =>
      have lay : ∀ {xs : List D} {ws : List V}, RepL X.K Hs xs ws → P (.lst xs) → ∀ l, H l = none → Q (.ref l) (upd H l (.lst ws)) := fun r p l hl =>
        k _ _ Hs _ p (Tr.layP hl _) (sr.layP hl _) (fr_lay sr hl ⟨_, rfl, r⟩)
      cases n with
      | lst e r => exact .inl ⟨_, _, rfl, .inl (SqL.of e), lay r g⟩
      | tup e r => exact .inl ⟨_, _, rfl, .inr (TupA.sq sr.fit.sub e), lay r g⟩
      | str s => exact .inr ⟨s, rfl, g.1, lay (rep_chars s) g.2⟩
      | scr e => exact .inl ⟨_, _, rfl, .inl e, lay (rep_ints _) g⟩
      | _ => exact g.elim
def gTuple (ds : List D) (P : D → Prop) : Prop := match ds with
  | [.lst xs] => P (.tup xs)
  | [.tup xs] => P (.tup xs)
  | _ => False
/-! ### text.join(list) -/
def txtsOf : List D → Option (List Txt)
  | [] => some []
  | .str b :: r => (txtsOf r).map (b :: ·)
  | _ => none
theorem txts_rep {K : PySem.W.Frag} {Hs : Hp} : ∀ {xs : List D} {vs : List V} {bs : List Txt}, RepL K Hs xs vs → txtsOf xs = some bs → vs = (bs.map sV).map V.str
  | _, _, _, .nil, h => by
    simp only [txtsOf, Option.some.injEq] at h
    subst h
    rfl
  | _, _, _, .cons h r, e => by
    cases h with
    | str b =>
      simp only [txtsOf, Option.map_eq_some_iff] at e
      obtain ⟨ms, e1, rfl⟩ := e
      rw [txts_rep r e1]
      rfl
    | _ => simp [txtsOf] at e
def joinT (s : Txt) : List Txt → Txt
  | [] => []
  | [p] => p
  | p :: q :: r => p ++ (s ++ joinT s (q :: r))
theorem join_txt (s : Txt) : ∀ ps : List Txt, Str.join (sV s) (ps.map sV) = sV (joinT s ps)
  | [] => rfl
  | [_] => rfl
  | p :: q :: r => by
    show sV p ++ sV s ++ Str.join (sV s) ((q :: r).map sV) = _
    rw [join_txt s (q :: r), sV_app, sV_app, List.append_assoc]
    rfl
def gJoin (s : Txt) (e : D) (P : D → Prop) : Prop := match e with
  | .lst xs => ∃ ps, txtsOf xs = some ps ∧ (ps.map (·.length)).sum + ps.length * s.length ≤ 16777216 ∧ P (.str (joinT s ps))
  | .tup xs => ∃ ps, txtsOf xs = some ps ∧ (ps.map (·.length)).sum + ps.length * s.length ≤ 16777216 ∧ P (.str (joinT s ps))
  | _ => False
/-- a method of a text with one argument -/
def mTx1 (g : Txt → D → (D → Prop) → Prop) (mo me : EM D) : EM D := fun E env C Q => mo E env C fun d env1 C1 => ∃ s, d = .str s ∧ me E env1 C1 fun e env2 C2 => g s (dr C2 e) fun x => Q x env2 C2
theorem lens_sV (ps : List Txt) : ((ps.map sV).map (·.length)).sum = (ps.map (·.length)).sum := by
  induction ps with
  | nil => rfl
  | cons p r ih => simp only [List.map_cons, List.sum_cons, ih, sV_len]
theorem d_join {o e : Expr} {apos pos : Pos} {mo me : EM D} (ho : DE X RPk o mo) (he : DE X RPk e me) (hs : starEach [e] X.env = [(false, eval e X.env)]) (hbase : attributeBase o "join" X.env (eval o X.env) = eval o X.env) (hline : (apos.endLine == pos.line) = true) :
    DE X RShr (.Call (.Attribute o "join" apos) [e] [] pos) (mTx1 gJoin mo me) := fun Z E hE => by
  refine ⟨fun pins s σ H Q I ⟨Hs, env, C, P, sr, q, k⟩ => (pe_join (ho Z E hE) (he Z E hE) hs hbase hline).run pins s σ H Q I ?_⟩
  refine ⟨Hs, env, C, _, sr, q, fun d env1 C1 v Hs1 H1 q1 t1 s1 r1 => ?_⟩
  obtain ⟨z, rfl, q1⟩ := q1
  have n := r1.now s1.fit
  cases n
  refine ⟨⟨_, rfl⟩, Hs1, env1, C1, _, s1, q1, fun f env2 C2 u Hs2 H2 q2 t2 s2 r2 => ?_⟩
  have n := r2.now s2.fit
  generalize dr C2 f = x at n q2
  have fin : ∀ {xs : List D} {ws : List V} {ps : List Txt}, RepL X.K Hs2 xs ws → txtsOf xs = some ps → ws = (ps.map sV).map V.str := fun r e => txts_rep r e
  cases n with
  | lst e1 r =>
    obtain ⟨ps, e2, hl, p⟩ := q2
    refine ⟨_, _, ps.map sV, rfl, rfl, .inl (SqL.of (by rw [← fin r e2]; exact e1)), by rw [lens_sV, List.length_map, sV_len]; exact hl, ?_⟩
    rw [show Txt.join (sV z) (ps.map sV) = Str.join (sV z) (ps.map sV) from TL.join_eq _ _, join_txt]
    exact k _ _ _ _ _ _ p (t1.trans t2) s2 (.str _)
  | tup e1 r =>
    obtain ⟨ps, e2, hl, p⟩ := q2
    refine ⟨_, _, ps.map sV, rfl, rfl, .inr (by rw [← fin r e2]; exact TupA.sq s2.fit.sub e1), by rw [lens_sV, List.length_map, sV_len]; exact hl, ?_⟩
    rw [show Txt.join (sV z) (ps.map sV) = Str.join (sV z) (ps.map sV) from TL.join_eq _ _, join_txt]
    exact k _ _ _ _ _ _ p (t1.trans t2) s2 (.str _)
  | _ => exact q2.elim
/-! ### products -/
def mulT (s : Txt) (n : Int) : Txt := (List.replicate n.toNat s).flatten
theorem repT_fold (s : Txt) : ∀ (k : Nat) (acc : Txt), List.foldl (fun x y => x ++ y) acc.toArray (List.replicate k s.toArray) = (acc ++ (List.replicate k s).flatten).toArray
  | 0, acc => by simp
  | k + 1, acc => by
    rw [List.replicate_succ, List.foldl_cons, List.append_toArray, repT_fold s k (acc ++ s), List.replicate_succ, List.flatten_cons, List.append_assoc]
theorem mulT_of (s : Txt) (n : Int) : Txt.mul (sV s) n = sV (mulT s n) := by
  unfold Txt.mul mulT
  by_cases h1 : n < 1
  · rw [if_pos h1, show n.toNat = 0 by omega]
    rfl
  · rw [if_neg h1]
    by_cases h2 : (n == 1 || (sV s).length == 0) = true
    · rw [if_pos h2]
      rcases Bool.or_eq_true_iff.mp h2 with h3 | h3
      · have : n = 1 := by simpa using h3
        subst this
        simp
      · have : s = [] := by simpa [sV_len] using h3
        subst this
        simp
    · rw [if_neg h2]
      have := repT_fold s n.toNat []
      rw [List.nil_append] at this
      show (⟨_⟩ : Str) = _
      unfold sV
      rw [this]
theorem op_mul_str : OpR X (binaryOp .Mult) (fun x y H Q => ∃ (s : Txt) (n : Int), x = .str (sV s) ∧ y = .int n ∧ -(2 ^ 63) ≤ n ∧ n < 2 ^ 63 ∧ s.length * n.toNat ≤ sizeLine ∧ Q (.str (sV (mulT s n))) H) := by
  intro pins s σ H x y v u Q I rx ry h
  obtain ⟨z, n, rfl, rfl, h1, h2, hz, q⟩ := h
  obtain ⟨t, rfl⟩ := rx
  obtain ⟨t', rfl⟩ := ry
  refine SB.mul ⟨?_, ?_, ?_⟩ fun t' k => ⟨.str (sV (mulT z n)), H, I.tok k, ⟨t', by rw [mulT_of]⟩, q⟩
  · rw [decide_eq_false (by omega), decide_eq_false (by omega)]; rfl
  · intro h3 _ h4
    rw [sV_len] at h4
    have h6 : (z.length : Int) * n ≤ 2 ^ 63 - 1 := by
      have e : (n.toNat : Int) = n := Int.toNat_of_nonneg (by omega)
      have h7 : ((z.length * n.toNat : Nat) : Int) ≤ (sizeLine : Nat) := by exact_mod_cast hz
      rw [Int.natCast_mul, e, sizeLine_eq] at h7
      omega
    have h8 : (z.length : Int) ≤ (2 ^ 63 - 1) / n := (Int.le_ediv_iff_mul_le (by omega)).mpr h6
    omega
  · intro h3 _
    rw [sV_len]
    exact decide_eq_false (Nat.not_lt.mpr hz)
def gMul (d e : D) (P : D → Prop) : Prop := match d, e with
  | .int i, .int j => MulOk i j ∧ P (.int (i * j))
  | .str s, .int n => (-(2 ^ 63) ≤ n ∧ n < 2 ^ 63 ∧ s.length * n.toNat ≤ sizeLine) ∧ P (.str (mulT s n))
  | .lst xs, .int n => (-(2 ^ 63) ≤ n ∧ n < 2 ^ 63 ∧ xs.length * n.toNat ≤ sizeLine) ∧ P (.lst (List.replicate n.toNat xs).flatten)
  | .tup xs, .int n => (xs ≠ [] ∧ 2 ≤ n ∧ n ≤ 1000 ∧ xs.length ≤ 1000) ∧ P (.tup (List.replicate n.toNat xs).flatten)
  | _, _ => False
theorem rep_flat {K : PySem.W.Frag} {Hs : Hp} {xs : List D} {vs : List V} (r : RepL K Hs xs vs) : ∀ k : Nat, RepL K Hs (List.replicate k xs).flatten (List.replicate k vs).flatten
  | 0 => .nil
  | k + 1 => by
    rw [List.replicate_succ, List.flatten_cons, List.replicate_succ, List.flatten_cons]
    exact r.append (rep_flat r k)
theorem opd_mulA : OpD X (binaryOp .Mult) RShr gMul := by
  refine ⟨_, op_mulX.or (op_mul_str.or (op_rep.or op_repT)), ?_⟩
  intro Z σ Hs H env C d e v u P Q sr n n' g k
  cases n with
  | int i => cases n' with
    | int j => exact .inl ⟨i, j, rfl, rfl, g.1, k _ _ Hs H g.2 Tr.refl sr (.int _)⟩
    | _ => exact False.elim g
  | str s => cases n' with
    | int j => exact .inr (.inl ⟨s, j, rfl, rfl, g.1.1, g.1.2.1, g.1.2.2, k _ _ Hs H g.2 Tr.refl sr (.str _)⟩)
    | _ => exact False.elim g
  | lst h r => cases n' with
    | int j => exact .inr (.inr (.inl ⟨_, j, _, rfl, rfl, h, g.1.1, g.1.2.1, by rw [← r.length]; exact g.1.2.2, fun p hp =>
        k _ _ _ _ g.2 (Tr.lay sr.fit hp _) (sr.lay hp _) (.lst upd_same ((rep_flat r _).same (same_upd (sr.fit.nothing hp).1)))⟩))
    | _ => exact False.elim g
  | tup h r => cases n' with
    | int j => exact .inr (.inr (.inr ⟨_, j, _, rfl, rfl, TupA.sq sr.fit.sub h, fun z => g.1.1 (by subst z; cases r; rfl), g.1.2.1, g.1.2.2.1, by rw [← r.length]; exact g.1.2.2.2, fun p hp =>
        k _ _ _ _ g.2 (Tr.lay sr.fit hp _) (sr.lay hp _) (.tup (.inl upd_same) ((rep_flat r _).same (same_upd (sr.fit.nothing hp).1)))⟩))
    | _ => exact False.elim g
  | _ => exact False.elim g
end
end L2.DL
/-! DLm: what is written: tables, lists, own or as cells; sources of draws. -/
namespace L2.DL
open PySem PySem.Spec PyProof.Rows
/-! ### tables -/
def putD (kvs : List (DK × D)) (k : DK) (d : D) : List (DK × D) :=
  if (kvs.any fun kv => decide (kv.1 = k)) = true then kvs.map (fun kv => if kv.1 = k then (kv.1, d) else kv) else kvs ++ [(k, d)]
def mergeD (kvs more : List (DK × D)) : List (DK × D) := more.foldl (fun acc kv => putD acc kv.1 kv.2) kvs
section
variable {K : PySem.W.Frag} {Hs H : Hp} {Z : Z0}
theorem RepKV.any {k : DK} : ∀ {kvs : List (DK × D)} {ws : List (Key × V)}, RepKV K Hs kvs ws → (ws.any fun kv => decide (kv.1 = kOf k)) = kvs.any fun kv => decide (kv.1 = k)
  | _, _, .nil => rfl
  | _, _, @RepKV.cons _ _ j d v ds vs h r => by
    rw [List.any_cons, List.any_cons, RepKV.any r]
    congr 1
    by_cases e : j = k
    · subst e; simp
    · rw [decide_eq_false e, decide_eq_false fun z => e (kOf_inj z)]
theorem RepKV.append : ∀ {ds es : List (DK × D)} {vs ws : List (Key × V)}, RepKV K H ds vs → RepKV K H es ws → RepKV K H (ds ++ es) (vs ++ ws)
  | _, _, _, _, .nil, s => s
  | _, _, _, _, .cons h r, s => .cons h (RepKV.append r s)
theorem RepKV.repl {k : DK} {d : D} {v : V} (q : Rep K Hs d v) : ∀ {kvs : List (DK × D)} {ws : List (Key × V)}, RepKV K Hs kvs ws →
    RepKV K Hs (kvs.map fun kv => if kv.1 = k then (kv.1, d) else kv) (ws.map fun kv => if kv.1 = kOf k then (kv.1, v) else kv)
  | _, _, .nil => .nil
  | _, _, @RepKV.cons _ _ j d' v' ds vs h r => by
    rw [List.map_cons, List.map_cons]
    by_cases e : j = k
    · subst e
      rw [if_pos rfl, if_pos rfl]
      exact .cons q (RepKV.repl q r)
    · rw [if_neg e, if_neg fun z => e (kOf_inj z)]
      exact .cons h (RepKV.repl q r)
theorem RepKV.put {k : DK} {d : D} {v : V} {kvs : List (DK × D)} {ws : List (Key × V)} (r : RepKV K Hs kvs ws) (q : Rep K Hs d v) : RepKV K Hs (putD kvs k d) (putK ws (kOf k) v) := by
  unfold putD putK
  rw [r.any]
  by_cases h : (kvs.any fun kv => decide (kv.1 = k)) = true
  · rw [if_pos h, if_pos h]; exact r.repl q
  · rw [if_neg h, if_neg h]; exact r.append (.cons q .nil)
theorem RepKV.merge {more : List (DK × D)} : ∀ {ws : List (Key × V)} {kvs : List (DK × D)} {us : List (Key × V)}, RepKV K Hs more ws → RepKV K Hs kvs us → RepKV K Hs (mergeD kvs more) (mergeK us ws) := by
  induction more with
  | nil => intro ws kvs us r q; cases r; exact q
  | cons p m ih => intro ws kvs us r q; cases r with
    | @cons k d v _ _ h t =>
      have := ih t (q.put (k := k) h)
      exact this
end
section
variable {X : Cx} {e o i : Expr} {es : List Expr} {pos p' : Pos} {K : PySem.W.Frag} {Z Z' : Z0}
/-! ### {k: v, ..} -/
def LPs (K : PySem.W.Frag) (Z : Z0) (m : DM (List (DK × D))) (σ : St) (H : Hp) (Q : List (V × V) → Hp → Prop) : Prop := ∃ Hs env C P, SR K Z σ Hs H env C ∧ m env C P ∧
  ∀ kvs env' C' ws Hs' H', P kvs env' C' → Tr Hs H C Hs' H' C' → SR K Z σ Hs' H' env' C' → RepKV K Hs' kvs ws → Q (ws.map fun kv => (kV kv.1, kv.2)) H'
def DPs (X : Cx) (pos : Pos) (ks : List (Option Expr)) (vs : List Expr) (m : EM (List (DK × D))) : Prop :=
  ∀ E, ∃ trs, PPs X pos ks vs trs ∧ ∀ Z, DX X Z E → ∀ σ H Q, LPs X.K Z (m E) σ H Q → tPairs trs σ H Q
theorem DE.all {α : Type} {R : RR α} {m : EM α} (h : DE X R e m) (E : EX) : PE X e (fun σ H Q => ∃ Z, DX X Z E ∧ LG X.K R Z (m E) σ H Q) :=
  ⟨fun pins s σ H Q I ⟨Z, hE, q⟩ => (h Z E hE).run pins s σ H Q I q⟩
def mPNil : EM (List (DK × D)) := fun _ env C Q => Q [] env C
def mPCons (mk mv : EM D) (ms : EM (List (DK × D))) : EM (List (DK × D)) := fun E env C Q => mk E env C fun d env1 C1 => mv E env1 C1 fun x env2 C2 => ms E env2 C2 fun r env3 C3 => ∃ k, dkOf d = some k ∧ Q ((k, x) :: r) env3 C3
theorem dps_nil : DPs X pos [] [] mPNil := fun E => ⟨[], pps_nil, fun Z hE σ H Q ⟨Hs, env, C, P, sr, q, k⟩ => k _ _ _ [] Hs H q Tr.refl sr .nil⟩
theorem dk_rep {K : PySem.W.Frag} {Hs : Hp} {d : D} {v : V} {k : DK} (n : Rep K Hs d v) (h : dkOf d = some k) : v = kV (kOf k) := by
  cases n <;> first | (simp [dkOf] at h; done) | (simp only [dkOf, Option.some.injEq] at h; subst h; rfl)
theorem dps_cons {k v : Expr} {ks : List (Option Expr)} {vs : List Expr} {mk mv : EM D} {ms : EM (List (DK × D))} (hk : DE X RShr k mk) (hv : DE X RShr v mv) (hr : DPs X pos ks vs ms) : DPs X pos (some k :: ks) (v :: vs) (mPCons mk mv ms) := fun E => by
  obtain ⟨trs, h, i⟩ := hr E
  refine ⟨_, pps_cons (hk.all E) (hv.all E) h, fun Z hE σ H Q ⟨Hs, env, C, P, sr, q, k⟩ => ?_⟩
  refine ⟨Z, hE, Hs, env, C, _, sr, q, fun d env1 C1 u Hs1 H1 q1 t1 s1 r1 => ?_⟩
  refine ⟨Z, hE, Hs1, env1, C1, _, s1, q1, fun x env2 C2 w Hs2 H2 q2 t2 s2 r2 => ?_⟩
  refine i Z hE σ H2 _ ⟨Hs2, env2, C2, _, s2, q2, fun kvs env3 C3 ws Hs3 H3 q3 t3 s3 r3 => ?_⟩
  obtain ⟨kk, e, q3⟩ := q3
  have hu := dk_rep r1 e
  subst hu
  exact k _ _ _ ((kOf kk, w) :: ws) _ _ q3 ((t1.trans t2).trans t3) s3 (.cons (r2.same t3.fr) r3)
theorem DX.prot {E : EX} {p : Addr} {o : HO} (z : Z.H p = none) (h : DX X Z E) : DX X (DL.prot Z p o) E := Takes.imp h fun _ _ _ _ ⟨Hs, env, C, x, r, q, e⟩ => ⟨Hs, env, C, x, r.unprot z, q, e⟩
def mDct (ms : EM (List (DK × D))) : EM Cont := fun E env C Q => ms E env C fun kvs env1 C1 => kvs.length ≤ 15 ∧ Q (.dct (mergeD [] kvs)) env1 C1
theorem d_dct {ks : List (Option Expr)} {vs : List Expr} {ms : EM (List (DK × D))} (h : DPs X pos ks vs ms) (hall : ks.all (·.isSome) = true) (hl : ks.length = vs.length) (h0 : ks ≠ []) (h15 : ks.length ≤ 15) : DE X RFr (.Dict ks vs pos) (mDct ms) := fun Z E hE => by
  obtain ⟨trs, hp, i⟩ := h E
  refine ⟨fun pins s σ H Q I ⟨Hs, env, C, P, sr, q, k⟩ => (pe_disp hp hall hl h0 h15).run pins s σ H Q I fun p hpn => ?_⟩
  obtain ⟨n1, n2⟩ := sr.fit.nothing hpn
  have zp : Z.H p = none := sr.bas.zfree hpn
  have no : ∀ (i : Nat) (c : Cont), env[i]? = some (Slot.own c) → σ[i]? ≠ some (some (V.ref p)) := fun i c e z => by
    obtain ⟨p', o, e1, e2, _⟩ := sr.slt.own i c e
    rw [e1] at z
    cases z
    rw [hpn] at e2
    cases e2
  refine i (DL.prot Z p (.dK [])) (hE.prot zp) σ _ _ ⟨Hs, env, C, _, (sr.layP hpn _).prot upd_same n1 n2 no, q, fun kvs env1 C1 ws Hs1 H1 q1 t1 s1 r1 => ?_⟩
  obtain ⟨b1, b2, b3⟩ := s1.bas.kp p (.dK []) upd_same (by simp [DL.prot])
  have b3 := b3 (by simp [DL.prot])
  have no1 : ∀ (i : Nat) (c : Cont), env1[i]? = some (Slot.own c) → σ[i]? ≠ some (some (V.ref p)) := fun i c e z => by
    obtain ⟨p', o, e1, e2, _, _, _, n3⟩ := s1.slt.own i c e
    rw [e1] at z
    cases z
    exact (prot_free n3).2 rfl
  have s2 := (SR.unprot zp s1).wrP (o' := .dK (mergeK [] ws)) b3 b2 zp no1
  refine ⟨b1, ws, rfl, by rw [← r1.length]; exact q1.1, ?_⟩
  refine k _ _ _ _ _ _ q1.2 ⟨t1.fr, fun a u e c => ?_⟩ s2 ⟨p, _, rfl, upd_same, ⟨_, rfl, r1.merge .nil⟩, b3, b2, zp, no1⟩
  have ha : a ≠ p := ne_of_none e hpn
  obtain ⟨k1, k2⟩ := t1.kp a u (by rw [upd_ne ha]; exact e) c
  exact ⟨by rw [upd_ne ha]; exact k1, k2⟩
/-! ### o[i] = v -/
theorem PSet.or {t t' : TSet} (h : PSet X t) (h' : PSet X t') : PSet X (fun o i v H Q => t o i v H Q ∨ t' o i v H Q) := by
  intro pins s σ H o i v ov iv u Q I ro ri rv q
  rcases q with q | q
  · exact h pins s σ H o i v ov iv u Q I ro ri rv q
  · exact h' pins s σ H o i v ov iv u Q I ro ri rv q
/-- o a cell -/
def gPutC (mo mi : EM D) : GM := fun d P env C => mo E0 env C fun o env1 C1 => mi E0 env1 C1 fun i env2 C2 => ∃ a, o = .cell a ∧ match C2 a with
  | some (.lst xs) => ∃ k j, i = .int k ∧ ixN xs.length k = some j ∧ P env2 (cput C2 a (.lst (xs.set j d)))
  | some (.dct kvs) => ∃ k, dkOf i = some k ∧ kvs.length < sizeLine ∧ P env2 (cput C2 a (.dct (putD kvs k d)))
  | _ => False
theorem dg_putC {mo mi : EM D} (hu : X.A.units + 1 < cLine) (ho : DE X RShr o mo) (hi : DE X RShr i mi)
    (ha : ∀ v, assign (.Subscript o i pos) X.env v = (do
      let ov ← holding [v] (eval o X.env)
      let iv ← holding [v, ov] (eval i X.env)
      standAt pos
      holding [v, ov, iv] (setItem ov iv v)
      release [v, ov, iv] [])) : DG X (.Subscript o i pos) (gPutC mo mi) := fun Z => by
  refine ⟨fun pins s σ H v u Q I r ⟨Hs, env, C, d, P, sr, rd, q, k⟩ => (pg_sub (ho Z E0 dx0) (hi Z E0 dx0) (PSet.or set_list (set_dict hu)) ha).run pins s σ H v u Q I r ?_⟩
  refine ⟨Hs, env, C, _, sr, q, fun d1 env1 C1 v1 Hs1 H1 q1 t1 s1 r1 => ?_⟩
  refine ⟨Hs1, env1, C1, _, s1, q1, fun d2 env2 C2 v2 Hs2 H2 q2 t2 s2 r2 => ?_⟩
  obtain ⟨a, rfl, q2⟩ := q2
  cases r1
  have rd2 := rd.same (t1.fr.trans t2.fr)
  cases hc : C2 a with
  | none => simp only [hc] at q2
  | some c =>
    simp only [hc] at q2
    obtain ⟨n, ob, hb, rc⟩ := s2.fit.cel a c hc
    cases c with
    | lst xs =>
      obtain ⟨kk, j, rfl, hj, p⟩ := q2
      obtain ⟨vs, rfl, rl⟩ := rc
      cases r2
      exact .inl ⟨_, vs, kk, j, rfl, rfl, hb, by rw [← rl.length]; exact hj, k _ _ _ _ _ (s2.wrC hc (cl' := .lst (xs.set j d)) ⟨_, rfl, rl.set j rd2⟩) p⟩
    | dct kvs =>
      obtain ⟨kk, e, hl, p⟩ := q2
      obtain ⟨ws, rfl, rl⟩ := rc
      have hv := dk_rep r2 e
      subst hv
      exact .inr ⟨_, _, rfl, DPut.k hb (by rw [← rl.length]; exact hl), k _ _ _ _ _ (s2.wrC hc (cl' := .dct (putD kvs kk d)) ⟨_, rfl, rl.put rd2⟩) p⟩
    | pur b => exact q2.elim
    | obj C fs => exact q2.elim
    | lck _ _ _ => exact q2.elim
    | ext _ => exact q2.elim
/-- o a name whose slot owns it -/
def gPutO (n : Nat) (mi : EM D) : GM := fun d P env C => (∃ c, env[n]? = some (.own c)) ∧ mi E0 env C fun i env1 C1 => match env1[n]? with
  | some (.own (.lst xs)) => ∃ k j, i = .int k ∧ ixN xs.length k = some j ∧ P (env1.set n (.own (.lst (xs.set j d)))) C1
  | some (.own (.dct kvs)) => ∃ k, dkOf i = some k ∧ kvs.length < sizeLine ∧ P (env1.set n (.own (.dct (putD kvs k d)))) C1
  | _ => False
theorem dg_putO {n : Nat} {mi : EM D} (hu : X.A.units + 1 < cLine) (ho : PE X o (tVar n)) (hi : DE X RShr i mi)
    (ha : ∀ v, assign (.Subscript o i pos) X.env v = (do
      let ov ← holding [v] (eval o X.env)
      let iv ← holding [v, ov] (eval i X.env)
      standAt pos
      holding [v, ov, iv] (setItem ov iv v)
      release [v, ov, iv] [])) : DG X (.Subscript o i pos) (gPutO n mi) := fun Z => by
  refine ⟨fun pins s σ H v u Q I r ⟨Hs, env, C, d, P, sr, rd, q, k⟩ => (pg_sub ho (hi Z E0 dx0) (PSet.or set_list (set_dict hu)) ha).run pins s σ H v u Q I r ?_⟩
  obtain ⟨⟨c0, e0⟩, q⟩ := q
  obtain ⟨p0, o0, x0, _⟩ := sr.slt.own n c0 e0
  refine ⟨_, x0, Hs, env, C, _, sr, q, fun d2 env2 C2 v2 Hs2 H2 q2 t2 s2 r2 => ?_⟩
  have rd2 := rd.same t2.fr
  split at q2
  · rename_i xs e2
    obtain ⟨kk, j, rfl, hj, p⟩ := q2
    obtain ⟨p1, o1, x1, hb, ⟨vs, rfl, rl⟩, _⟩ := s2.slt.own n _ e2
    rw [x0] at x1
    cases x1
    cases r2
    exact .inl ⟨_, vs, kk, j, rfl, rfl, hb, by rw [← rl.length]; exact hj, k _ _ _ _ _ (s2.wrO e2 x0 (c' := .lst (xs.set j d)) ⟨_, rfl, rl.set j rd2⟩) p⟩
  · rename_i kvs e2
    obtain ⟨kk, e, hl, p⟩ := q2
    obtain ⟨p1, o1, x1, hb, ⟨ws, rfl, rl⟩, _⟩ := s2.slt.own n _ e2
    rw [x0] at x1
    cases x1
    have hv := dk_rep r2 e
    subst hv
    exact .inr ⟨_, _, rfl, DPut.k hb (by rw [← rl.length]; exact hl), k _ _ _ _ _ (s2.wrO e2 x0 (c' := .dct (putD kvs kk d)) ⟨_, rfl, rl.put rd2⟩) p⟩
  · exact q2.elim
/-! ### name = a new source of draws -/
def asPur : Cont → Option Bool
  | .dct [(.inr [100, 105, 103, 105, 116, 115], .int _), (.inr [109, 105, 120, 101, 100], .int j)] => if 0 ≤ j ∧ j < 4294967296 then some true else none
  | .lst [.int _, .int j] => if 0 ≤ j ∧ j < 4294967296 then some false else none
  | _ => none
/-- a new thing becomes a cell -/
theorem SR.mkCell {σ : St} {Hs H : Hp} {env : DL.Env} {C : Cs} {p : Addr} {u : HO} {c : Cell} (r : SR K Z σ Hs H env C) (h : H p = some u) (n1 : Hs p = none) (n2 : C p = none) (z : Z.H p = none) (rc : RepC K Hs c u)
    (no : ∀ (i : Nat) (c : Cont), env[i]? = some (Slot.own c) → σ[i]? ≠ some (some (V.ref p))) : SR K Z σ Hs H env (cput C p c) := by
  refine ⟨⟨r.fit.sub, fun a c' e => ?_⟩, ⟨r.bas.fl, fun a u e c => ?_, r.bas.th⟩, r.slt.len, r.slt.shr, fun i c' e => ?_, r.slt.sep⟩
  · by_cases ha : a = p
    · subst ha
      rw [cput_same] at e
      cases e
      exact ⟨n1, u, h, rc⟩
    · rw [cput_ne ha] at e
      exact r.fit.cel a c' e
  · obtain ⟨k1, k2, k3⟩ := r.bas.kp a u e c
    exact ⟨k1, by rw [cput_ne (ne_of_none e z)]; exact k2, k3⟩
  · obtain ⟨q, o, e1, e2, r1, m1, m2, m3⟩ := r.slt.own i c' e
    have hq : q ≠ p := fun w => no i c' e (by rw [← w]; exact e1)
    exact ⟨q, o, e1, e2, r1, m1, by rw [cput_ne hq]; exact m2, m3⟩
theorem asPur_rep {Hs : Hp} {c : Cont} {u : HO} {b : Bool} (h : asPur c = some b) (r : RepO K Hs c u) : RepC K Hs (.pur b) u := by
  unfold asPur at h
  split at h
  · rename_i i j
    by_cases hj : 0 ≤ j ∧ j < 4294967296
    · rw [if_pos hj] at h
      cases h
      obtain ⟨ws, rfl, r⟩ := r
      cases r with
      | cons h1 r => cases r with
        | cons h2 r => cases r; cases h1; cases h2; exact ⟨i, j, hj.1, hj.2, rfl⟩
    · rw [if_neg hj] at h; cases h
  · rename_i i j
    by_cases hj : 0 ≤ j ∧ j < 4294967296
    · rw [if_pos hj] at h
      cases h
      obtain ⟨ws, rfl, r⟩ := r
      cases r with
      | cons h1 r => cases r with
        | cons h2 r => cases r; cases h1; cases h2; exact ⟨i, j, hj.1, hj.2, rfl⟩
    · rw [if_neg hj] at h; cases h
  · cases h
/-- a new cell at some place where there was none -/
def sSetPur (n : Nat) (m : EM Cont) : SM := fun E dE env C => m E env C fun c env1 C1 => ∃ b, asPur c = some b ∧ ∀ a, C1 a = none → dE.nx (env1.set n (.shr (.cell a))) (cput C1 a (.pur b))
theorem ds_setPur {n : Nat} {te e : Expr} {m : EM Cont} (h : DE X RFr e m) (hp : ∀ {t : TE}, PE X e t → PS X (.Assign [te] e pos) (tAsg t (gName n))) : DS X (.Assign [te] e pos) (sSetPur n m) := fun Z E hE => ⟨fun pins s σ H D I ⟨Hs, env, C, dE, sr, ok, q⟩ =>
  (hp (h Z E hE)).run pins s σ H D I ⟨Hs, env, C, _, sr, q, fun c env1 C1 v Hs1 H1 q1 t1 s1 ⟨p, u, e1, e2, r1, n1, n2, n3, no⟩ => by
    subst e1
    obtain ⟨b, hb, q1⟩ := q1
    have s2 := s1.mkCell e2 n1 n2 n3 (asPur_rep hb r1) no
    exact ok.1 _ _ _ _ _ (s2.setS (.cell p)) (q1 p n2)⟩⟩
end
end L2.DL
/-! DLn: globals, callees, sources of draws. -/
namespace L2.DL
open PySem PySem.Spec PyProof.Rows
section
variable {X : Cx} {e : Expr} {pos : Pos} {x : Str}
theorem d_strc {cs : Txt} {j pos} (h : x.cps.toList = cs) : DE X RShr (.Constant (.str x) j pos) (mC (.str cs)) := by
  subst h
  exact d_str
theorem d_type {n : String} (hg : Gl X x) (hm : X.mg x = none) (hv : bootBuiltins x = some (.type n)) (hn : x ≠ "__name__") (hd : (x == ("__debug__" : Str)) = false) : DE X RShr (.Name x pos) (mC (.ty n)) :=
  d_const (pe_bltn (v := .ty n) hg hm hv rfl hn hd) fun _ => .ty n
theorem _root_.L2.Room.u65 {k : Nat} {A : Around} (r : Room k A) : A.units + 65 < cLine := by have := r.un; omega
theorem _root_.L2.Room.u64 {k : Nat} {A : Around} (r : Room k A) : A.units + 64 < cLine := by have := r.un; omega
theorem _root_.L2.Room.u60 {k : Nat} {A : Around} (r : Room k A) : A.units + 60 < cLine := by have := r.un; omega
theorem _root_.L2.Room.u1 {k : Nat} {A : Around} (r : Room k A) : A.units + 1 < cLine := by have := r.un; omega
end
/-- a def that stands as a global, with its promise -/
structure Cle (P : Program) (w : World) (K : PySem.W.Frag) (mg : Str → Option Value) (base : Heap) (k : Nat) (x : Str) (sp : DSp) : Prop where
  ex : ∃ f fd ps, DFn P w K mg base k f fd ps sp ∧ mg x = some (.ref f) ∧ PySem.W.keepIn K (.ref f) = true ∧ Binds K fd ps []
theorem Cle.to {X : Cx} {j k : Nat} {x : Str} {sp : DSp} (c : Cle X.prog X.w X.K X.mg X.base k x sp) (hr : Room j X.A) (h : k ≤ j) : Callee X x sp [] := by
  obtain ⟨f, fd, ps, F, h1, h2, h3⟩ := c.ex
  exact ⟨k, f, fd, ps, [], [], F, hr.mono h, h1, h2, h3, .nil, fun _ => .nil⟩
/-! ### a source of draws is opened -/
def dgT : Txt := [100, 105, 103, 105, 116, 115]
def mxT : Txt := [109, 105, 120, 101, 100]
/-- what the source holds -/
def visP : Bool → Int → Int → Cell
  | true, i, j => .dct [(.inr dgT, .int i), (.inr mxT, .int j)]
  | false, i, j => .lst [.int i, .int j]
theorem cput_cput {C : Cs} {a : Addr} {x y : Cell} : cput (cput C a x) a y = cput C a y := by
  funext b
  unfold cput
  by_cases h : b = a
  · rw [if_pos h, if_pos h]
  · rw [if_neg h, if_neg h, if_neg h]
theorem cput_eta {C : Cs} {a : Addr} {x : Cell} (h : C a = some x) : cput C a x = C := by
  funext b
  unfold cput
  by_cases e : b = a
  · rw [if_pos e, e, h]
  · rw [if_neg e]
section
variable {K : PySem.W.Frag} {Z : Z0} {σ : St} {Hs H : Hp} {env : DL.Env} {C : Cs} {a : Addr} {b : Bool}
theorem purO_vis {u : HO} (h : PurO b u) : ∃ i j, 0 ≤ j ∧ j < 4294967296 ∧ RepC K Hs (visP b i j) u := by
  cases b with
  | true =>
    obtain ⟨i, j, h0, h1, rfl⟩ := h
    exact ⟨i, j, h0, h1, _, rfl, .cons (k := .inr dgT) (.int i) (.cons (k := .inr mxT) (.int j) .nil)⟩
  | false =>
    obtain ⟨i, j, h0, h1, rfl⟩ := h
    exact ⟨i, j, h0, h1, _, rfl, .cons (.int i) (.cons (.int j) .nil)⟩
theorem vis_purO {u : HO} {i j : Int} (h0 : 0 ≤ j) (h1 : j < 4294967296) (h : RepC K Hs (visP b i j) u) : PurO b u := by
  cases b with
  | true =>
    obtain ⟨ws, rfl, r⟩ := h
    cases r with
    | cons h2 r => cases r with
      | cons h3 r => cases r; cases h2; cases h3; exact ⟨i, j, h0, h1, rfl⟩
  | false =>
    obtain ⟨ws, rfl, r⟩ := h
    cases r with
    | cons h2 r => cases r with
      | cons h3 r => cases r; cases h2; cases h3; exact ⟨i, j, h0, h1, rfl⟩
/-- the same heap, another account of one cell -/
theorem Fits.acc {c : Cell} (f : Fits K Hs H C) (hc : (C a).isSome) (h : ∀ u, H a = some u → RepC K Hs c u) : Fits K Hs H (cput C a c) := by
  refine ⟨f.sub, fun x c' e => ?_⟩
  by_cases hx : x = a
  · subst hx
    rw [cput_same] at e
    cases e
    obtain ⟨c0, h0⟩ := Option.isSome_iff_exists.mp hc
    obtain ⟨n, u, hu, _⟩ := f.cel x c0 h0
    exact ⟨n, u, hu, h u hu⟩
  · rw [cput_ne hx] at e
    exact f.cel x c' e
theorem Bas.acc {c : Cell} (b : Bas Z Hs H C) (hc : (C a).isSome) : Bas Z Hs H (cput C a c) := by
  refine ⟨b.fl, fun x u e z => ?_, b.th⟩
  obtain ⟨k1, k2, k3⟩ := b.kp x u e z
  have hx : x ≠ a := fun w => by rw [← w, k2] at hc; cases hc
  exact ⟨k1, by rw [cput_ne hx]; exact k2, k3⟩
theorem SR.acc {c : Cell} (r : SR K Z σ Hs H env C) (hc : (C a).isSome) (h : ∀ u, H a = some u → RepC K Hs c u) : SR K Z σ Hs H env (cput C a c) := by
  refine ⟨r.fit.acc hc h, r.bas.acc hc, r.slt.len, r.slt.shr, fun i c' e => ?_, r.slt.sep⟩
  obtain ⟨p, o, e1, e2, r1, n1, n2, n3⟩ := r.slt.own i c' e
  have hp : p ≠ a := fun w => by rw [← w, n2] at hc; cases hc
  exact ⟨p, o, e1, e2, r1, n1, by rw [cput_ne hp]; exact n2, n3⟩
end
/-- the promise of a draw: below the size, the source stays a source -/
def spDraw (b : Bool) : DSp := fun ds C PR _ => ∃ a n, ds = [.cell a, .int n] ∧ C a = some (.pur b) ∧ 0 < n ∧ n < 2 ^ 62 ∧ ∀ k, 0 ≤ k → k < n → PR (.shr (.int k)) C
section
variable {K : PySem.W.Frag}
theorem dfn_draw {P : Program} {w : World} {mg : Str → Option Value} {base : Heap} {xn qual : Str} {st : Stmt} {f : Addr} {fd : FuncData} {N : List Str} {p1 p2 : Str} {k : Nat} {b : Bool} {m : SM} (F : Fun K xn qual st f fd) (S : FnScope N [p1, p2] (defScope st))
    (hb : ∀ (cdv : Value) (A : Around) (fr : List PySem.Env) (s : Shared) (H : Hp) (E : XK), Gd A → Room k (A.deeper (envOfC qual (defScope st) s.heap.objs.size f cdv)) → DSs (BodyX P w K mg base N qual st f cdv A fr s H E) (defBody st) m)
    (hl : 2 ≤ N.length) (hsp : ∀ (a : Addr) (n i j : Int) (C : Cs), 0 < n → n < 2 ^ 62 → 0 ≤ j → j < 4294967296 → C a = some (visP b i j) →
      m E0 { nx := fun _ _ => False, rt := fun r C' => ∃ k i' j', 0 ≤ k ∧ k < n ∧ 0 ≤ j' ∧ j' < 4294967296 ∧ r = .shr (.int k) ∧ C' = cput C a (visP b i' j') } (slots0 N.length [.cell a, .int n]) C) :
    DFn P w K mg base (k + 1) f fd [p1, p2] (spDraw b) := by
  refine fnG_of F S (fun vs H Q E h => ?_) fun cdv A fr s H vs Q E gd hr h => ?_
  · obtain ⟨Hs, C, ds, PR, PX, f1, r, ⟨a, n, rfl, _⟩, _⟩ := h
    rw [← r.length]
    rfl
  · obtain ⟨Hs, C, ds, PR, PX, f1, r, ⟨a, n, rfl, hc, n0, n1, kk⟩, k1, k2⟩ := h
    obtain ⟨n2, u, hu, rc⟩ := f1.cel a _ hc
    obtain ⟨i, j, j0, j1, rv⟩ := purO_vis (K := K) (Hs := Hs) rc
    have hs : (C a).isSome := by rw [hc]; rfl
    have sr := (start_rep f1 r (by rw [← r.length]; exact hl)).acc hs fun u' e => by rw [hu] at e; cases e; exact rv
    have hE : DX (BodyX P w K mg base N qual st f cdv A fr s H E) (zOf Hs H C) E0 := dx0
    refine ⟨_, hb cdv A fr s H E gd hr (zOf Hs H C) _ hE, Hs, slots0 N.length [.cell a, .int n], cput C a (visP b i j), _, sr, ⟨fun _ _ _ _ _ _ (z : False) => z.elim, fun rt v Hs' H' C' f' b' rr p => ?_, fun _ _ _ _ _ _ z => z, fun _ _ _ _ _ _ z => z⟩, hsp a n i j _ n0 n1 j0 j1 cput_same⟩
    obtain ⟨q, i', j', q0, q1, j0', j1', rfl, rfl⟩ := p
    rw [cput_cput] at f' b' rr
    have hs' : (cput C a (visP b i' j') a).isSome := by rw [cput_same]; rfl
    obtain ⟨n3, u3, hu3, rc3⟩ := f'.cel a _ cput_same
    have f2 := f'.acc (c := .pur b) hs' fun u' e => by rw [hu3] at e; cases e; exact vis_purO j0' j1' rc3
    have b2 := b'.acc (c := .pur b) hs'
    rw [cput_cput, cput_eta hc] at f2 b2
    exact k1 _ C v Hs' H' (kk q q0 q1) f2 b2 rr
end
end L2.DL
/-! DLp: how meanings are worked out, forward. -/
namespace L2.DL
open PySem PySem.Spec PyProof.Rows
section
variable {E : EX} {env : DL.Env} {C : Cs} {d e x : D} {c : Cont} {i j : Int} {n k : Nat} {s t : Txt} {xs ys ds : List D} {kvs : List (DK × D)} {a : Addr}
variable {Q : D → DL.Env → Cs → Prop} {QB : Bool → DL.Env → Cs → Prop} {QL : List D → DL.Env → Cs → Prop} {QC : Cont → DL.Env → Cs → Prop} {P : D → Prop} {PC : Cont → Prop} {ma mb mc : EM D} {ms : EM (List D)} {mt mt' : EM Bool}
theorem i_var (h : env[n]? = some (.shr d)) (q : Q d env C) : mVar n E env C Q := by unfold mVar; rw [h]; exact q
theorem i_varO (h : env[n]? = some (.own c)) (q : Q c.d (env.set n (.shr c.d)) C) : mVar n E env C Q := by unfold mVar; rw [h]; exact q
theorem i_peek (h : env[n]? = some (.shr d)) (q : Q d env C) : mPeek n E env C Q := by unfold mPeek; rw [h]; exact q
theorem i_peekO (h : env[n]? = some (.own c)) (q : Q c.d env C) : mPeek n E env C Q := by unfold mPeek; rw [h]; exact q
theorem i_c {α : Type} {y : α} {R : α → DL.Env → Cs → Prop} (q : R y env C) : mC y E env C R := q
theorem i_op {α : Type} {R : α → DL.Env → Cs → Prop} {g : D → D → (α → Prop) → Prop} (q : ma E env C fun d env1 C1 => mb E env1 C1 fun e env2 C2 => g (dr C2 d) (dr C2 e) fun x => R x env2 C2) : mOp g ma mb E env C R := q
theorem i_un {g : D → (D → Prop) → Prop} (q : ma E env C fun d env1 C1 => g (dr C1 d) fun x => Q x env1 C1) : mUn g ma E env C Q := q
theorem i_tst (q : ma E env C fun d env1 C1 => ∃ k, d = .bl k ∧ QB k env1 C1) : mTst ma E env C QB := q
theorem i_isb {b : Bool} {R : Bool → Prop} (q : R b) : ∃ k, D.bl b = .bl k ∧ R k := ⟨b, rfl, q⟩
theorem i_chain {g g' : D → D → (D → Prop) → Prop} (q : ma E env C fun d env1 C1 => mb E env1 C1 fun e env2 C2 => g (dr C2 d) (dr C2 e) fun x => ∃ k, x = .bl k ∧
  (if k = true then mc E env2 C2 fun f env3 C3 => g' (dr C3 e) (dr C3 f) fun y => Q y env3 C3 else Q (.bl false) env2 C2)) : mChain g g' ma mb mc E env C Q := q
theorem i_andT (q : mt E env C fun k env1 C1 => if k = true then mt' E env1 C1 QB else QB false env1 C1) : mAndT mt mt' E env C QB := q
theorem i_orT (q : mt E env C fun k env1 C1 => if k = true then QB true env1 C1 else mt' E env1 C1 QB) : mOrT mt mt' E env C QB := q
theorem i_notT (q : mt E env C fun k env1 C1 => QB (!k) env1 C1) : mNotT mt E env C QB := q
theorem i_andV (q : ma E env C fun x env1 C1 => ∃ k, x = .bl k ∧ if k = true then mb E env1 C1 Q else Q (.bl false) env1 C1) : mAndV ma mb E env C Q := q
theorem i_orV (q : ma E env C fun x env1 C1 => ∃ k, x = .bl k ∧ if k = true then Q (.bl true) env1 C1 else mb E env1 C1 Q) : mOrV ma mb E env C Q := q
theorem i_notV (q : ma E env C fun x env1 C1 => ∃ k, x = .bl k ∧ Q (.bl (!k)) env1 C1) : mNotV ma E env C Q := q
theorem i_ifE {α : Type} {R : α → DL.Env → Cs → Prop} {m m' : EM α} (q : mt E env C fun k env1 C1 => if k = true then m E env1 C1 R else m' E env1 C1 R) : mIf mt m m' E env C R := q
def Tru (d : D) (R : Bool → Prop) : Prop := match truD d with
  | some k => R k
  | none => False
theorem i_tru (q : ma E env C fun d env1 C1 => Tru (dr C1 d) fun k => QB k env1 C1) : mTru ma E env C QB := q
theorem t_bl {b : Bool} {R : Bool → Prop} (q : R b) : Tru (dr C (.bl b)) R := q
theorem t_int {R : Bool → Prop} (q : R (i != 0)) : Tru (dr C (.int i)) R := q
theorem t_lst {R : Bool → Prop} (q : R (!xs.isEmpty)) : Tru (dr C (.lst xs)) R := q
theorem t_tup {R : Bool → Prop} (q : R (!xs.isEmpty)) : Tru (dr C (.tup xs)) R := q
theorem t_non {R : Bool → Prop} (q : R false) : Tru (dr C .non) R := q
theorem i_map {α β : Type} {f : α → β} {m : EM α} {R : β → DL.Env → Cs → Prop} (q : m E env C fun y env1 C1 => R (f y) env1 C1) : mMap f m E env C R := q
theorem i_nil (q : QL [] env C) : mNil E env C QL := q
theorem i_cons (q : ma E env C fun d env1 C1 => ms E env1 C1 fun ds env2 C2 => QL (d :: ds) env2 C2) : mCons ma ms E env C QL := q
theorem i_lst (q : ms E env C fun ds env1 C1 => ds.length ≤ sizeLine ∧ QC (.lst ds) env1 C1) : mLst ms E env C QC := q
theorem i_tup (q : ms E env C fun ds env1 C1 => ds.length ≤ sizeLine ∧ Q (.tup ds) env1 C1) : mTup ms E env C Q := q
theorem i_callB {α : Type} {R : α → DL.Env → Cs → Prop} {g : List D → (α → Prop) → Prop} (q : ms E env C fun ds env1 C1 => g (ds.map (dr C1)) fun x => R x env1 C1) : mCallB g ms E env C R := q
theorem i_call {sp : DSp} {dfl : List D} (q : ms E env C fun ds env1 C1 => sp (ds ++ dfl) C1 (fun r C2 => Q r.tree env1 C2) fun x C2 => E x env1 C2) : mCall sp dfl ms E env C Q := q
theorem i_tx1 {g : Txt → D → (D → Prop) → Prop} (q : ma E env C fun d env1 C1 => ∃ s, d = .str s ∧ mb E env1 C1 fun e env2 C2 => g s (dr C2 e) fun x => Q x env2 C2) : mTx1 g ma mb E env C Q := q
theorem i_ist {R : Txt → Prop} (q : R s) : ∃ s', D.str s = .str s' ∧ R s' := ⟨s, rfl, q⟩
theorem i_ite {k : Bool} {A B : Prop} (ht : k = true → A) (hf : k = false → B) : if k = true then A else B := by
  cases k with
  | true => exact ht rfl
  | false => exact hf rfl
theorem l_size {P : Prop} (h : xs.length ≤ 16777216) (q : P) : xs.length ≤ sizeLine ∧ P := ⟨by rw [sizeLine_eq]; exact h, q⟩
theorem i_itT {A B : Prop} (q : A) : if true = true then A else B := q
theorem i_itNT {A B : Prop} (q : B) : if (!true) = true then A else B := q
theorem i_itNF {A B : Prop} (q : A) : if (!false) = true then A else B := q
theorem i_itF {A B : Prop} (q : B) : if false = true then A else B := q
/-! operators -/
theorem g_addI (q : P (.int (i + j))) : gAdd (dr C (.int i)) (dr C (.int j)) P := q
theorem g_addS (h : s.length + t.length ≤ sizeLine) (q : P (.str (s ++ t))) : gAdd (dr C (.str s)) (dr C (.str t)) P := ⟨h, q⟩
theorem g_I {K : Int → Int → Prop} {f : Int → Int → Int} (h : K i j) (q : P (.int (f i j))) : gI K f (dr C (.int i)) (dr C (.int j)) P := ⟨h, q⟩
theorem g_I0 {f : Int → Int → Int} (q : P (.int (f i j))) : gI0 f (dr C (.int i)) (dr C (.int j)) P := q
theorem g_mulI (h : MulOk i j) (q : P (.int (i * j))) : gMul (dr C (.int i)) (dr C (.int j)) P := ⟨h, q⟩
theorem g_neg (q : P (.int (-i))) : gNeg (dr C (.int i)) P := q
theorem g_ordI {fi : Int → Int → Bool} {fs : Txt → Txt → Bool} (q : P (.bl (fi i j))) : gOrd fi fs (dr C (.int i)) (dr C (.int j)) P := q
theorem g_ordS {fi : Int → Int → Bool} {fs : Txt → Txt → Bool} (q : P (.bl (fs s t))) : gOrd fi fs (dr C (.str s)) (dr C (.str t)) P := q
theorem g_neD (h : okD d = true) (h' : okD e = true) (hd : dr C d = d) (he : dr C e = e) (q : P (.bl (!eqv d e))) : gEq true (dr C d) (dr C e) P := by rw [hd, he]; exact ⟨.inr ⟨h, h'⟩, q⟩
theorem eqv_int : eqv (.int i) (.int j) = decide (i = j) := by
  unfold eqv
  simp only [toP, PyData.eqv]
  by_cases h : i = j
  · subst h; simp
  · rw [decide_eq_false h]; simpa using h
theorem eqv_str : eqv (.str s) (.str t) = decide (s = t) := by
  unfold eqv toP
  simp only [toP, PyData.eqv]
  by_cases h : s = t
  · subst h; simp
  · rw [decide_eq_false h]
    simp only [beq_eq_false_iff_ne, ne_eq]
    exact fun z => h (sV_inj z)
theorem g_eqI (q : P (.bl (decide (i = j)))) : gEq false (dr C (.int i)) (dr C (.int j)) P := ⟨.inl rfl, by rw [← eqv_int] at q; exact q⟩
theorem g_neI (q : P (.bl (!decide (i = j)))) : gEq true (dr C (.int i)) (dr C (.int j)) P := ⟨.inl rfl, by rw [← eqv_int] at q; exact q⟩
theorem g_eqS (q : P (.bl (decide (s = t)))) : gEq false (dr C (.str s)) (dr C (.str t)) P := ⟨.inl rfl, by rw [← eqv_str] at q; exact q⟩
theorem g_neS (q : P (.bl (!decide (s = t)))) : gEq true (dr C (.str s)) (dr C (.str t)) P := ⟨.inl rfl, by rw [← eqv_str] at q; exact q⟩
theorem g_inS {c : Nat} (q : P (.bl (decide (c ∈ t)))) : gIn false (dr C (.str [c])) (dr C (.str t)) P := ⟨c, rfl, q⟩
theorem g_ixL (h : atI xs i = some x) (q : P x) : gIx (dr C (.lst xs)) (dr C (.int i)) P := ⟨i, x, rfl, h, q⟩
theorem g_ixT (h : atI xs i = some x) (q : P x) : gIx (dr C (.tup xs)) (dr C (.int i)) P := ⟨i, x, rfl, h, q⟩
theorem g_ixS {c : Nat} (hl : s.length ≤ sizeLine) (h : atI s i = some c) (q : P (.str [c])) : gIx (dr C (.str s)) (dr C (.int i)) P := ⟨i, c, rfl, hl, h, q⟩
theorem g_ixR {ns : List Int} (h : atI ns i = some j) (q : P (.int j)) : gIx (dr C (.scr ns)) (dr C (.int i)) P := ⟨i, j, rfl, h, q⟩
theorem g_ixD {k : DK} (hk : dkOf e = some k) (he : dr C e = e) (h : look k kvs = some x) (q : P x) : gIx (dr C (.dct kvs)) (dr C e) P := by rw [he]; exact ⟨k, x, hk, h, q⟩
theorem g_ixCL (hc : C a = some (.lst xs)) (h : atI xs i = some x) (q : P x) : gIx (dr C (.cell a)) (dr C (.int i)) P := by
  rw [dr_cell, hc]; exact ⟨i, x, rfl, h, q⟩
theorem g_lenS (h : s.length ≤ sizeLine) (q : P (.int s.length)) : gLen ([D.str s].map (dr C)) P := ⟨h, q⟩
theorem g_lenL (q : P (.int xs.length)) : gLen ([D.lst xs].map (dr C)) P := q
theorem g_lenT (q : P (.int xs.length)) : gLen ([D.tup xs].map (dr C)) P := q
theorem g_lenR {ns : List Int} (q : P (.int ns.length)) : gLen ([D.scr ns].map (dr C)) P := q
theorem g_repr (hd : dr C d = d) (h : shOk d) (q : P (.str (shT d))) : gRepr ([d].map (dr C)) P := by
  show gRepr [dr C d] P
  rw [hd]
  exact ⟨h, q⟩
theorem g_all {bs : List Bool} {f : List Bool → Bool} (h : blsOf xs = some bs) (q : P (.bl (f bs))) : gBls f ([D.lst xs].map (dr C)) P := ⟨bs, h, q⟩
theorem g_2I {f : Int → Int → Int} (q : P (.int (f i j))) : g2I f ([D.int i, D.int j].map (dr C)) P := q
theorem g_listL (q : PC (.lst xs)) : gList ([D.lst xs].map (dr C)) PC := q
theorem g_listT (q : PC (.lst xs)) : gList ([D.tup xs].map (dr C)) PC := q
theorem g_tupL (q : P (.tup xs)) : gTuple ([D.lst xs].map (dr C)) P := q
theorem g_tupT (q : P (.tup xs)) : gTuple ([D.tup xs].map (dr C)) P := q
theorem g_joinL {ps : List Txt} (h : txtsOf xs = some ps) (hl : (ps.map (·.length)).sum + ps.length * s.length ≤ 16777216) (q : P (.str (joinT s ps))) : gJoin s (dr C (.lst xs)) P := ⟨ps, h, hl, q⟩
theorem g_cutL {lo hi : Option Int} (q : P (.lst (cutL xs lo hi))) : gCut (dr C (.lst xs)) lo hi P := q
theorem g_cutT {lo hi : Option Int} (q : P (.tup (cutL xs lo hi))) : gCut (dr C (.tup xs)) lo hi P := q
theorem i_cut {ml mh : EM (Option Int)} (q : ma E env C fun d env1 C1 => ml E env1 C1 fun lo env2 C2 => mh E env2 C2 fun hi env3 C3 => gCut (dr C3 d) lo hi fun x => Q x env3 C3) : mCut ma ml mh E env C Q := q
theorem i_part {R : Option Int → DL.Env → Cs → Prop} (q : ma E env C fun d env1 C1 => ∃ i, d = .int i ∧ R (some i) env1 C1) : mPart ma E env C R := q
theorem i_isi {R : Int → Prop} (q : R i) : ∃ i', D.int i = .int i' ∧ R i' := ⟨i, rfl, q⟩
theorem i_nop {R : Option Int → DL.Env → Cs → Prop} (q : R none env C) : mNoP E env C R := q
def Rng1 (ds : List D) (R : List D → Prop) : Prop := match ds with
  | [.int j] => (-(2 ^ 62) ≤ j ∧ j < 2 ^ 62) ∧ R (intsFrom 0 j.toNat)
  | _ => False
theorem i_rng1 (q : ms E env C fun ds env1 C1 => Rng1 ds fun l => QL l env1 C1) : mRng1 ms E env C QL := by
  unfold mRng1
  exact q
theorem r_rng1 {R : List D → Prop} (h : -(2 ^ 62) ≤ j ∧ j < 2 ^ 62) (q : R (intsFrom 0 j.toNat)) : Rng1 [.int j] R := ⟨h, q⟩
def Rng2 (ds : List D) (R : List D → Prop) : Prop := match ds with
  | [.int i, .int j] => (-(2 ^ 62) ≤ i ∧ i < 2 ^ 62 ∧ -(2 ^ 62) ≤ j ∧ j < 2 ^ 62) ∧ R (intsFrom i (j - i).toNat)
  | _ => False
theorem i_rng2 (q : ms E env C fun ds env1 C1 => Rng2 ds fun l => QL l env1 C1) : mRng2 ms E env C QL := by
  unfold mRng2
  exact q
theorem r_rng2 {R : List D → Prop} (h : -(2 ^ 62) ≤ i ∧ i < 2 ^ 62 ∧ -(2 ^ 62) ≤ j ∧ j < 2 ^ 62) (q : R (intsFrom i (j - i).toNat)) : Rng2 [.int i, .int j] R := ⟨h, q⟩
def IterO (d : D) (R : List D → Prop) : Prop := match iterD d with
  | some ds => R ds
  | none => False
theorem i_iter (q : ma E env C fun d env1 C1 => IterO d fun ds => QL ds env1 C1) : mIter ma E env C QL := q
theorem o_lst {R : List D → Prop} (q : R xs) : IterO (.lst xs) R := q
theorem o_tup {R : List D → Prop} (q : R xs) : IterO (.tup xs) R := q
theorem o_str {R : List D → Prop} (q : R (s.map fun c => .str [c])) : IterO (.str s) R := q
theorem o_scr {ns : List Int} {R : List D → Prop} (q : R (ns.map .int)) : IterO (.scr ns) R := q
theorem i_comp {vs : List Nat} {g : GM} {mi : EM (List D)} (q : mi E env C fun ds env1 C1 => noOwn env1 vs = true ∧ compL vs g mt ma (fun c C2 => QC c env1 C2) ds [] (wipeE env1 vs) C1) : mComp vs g mi mt ma E env C QC := q
end
/-! ### statements -/
section
variable {E : EX} {env : DL.Env} {C : Cs} {d : D} {n : Nat} {m m' : SM} {ma : EM D} {mf : EM Cont} {mt : EM Bool} {nx bk ct : DL.Env → Cs → Prop} {rt : Ret → Cs → Prop}
theorem j_next (q : nx env C) : sNext E ⟨nx, rt, bk, ct⟩ env C := q
theorem j_seq (q : m E ⟨fun env1 C1 => m' E ⟨nx, rt, bk, ct⟩ env1 C1, rt, bk, ct⟩ env C) : sSeq m m' E ⟨nx, rt, bk, ct⟩ env C := q
theorem j_set (q : ma E env C fun d env1 C1 => nx (env1.set n (.shr d)) C1) : sSet n ma E ⟨nx, rt, bk, ct⟩ env C := q
theorem j_setO (q : mf E env C fun d env1 C1 => nx (env1.set n (.own d)) C1) : sSetO n mf E ⟨nx, rt, bk, ct⟩ env C := q
theorem j_ret (q : ma E env C fun d _ C1 => rt (.shr d) C1) : sRet ma E ⟨nx, rt, bk, ct⟩ env C := q
theorem j_retF (q : mf E env C fun c _ C1 => rt (.frs c) C1) : sRetF mf E ⟨nx, rt, bk, ct⟩ env C := q
theorem j_retO (h : env[n]? = some (.shr d)) (q : rt (.shr d) C) : sRetO n E ⟨nx, rt, bk, ct⟩ env C := by unfold sRetO; rw [h]; exact q
theorem j_retOO {c : Cont} (h : env[n]? = some (.own c)) (q : rt (.frs c) C) : sRetO n E ⟨nx, rt, bk, ct⟩ env C := by unfold sRetO; rw [h]; exact q
theorem j_if (q : mt E env C fun k env1 C1 => if k = true then m E ⟨nx, rt, bk, ct⟩ env1 C1 else m' E ⟨nx, rt, bk, ct⟩ env1 C1) : sIf mt m m' E ⟨nx, rt, bk, ct⟩ env C := q
theorem j_drop (q : ma E env C fun _ env1 C1 => nx env1 C1) : sDrop ma E ⟨nx, rt, bk, ct⟩ env C := q
theorem j_asg {g : GM} (q : ma E env C fun d env1 C1 => g d nx env1 C1) : sAsg g ma E ⟨nx, rt, bk, ct⟩ env C := q
def Par2 (ds : List D) (R : D → D → Prop) : Prop := match ds with
  | [d, e] => R d e
  | _ => False
theorem p_par2 {e : D} {R : D → D → Prop} (q : R d e) : Par2 [d, e] R := q
theorem j_par {i j : Nat} {ms : EM (List D)} (q : ms E env C fun ds env1 C1 => Par2 ds fun d e => nx ((env1.set i (.shr d)).set j (.shr e)) C1) : sPar i j ms E ⟨nx, rt, bk, ct⟩ env C := q
theorem j_setPur (q : mf E env C fun c env1 C1 => ∃ b, asPur c = some b ∧ ∀ a, C1 a = none → nx (env1.set n (.shr (.cell a))) (cput C1 a (.pur b))) : sSetPur n mf E ⟨nx, rt, bk, ct⟩ env C := q
theorem j_for {g : GM} {mi : EM (List D)} (q : mi E env C fun ds env1 C1 => forL g m E ⟨nx, rt, bk, ct⟩ ds env1 C1) : sFor g mi m E ⟨nx, rt, bk, ct⟩ env C := q
theorem i_callF {sp : DSp} {dfl : List D} {ms : EM (List D)} {QC : Cont → DL.Env → Cs → Prop} (q : ms E env C fun ds env1 C1 => sp (ds ++ dfl) C1 (fun r C2 => match r with
  | .frs c => QC c env1 C2
  | .shr _ => False) fun x C2 => E x env1 C2) : mCallF sp dfl ms E env C QC := q
/-- a loop by an invariant -/
theorem forL_inv {g : GM} {ds : List D} (I : Nat → DL.Env → Cs → Prop) (h0 : I 0 env C)
    (step : ∀ (k : Nat) (d : D) (env : DL.Env) (C : Cs) (nx' : DL.Env → Cs → Prop), ds[k]? = some d → I k env C → (∀ env C, I (k + 1) env C → nx' env C) → g d (fun env1 C1 => m E ⟨nx', rt, nx, nx'⟩ env1 C1) env C)
    (fin : ∀ env C, I ds.length env C → nx env C) : forL g m E ⟨nx, rt, bk, ct⟩ ds env C := by
  suffices h : ∀ (es : List D) (k : Nat) (env : DL.Env) (C : Cs), ds.drop k = es → k ≤ ds.length → I k env C → forL g m E ⟨nx, rt, bk, ct⟩ es env C from h ds 0 env C rfl (Nat.zero_le _) h0
  intro es
  induction es with
  | nil =>
    intro k env C hk hl hI
    have : k = ds.length := by
      have := congrArg List.length hk
      simp at this
      omega
    subst this
    exact fin env C hI
  | cons d es ih =>
    intro k env C hk hl hI
    have hd : ds[k]? = some d := by
      have := congrArg (fun l => l[0]?) hk
      simpa using this
    have hk' : k < ds.length := (List.getElem?_eq_some_iff.mp hd).1
    have hk2 : ds.drop (k + 1) = es := by
      have := congrArg List.tail hk
      simpa using this
    exact step k d env C (forL g m E ⟨nx, rt, bk, ct⟩ es) hd hI fun env C hI' => ih (k + 1) env C hk2 hk' hI'
/-- a comprehension over draws -/
theorem comp_all {me : EM D} {i : Nat} {R : D → Prop} {Q : Cont → Cs → Prop} : ∀ (ds acc : List D), env[i]? = some .non → acc.length + ds.length ≤ sizeLine →
    (∀ d ∈ ds, ∀ Q' : D → DL.Env → Cs → Prop, (∀ y, R y → Q' y (env.set i (.shr d)) C) → me E0 (env.set i (.shr d)) C Q') →
    (∀ ys : List D, ys.length = ds.length → (∀ y ∈ ys, R y) → Q (.lst (acc ++ ys)) C) → compL [i] (gN i) (mC true) me Q ds acc env C
  | [], acc, _, _, _, q => by
    have := q [] rfl (fun _ h => by cases h)
    rw [List.append_nil] at this
    exact this
  | d :: ds, acc, hi, hl, he, q => by
    rw [List.length_cons] at hl
    refine ⟨?_, rfl, i_itT ?_⟩
    · show (env.set i (.shr d)).set i .non = env
      rw [List.set_set]
      exact List.ext_getElem? fun j => by
        by_cases e : i = j
        · subst e
          rw [List.getElem?_set_self (List.getElem?_eq_some_iff.mp hi).1, hi]
        · rw [List.getElem?_set_ne e]
    · refine he d List.mem_cons_self _ fun y hy => ⟨rfl, by omega, comp_all ds (acc ++ [y]) hi (by simp; omega) (fun x hx => he x (List.mem_cons_of_mem _ hx)) fun ys hl' hy' => ?_⟩
      have := q (y :: ys) (by simp [hl']) fun z hz => by
        rcases List.mem_cons.mp hz with rfl | hz
        · exact hy
        · exact hy' z hz
      simpa using this
end
/-- what a store into a cell wants -/
def PutC (o i d : D) (P : DL.Env → Cs → Prop) (env : DL.Env) (C : Cs) : Prop := ∃ a, o = .cell a ∧ match C a with
  | some (.lst xs) => ∃ k j, i = .int k ∧ ixN xs.length k = some j ∧ P env (cput C a (.lst (xs.set j d)))
  | some (.dct kvs) => ∃ k, dkOf i = some k ∧ kvs.length < sizeLine ∧ P env (cput C a (.dct (putD kvs k d)))
  | _ => False
section
variable {env : DL.Env} {C : Cs} {d i : D} {a : Addr} {P : DL.Env → Cs → Prop}
theorem j_gN {n : Nat} (q : P (env.set n (.shr d)) C) : gN n d P env C := q
theorem j_putC {mo mi : EM D} (q : mo E0 env C fun o env1 C1 => mi E0 env1 C1 fun i env2 C2 => PutC o i d P env2 C2) : gPutC mo mi d P env C := q
theorem g_putCL {xs : List D} {k : Int} {j : Nat} (hc : C a = some (.lst xs)) (hj : ixN xs.length k = some j) (q : P env (cput C a (.lst (xs.set j d)))) : PutC (.cell a) (.int k) d P env C :=
  ⟨a, rfl, by rw [hc]; exact ⟨k, j, rfl, hj, q⟩⟩
end
/-- the item at a place -/
theorem atI_lt {α : Type} {xs : List α} {i : Nat} (h : i < xs.length) : atI xs (i : Int) = some xs[i] := by
  unfold atI
  have e : ixN xs.length (i : Int) = some i := by
    unfold ixN
    simp [h]
  rw [e]
  exact List.getElem?_eq_getElem h
theorem atI_int {α : Type} {xs : List α} {i : Int} (h0 : 0 ≤ i) (h1 : i < xs.length) : ∃ x, x ∈ xs ∧ atI xs i = some x := by
  obtain ⟨n, rfl⟩ := Int.eq_ofNat_of_zero_le h0
  have h : n < xs.length := by omega
  exact ⟨xs[n], List.getElem_mem h, atI_lt h⟩
/-! ### sizes of ints -/
theorem bits_lt {i : Int} {n : Nat} (h : i.natAbs < 2 ^ n) : Builtin.Int.intBits i ≤ n := by
  unfold Builtin.Int.intBits
  by_cases e : i = 0
  · subst e; simp
  · have : ¬ (i == 0) = true := by simpa using e
    rw [if_neg this]
    exact (Nat.log2_lt (by omega)).mpr h
theorem lt_bits {i : Int} {n : Nat} (h : Builtin.Int.intBits i ≤ n) : i.natAbs < 2 ^ n := by
  unfold Builtin.Int.intBits at h
  by_cases e : i = 0
  · subst e; exact Nat.pos_of_ne_zero (by simp)
  · have : ¬ (i == 0) = true := by simpa using e
    rw [if_neg this] at h
    exact (Nat.log2_lt (by omega)).mp (by omega)
theorem mulOk_bits {i j : Int} {n m : Nat} (h : i.natAbs < 2 ^ n) (h' : j.natAbs < 2 ^ m) (s : n + m ≤ 134217728) : MulOk i j := by
  have h1 := bits_lt h
  have h2 := bits_lt h'
  show (Builtin.Int.intBits i : Int) + (Builtin.Int.intBits j : Int) ≤ 134217728
  omega
theorem powOk_bits {i : Int} {k n : Nat} (h : i.natAbs < 2 ^ n) (s : n * k ≤ 134217728) : PowOk i (k : Nat) := by
  have h1 := bits_lt h
  refine ⟨by omega, ?_⟩
  have h2 : Builtin.Int.intBits i * k ≤ n * k := Nat.mul_le_mul_right k h1
  have h3 : ((Builtin.Int.intBits i * k : Nat) : Int) ≤ 134217728 := by omega
  rw [Int.natCast_mul] at h3
  exact h3
theorem divOk_of {i n : Int} (h : 0 < n) (h' : n < 2 ^ 62) : DivOk i n := ⟨h, by
  have : n.natAbs < 2 ^ 62 := by omega
  have := (Nat.log2_lt (n := n.natAbs) (k := 62) (by omega)).mpr this
  omega⟩
/-- ints of the machine's size -/
theorem mulOk_small {i j : Int} (h : i.natAbs < 2 ^ 64) (h' : j.natAbs < 2 ^ 64) : MulOk i j := mulOk_bits h h' (by decide)
theorem powOk_small {i : Int} {k : Nat} (h : i.natAbs < 2 ^ 64) (hk : k ≤ 1000) : PowOk i (k : Nat) := powOk_bits h (by omega)
theorem bits_sum {i j : Int} {n : Nat} (h : i.natAbs < 2 ^ n) (h' : j.natAbs < 2 ^ n) : (i + j).natAbs < 2 ^ (n + 1) := by
  have : (i + j).natAbs ≤ i.natAbs + j.natAbs := Int.natAbs_add_le i j
  rw [Nat.pow_succ]
  omega
theorem bits_prod {i j : Int} {n m : Nat} (h : i.natAbs < 2 ^ n) (h' : j.natAbs < 2 ^ m) : (i * j).natAbs < 2 ^ (n + m) := by
  rw [Int.natAbs_mul, Nat.pow_add]
  exact Nat.mul_lt_mul'' h h'
end L2.DL
/-! DLq: plain facts on trees: what may be compared, what may be shown. -/
namespace L2.DL
open PySem PySem.Spec PyProof.Rows
/-! ### shown -/
/-- a tree that may be shown, by a look -/
def shB (d : D) : Bool := isR d && ((toP d).showable && (decide ((toP d).depth ≤ 40) && decide ((toP d).shown.length ≤ sizeLine)))
end L2.DL
/-! DLw: from a law's promise over trees to the linked statement. -/
namespace L2.DL
open PySem PySem.Spec PyProof.Rows
theorem callerA_gd : Gd callerA := rfl
/-- a law's promise, at the script alone -/
def LawSp (sp : DSp) (ns : List Int) : Prop := sp [.scr ns] (fun _ => none) (fun r _ => r = .shr (.bl true)) fun _ _ => False
section
variable {P : Program} {w : World} {K : PySem.W.Frag} {mg mb : Str → Option Value} {k : Nat} {fa a : Addr} {fd : FuncData} {x : Str} {sp : DSp} {t : Shared} {vs : List Value} {ns : List Int}
theorem lift_law {H : Hp} (h : LawSp sp ns) (hq : SqL K H a (ns.map V.int)) : lift K sp [.ref a] H (fun v _ => v = .bl true) fun _ _ _ => False :=
  ⟨H, fun _ => none, [.scr ns], _, _, ⟨Same.refl _, fun _ _ z => by cases z⟩, .cons (.scr hq) .nil, h, fun r C' v Hs' H' z _ _ rr => by
    subst z
    cases rr
    rfl, fun _ _ _ _ _ _ z _ _ _ => z⟩
/-- one heap that tells of nothing but the script -/
theorem run_at {H : Hp} (fz : ∀ b u, H b = some u → b = a ∧ ∃ o xs, u = .frz o (.lst xs)) (hq : SqL K H a (ns.map V.int)) (hh : HOk P w H t.heap) (out : H a ≠ none → K.lookup a = none)
    (kx : K.In t.heap) (gl : t.heap.Ns mainGlobals mg) (bn : t.heap.Ns builtinsNs mb) (bt : ∀ y : Str, y ≠ "__name__" → mb y = bootBuiltins y) (nl : t.heap.NoLimit) (gs : t.gens = #[]) (sm : ∃ m, t.heap.Ns sysModules m)
    (ob : t.heap.get? a = some { cls := .type "list", data := .seq vs.toArray }) (rm : Room k callerA)
    (pr : ∀ base : Heap, K.In base → base.Ns mainGlobals mg → (∃ o, base.get? sysModules = some o) → DFn P w K mg base k fa fd [x] sp) (bd : ∀ (s : Shared) (u : Value), BindsTo s fd ⟨[u], []⟩ [(x, u)]) (me : LawSp sp ns) :
    codeAny (model P w) callerA (.call (.ref fa) ⟨[.ref a], []⟩) (fun r t' => r = .ok (.ret (.bool true)) ∧ OldK t.heap t'.heap ∧ t'.os = t.os ∧ AllBare t'.gens) t := by
  -- what is not the script stays to be seen
  have seen : ∀ {b : Addr} {o : Obj}, t.heap.get? b = some o → b ≠ a → (hidT t.heap H).get? b = some o := fun {b o} e n => hidT_get e (by
    cases z : H b with
    | none => rfl
    | some u => exact absurd (fz b u z).1 n)
  have tab : ∀ {b : Addr} {m : Str → Option Value}, t.heap.Ns b m → (hidT t.heap H).Ns b m := fun {b m} ⟨o, es, ep, e, d, r⟩ => ⟨o, es, ep, seen e (fun z => by
    subst z
    have e2 := e.symm.trans ob
    cases e2
    cases d), d, r⟩
  have kin : K.In (hidT t.heap H) := fun b o e => by
    cases z : H b with
    | none => exact hidT_get (kx b o e) z
    | some u =>
      obtain ⟨rfl, _⟩ := fz b u z
      have := out (by rw [z]; intro y; cases y)
      rw [e] at this
      cases this
  have md : Mod K mg (hidT t.heap H) := ⟨kin, tab gl, ⟨mb, tab bn, bt⟩, nl.elim fun mc h => ⟨mc, tab h.1, h.2⟩⟩
  have ev : Env0 P w K mg (hidT t.heap H) callerA [] t H := ⟨rfl, md, fun b o e => of_hidT e, Nat.le_of_eq (hidT_size _ _), trivial, fun b hb => (List.not_mem_nil hb).elim, hh, .of_eq gs⟩
  have ms : ∃ o, (hidT t.heap H).get? sysModules = some o := by
    obtain ⟨m, h⟩ := sm
    obtain ⟨o, es, ep, e, _⟩ := tab h
    exact ⟨o, e⟩
  have go := (pr _ kin (tab gl) ms).run callerA [] t H ⟨[.ref a], []⟩ [.ref a] [.ref a] (fun v _ => v = .bl true) (fun _ _ _ => False) callerA_gd rm ev (bd t (.ref a)) (.cons rfl .nil) (lift_law me hq)
  refine codeAny_mono go fun r t' h => ?_
  rcases r with e | fl
  · obtain ⟨_, _, _, _, _, _, _, _, _, _, _, _, z⟩ := h
    exact z.elim
  · rcases fl with _ | _ | _ | u
    · cases h
    · cases h
    · cases h
    · obtain ⟨v, H', o1, o2, un, ok2, rv, hv⟩ := h
      have hv' : v = .bl true := hv
      subst hv'
      have hu : u = Value.bool true := rv
      subst hu
      refine ⟨rfl, OldK.of_keep fun b o e => ?_, o1, o2⟩
      cases z : H b with
      | none => exact un.keep b o e z (fun y => (List.not_mem_nil y).elim) (by simp)
      | some u =>
        obtain ⟨_, ob', xs, rfl⟩ := fz b u z
        have i1 := (hh b _ z).1
        have i2 := (ok2 b _ (un.frzs b ob' _ z)).1
        exact i2.trans (i1.symm.trans e)
theorem law_runG (kx : K.In t.heap) (gl : t.heap.Ns mainGlobals mg) (bn : t.heap.Ns builtinsNs mb) (bt : ∀ y : Str, y ≠ "__name__" → mb y = bootBuiltins y) (nl : t.heap.NoLimit) (gs : t.gens = #[]) (sm : ∃ m, t.heap.Ns sysModules m)
    (ob : t.heap.get? a = some { cls := .type "list", data := .seq vs.toArray }) (ii : IntsAre vs ns) (ln : ns.length ≤ sizeLine) (rm : Room k callerA)
    (pr : ∀ base : Heap, K.In base → base.Ns mainGlobals mg → (∃ o, base.get? sysModules = some o) → DFn P w K mg base k fa fd [x] sp) (bd : ∀ (s : Shared) (u : Value), BindsTo s fd ⟨[u], []⟩ [(x, u)]) (me : LawSp sp ns) :
    codeAny (model P w) callerA (.call (.ref fa) ⟨[.ref a], []⟩) (fun r t' => r = .ok (.ret (.bool true)) ∧ OldK t.heap t'.heap ∧ t'.os = t.os ∧ AllBare t'.gens) t := by
  have rv : Vals (ns.map V.int) vs := vals_ints ii
  cases hk : K.lookup a with
  | some o =>
    have e : some o = _ := (kx a o hk).symm.trans ob
    cases e
    refine run_at (H := fun _ => none) (fun b u z => by cases z) (.inr ⟨_, vs.toArray, _, hk, rfl, rfl, rfl, ?_, by simpa using rv⟩) (fun b u z => by cases z) (fun z => absurd rfl z) kx gl bn bt nl gs sm ob rm pr bd me
    rw [List.size_toArray, ii.length]
    exact ln
  | none =>
    have at_a : ∀ {b : Addr} {u : HO}, (if b = a then some (HO.frz { cls := .type "list", data := .seq vs.toArray } (.lst (ns.map V.int))) else none) = some u → b = a ∧ u = .frz { cls := .type "list", data := .seq vs.toArray } (.lst (ns.map V.int)) := fun {b u} z => by
      by_cases hb : b = a
      · rw [if_pos hb] at z; exact ⟨hb, (Option.some.inj z).symm⟩
      · rw [if_neg hb] at z; cases z
    refine run_at (H := fun b => if b = a then some (.frz { cls := .type "list", data := .seq vs.toArray } (.lst (ns.map V.int))) else none) (fun b u z => ⟨(at_a z).1, _, _, (at_a z).2⟩) (.inl (.inr ⟨_, if_pos rfl⟩)) (fun b u z => ?_) (fun _ => hk) kx gl bn bt nl gs sm ob rm pr bd me
    obtain ⟨rfl, rfl⟩ := at_a z
    exact ⟨ob, by rw [List.length_map]; exact ln, vs, _, rv, ob⟩
end
/-- the goal that the head leaves -/
theorem walkG {l : PySem.W.OpenLaw} {k : Nat} {q : Program} {loose : List Str} {XP : (Str → Option Value) → Heap → Prop} {YP : World → Heap → Prop} {d : DefRec} {K : Params → PySem.W.Frag} {sp : DSp} {x : Str}
    (hn : l.most = some 63) (hdf : d.params.defaults = []) (rm : Room k callerA) (imp : importsNone q = true) (hY : ∀ (w : World) (h : Heap), YP w h → (K w.params).In h)
    (F : ∀ (w : World) (mg : Str → Option Value) (fa : Addr) (h : Heap), (K w.params).In h → h.Ns mainGlobals mg → mg d.name = some (.ref fa) →
      ∃ fd : FuncData, (∀ (s : Shared) (u : Value), BindsTo s fd ⟨[u], []⟩ [(x, u)]) ∧
        ∀ base : Heap, (K w.params).In base → base.Ns mainGlobals mg → (∃ o, base.get? sysModules = some o) → DFn l.prog w (K w.params) mg base k fa fd [x] sp)
    (me : ∀ ns : List Int, ns.length ≤ 63 → (∀ z ∈ ns, Builtin.Int.intBits z ≤ 1048576) → LawSp sp ns) : PySem.W.WalkO q loose XP YP l.row.toRowW d [] (fun f vs => PySem.call f vs) :=
  Att.attach_callB hn hdf fun w s0 s1 mg mb fa o pm cd doc a vs ns G Y ho hd hcd hmg hobj hints hlen hbits hg => by
    have kx := hY w _ Y
    obtain ⟨fd, bd, pr⟩ := F w mg fa _ kx G.T.g hmg
    obtain ⟨mm, hm, _⟩ := (G.T.seer imp).mods
    exact law_runG kx G.T.g G.T.b G.T.builtins G.T.nolimit hg ⟨mm, hm⟩ hobj hints (Nat.le_trans hlen (by rw [sizeLine_eq]; decide)) rm pr bd (me ns hlen hbits)
end L2.DL
/-! DLr: what the laws' helpers are promised, plain facts for them. -/
namespace L2.DL
open PySem PySem.Spec PyProof.Rows
def spPurse (b : Bool) : DSp := fun ds C PR _ => ∃ (ns : List Int) (i : Nat), ds = [.scr ns, .int i] ∧ ns.length ≤ 63 ∧ i ≤ 64 ∧ (∀ n ∈ ns, Builtin.Int.intBits n ≤ 1048576) ∧ ∀ x y, 0 ≤ y → y < 4294967296 → PR (.frs (match visP b x y with | .dct kvs => .dct kvs | .lst xs => .lst xs | _ => .lst [])) C
def spChoose (b : Bool) : DSp := fun ds C PR _ => ∃ a x xs, ds = [.cell a, x] ∧ C a = some (.pur b) ∧ (x = .lst xs ∨ x = .tup xs ∨ ∃ s : Txt, x = .str s ∧ xs = s.map fun c => .str [c]) ∧ xs ≠ [] ∧ xs.length ≤ 16777216 ∧ ∀ d ∈ xs, PR (.shr d) C
/-- texts of one sign -/
theorem txts_signs {s : Txt} : ∀ {ys : List D}, (∀ y ∈ ys, ∃ c ∈ s, y = .str [c]) → ∃ cs : Txt, txtsOf ys = some (cs.map fun c => [c]) ∧ cs.length = ys.length ∧ ∀ c ∈ cs, c ∈ s
  | [], _ => ⟨[], rfl, rfl, fun _ h => by cases h⟩
  | y :: ys, h => by
    obtain ⟨c, hc, rfl⟩ := h y List.mem_cons_self
    obtain ⟨cs, h1, h2, h3⟩ := txts_signs fun z hz => h z (List.mem_cons_of_mem _ hz)
    refine ⟨c :: cs, by simp [txtsOf, h1], by simp [h2], fun z hz => ?_⟩
    rcases List.mem_cons.mp hz with rfl | hz
    · exact hc
    · exact h3 z hz
theorem join_signs : ∀ cs : Txt, joinT [] (cs.map fun c => [c]) = cs
  | [] => rfl
  | [_] => rfl
  | c :: d :: r => by
    show [c] ++ ([] ++ joinT [] ((d :: r).map fun c => [c])) = _
    rw [join_signs (d :: r)]
    rfl
theorem lens_signs (cs : Txt) : ((cs.map fun c => [c]).map (·.length)).sum = cs.length := by
  induction cs with
  | nil => rfl
  | cons c r ih => simp only [List.map_cons, List.sum_cons, ih, List.length_cons, List.length_nil]; omega
/-! ### words -/
/-! ### the law's words -/
/-! ### the law's look at a thing -/
theorem range_get {n k : Nat} {d : D} (h : (intsFrom 0 n)[k]? = some d) : d = .int (k : Nat) ∧ k < n := by
  rw [intsFrom_get] at h
  by_cases e : k < n
  · rw [if_pos e] at h
    cases h
    exact ⟨by rw [Int.zero_add], e⟩
  · rw [if_neg e] at h; cases h
end L2.DL
/-! DLs: append, is None, name += e, methods of texts, calls whose result may be new. -/
namespace L2.DL
open PySem PySem.Spec PyProof.Rows
section
variable {X : Cx} {o e : Expr} {es : List Expr} {apos cpos pos : Pos} {st : Stmt} {K : PySem.W.Frag} {Z : Z0}
/-! ### xs.append(e) -/
def sApp (n : Nat) (me : EM D) : SM := fun E dE env C => (∃ xs, env[n]? = some (.own (.lst xs))) ∧ me E env C fun d env1 C1 => match env1[n]? with
  | some (.own (.lst xs)) => xs.length < sizeLine ∧ dE.nx (env1.set n (.own (.lst (xs ++ [d])))) C1
  | _ => False
theorem ds_app {n : Nat} {me : EM D} (ho : PE X o (tVar n)) (he : DE X RShr e me) (hs : swapsWith (.Call (.Attribute o "append" apos) [e] [] cpos) none pos.line X.env = pure false) (hb : attributeBase o "append" X.env (eval o X.env) = eval o X.env)
    (hst : starEach [e] X.env = (false, eval e X.env) :: starEach [] X.env)
    (hf : ((backTo cpos (starEach [e] X.env)).all (fun x => !x.1) && (backToKw cpos (keywordEach [] X.env)).all (fun x => x.1.isSome) && decide (([e] : List Expr).length + ([] : List Keyword).length + (if ([] : List Keyword).isEmpty then 0 else 1) < 30)) = true) (hline : (apos.endLine == cpos.line) = true) :
    DS X (.Expr (.Call (.Attribute o "append" apos) [e] [] cpos) pos) (sApp n me) := fun Z E hE => ⟨fun pins s σ H D I ⟨Hs, env, C, dE, sr, ok, ⟨xs, e0⟩, q⟩ => by
  refine (ps_expr (pe_bm PySem.F.plainAttrs_list PySem.F.slot_list_append PySem.F.type_list_append mt_append ho (pa_cons (he Z E hE) pa_nil hst) hb hf hline hst rfl) hs).run pins s σ H D I ?_
  obtain ⟨p0, o0, x0, h0, ⟨vs0, rfl, r0⟩, _⟩ := sr.slt.own n _ e0
  refine ⟨_, x0, .inl ⟨rfl, _, SqL.of h0⟩, Hs, env, C, _, sr, q, fun d env1 C1 v Hs1 H1 q1 t1 s1 r1 => ?_⟩
  split at q1
  · rename_i ys e1
    obtain ⟨hl, q1⟩ := q1
    obtain ⟨p1, o1, x1, h1, ⟨vs1, rfl, r2⟩, _⟩ := s1.slt.own n _ e1
    rw [x0] at x1
    cases x1
    exact ⟨_, _, _, rfl, rfl, h1, by rw [← r2.length]; exact hl, ok.1 _ _ _ _ _ (s1.wrO e1 x0 (c' := .lst (ys ++ [d])) ⟨_, rfl, r2.append (.cons r1 .nil)⟩) q1⟩
  · exact q1.elim⟩
/-- of a cell -/
def sAppC (mo me : EM D) : SM := fun E dE env C => mo E env C fun d0 env0 C0 => ∃ a xs0, d0 = .cell a ∧ C0 a = some (.lst xs0) ∧ me E env0 C0 fun d env1 C1 => ∃ xs, C1 a = some (.lst xs) ∧ xs.length < sizeLine ∧ dE.nx env1 (cput C1 a (.lst (xs ++ [d])))
/-! ### is None -/
def isN : D → Bool
  | .non => true
  | _ => false
def gIs (neg : Bool) (d e : D) (P : D → Prop) : Prop := e = .non ∧ P (.bl (if neg then !isN d else isN d))
theorem isN_now {K : PySem.W.Frag} {Hs H : Hp} {d : D} {v : V} (n : RNow K Hs H d v) : decide (v = V.non) = isN d := by
  cases n <;> first | rfl | (exact decide_eq_false fun z => nomatch z)
theorem opd_is : OpD X (compareOp .Is) RShr (gIs false) := by
  refine ⟨_, op_isN, ?_⟩
  intro Z σ Hs H env C d e v u P Q sr n n' g k
  obtain ⟨rfl, p⟩ := g
  cases n'
  refine ⟨rfl, ?_⟩
  rw [isN_now n]
  exact k _ _ Hs H p Tr.refl sr (.bl _)
theorem opd_isnot : OpD X (compareOp .IsNot) RShr (gIs true) := by
  refine ⟨_, op_notN, ?_⟩
  intro Z σ Hs H env C d e v u P Q sr n n' g k
  obtain ⟨rfl, p⟩ := g
  cases n'
  refine ⟨rfl, ?_⟩
  rw [isN_now n]
  exact k _ _ Hs H p Tr.refl sr (.bl _)
/-! ### name += e, ints -/
def sAug (f : Int → Int → Int) (n : Nat) (me : EM D) : SM := fun E dE env C => ∃ i, env[n]? = some (.shr (.int i)) ∧ me E env C fun d env1 C1 => ∃ j, dr C1 d = .int j ∧ dE.nx (env1.set n (.shr (.int (f i j)))) C1
theorem ds_aug {n : Nat} {f : Int → Int → Int} {me : EM D} (he : DE X RPk e me) (hp : ∀ {t : TE}, PE X e t → PS X st (tAug n t (ipI f))) : DS X st (sAug f n me) := fun Z E hE => ⟨fun pins s σ H D I ⟨Hs, env, C, dE, sr, ok, i, e0, q⟩ => by
  refine (hp (he Z E hE)).run pins s σ H D I ?_
  obtain ⟨v, e1, r1⟩ := sr.slt.shr n _ e0
  cases r1
  refine ⟨_, e1, Hs, env, C, _, sr, q, fun d env1 C1 v Hs1 H1 q1 t1 s1 r1 => ?_⟩
  obtain ⟨j, ej, q1⟩ := q1
  have nn := r1.now s1.fit
  rw [ej] at nn
  cases nn
  exact ⟨i, j, rfl, rfl, ok.1 _ _ _ _ _ (s1.setS (.int _)) q1⟩⟩
/-! ### methods of texts -/
def mTxN (g : Txt → List D → (D → Prop) → Prop) (mo : EM D) (ms : EM (List D)) : EM D := fun E env C Q => mo E env C fun d env1 C1 => ∃ s, d = .str s ∧ ms E env1 C1 fun ds env2 C2 => g s (ds.map (dr C2)) fun x => Q x env2 C2
/-- the first place of t in s from i on, or -1 -/
def findT (s t : Txt) (i : Int) : Int := Txt.find3 (sV s) (sV t) i
def gFind3 (s : Txt) (ds : List D) (P : D → Prop) : Prop := match ds with
  | [.str t, .int i] => P (.int (findT s t i))
  | _ => False
/-! ### name = f(..), the result new or not -/
@[reducible] def slotR : Ret → Slot
  | .shr d => .shr d
  | .frs c => .own c
def sCallR (n : Nat) (sp : DSp) (dfl : List D) (ms : EM (List D)) : SM := fun E dE env C => ms E env C fun ds env1 C1 => sp (ds ++ dfl) C1 (fun r C2 => dE.nx (env1.set n (slotR r)) C2) fun x C2 => E x env1 C2
end
end L2.DL
/-! DLt: texts turned round. -/
namespace L2.DL
open PySem PySem.Spec PyProof.Rows
end L2.DL
/-! DLu: the first place of a sign in a text. -/
namespace L2.DL
open PySem PySem.Spec PyProof.Rows PySem.StrLaws PySem.Builtin.Str
end L2.DL
/-! DLv: forward steps of the later rules. -/
namespace L2.DL
open PySem PySem.Spec PyProof.Rows
section
variable {E : EX} {env : DL.Env} {C : Cs} {d : D} {n : Nat} {xs : List D} {i j : Int} {s t : Txt} {me mo : EM D} {ms : EM (List D)} {nx bk ct : DL.Env → Cs → Prop} {rt : Ret → Cs → Prop} {P : D → Prop} {Q : D → DL.Env → Cs → Prop}
def AppO (n : Nat) (d : D) (P : DL.Env → Cs → Prop) (env : DL.Env) (C : Cs) : Prop := match env[n]? with
  | some (.own (.lst xs)) => xs.length < sizeLine ∧ P (env.set n (.own (.lst (xs ++ [d])))) C
  | _ => False
theorem j_app (h : env[n]? = some (.own (.lst xs))) (q : me E env C fun d env1 C1 => AppO n d nx env1 C1) : sApp n me E ⟨nx, rt, bk, ct⟩ env C := ⟨⟨xs, h⟩, q⟩
theorem a_app {P : DL.Env → Cs → Prop} (h : env[n]? = some (.own (.lst xs))) (hl : xs.length < sizeLine) (q : P (env.set n (.own (.lst (xs ++ [d])))) C) : AppO n d P env C := by
  unfold AppO
  rw [h]
  exact ⟨hl, q⟩
theorem j_aug {f : Int → Int → Int} (h : env[n]? = some (.shr (.int i))) (q : me E env C fun d env1 C1 => ∃ j, dr C1 d = .int j ∧ nx (env1.set n (.shr (.int (f i j)))) C1) : sAug f n me E ⟨nx, rt, bk, ct⟩ env C := ⟨i, h, q⟩
theorem i_dri {R : Int → Prop} (q : R j) : ∃ k, dr C (.int j) = .int k ∧ R k := ⟨j, rfl, q⟩
theorem i_txN {g : Txt → List D → (D → Prop) → Prop} (q : mo E env C fun d env1 C1 => ∃ s, d = .str s ∧ ms E env1 C1 fun ds env2 C2 => g s (ds.map (dr C2)) fun x => Q x env2 C2) : mTxN g mo ms E env C Q := q
theorem g_find3 (q : P (.int (findT s t i))) : gFind3 s ([D.str t, D.int i].map (dr C)) P := q
theorem g_is {neg : Bool} {e : D} (hd : dr C d = e) (q : P (.bl (if neg then !isN e else isN e))) : gIs neg (dr C d) (dr C .non) P := ⟨rfl, by rw [hd]; exact q⟩
theorem j_callR {sp : DSp} {dfl : List D} (q : ms E env C fun ds env1 C1 => sp (ds ++ dfl) C1 (fun r C2 => nx (env1.set n (slotR r)) C2) fun x C2 => E x env1 C2) : sCallR n sp dfl ms E ⟨nx, rt, bk, ct⟩ env C := q
end
end L2.DL
/-! DLx: rows of places (the laws' own way through all spellings). -/
namespace L2.DL
open PySem PySem.Spec PyProof.Rows
theorem inD_str (c : Txt) : ∀ acc : List Txt, inD (.str c) (acc.map D.str) = decide (c ∈ acc)
  | [] => rfl
  | a :: r => by
    have ih := inD_str c r
    unfold inD at ih ⊢
    rw [List.map_cons, List.any_cons, ih, eqv_str, ← Bool.decide_or]
    apply decide_eq_decide.mpr
    simp [eq_comm]
end L2.DL
/-! DLy: the leftmost row is the first one that has the signs. -/
namespace L2.DL
open PySem PySem.Spec PyProof.Rows
/-! ### further steps -/
end L2.DL
namespace L2.DL
open PySem PySem.Spec PyProof.Rows
end L2.DL
/-! EA: things that may be called: defs, classes; their arguments. -/
namespace L2.DL
open PySem PySem.Spec PyProof.Rows
/-! ### a cell is let go -/
/-! ### what is called: with values by place, values by keyword -/
abbrev DSpV := List D → List D → Cs → (Ret → Cs → Prop) → (XD → Cs → Prop) → Prop
def liftV (K : PySem.W.Frag) (spv : DSpV) : List V → List V → Hp → VK → XK → Prop := fun vs zs H Q E => ∃ Hs C ds es P PX, Fits K Hs H C ∧ RepL K Hs ds vs ∧ RepL K Hs es zs ∧ spv ds es C P PX ∧
  (∀ r C' v Hs' H', P r C' → Fits K Hs' H' C' → Bas (zOf Hs H C) Hs' H' C' → RRet K (zOf Hs H C) Hs' H' C' r v → Q v H') ∧
  (∀ x C' cls dx Hs' H', PX x C' → Fits K Hs' H' C' → Bas (zOf Hs H C) Hs' H' C' → RX K Hs' H' x cls dx → E cls dx H')
structure DCal (P : Program) (w : World) (K : PySem.W.Frag) (mg : Str → Option Value) (base : Heap) (k : Nat) (f : Value) (ks : List Str) (spv : DSpV) : Prop where
  run : ∀ (A : Around) (fr : List PySem.Env) (s : Shared) (H : Hp) (us ws : List Value) (vs zs : List V) (Q : VK) (E : XK), Gd A → Room k A → Env0 P w K mg base A fr s H → Vals vs us → Vals zs ws → liftV K spv vs zs H Q E →
    codeAny (model P w) A (.call f ⟨us, ks.zip ws⟩) (CR (L2.CX P w) fr P w H s Q E) s
theorem Gd.in1 {A : Around} (g : Gd A) : Gd A.in1 := g
/-! ### how the values come to the parameters -/
section
variable {P : Program} {w : World} {K : PySem.W.Frag} {mg : Str → Option Value} {base : Heap} {k n : Nat} {f C : Addr} {fd : FuncData} {ps ks : List Str} {sp : DSp} {perm : List Nat} {dus : List Value} {dvs : List V} {dfl : List D}
theorem DCal.mono {j : Nat} {v : Value} {spv : DSpV} (c : DCal P w K mg base j v ks spv) (h : j ≤ k) : DCal P w K mg base k v ks spv :=
  ⟨fun A fr s H us ws vs zs Q E gd room => c.run A fr s H us ws vs zs Q E gd (room.mono h)⟩
/-! ### C(..): a new instance -/
end
end L2.DL
/-! EB: argument lists of every shape; calls by a global name; methods. -/
namespace L2.DL
open PySem PySem.Spec PyProof.Rows
/-! ### arguments -/
/-! ### over trees -/
def mPos (ms : EM (List D)) : EM (List D × List D) := fun E env C Q => ms E env C fun ds env1 C1 => Q (ds, []) env1 C1
def mPosK (ms mk : EM (List D)) : EM (List D × List D) := fun E env C Q => ms E env C fun ds env1 C1 => mk E env1 C1 fun es env2 C2 => Q (ds, es) env2 C2
/-- the items of a list or a tuple, as it is now -/
def seqD : D → Option (List D)
  | .tup xs => some xs
  | .lst xs => some xs
  | .tupT ts => some (ts.map .str)
  | _ => none
def mStar (m : EM D) (ms : EM (List D)) : EM (List D) := fun E env C Q => m E env C fun d env1 C1 => match seqD d with
  | some xs => ms E env1 C1 fun ys env2 C2 => Q (xs ++ ys) env2 C2
  | none => False
/-! ### the call -/
/-- what stands under a global name and may be called so -/
structure NmV (X : Cx) (x : Str) (ks : List Str) (spv : DSpV) : Prop where
  ex : ∃ k f, DCal X.prog X.w X.K X.mg X.base k f ks spv ∧ Room k X.A ∧ X.mg x = some f ∧ PySem.W.keepIn X.K f = true
def mCallV (spv : DSpV) (ma : EM (List D × List D)) : EM D := fun E env C Q => ma E env C fun p env1 C1 => spv p.1 p.2 C1 (fun r C2 => Q r.tree env1 C2) fun x C2 => E x env1 C2
def mCallVF (spv : DSpV) (ma : EM (List D × List D)) : EM Cont := fun E env C Q => ma E env C fun p env1 C1 => spv p.1 p.2 C1 (fun r C2 => match r with
  | .frs c => Q c env1 C2
  | .shr _ => False) fun x C2 => E x env1 C2
end L2.DL
/-! EC: instances: attributes, methods, properties. -/
namespace L2.DL
open PySem PySem.Spec PyProof.Rows
/-! ### attributes as trees -/
def putFD (f : Str) (v : D) : List (Str × D) → List (Str × D)
  | [] => [(f, v)]
  | (g, x) :: r => if g = f then (g, v) :: r else (g, x) :: putFD f v r
section
variable {K : PySem.W.Frag} {Hs H : Hp}
theorem RepF.put {f : Str} {d : D} {v : V} (q : Rep K Hs d v) : ∀ {fs : List (Str × D)} {ws : List (Str × V)}, RepF K Hs fs ws → RepF K Hs (putFD f d fs) (putF f v ws)
  | _, _, .nil => .cons q .nil
  | _, _, @RepF.cons _ _ k d' v' ds vs h r => by
    unfold putFD putF
    by_cases e : k = f
    · rw [if_pos e, if_pos e]; exact .cons q r
    · rw [if_neg e, if_neg e]; exact .cons h (RepF.put q r)
theorem RepF.length : ∀ {fs : List (Str × D)} {ws : List (Str × V)}, RepF K Hs fs ws → fs.length = ws.length
  | _, _, .nil => rfl
  | _, _, .cons _ r => by simp [RepF.length r]
end
/-! ### o.f -/
def gFld (C : Addr) (f : Str) (d : D) (P : D → Prop) : Prop := match d with
  | .obj C' fs => C' = C ∧ ∃ x, fs.lookup f = some x ∧ P x
  | _ => False
section
variable {X : Cx} {o e : Expr} {es : List Expr} {kws : List Keyword} {ks fl : List Str} {f m : Str} {pos apos pos' : Pos} {C : Addr} {k : Nat} {spv : DSpV} {mo mv : EM D}
/-! ### o.f = e: a shared thing; a new thing that may be written later -/
def StF (C : Addr) (f : Str) (o d : D) (P : DL.Env → Cs → Prop) (env : DL.Env) (C2 : Cs) : Prop := ∃ a fs, o = .cell a ∧ C2 a = some (.obj C fs) ∧ fs.length < 1000 ∧ P env (cput C2 a (.obj C (putFD f d fs)))
def sFldS (C : Addr) (f : Str) (mo mv : EM D) : SM := fun E dE env C0 => mv E env C0 fun d env1 C1 => mo E env1 C1 fun o env2 C2 => StF C f o d dE.nx env2 C2
def cellOf : Cont → Cell
  | .lst xs => .lst xs
  | .dct kvs => .dct kvs
  | .obj C fs => .obj C fs
def sFldC (C : Addr) (f : Str) (mo : EM D) (mv : EM Cont) : SM := fun E dE env C0 => mv E env C0 fun c env1 C1 => ∀ b, C1 b = none → mo E env1 (cput C1 b (cellOf c)) fun o env2 C2 => StF C f o (.cell b) dE.nx env2 C2
/-! ### name = a new thing that may be shared and written: a cell -/
def sSetC (n : Nat) (m : EM Cont) : SM := fun E dE env C => m E env C fun c env1 C1 => ∀ a, C1 a = none → dE.nx (env1.set n (.shr (.cell a))) (cput C1 a (cellOf c))
/-! ### o.m(..) -/
def IsO (C : Addr) (m : Str) (d : D) : Prop := ∃ fs, d = .obj C fs ∧ fs.lookup m = none
def mMeth (C : Addr) (m : Str) (spv : DSpV) (mo : EM D) (ma : EM (List D × List D)) : EM D := fun E env C0 Q => mo E env C0 fun d env1 C1 => IsO C m (dr C1 d) ∧ ma E env1 C1 fun p env2 C2 => spv (d :: p.1) p.2 C2 (fun r C3 => Q r.tree env2 C3) fun x C3 => E x env2 C3
def mMethF (C : Addr) (m : Str) (spv : DSpV) (mo : EM D) (ma : EM (List D × List D)) : EM Cont := fun E env C0 Q => mo E env C0 fun d env1 C1 => IsO C m (dr C1 d) ∧ ma E env1 C1 fun p env2 C2 => spv (d :: p.1) p.2 C2 (fun r C3 => match r with
  | .frs c => Q c env2 C3
  | .shr _ => False) fun x C3 => E x env2 C3
/-- a method with its promise -/
structure MeV (X : Cx) (C : Addr) (m : Str) (ks : List Str) (spv : DSpV) : Prop where
  ex : ∃ k g, DCal X.prog X.w X.K X.mg X.base k (.ref g) ks spv ∧ Room k X.A ∧ Cls X.K C ∧ Meth X.K C m g
/-! ### a property -/
structure PrV (X : Cx) (C : Addr) (f : Str) (spv : DSpV) : Prop where
  ex : ∃ k p g, DCal X.prog X.w X.K X.mg X.base k (.ref g) [] spv ∧ Room (k + 1) X.A ∧ Cls X.K C ∧ PropOf X.K C f p g
def mProp (C : Addr) (spv : DSpV) (mo : EM D) : EM D := fun E env C0 Q => mo E env C0 fun d env1 C1 => (∃ fs, dr C1 d = .obj C fs) ∧ spv [d] [] C1 (fun r C2 => Q r.tree env1 C2) fun _ _ => False
end
end L2.DL
/-! ED: defs with a star parameter; operators of own classes; classmethods. -/
namespace L2.DL
open PySem PySem.Spec PyProof.Rows
/-! ### def f(a, .., *v) -/
/-! ### operators with a promise that may raise -/
def mOpE (g : EX → D → D → DL.Env → Cs → (D → DL.Env → Cs → Prop) → Prop) (ma mb : EM D) : EM D := fun E env C Q => ma E env C fun d env1 C1 => mb E env1 C1 fun e env2 C2 => g E d e env2 C2 Q
/-! ### a special method of an own class -/
structure OwnM (K : PySem.W.Frag) (C : Addr) (nm : Str) (g : Addr) : Prop where
  at_ : PySem.W.findIn K (.ref C) nm = some (some (.ref g))
  fn : PySem.W.isFn K (.ref g) = true
/-- its promise, at hand -/
structure OwV (X : Cx) (C : Addr) (nm : Str) (spv : DSpV) : Prop where
  ex : ∃ k g, DCal X.prog X.w X.K X.mg X.base k (.ref g) [] spv ∧ Room (k + 1) X.A ∧ OwnM X.K C nm g
def isOb (C : Addr) (d : D) : Prop := ∃ fs, d = .obj C fs
section
variable {X : Cx} {C : Addr} {spv : DSpV} {k : Nat} {f : Value}
/-! - x -/
def mNegO (C : Addr) (spv : DSpV) (ma : EM D) : EM D := fun E env C0 Q => ma E env C0 fun d env1 C1 => isOb C (dr C1 d) ∧ spv [d] [] C1 (fun r C2 => Q r.tree env1 C2) fun x C2 => E x env1 C2
end
end L2.DL
/-! EE: len, truth, isinstance of own instances; classmethods. -/
namespace L2.DL
open PySem PySem.Spec PyProof.Rows
section
variable {X : Cx} {C : Addr} {spv : DSpV}
/-! ### a special method that raises nothing, by values -/
/-! ### len(o) -/
def mLenO (C : Addr) (spv : DSpV) (m : EM (List D)) : EM D := fun E env C0 Q => m E env C0 fun ds env1 C1 => ∃ d, ds = [d] ∧ isOb C (dr C1 d) ∧ spv [d] [] C1 (fun r C2 => ∃ n : Nat, n ≤ sizeLine ∧ r = .shr (.int n) ∧ Q (.int n) env1 C2) fun _ _ => False
/-! ### the truth of o -/
def mTruO (C : Addr) (spv : DSpV) (m : EM D) : EM Bool := fun E env C0 Q => m E env C0 fun d env1 C1 => isOb C (dr C1 d) ∧ spv [d] [] C1 (fun r C2 => ∃ b, r = .shr (.bl b) ∧ Q b env1 C2) fun _ _ => False
end
/-! ### isinstance(x, C) -/
structure IsT (K : PySem.W.Frag) (C : Addr) : Prop where
  ic : PySem.W.isClsIn K C = true
  ty : PySem.W.typeIn K (.ref C) = some (.type "type")
  no : PySem.W.subIn K (.type "NoneType") (.ref C) = some false ∧ PySem.W.subIn K (.type "bool") (.ref C) = some false ∧ PySem.W.subIn K (.type "int") (.ref C) = some false ∧ PySem.W.subIn K (.type "str") (.ref C) = some false ∧
    PySem.W.subIn K (.type "tuple") (.ref C) = some false ∧ PySem.W.subIn K (.type "list") (.ref C) = some false ∧ PySem.W.subIn K (.type "dict") (.ref C) = some false
theorem IsT.one {K : PySem.W.Frag} {C : Addr} (c : IsT K C) {t : Value} {b : Bool} (h : PySem.W.subIn K t (.ref C) = some b) (ne : (t == Value.ref C) = false) : PySem.W.kitOne K t (.ref C) = some b := by
  unfold PySem.W.kitOne PySem.W.kitCls
  rw [ne, if_neg Bool.false_ne_true]
  have e : ((PySem.W.clsIn K C).isSome && PySem.W.typeIn K (.ref C) == some (.type "type")) = true := by
    rw [c.ty, show (PySem.W.clsIn K C).isSome = true from c.ic]
    rfl
  show (if ((PySem.W.clsIn K C).isSome && PySem.W.typeIn K (.ref C) == some (.type "type")) = true then PySem.W.subIn K t (.ref C) else none) = some b
  rw [if_pos e]
  exact h
end L2.DL
/-! EEb: bool(o) of an own instance. -/
namespace L2.DL
open PySem PySem.Spec PyProof.Rows
section
variable {X : Cx} {C : Addr} {spv : DSpV}
def mBoolO (C : Addr) (spv : DSpV) (m : EM (List D)) : EM D := fun E env C0 Q => m E env C0 fun ds env1 C1 => ∃ d, ds = [d] ∧ isOb C (dr C1 d) ∧ spv [d] [] C1 (fun r C2 => ∃ b, r = .shr (.bl b) ∧ Q (.bl b) env1 C2) fun _ _ => False
end
end L2.DL
/-! EF: own exceptions: made, raised, caught, their fields read. -/
namespace L2.DL
open PySem PySem.Spec PyProof.Rows
/-! ### an own exception class: its attribute f -/
structure XcT (K : PySem.W.Frag) (C fI : Addr) (f : Str) : Prop where
  oex : OexC K C
  xf : XfC K C
  no : PySem.W.findIn K (.ref C) f = some none
  ini : PySem.W.findIn K (.ref C) "__init__" = some (some (.ref fI))
  tI : PySem.W.typeIn K (.ref fI) = some (.type "function")
def spXc (C : Addr) (f : Str) : Sp := fun vs H Q _ => ∃ a v, vs = [.ref a, v] ∧ H a = some (exo a C none) ∧ ∀ dx, H dx = none → dx ≠ a → Q .non (upd (upd H dx (exd dx [(f, v)])) a (exo a C (some dx)))
/-- what raise C(e) wants -/
structure RaV (X : Cx) (x : Str) (C : Addr) (f : Str) : Prop where
  ex : ∃ k fI fd ps, XcT X.K C fI f ∧ FnOk X.prog X.w X.K X.mg X.base CX0 k fI fd ps (spXc C f) ∧ Room (k + 1) X.A ∧ Binds X.K fd ps [] ∧ X.mg x = some (.ref C)
def sRaise (C : Addr) (f : Str) (m : EM (List D)) : SM := fun E dE env C0 => m E env C0 fun ds env1 C1 => ∃ d, ds = [d] ∧ E (.own C [(f, d)]) env1 C1
section
variable {X : Cx} {e : Expr} {pos p pos' : Pos} {x f : Str} {C : Addr}
/-! ### try: .. except x as n: .. -/
/-- the ends of a suite whose name i goes -/
@[reducible] def DEnds.gone (dE : DEnds) (i : Nat) : DEnds := { nx := fun env C => dE.nx (env.set i .non) C, rt := dE.rt, bk := fun env C => dE.bk (env.set i .non) C, ct := fun env C => dE.ct (env.set i .non) C }
def CatchX (yes no : List Addr) (i : Nat) (ms : Addr → Value → Option Addr → SM) (E : EX) (dE : DEnds) (x : XD) (env : DL.Env) (C : Cs) : Prop := match x with
  | .own B fs => (B ∈ yes ∧ ∀ a dd, C a = none → ms a (.ref B) (some dd) E0 (dE.gone i) (env.set i (.shr (.exc a B dd fs))) C) ∨ (B ∈ no ∧ E (.own B fs) env C)
  | .blt _ => False
def sTryAs (yes no : List Addr) (i : Nat) (mb : SM) (ms : Addr → Value → Option Addr → SM) : SM := fun E dE env C => mb (CatchX yes no i ms E dE) dE env C
def CatchO (yes no : List Addr) (ms : SM) (E : EX) (dE : DEnds) (x : XD) (env : DL.Env) (C : Cs) : Prop := match x with
  | .own B fs => (B ∈ yes ∧ ms E0 dE env C) ∨ (B ∈ no ∧ E (.own B fs) env C)
  | .blt _ => False
def sTryO (yes no : List Addr) (mb : SM) (ms : SM) : SM := fun E dE env C => mb (CatchO yes no ms E dE) dE env C
/-! ### n.f in the suite -/
end
end L2.DL
/-! EG: classmethods of a class named by the text; calls of a local that holds a class; instances called. -/
namespace L2.DL
open PySem PySem.Spec PyProof.Rows
structure CmV (X : Cx) (C : Addr) (m : Str) (ks : List Str) (spv : DSpV) : Prop where
  ex : ∃ k g p mc, DCal X.prog X.w X.K X.mg X.base k (.ref g) ks spv ∧ Room k X.A ∧ ClX.CRead X.K C mc ∧ ClX.CMet X.K C mc m p g
def mCm (C : Addr) (spv : DSpV) (ma : EM (List D × List D)) : EM D := fun E env C0 Q => ma E env C0 fun p env1 C1 => spv (.cell C :: p.1) p.2 C1 (fun r C2 => Q r.tree env1 C2) fun x C2 => E x env1 C2
section
variable {X : Cx} {C : Addr} {m x : Str} {ks : List Str} {spv : DSpV} {es : List Expr} {kws : List Keyword} {p p1 pos apos : Pos} {ma : EM (List D × List D)}
/-! ### name(..), a local that holds the class at C -/
structure ClV (X : Cx) (C : Addr) (ks : List Str) (spv : DSpV) : Prop where
  ex : ∃ k, DCal X.prog X.w X.K X.mg X.base k (.ref C) ks spv ∧ Room k X.A ∧ PySem.W.keepIn X.K (.ref C) = true
def mCallL (i : Nat) (C : Addr) (spv : DSpV) (ma : EM (List D × List D)) : EM D := fun E env C0 Q => env[i]? = some (.shr (.cell C)) ∧ ma E env C0 fun p env1 C1 => spv p.1 p.2 C1 (fun r C2 => Q r.tree env1 C2) fun x C2 => E x env1 C2
def mCallLF (i : Nat) (C : Addr) (spv : DSpV) (ma : EM (List D × List D)) : EM Cont := fun E env C0 Q => env[i]? = some (.shr (.cell C)) ∧ ma E env C0 fun p env1 C1 => spv p.1 p.2 C1 (fun r C2 => match r with
  | .frs c => Q c env1 C2
  | .shr _ => False) fun x C2 => E x env1 C2
/-! ### o(..), o an own instance in a local -/
structure CoV (X : Cx) (C : Addr) (spv : DSpV) : Prop where
  ex : ∃ k g, DCal X.prog X.w X.K X.mg X.base k (.ref g) [] spv ∧ Room k X.A ∧ StX.CallO X.K C g
end
end L2.DL
/-! EH: what is at hand in a body; empty sequences compared; tuple * 1; an exception's __init__. -/
namespace L2.DL
open PySem PySem.Spec PyProof.Rows
/-! ### xs == (), xs == [] -/
def gEqN (neg : Bool) (d e : D) (P : D → Prop) : Prop := match d, e with
  | .tup xs, .tup [] => P (.bl (if neg then !xs.isEmpty else xs.isEmpty))
  | .lst xs, .lst [] => P (.bl (if neg then !xs.isEmpty else xs.isEmpty))
  | _, _ => False
def rEqN (neg : Bool) (K : PySem.W.Frag) : R2 := fun x y H Q => ∃ a b xs, x = .ref a ∧ y = .ref b ∧ ((SqT K H a xs ∧ SqT K H b []) ∨ (SqL K H a xs ∧ SqL K H b [])) ∧ Q (.bl (if neg then !xs.isEmpty else xs.isEmpty)) H
section
variable {X : Cx}
theorem vals_nil {us : List Value} (r : Vals [] us) : us = [] := by cases r; rfl
theorem plainL_is {h : Heap} {a : Addr} {xs : Array Value} (p : PlainL h a xs) : h.IsList a xs := by
  obtain ⟨o, n, e, hc, hd, hs⟩ := p
  exact ⟨o, e, hc, n, by first | exact hs | exact hd | exact hs.2 | exact hs.1⟩
theorem op_eqN (hu : X.A.units < cLine) : OpR X (compareOp .Eq) (rEqN false X.K) := by
  intro pins s σ H x y v u Q I rx ry h
  obtain ⟨a, b, xs, rfl, rfl, h, q⟩ := h
  obtain rfl : v = Value.ref a := rx
  obtain rfl : u = Value.ref b := ry
  rcases h with ⟨h1, h2⟩ | ⟨h1, h2⟩
  · obtain ⟨i1, r1, t1, _⟩ := I.tuple h1
    obtain ⟨i2, r2, t2, _⟩ := I.tuple h2
    obtain rfl := vals_nil r2
    refine PySem.SeqAt.eq_tupleAt (e := fun _ => true) t1 t2 hu (fun j _ z => absurd z (by simp)) ⟨.bl _, H, I, ?_, q⟩
    have e := r1.length
    cases xs <;> cases i1 <;> first | rfl | (simp at e; done)
  · obtain ⟨i1, r1, t1, _⟩ := I.list h1
    obtain ⟨i2, r2, t2, _⟩ := I.list h2
    obtain rfl := vals_nil r2
    have e := r1.length
    cases xs with
    | nil =>
      cases i1 with
      | nil => exact PySem.SeqAt.eq_listAt (e := fun _ => true) (plainL_is t1) (plainL_is t2) rfl hu (fun j z _ => absurd z (by simp)) ⟨.bl _, H, I, rfl, q⟩
      | cons _ _ => simp at e
    | cons _ _ =>
      cases i1 with
      | nil => simp at e
      | cons _ _ => exact PySem.SeqAt.eq_list_lengthsAt (plainL_is t1) (plainL_is t2) (by simp) hu ⟨.bl _, H, I, rfl, q⟩
theorem op_neN (hu : X.A.units < cLine) : OpR X (compareOp .NotEq) (rEqN true X.K) := by
  intro pins s σ H x y v u Q I rx ry h
  obtain ⟨a, b, xs, rfl, rfl, h, q⟩ := h
  obtain rfl : v = Value.ref a := rx
  obtain rfl : u = Value.ref b := ry
  rcases h with ⟨h1, h2⟩ | ⟨h1, h2⟩
  · obtain ⟨i1, r1, t1, _⟩ := I.tuple h1
    obtain ⟨i2, r2, t2, _⟩ := I.tuple h2
    obtain rfl := vals_nil r2
    refine PySem.SeqAt.RcNeAt.tuples (e := fun _ => true) t1 t2 hu (fun j _ z => absurd z (by simp)) _ _ _ _ ⟨.bl _, H, I, ?_, q⟩
    have e := r1.length
    cases xs <;> cases i1 <;> first | rfl | (simp at e; done)
  · obtain ⟨i1, r1, t1, _⟩ := I.list h1
    obtain ⟨i2, r2, t2, _⟩ := I.list h2
    obtain rfl := vals_nil r2
    have e := r1.length
    cases xs with
    | nil =>
      cases i1 with
      | nil => exact PySem.SeqAt.RcNeAt.lists (e := fun _ => true) (plainL_is t1) (plainL_is t2) rfl hu (fun j z _ => absurd z (by simp)) _ _ _ _ ⟨.bl _, H, I, rfl, q⟩
      | cons _ _ => simp at e
    | cons _ _ =>
      cases i1 with
      | nil => simp at e
      | cons _ _ => exact PySem.SeqAt.RcNeAt.lists_lengths (plainL_is t1) (plainL_is t2) (by simp) hu _ _ _ _ ⟨.bl _, H, I, rfl, q⟩
theorem opd_eqN' {neg : Bool} {f : Value → Value → Sem Value} (o : OpR X f (rEqN neg X.K)) : OpD X f RShr (gEqN neg) := by
  refine ⟨_, o, ?_⟩
  intro Z σ Hs H env C d e v u P Q sr n n' g k
  cases n with
  | tup h r =>
    cases n' with
    | tup h' r' =>
      rename_i xs a vs ys b ws
      cases ys with
      | nil =>
        cases r'
        refine ⟨_, _, vs, rfl, rfl, .inl ⟨TupA.sq sr.fit.sub h, TupA.sq sr.fit.sub h'⟩, ?_⟩
        have e : vs.isEmpty = xs.isEmpty := by
          have := r.length
          cases xs <;> cases vs <;> first | rfl | (simp at this; done)
        rw [e]
        exact k _ _ Hs H g Tr.refl sr (.bl _)
      | cons _ _ => exact False.elim g
    | _ => exact False.elim g
  | lst h r =>
    cases n' with
    | lst h' r' =>
      rename_i xs a vs ys b ws
      cases ys with
      | nil =>
        cases r'
        refine ⟨_, _, vs, rfl, rfl, .inr ⟨SqL.of h, SqL.of h'⟩, ?_⟩
        have e : vs.isEmpty = xs.isEmpty := by
          have := r.length
          cases xs <;> cases vs <;> first | rfl | (simp at this; done)
        rw [e]
        exact k _ _ Hs H g Tr.refl sr (.bl _)
      | cons _ _ => exact False.elim g
    | _ => exact False.elim g
  | _ => exact False.elim g
theorem opd_eqN (hu : X.A.units < cLine) : OpD X (compareOp .Eq) RShr (gEqN false) := opd_eqN' (op_eqN hu)
theorem opd_neN (hu : X.A.units < cLine) : OpD X (compareOp .NotEq) RShr (gEqN true) := opd_eqN' (op_neN hu)
end
/-! ### tuple * n -/
/-! ### promises by values, made weaker -/
/-! ### at hand in a body -/
section
variable (P : Program) (w : World) (K : PySem.W.Frag) (mg : Str → Option Value) (base : Heap) (k : Nat)
structure QMe (C : Addr) (m : Str) (ks : List Str) (spv : DSpV) : Prop where
  ex : ∃ g, DCal P w K mg base k (.ref g) ks spv ∧ Cls K C ∧ Meth K C m g
structure QPr (C : Addr) (f : Str) (spv : DSpV) : Prop where
  ex : ∃ p g, DCal P w K mg base k (.ref g) [] spv ∧ Cls K C ∧ PropOf K C f p g
structure QOw (C : Addr) (nm : Str) (spv : DSpV) : Prop where
  ex : ∃ g, DCal P w K mg base k (.ref g) [] spv ∧ OwnM K C nm g
structure QNm (x : Str) (ks : List Str) (spv : DSpV) : Prop where
  ex : ∃ f, DCal P w K mg base k f ks spv ∧ mg x = some f ∧ PySem.W.keepIn K f = true
structure QRa (x : Str) (C : Addr) (f : Str) : Prop where
  ex : ∃ fI fd ps, XcT K C fI f ∧ FnOk P w K mg base CX0 k fI fd ps (spXc C f) ∧ Binds K fd ps [] ∧ mg x = some (.ref C)
structure QCm (C : Addr) (m : Str) (ks : List Str) (spv : DSpV) : Prop where
  ex : ∃ g p mc, DCal P w K mg base k (.ref g) ks spv ∧ ClX.CRead K C mc ∧ ClX.CMet K C mc m p g
structure QCl (C : Addr) (ks : List Str) (spv : DSpV) : Prop where
  ex : DCal P w K mg base k (.ref C) ks spv ∧ PySem.W.keepIn K (.ref C) = true
structure QCo (C : Addr) (spv : DSpV) : Prop where
  ex : ∃ g, DCal P w K mg base k (.ref g) [] spv ∧ StX.CallO K C g
end
section
variable {X : Cx} {j k : Nat} {C : Addr} {m x f : Str} {ks : List Str} {spv : DSpV}
theorem QMe.to (c : QMe X.prog X.w X.K X.mg X.base k C m ks spv) (hr : Room j X.A) (h : k ≤ j) : MeV X C m ks spv := let ⟨g, d, a, b⟩ := c.ex; ⟨k, g, d, hr.mono h, a, b⟩
theorem QPr.to (c : QPr X.prog X.w X.K X.mg X.base k C f spv) (hr : Room j X.A) (h : k + 1 ≤ j) : PrV X C f spv := let ⟨p, g, d, a, b⟩ := c.ex; ⟨k, p, g, d, hr.mono h, a, b⟩
theorem QOw.to (c : QOw X.prog X.w X.K X.mg X.base k C m spv) (hr : Room j X.A) (h : k + 1 ≤ j) : OwV X C m spv := let ⟨g, d, a⟩ := c.ex; ⟨k, g, d, hr.mono h, a⟩
theorem QNm.to (c : QNm X.prog X.w X.K X.mg X.base k x ks spv) (hr : Room j X.A) (h : k ≤ j) : NmV X x ks spv := let ⟨g, d, a, b⟩ := c.ex; ⟨k, g, d, hr.mono h, a, b⟩
theorem QRa.to (c : QRa X.prog X.w X.K X.mg X.base k x C f) (hr : Room j X.A) (h : k + 1 ≤ j) : RaV X x C f := let ⟨fI, fd, ps, a, b, d, e⟩ := c.ex; ⟨k, fI, fd, ps, a, b, hr.mono h, d, e⟩
theorem QCm.to (c : QCm X.prog X.w X.K X.mg X.base k C m ks spv) (hr : Room j X.A) (h : k ≤ j) : CmV X C m ks spv := let ⟨g, p, mc, d, a, b⟩ := c.ex; ⟨k, g, p, mc, d, hr.mono h, a, b⟩
theorem QCl.to (c : QCl X.prog X.w X.K X.mg X.base k C ks spv) (hr : Room j X.A) (h : k ≤ j) : ClV X C ks spv := ⟨k, c.ex.1, hr.mono h, c.ex.2⟩
theorem QCo.to (c : QCo X.prog X.w X.K X.mg X.base k C spv) (hr : Room j X.A) (h : k ≤ j) : CoV X C spv := let ⟨g, d, a⟩ := c.ex; ⟨k, g, d, hr.mono h, a⟩
end
/-! ### an exception's own __init__: B.__init__(self, text); self.f = value -/
/-! ### isinstance(e, C) -/
def isiB (cs : List (Addr × Bool)) (d : D) : Option Bool := match d with
  | .obj B _ => cs.lookup B
  | d => if (tyD d).isSome then some false else none
def mIsiO (cs : List (Addr × Bool)) (m : EM D) : EM D := fun E env C0 Q => m E env C0 fun d env1 C1 => ∃ b, isiB cs (dr C1 d) = some b ∧ Q (.bl b) env1 C1
/-! ### worked out -/
section
variable {E : EX} {env : DL.Env} {C : Cs} {d e x : D} {a Cl : Addr} {f m : Str} {spv : DSpV} {fs : List (Str × D)} {i : Nat}
variable {Q : D → DL.Env → Cs → Prop} {QB : Bool → DL.Env → Cs → Prop} {QL : List D → DL.Env → Cs → Prop} {QC : Cont → DL.Env → Cs → Prop} {Q2 : List D × List D → DL.Env → Cs → Prop} {R : D → Prop} {ma mb : EM D} {ms mk : EM (List D)} {m2 : EM (List D × List D)}
theorem g_fld (h : fs.lookup f = some x) (q : R x) : gFld Cl f (dr C (.obj Cl fs)) R := ⟨rfl, x, h, q⟩
theorem g_fldC (hc : C a = some (.obj Cl fs)) (h : fs.lookup f = some x) (q : R x) : gFld Cl f (dr C (.cell a)) R := by rw [dr_cell, hc]; exact ⟨rfl, x, h, q⟩
theorem i_pos (q : ms E env C fun ds env1 C1 => Q2 (ds, []) env1 C1) : mPos ms E env C Q2 := q
theorem i_posK (q : ms E env C fun ds env1 C1 => mk E env1 C1 fun es env2 C2 => Q2 (ds, es) env2 C2) : mPosK ms mk E env C Q2 := q
def SeqO (d : D) (R : List D → Prop) : Prop := match seqD d with
  | some xs => R xs
  | none => False
theorem i_star (q : ma E env C fun d env1 C1 => SeqO d fun xs => ms E env1 C1 fun ys env2 C2 => QL (xs ++ ys) env2 C2) : mStar ma ms E env C QL := q
theorem q_tup {xs : List D} {R : List D → Prop} (q : R xs) : SeqO (.tup xs) R := q
theorem q_lst {xs : List D} {R : List D → Prop} (q : R xs) : SeqO (.lst xs) R := q
theorem i_callV (q : m2 E env C fun p env1 C1 => spv p.1 p.2 C1 (fun r C2 => Q r.tree env1 C2) fun x C2 => E x env1 C2) : mCallV spv m2 E env C Q := q
def FrsK (QC : Cont → DL.Env → Cs → Prop) (env1 : DL.Env) : Ret → Cs → Prop := fun r C2 => match r with
  | .frs c => QC c env1 C2
  | .shr _ => False
theorem i_callVF (q : m2 E env C fun p env1 C1 => spv p.1 p.2 C1 (FrsK QC env1) fun x C2 => E x env1 C2) : mCallVF spv m2 E env C QC := q
theorem i_meth (q : ma E env C fun d env1 C1 => IsO Cl m (dr C1 d) ∧ m2 E env1 C1 fun p env2 C2 => spv (d :: p.1) p.2 C2 (fun r C3 => Q r.tree env2 C3) fun x C3 => E x env2 C3) : mMeth Cl m spv ma m2 E env C Q := q
theorem i_methF (q : ma E env C fun d env1 C1 => IsO Cl m (dr C1 d) ∧ m2 E env1 C1 fun p env2 C2 => spv (d :: p.1) p.2 C2 (FrsK QC env2) fun x C3 => E x env2 C3) : mMethF Cl m spv ma m2 E env C QC := q
theorem i_prop (q : ma E env C fun d env1 C1 => isOb Cl (dr C1 d) ∧ spv [d] [] C1 (fun r C2 => Q r.tree env1 C2) fun _ _ => False) : mProp Cl spv ma E env C Q := q
theorem i_opE {g : EX → D → D → DL.Env → Cs → (D → DL.Env → Cs → Prop) → Prop} (q : ma E env C fun d env1 C1 => mb E env1 C1 fun e env2 C2 => g E d e env2 C2 Q) : mOpE g ma mb E env C Q := q
theorem i_negO (q : ma E env C fun d env1 C1 => isOb Cl (dr C1 d) ∧ spv [d] [] C1 (fun r C2 => Q r.tree env1 C2) fun x C2 => E x env1 C2) : mNegO Cl spv ma E env C Q := q
theorem i_lenO (q : ms E env C fun ds env1 C1 => ∃ d, ds = [d] ∧ isOb Cl (dr C1 d) ∧ spv [d] [] C1 (fun r C2 => ∃ n : Nat, n ≤ sizeLine ∧ r = .shr (.int n) ∧ Q (.int n) env1 C2) fun _ _ => False) : mLenO Cl spv ms E env C Q := q
theorem i_boolO (q : ms E env C fun ds env1 C1 => ∃ d, ds = [d] ∧ isOb Cl (dr C1 d) ∧ spv [d] [] C1 (fun r C2 => ∃ b, r = .shr (.bl b) ∧ Q (.bl b) env1 C2) fun _ _ => False) : mBoolO Cl spv ms E env C Q := q
theorem i_isiO {cs : List (Addr × Bool)} (q : ma E env C fun d env1 C1 => ∃ b, isiB cs (dr C1 d) = some b ∧ Q (.bl b) env1 C1) : mIsiO cs ma E env C Q := q
end
section
variable {E : EX} {env : DL.Env} {C : Cs} {dE : DEnds} {ms : EM (List D)} {mb : SM} {msx : Addr → Value → Option Addr → SM} {C0 : Addr} {f : Str} {yes no : List Addr} {i : Nat}
theorem j_raise (q : ms E env C fun ds env1 C1 => ∃ d, ds = [d] ∧ E (.own C0 [(f, d)]) env1 C1) : sRaise C0 f ms E dE env C := q
theorem j_tryAs (q : mb (CatchX yes no i msx E dE) dE env C) : sTryAs yes no i mb msx E dE env C := q
end
/-! ### lists of facts -/
theorem _root_.L2.Room.u0 {k : Nat} {A : Around} (r : Room k A) : A.units < cLine := by have := r.un; omega
/-- what a def's promise owes -/
def PU (m : SM) (N n : Nat) (sp : DSp) : Prop := ∀ ds C PR PX, sp ds C PR PX → ds.length = n ∧ m (fun x _ C => PX x C) { nx := fun _ C => PR (.shr .non) C, rt := PR } (slots0 N ds) C
end L2.DL
/-! EI: zip of two sequences; stores into instances worked out; comprehensions over pairs; rows of numbers shown. -/
namespace L2.DL
open PySem PySem.Spec PyProof.Rows
open RZ (ItzT pi_zipA)
def ZipO (ds : List D) (R : List D → Prop) : Prop := match ds with
  | [.lst xs, .lst ys] => R (zipD xs ys)
  | [.tup xs, .tup ys] => R (zipD xs ys)
  | _ => False
def mZipA (ms : EM (List D)) : EM (List D) := fun E env C Q => ms E env C fun ds env1 C1 => ZipO ds fun l => Q l env1 C1
/-! ### worked out -/
section
variable {E : EX} {env : DL.Env} {C : Cs} {d e x : D} {a Cl : Addr} {f m : Str} {fs : List (Str × D)} {i j : Nat} {c : Cont} {xs ys : List D}
variable {QL : List D → DL.Env → Cs → Prop} {R : D → Prop} {RL : List D → Prop} {ma mb : EM D} {mf : EM Cont} {ms : EM (List D)} {nx bk ct : DL.Env → Cs → Prop} {rt : Ret → Cs → Prop} {P : DL.Env → Cs → Prop}
theorem i_zipA (q : ms E env C fun ds env1 C1 => ZipO ds fun l => QL l env1 C1) : mZipA ms E env C QL := q
theorem z_lst (q : RL (zipD xs ys)) : ZipO [.lst xs, .lst ys] RL := q
theorem z_tup (q : RL (zipD xs ys)) : ZipO [.tup xs, .tup ys] RL := q
theorem g_eqNT {ng : Bool} (q : R (.bl (if ng then !xs.isEmpty else xs.isEmpty))) : gEqN ng (dr C (.tup xs)) (dr C (.tup [])) R := q
theorem g_eqNL {ng : Bool} (q : R (.bl (if ng then !xs.isEmpty else xs.isEmpty))) : gEqN ng (dr C (.lst xs)) (dr C (.lst [])) R := q
theorem j_fldS (q : mb E env C fun d env1 C1 => ma E env1 C1 fun o env2 C2 => StF Cl f o d nx env2 C2) : sFldS Cl f ma mb E ⟨nx, rt, bk, ct⟩ env C := q
theorem j_fldC (q : mf E env C fun c env1 C1 => ∀ b, C1 b = none → ma E env1 (cput C1 b (cellOf c)) fun o env2 C2 => StF Cl f o (.cell b) nx env2 C2) : sFldC Cl f ma mf E ⟨nx, rt, bk, ct⟩ env C := q
theorem j_setC (q : mf E env C fun c env1 C1 => ∀ a, C1 a = none → nx (env1.set i (.shr (.cell a))) (cput C1 a (cellOf c))) : sSetC i mf E ⟨nx, rt, bk, ct⟩ env C := q
end
/-! ### rows of numbers -/
abbrev intsD (ns : List Int) : List D := ns.map .int
/-- what may be shown, part by part: B the longest leaf, w the weight -/
structure Shw (k w : Nat) (d : D) : Prop where
  r : isR d = true
  s : (toP d).showable = true
  l : (toP d).leavesShort 103 = true
  dp : (toP d).depth ≤ k
  wt : (toP d).weight ≤ w
theorem Shw.ok {k w : Nat} {d : D} (h : Shw k w d) (hk : k ≤ 40) (hw : w ≤ 100000) : shOk d := by
  refine ⟨h.r, h.s, Nat.le_trans h.dp hk, ?_⟩
  have h2 := PyData.shown_le 103 (by decide) _ h.l
  have h3 := h.wt
  have h4 : (103 + 2) * (toP d).weight ≤ 105 * w := Nat.mul_le_mul_left 105 h3
  have := sizeLine_eq
  omega
theorem Shw.mono {k w k' w' : Nat} {d : D} (h : Shw k w d) (hk : k ≤ k') (hw : w ≤ w') : Shw k' w' d := ⟨h.r, h.s, h.l, Nat.le_trans h.dp hk, Nat.le_trans h.wt hw⟩
structure Shws (k w : Nat) (ds : List D) : Prop where
  r : isRs ds = true
  s : PyData.showableAll (toPs ds) = true
  l : PyData.leavesShortAll 103 (toPs ds) = true
  dp : PyData.depthAll (toPs ds) ≤ k
  wt : PyData.weightAll (toPs ds) ≤ w
theorem Shws.nil {k w : Nat} : Shws k w [] := ⟨rfl, by simp [toPs, PyData.showableAll], by simp [toPs, PyData.leavesShortAll], by simp [toPs, PyData.depthAll], by simp [toPs, PyData.weightAll]⟩
theorem Shws.cons {k w v : Nat} {d : D} {ds : List D} (h : Shw k v d) (hs : Shws k w ds) : Shws k (v + w + 2) (d :: ds) := by
  refine ⟨Bool.and_eq_true_iff.mpr ⟨h.r, hs.r⟩, ?_, ?_, ?_, ?_⟩
  · simp only [toPs, PyData.showableAll, h.s, hs.s, Bool.and_self]
  · simp only [toPs, PyData.leavesShortAll, h.l, hs.l, Bool.and_self]
  · simp only [toPs, PyData.depthAll]
    have := h.dp
    have := hs.dp
    omega
  · have := h.wt
    have := hs.wt
    simp only [toPs, PyData.weightAll]
    omega
theorem Shws.all {k w : Nat} : ∀ {ds : List D}, (∀ d ∈ ds, Shw k w d) → Shws k ((w + 2) * ds.length) ds
  | [], _ => Shws.nil
  | d :: ds, h => by
    have a := Shws.all (k := k) (w := w) fun x hx => h x (List.mem_cons_of_mem d hx)
    have c := Shws.cons (h d List.mem_cons_self) a
    have e : w + (w + 2) * ds.length + 2 = (w + 2) * (d :: ds).length := by rw [List.length_cons, Nat.mul_succ]; omega
    rw [e] at c
    exact c
theorem Shws.tup {k w : Nat} {ds : List D} (h : Shws k w ds) : Shw (k + 1) (w + 2) (.tup ds) := by
  refine ⟨h.r, ?_, ?_, ?_, ?_⟩
  · simp only [toP, PyData.showable, h.s]
  · simp only [toP, PyData.leavesShort, h.l]
  · simp only [toP, PyData.depth]
    have := h.dp
    omega
  · have := h.wt
    simp only [toP, PyData.weight]
    omega
theorem Shws.lst {k w : Nat} {ds : List D} (h : Shws k w ds) : Shw (k + 1) (w + 2) (.lst ds) := by
  refine ⟨h.r, ?_, ?_, ?_, ?_⟩
  · simp only [toP, PyData.showable, h.s]
  · simp only [toP, PyData.leavesShort, h.l]
  · simp only [toP, PyData.depth]
    have := h.dp
    omega
  · have := h.wt
    simp only [toP, PyData.weight]
    omega
def shwB (k w : Nat) (d : D) : Bool := isR d && ((toP d).showable && ((toP d).leavesShort 103 && (decide ((toP d).depth ≤ k) && decide ((toP d).weight ≤ w))))
theorem Shw.of {k w : Nat} {d : D} (h : shwB k w d = true) : Shw k w d := by
  unfold shwB at h
  simp only [Bool.and_eq_true, decide_eq_true_eq] at h
  exact ⟨h.1, h.2.1, h.2.2.1, h.2.2.2.1, h.2.2.2.2⟩
end L2.DL
set_option exponentiation.threshold 400
/-! EJ: costs: rows of whole numbers in an instance. -/
namespace L2.DL
open PySem PySem.Spec PyProof.Rows
abbrev rowO (c : Addr) (xs : List D) : D := .obj c [("row", .tup xs)]
abbrev costI (c : Addr) (ns : List Int) : D := rowO c (intsD ns)
theorem sub_self : ∀ xs : List Int, List.zipWith (fun i j => i - j) xs xs = List.replicate xs.length 0
  | [] => rfl
  | x :: r => by
    rw [List.zipWith_cons_cons, sub_self r, Int.sub_self, List.length_cons, List.replicate_succ]
end L2.DL
/-! EK: == and != by an own __eq__, any other value beside; int(..), sum(..), list.count; a list unpacked; keywords of defs. -/
namespace PySem.W
open PySem PySem.Spec PyProof.Rows PySem.SeqAt
end PySem.W
namespace L2.DL
open PySem PySem.Spec PyProof.Rows
/-! ### int(x), sum(xs) -/
def gInt (ds : List D) (P : D → Prop) : Prop := match ds with
  | [.int i] => P (.int i)
  | [.bl k] => P (.int (if k then 1 else 0))
  | _ => False
section
variable {X : Cx}
/-! ### bs.count(b) of truth values -/
def mCntB (mo : EM D) (ms : EM (List D)) : EM D := fun E env C Q => mo E env C fun d env1 C1 => ∃ xs, d = .lst xs ∧ ms E env1 C1 fun ds env2 C2 => ∃ bs k, blsOf xs = some bs ∧ ds = [.bl k] ∧ Q (.int (bs.count k : Nat)) env2 C2
/-! ### a, b, .. = a list -/
end
/-! ### worked out -/
section
variable {E : EX} {env : DL.Env} {C : Cs} {xs : List D} {i : Nat} {R : D → Prop} {Cl : Addr} {spv : DSpV} {ma : EM D} {ms : EM (List D)} {m2 : EM (List D × List D)} {Q : D → DL.Env → Cs → Prop} {QC : Cont → DL.Env → Cs → Prop} {P : DL.Env → Cs → Prop}
theorem g_intI {j : Int} (q : R (.int j)) : gInt ([D.int j].map (dr C)) R := q
theorem g_intB {b : Bool} (q : R (.int (if b then 1 else 0))) : gInt ([D.bl b].map (dr C)) R := q
theorem i_cntB (q : ma E env C fun d env1 C1 => ∃ xs, d = .lst xs ∧ ms E env1 C1 fun ds env2 C2 => ∃ bs k, blsOf xs = some bs ∧ ds = [.bl k] ∧ Q (.int (bs.count k : Nat)) env2 C2) : mCntB ma ms E env C Q := q
theorem i_cm (q : m2 E env C fun p env1 C1 => spv (.cell Cl :: p.1) p.2 C1 (fun r C2 => Q r.tree env1 C2) fun x C2 => E x env1 C2) : mCm Cl spv m2 E env C Q := q
theorem i_callLF (h : env[i]? = some (.shr (.cell Cl))) (q : m2 E env C fun p env1 C1 => spv p.1 p.2 C1 (FrsK QC env1) fun x C2 => E x env1 C2) : mCallLF i Cl spv m2 E env C QC := ⟨h, q⟩
end
/-- a source of draws: what the body owes, its content told -/
def PUd (m : SM) (N : Nat) (b : Bool) : Prop := ∀ (a : Addr) (n i j : Int) (C : Cs), 0 < n → n < 2 ^ 62 → 0 ≤ j → j < 4294967296 → C a = some (visP b i j) →
  m E0 { nx := fun _ _ => False, rt := fun r C' => ∃ k i' j', 0 ≤ k ∧ k < n ∧ 0 ≤ j' ∧ j' < 4294967296 ∧ r = .shr (.int k) ∧ C' = cput C a (visP b i' j') } (slots0 N [.cell a, .int n]) C
end L2.DL
set_option exponentiation.threshold 400
/-! EL: rows of rows of numbers: compared, shown, added up. -/
namespace L2.DL
open PySem PySem.Spec PyProof.Rows
theorem eqv_self {d : D} (h : okD d = true) : eqv d d = true := SeqAt.eqv_refl _ (SeqAt.canLay_of_shaped (Bool.and_eq_true_iff.mp h).2)
/-- parts of what may be compared -/
structure Lay (k : Nat) (d : D) : Prop where
  p : isP d = true
  c : PyData.canLay0 (toP d) = true
  dp : (toP d).depth ≤ k
theorem Lay.ok {k : Nat} {d : D} (h : Lay k d) (hk : k ≤ 64) : okD d = true := by
  refine Bool.and_eq_true_iff.mpr ⟨h.p, ?_⟩
  unfold SeqAt.shaped
  rw [h.c, Bool.true_and]
  exact decide_eq_true (Nat.le_trans h.dp hk)
theorem lays {k : Nat} : ∀ {ds : List D}, (∀ d ∈ ds, Lay k d) → isPs ds = true ∧ PyData.canLayAll0 (toPs ds) = true ∧ PyData.depthAll (toPs ds) ≤ k
  | [], _ => ⟨rfl, by simp [toPs, PyData.canLayAll0], by simp [toPs, PyData.depthAll]⟩
  | d :: r, h => by
    obtain ⟨a1, a2, a3⟩ := lays fun x hx => h x (List.mem_cons_of_mem d hx)
    have b := h d List.mem_cons_self
    have b3 := b.dp
    refine ⟨Bool.and_eq_true_iff.mpr ⟨b.p, a1⟩, ?_, ?_⟩
    · simp only [toPs, PyData.canLayAll0, b.c, a2, Bool.and_self]
    · simp only [toPs, PyData.depthAll]
      omega
theorem Lay.lst {k : Nat} {ds : List D} (h : ∀ d ∈ ds, Lay k d) : Lay (k + 1) (.lst ds) := by
  obtain ⟨a1, a2, a3⟩ := lays h
  refine ⟨a1, by simp only [toP, PyData.canLay0, a2], ?_⟩
  simp only [toP, PyData.depth]
  omega
theorem Lay.tup {k : Nat} {ds : List D} (h : ∀ d ∈ ds, Lay k d) : Lay (k + 1) (.tup ds) := by
  obtain ⟨a1, a2, a3⟩ := lays h
  refine ⟨a1, by simp only [toP, PyData.canLay0, a2], ?_⟩
  simp only [toP, PyData.depth]
  omega
theorem Lay.int {k : Nat} (n : Int) : Lay k (.int n) := ⟨rfl, by simp [toP, PyData.canLay0], by simp [toP, PyData.depth]⟩
theorem Lay.bl {k : Nat} (b : Bool) : Lay k (.bl b) := ⟨rfl, by simp [toP, PyData.canLay0], by simp [toP, PyData.depth]⟩
end L2.DL
/-! EM: order of tuples of ints; a value that is never given. -/
namespace L2.DL
open PySem PySem.Spec PyProof.Rows
/-! ### the order of rows -/
/-- -1, 0, 1: as the first pair that differs, the shorter one first -/
def sgn : List Int → List Int → Int
  | [], [] => 0
  | [], _ :: _ => -1
  | _ :: _, [] => 1
  | x :: xs, y :: ys => if x = y then sgn xs ys else if x < y then -1 else 1
theorem sgn_zero : ∀ {xs ys : List Int}, sgn xs ys = 0 ↔ xs = ys
  | [], [] => by simp [sgn]
  | [], _ :: _ => by simp [sgn]
  | _ :: _, [] => by simp [sgn]
  | x :: xs, y :: ys => by
    simp only [sgn, List.cons.injEq]
    by_cases h : x = y
    · rw [if_pos h, sgn_zero]; simp [h]
    · rw [if_neg h]
      constructor
      · intro z; split at z <;> simp at z
      · intro z; exact absurd z.1 h
theorem sgn_add : ∀ {xs ys zs : List Int}, xs.length = zs.length → ys.length = zs.length → sgn (List.zipWith (fun i j => i + j) xs zs) (List.zipWith (fun i j => i + j) ys zs) = sgn xs ys
  | [], [], [], _, _ => rfl
  | [], [], _ :: _, h, _ => by simp at h
  | [], _ :: _, [], _, h => by simp at h
  | [], _ :: _, _ :: _, h, _ => by simp at h
  | _ :: _, [], [], h, _ => by simp at h
  | _ :: _, [], _ :: _, _, h => by simp at h
  | _ :: _, _ :: _, [], h, _ => by simp at h
  | x :: xs, y :: ys, z :: zs, h1, h2 => by
    have ih := sgn_add (xs := xs) (ys := ys) (zs := zs) (by simpa using h1) (by simpa using h2)
    simp only [List.zipWith_cons_cons, sgn, ih]
    by_cases h : x = y
    · simp [h]
    · have : ¬ x + z = y + z := by omega
      rw [if_neg h, if_neg this]
      by_cases hl : x < y
      · rw [if_pos hl, if_pos (by omega)]
      · rw [if_neg hl, if_neg (by omega)]
theorem sgn_trans : ∀ {xs ys zs : List Int}, sgn xs ys < 0 → sgn ys zs < 0 → sgn xs zs < 0
  | [], [], _, h, _ => by simp [sgn] at h
  | [], _ :: _, [], _, h => by simp [sgn] at h
  | [], _ :: _, _ :: _, _, _ => by simp [sgn]
  | _ :: _, [], _, h, _ => by simp [sgn] at h
  | _ :: _, _ :: _, [], _, h => by simp [sgn] at h
  | x :: xs, y :: ys, z :: zs, h1, h2 => by
    have ih := sgn_trans (xs := xs) (ys := ys) (zs := zs)
    simp only [sgn] at h1 h2 ⊢
    by_cases a : x = y
    · subst a
      rw [if_pos rfl] at h1
      by_cases b : x = z
      · subst b
        rw [if_pos rfl] at h2 ⊢
        exact ih h1 h2
      · rw [if_neg b] at h2 ⊢
        exact h2
    · rw [if_neg a] at h1
      have hxy : x < y := by
        by_cases q : x < y
        · exact q
        · rw [if_neg q] at h1; simp at h1
      by_cases b : y = z
      · subst b
        rw [if_neg a, if_pos hxy]
        decide
      · rw [if_neg b] at h2
        have hyz : y < z := by
          by_cases q : y < z
          · exact q
          · rw [if_neg q] at h2; simp at h2
        rw [if_neg (by omega), if_pos (by omega)]
        decide
end L2.DL
/-! EN: stores of new lists side by side; list.insert; append of what another list gives up. -/
namespace L2.DL
open PySem PySem.Spec PyProof.Rows
section
variable {X : Cx} {e e1 e2 : Expr} {st : Stmt} {i j n m : Nat} {p2 apos cpos apos2 cpos2 pos : Pos}
/-! ### a, b = (new, []) and a, b = ([], k) -/
def sParOO (i j : Nat) (m : EM Cont) : SM := fun E dE env C => m E env C fun c env1 C1 => dE.nx ((env1.set i (.own c)).set j (.own (.lst []))) C1
theorem ds_parOO {m : EM Cont} (h : DE X RFr e1 m) (hp : ∀ {t : TA}, PA X [e1, .List [] p2] t → PS X st (tPar i j t)) (hst : starEach [e1, .List [] p2] X.env = (false, eval e1 X.env) :: starEach [.List [] p2] X.env) : DS X st (sParOO i j m) := fun Z E hE => ⟨fun pins s σ H D I ⟨Hs, env, C, dE, sr, ok, q⟩ => by
  refine (hp (pa_cons (h Z E hE) (pa_cons (pe_lst pa_nil) pa_nil) hst)).run pins s σ H D I ?_
  refine ⟨Hs, env, C, _, sr, q, fun c env1 C1 v Hs1 H1 q1 t1 s1 r1 => ?_⟩
  refine ⟨Nat.zero_le _, fun p hp => ⟨v, .ref p, rfl, ?_⟩⟩
  have s1' := s1.setO (i := i) r1
  have s2 := s1'.layP hp (.lst [])
  exact ok.1 _ _ _ _ _ (s2.setO (i := j) (fr_lay (c := .lst []) s1' hp ⟨_, rfl, .nil⟩)) q1⟩
def sParOS (i j : Nat) (d : D) : SM := fun E dE env C => dE.nx ((env.set i (.own (.lst []))).set j (.shr d)) C
/-! ### xs.append(ys.pop(e)) -/
def sAppPop (n m : Nat) (mi : EM D) : SM := fun E dE env C => (∃ xs, env[n]? = some (.own (.lst xs))) ∧ (∃ ys, env[m]? = some (.own (.lst ys))) ∧ mi E env C fun d env1 C1 =>
  ∃ xs ys i j y, env1[n]? = some (.own (.lst xs)) ∧ env1[m]? = some (.own (.lst ys)) ∧ d = .int i ∧ -(2 ^ 63) ≤ i ∧ i < 2 ^ 63 ∧ seqIndex? i ys.length = some j ∧ ys[j]? = some y ∧ xs.length < sizeLine ∧ dE.nx ((env1.set m (.own (.lst (ys.eraseIdx j)))).set n (.own (.lst (xs ++ [y])))) C1
theorem ds_appPop {o o2 : Expr} {mi : EM D} (hnm : n ≠ m) (ho : PE X o (tVar n)) (ho2 : PE X o2 (tVar m)) (hi : DE X RShr e mi)
    (hs : swapsWith (.Call (.Attribute o "append" apos) [.Call (.Attribute o2 "pop" apos2) [e] [] cpos2] [] cpos) none pos.line X.env = pure false)
    (hb : attributeBase o "append" X.env (eval o X.env) = eval o X.env) (hb2 : attributeBase o2 "pop" X.env (eval o2 X.env) = eval o2 X.env)
    (hst : starEach [.Call (.Attribute o2 "pop" apos2) [e] [] cpos2] X.env = (false, eval (.Call (.Attribute o2 "pop" apos2) [e] [] cpos2) X.env) :: starEach [] X.env)
    (hst2 : starEach [e] X.env = (false, eval e X.env) :: starEach [] X.env)
    (hf : ((backTo cpos (starEach [.Call (.Attribute o2 "pop" apos2) [e] [] cpos2] X.env)).all (fun x => !x.1) && (backToKw cpos (keywordEach [] X.env)).all (fun x => x.1.isSome) && decide (([.Call (.Attribute o2 "pop" apos2) [e] [] cpos2] : List Expr).length + ([] : List Keyword).length + (if ([] : List Keyword).isEmpty then 0 else 1) < 30)) = true)
    (hf2 : ((backTo cpos2 (starEach [e] X.env)).all (fun x => !x.1) && (backToKw cpos2 (keywordEach [] X.env)).all (fun x => x.1.isSome) && decide (([e] : List Expr).length + ([] : List Keyword).length + (if ([] : List Keyword).isEmpty then 0 else 1) < 30)) = true)
    (hline : (apos.endLine == cpos.line) = true) (hline2 : (apos2.endLine == cpos2.line) = true) :
    DS X (.Expr (.Call (.Attribute o "append" apos) [.Call (.Attribute o2 "pop" apos2) [e] [] cpos2] [] cpos) pos) (sAppPop n m mi) := fun Z E hE => ⟨fun pins s σ H D I ⟨Hs, env, C, dE, sr, ok, ⟨xs0, e0⟩, ⟨ys0, f0⟩, q⟩ => by
  have hpop := pe_bm PySem.F.plainAttrs_list PySem.F.slot_list_pop PySem.F.type_list_pop mt_popAt ho2 (pa_cons (hi Z E hE) pa_nil hst2) hb2 hf2 hline2 hst2 rfl
  refine (ps_expr (pe_bm PySem.F.plainAttrs_list PySem.F.slot_list_append PySem.F.type_list_append mt_append ho (pa_cons hpop pa_nil hst) hb hf hline hst rfl) hs).run pins s σ H D I ?_
  obtain ⟨p0, u0, x0, h0, ⟨vs0, rfl, r0⟩, _⟩ := sr.slt.own n _ e0
  obtain ⟨p1, u1, x1, h1, ⟨vs1, rfl, r1⟩, _⟩ := sr.slt.own m _ f0
  refine ⟨_, x0, .inl ⟨rfl, _, SqL.of h0⟩, ?_⟩
  refine ⟨_, x1, .inl ⟨rfl, _, SqL.of h1⟩, Hs, env, C, _, sr, q, fun d env1 C1 v Hs1 H1 q1 t1 s1 rd => ?_⟩
  obtain ⟨xs, ys, i, j, y, ex, ey, rfl, i0, i1, hk, hy, hl, q1⟩ := q1
  cases rd
  obtain ⟨p0', u0', x0', h0', ⟨vs0', rfl, r0'⟩, _⟩ := s1.slt.own n _ ex
  obtain ⟨p1', u1', x1', h1', ⟨vs1', rfl, r1'⟩, _⟩ := s1.slt.own m _ ey
  rw [x0] at x0'
  cases x0'
  rw [x1] at x1'
  cases x1'
  obtain ⟨w, hw, rw_⟩ := r1'.get' hy
  have hne : p0 ≠ p1 := fun z => s1.slt.sep n m _ _ p0 hnm ex ey x0 (by rw [z]; exact x1)
  have s2 := s1.wrO ey x1 (c' := .lst (ys.eraseIdx j)) (o' := .lst (vs1'.eraseIdx j)) ⟨_, rfl, r1'.eraseIdx j⟩
  have ex2 : (env1.set m (.own (.lst (ys.eraseIdx j))))[n]? = some (.own (.lst xs)) := by rw [List.getElem?_set_ne (Ne.symm hnm)]; exact ex
  have s3 := s2.wrO ex2 x0 (c' := .lst (xs ++ [y])) (o' := .lst (vs0' ++ [w])) ⟨_, rfl, r0'.append (.cons rw_ .nil)⟩
  refine ⟨p1, vs1', i, j, w, rfl, rfl, h1', i0, i1, by rw [← r1'.length]; exact hk, hw, ?_⟩
  refine ⟨p0, vs0', w, rfl, rfl, by rw [upd_ne hne]; exact h0', by rw [← r0'.length]; exact hl, ?_⟩
  exact ok.1 _ _ _ _ _ s3 q1⟩
/-! ### xs.insert(i, e) -/
def sIns (n : Nat) (ms : EM (List D)) : SM := fun E dE env C => (∃ xs, env[n]? = some (.own (.lst xs))) ∧ ms E env C fun ds env1 C1 =>
  ∃ xs i y, env1[n]? = some (.own (.lst xs)) ∧ ds = [.int i, y] ∧ 0 ≤ i ∧ i < 2 ^ 63 ∧ xs.length < sizeLine ∧ dE.nx (env1.set n (.own (.lst (xs.take i.toNat ++ [y] ++ xs.drop i.toNat)))) C1
end
/-! ### worked out -/
section
variable {E : EX} {env : DL.Env} {C : Cs} {n m i j : Nat} {mf : EM Cont} {mi : EM D} {ms : EM (List D)} {d : D} {xs ys : List D} {nx bk ct : DL.Env → Cs → Prop} {rt : Ret → Cs → Prop}
theorem j_parOO (q : mf E env C fun c env1 C1 => nx ((env1.set i (.own c)).set j (.own (.lst []))) C1) : sParOO i j mf E ⟨nx, rt, bk, ct⟩ env C := q
theorem j_parOS (q : nx ((env.set i (.own (.lst []))).set j (.shr d)) C) : sParOS i j d E ⟨nx, rt, bk, ct⟩ env C := q
def AppPop (n m : Nat) (nx : DL.Env → Cs → Prop) (d : D) (env1 : DL.Env) (C1 : Cs) : Prop := ∃ xs ys i j y, env1[n]? = some (.own (.lst xs)) ∧ env1[m]? = some (.own (.lst ys)) ∧ d = .int i ∧ -(2 ^ 63) ≤ i ∧ i < 2 ^ 63 ∧ seqIndex? i ys.length = some j ∧ ys[j]? = some y ∧ xs.length < sizeLine ∧ nx ((env1.set m (.own (.lst (ys.eraseIdx j)))).set n (.own (.lst (xs ++ [y])))) C1
theorem j_appPop (h1 : env[n]? = some (.own (.lst xs))) (h2 : env[m]? = some (.own (.lst ys))) (q : mi E env C fun d env1 C1 => AppPop n m nx d env1 C1) : sAppPop n m mi E ⟨nx, rt, bk, ct⟩ env C := ⟨⟨xs, h1⟩, ⟨ys, h2⟩, q⟩
theorem seqIx {k n : Nat} (h : k < n) (hn : n ≤ sizeLine) : seqIndex? (k : Int) n = some k := by
  have hz := sizeLine_eq
  unfold seqIndex?
  simp
  omega
theorem a_appPop {k : Nat} {y : D} (h1 : env[n]? = some (.own (.lst xs))) (h2 : env[m]? = some (.own (.lst ys))) (hk : ys[k]? = some y) (hl : xs.length < sizeLine) (hy : ys.length ≤ sizeLine) (q : nx ((env.set m (.own (.lst (ys.eraseIdx k)))).set n (.own (.lst (xs ++ [y])))) C) : AppPop n m nx (.int k) env C := by
  have hz := sizeLine_eq
  have hlt := (List.getElem?_eq_some_iff.mp hk).1
  exact ⟨xs, ys, k, k, y, h1, h2, rfl, by omega, by omega, seqIx hlt hy, hk, hl, q⟩
def Ins (n : Nat) (nx : DL.Env → Cs → Prop) (ds : List D) (env1 : DL.Env) (C1 : Cs) : Prop := ∃ xs i y, env1[n]? = some (.own (.lst xs)) ∧ ds = [.int i, y] ∧ 0 ≤ i ∧ i < 2 ^ 63 ∧ xs.length < sizeLine ∧ nx (env1.set n (.own (.lst (xs.take i.toNat ++ [y] ++ xs.drop i.toNat)))) C1
theorem j_ins (h1 : env[n]? = some (.own (.lst xs))) (q : ms E env C fun ds env1 C1 => Ins n nx ds env1 C1) : sIns n ms E ⟨nx, rt, bk, ct⟩ env C := ⟨⟨xs, h1⟩, q⟩
/-- a while loop by an invariant with a measure -/
theorem while_inv {mc : EM Bool} {mb : SM} (I : Nat → DL.Env → Cs → Prop) (h0 : ∃ k, I k env C)
    (step : ∀ (k : Nat) (env : DL.Env) (C : Cs), I k env C → mc E env C fun b env1 C1 => if b = true then mb E ⟨fun env' C' => ∃ k', k' < k ∧ I k' env' C', rt, nx, fun env' C' => ∃ k', k' < k ∧ I k' env' C'⟩ env1 C1 else nx env1 C1) : sWhile mc mb E ⟨nx, rt, bk, ct⟩ env C := ⟨I, h0, step⟩
end
end L2.DL
/-! EO: names, codes and situations as the laws draw them. -/
namespace L2.DL
open PySem PySem.Spec PyProof.Rows
/-- a code over the first k letters -/
def codeOk (k : Nat) (c : Txt) : Prop := 1 ≤ c.length ∧ c.length ≤ 3 ∧ ∀ x ∈ c, 97 ≤ x ∧ x < 97 + k
def nameOk (c : Txt) : Prop := 1 ≤ c.length ∧ c.length ≤ 12 ∧ ∀ x ∈ c, 97 ≤ x ∧ x ≤ 122
abbrev txs (ts : List Txt) : List D := ts.map .str
theorem nodup_snoc {α : Type} {l : List α} {x : α} (h : l.Nodup) (hx : x ∉ l) : (l ++ [x]).Nodup := by
  rw [List.nodup_append]
  exact ⟨h, by simp, fun a ha b hb => by rw [List.mem_singleton.mp hb]; exact fun e => hx (e ▸ ha)⟩
/-! ### situations -/
structure Cl where
  nm : Txt
  held : List Txt
  opts : List Txt
abbrev clD (c : Cl) : D := .tup [.str c.nm, .tupT c.held, .tupT c.opts]
abbrev sitD (S : List Cl) : D := .lst (S.map clD)
structure ClOk (m k : Nat) (c : Cl) : Prop where
  n : nameOk c.nm
  hl : c.held.length ≤ 2
  hd : c.held.Nodup
  hk : ∀ x ∈ c.held, codeOk k x
  ol : c.opts.length ≤ m + 2
  od : c.opts.Nodup
  ok : ∀ x ∈ c.opts, codeOk k x
end L2.DL
/-! EP: stores of flat values into several places; x.index(..) of texts. -/
namespace L2.DL
open PySem PySem.Spec PyProof.Rows
section
variable {X : Cx} {e t1 t2 : Expr} {es : List Expr} {pos apos cpos : Pos}
/-! ### a[i], b[j] = flat values -/
def gsConsF (m : GM) (ms : GMs) : GMs := fun ds P env C => match ds with
  | d :: r => r.all flD = true ∧ m d (fun env1 C1 => ms r P env1 C1) env C
  | [] => False
/-! ### a = b = a flat value -/
def sAsg2 (g1 g2 : GM) (m : EM D) : SM := fun E dE env C => m E env C fun d env1 C1 => flD d = true ∧ g1 d (fun env2 C2 => g2 d dE.nx env2 C2) env1 C1
end
/-! ### x.index(t) -/
def fstIx (s : Txt) : List Txt → Option Nat
  | [] => none
  | t :: r => if t = s then some 0 else (fstIx s r).map (· + 1)
theorem fstIx_get {s : Txt} : ∀ {ts : List Txt} {j : Nat}, fstIx s ts = some j → ts[j]? = some s ∧ ∀ m, m < j → ts[m]? ≠ some s
  | [], _, h => by cases h
  | t :: r, j, h => by
    unfold fstIx at h
    by_cases e : t = s
    · rw [if_pos e] at h
      cases h
      exact ⟨by simp [e], fun m hm => by omega⟩
    · rw [if_neg e] at h
      obtain ⟨i, hi, rfl⟩ := Option.map_eq_some_iff.mp h
      obtain ⟨a, b⟩ := fstIx_get hi
      refine ⟨by simpa using a, fun m hm => ?_⟩
      cases m with
      | zero => simpa using e
      | succ m => simpa using b m (by omega)
theorem fstIx_mem {s : Txt} : ∀ {ts : List Txt}, s ∈ ts → ∃ j, fstIx s ts = some j ∧ j < ts.length
  | [], h => by cases h
  | t :: r, h => by
    unfold fstIx
    by_cases e : t = s
    · exact ⟨0, by rw [if_pos e], by simp⟩
    · rcases List.mem_cons.mp h with h | h
      · exact absurd h.symm e
      · obtain ⟨j, hj, hl⟩ := fstIx_mem h
        exact ⟨j + 1, by rw [if_neg e, hj]; rfl, by simp; omega⟩
/-- g: what the texts are (of a list; of a tuple that tells its object) -/
def mIdx (g : D → Option (List Txt)) (mo : EM D) (ms : EM (List D)) : EM D := fun E env C Q => mo E env C fun d env1 C1 => ∃ ts, g d = some ts ∧ ms E env1 C1 fun ds env2 C2 => ∃ s j, ds = [.str s] ∧ fstIx s ts = some j ∧ Q (.int (j : Nat)) env2 C2
section
variable {E : EX} {env : DL.Env} {C : Cs} {d : D} {xs : List D} {ts : List Txt} {mo m : EM D} {ms : EM (List D)} {Q : D → DL.Env → Cs → Prop} {g1 g2 : GM} {nx bk ct : DL.Env → Cs → Prop} {rt : Ret → Cs → Prop}
theorem i_idx {g : D → Option (List Txt)} (q : mo E env C fun d env1 C1 => ∃ ts, g d = some ts ∧ ms E env1 C1 fun ds env2 C2 => ∃ s j, ds = [.str s] ∧ fstIx s ts = some j ∧ Q (.int (j : Nat)) env2 C2) : mIdx g mo ms E env C Q := q
theorem txtsOf_txs : ∀ ts : List Txt, txtsOf (txs ts) = some ts
  | [] => rfl
  | t :: r => by
    have := txtsOf_txs r
    simp only [txs] at this ⊢
    simp [txtsOf, this]
theorem j_asg2 (q : m E env C fun d env1 C1 => flD d = true ∧ g1 d (fun env2 C2 => g2 d nx env2 C2) env1 C1) : sAsg2 g1 g2 m E ⟨nx, rt, bk, ct⟩ env C := q
end
/-! ### tuple(xs): a tuple of texts tells its object -/
section
variable {X : Cx}
theorem call_tuple_frz : CallR X (.type "tuple") (fun xs H Q => ∃ p ys, xs = [.ref p] ∧ SqL X.K H p ys ∧ ∀ (l : Addr) (o : Obj), H l = none → o.dict = none → Q (.ref l) (upd H l (.frz o (.tup ys)))) := by
  intro pins s σ H xs us Q I r h
  obtain ⟨p, ys, rfl, hq, q⟩ := h
  obtain ⟨u, rfl, rx⟩ := vals1 r
  cases rx
  obtain ⟨its, r', pl, hz⟩ := I.list hq
  have hlen := r'.length
  refine call_tuple_list pl.isList (fun h' kp => ?_) (by simp only [List.size_toArray] <;> omega)
  have I1 : Inv X pins σ H { s with heap := h' } := I.kept (t' := s.toks) kp
  have g : (h'.push ({ cls := .type "tuple", data := .seq its.toArray } : Obj)).get? h'.objs.size = some { cls := .type "tuple", data := .seq its.toArray } := Heap.get?_push_size _ rfl
  have I2 : Inv X pins σ (upd H h'.objs.size (.frz { cls := .type "tuple", data := .seq its.toArray } (.tup ys))) { s with heap := h'.push { cls := .type "tuple", data := .seq its.toArray } } :=
    I1.laid (t' := s.toks) (fun b o e => Heap.get?_push_of_some _ e) (Nat.le_refl _) (show ObjOk X.prog X.w _ _ _ (.frz _ (.tup ys)) from ⟨g, hz, its, r', IsTup.new _ _⟩)
  exact ⟨.ref h'.objs.size, _, I2, rfl, q _ _ (I1.hok.fresh (Nat.le_refl _)) rfl⟩
def gTupleX (ds : List D) (P : D → Prop) : Prop := match ds with
  | [.lst xs] => match txtsOf xs with
    | some ts => P (.tupT ts)
    | none => P (.tup xs)
  | [.tup xs] => P (.tup xs)
  | _ => False
theorem calld_tupleX : CallD X (.type "tuple") RShr gTupleX := by
  refine ⟨⟨_, call_tuple_of.or call_tuple_frz, fun Z σ Hs H env C ds vs P Q sr n g k => ?_⟩⟩
  cases n with
  | nil => exact g.elim
  | cons n n2 =>
    cases n2 with
    | cons _ _ => cases n <;> exact g.elim
    | nil =>
      cases n with
      | lst e r =>
        rename_i xs a ws
        have g' : (match txtsOf xs with
          | some ts => P (.tupT ts)
          | none => P (.tup xs)) := g
        cases ht : txtsOf xs with
        | none =>
          rw [ht] at g'
          exact .inl ⟨_, _, rfl, .inl ⟨SqL.of e, fun l hl => k _ _ _ _ g' (Tr.lay sr.fit hl _) (sr.lay hl _) (.tup (.inl upd_same) (r.same (same_upd (sr.fit.nothing hl).1)))⟩⟩
        | some ts =>
          rw [ht] at g'
          have := txts_rep r ht
          subst this
          exact .inr ⟨_, _, rfl, SqL.of e, fun l o hl hd => k _ _ _ _ g' (Tr.lay sr.fit hl _) (sr.lay hl _) (.tupT hd upd_same)⟩
      | tup e r => exact .inl ⟨_, _, rfl, .inr ⟨TupA.sq sr.fit.sub e, k _ _ Hs H g Tr.refl sr (.tup e r)⟩⟩
      | _ => exact g.elim
theorem g_tupX {C : Cs} {ts : List Txt} {P : D → Prop} (q : P (.tupT ts)) : gTupleX ([D.lst (txs ts)].map (dr C)) P := by
  show (match txtsOf (txs ts) with
    | some ts => P (.tupT ts)
    | none => P (.tup (txs ts)))
  rw [txtsOf_txs]
  exact q
end
/-! ### a tuple of texts, read -/
section
variable {C : Cs} {ts : List Txt} {t : Txt} {i : Int} {R : D → Prop}
theorem g_eqNX {ng : Bool} (q : R (.bl (if ng then !ts.isEmpty else ts.isEmpty))) : gEqN ng (dr C (.tupT ts)) (dr C (.tup [])) R := by
  show R (.bl (if ng then !(ts.map D.str).isEmpty else (ts.map D.str).isEmpty))
  rw [List.isEmpty_map]
  exact q
theorem g_inX (q : R (.bl (decide (t ∈ ts)))) : gIn false (dr C (.str t)) (dr C (.tupT ts)) R := by
  refine ⟨⟨rfl, ?_⟩, ?_⟩
  · rw [List.all_map]
    exact List.all_eq_true.mpr fun _ _ => rfl
  · rw [dr_str, inD_str]
    exact q
theorem g_ninX (q : R (.bl (!decide (t ∈ ts)))) : gIn true (dr C (.str t)) (dr C (.tupT ts)) R := by
  refine ⟨⟨rfl, ?_⟩, ?_⟩
  · rw [List.all_map]
    exact List.all_eq_true.mpr fun _ _ => rfl
  · rw [dr_str, inD_str]
    exact q
theorem g_lenX (q : R (.int ts.length)) : gLen ([D.tupT ts].map (dr C)) R := by
  show R (.int ((ts.map D.str).length : Nat))
  rw [List.length_map]
  exact q
theorem o_tupX {R : List D → Prop} (q : R (txs ts)) : IterO (.tupT ts) R := q
end
/-! ### [..] * n, a list of one's own -/
end L2.DL
/-! EQ: plain facts: numbers of options, rows of costs. -/
namespace L2.DL
open PySem PySem.Spec PyProof.Rows
/-- the number of a code among a claim's codes -/
def numCl (c : Cl) (t : Txt) : Option Nat := if t ∈ c.held then fstIx t c.held else (fstIx t c.opts).map (2 + ·)
/-- 1 if the code changes the claim's name -/
def chg (c : Cl) (t : Txt) : Bool := !c.held.isEmpty && !decide (t ∈ c.held)
def chgI (c : Cl) (t : Txt) : Int := if chg c t = true then 1 else 0
/-- the numbers of the cost of giving t to the claim at the place p of n -/
def costRow (n p : Nat) (c : Cl) (t : Txt) (j : Nat) : List Int := (((List.replicate (2 * n + 1) (0 : Int)).set 0 (chgI c t)).set (p + 1) (chgI c t)).set (n + p + 1) (j : Int)
theorem costRow_len (n p : Nat) (c : Cl) (t : Txt) (j : Nat) : (costRow n p c t j).length = 2 * n + 1 := by simp [costRow]
theorem atI_nat {α : Type} {xs : List α} {k : Nat} {x : α} (h : xs[k]? = some x) : atI xs (k : Int) = some x := by
  obtain ⟨h1, h2⟩ := List.getElem?_eq_some_iff.mp h
  rw [atI_lt h1, h2]
theorem numCl_some {c : Cl} {t : Txt} (h : t ∈ c.opts) : ∃ j, numCl c t = some j := by
  unfold numCl
  by_cases hm : t ∈ c.held
  · rw [if_pos hm]; obtain ⟨j, hj, _⟩ := fstIx_mem hm; exact ⟨j, hj⟩
  · rw [if_neg hm]; obtain ⟨j, hj, _⟩ := fstIx_mem h; exact ⟨2 + j, by rw [hj]; rfl⟩
/-! ### ways that meet again -/
/-! ### stores into a container of a slot -/
def PutO (n : Nat) (i d : D) (P : DL.Env → Cs → Prop) (env : DL.Env) (C : Cs) : Prop := match env[n]? with
  | some (.own (.lst xs)) => ∃ k j, i = .int k ∧ ixN xs.length k = some j ∧ P (env.set n (.own (.lst (xs.set j d)))) C
  | some (.own (.dct kvs)) => ∃ k, dkOf i = some k ∧ kvs.length < sizeLine ∧ P (env.set n (.own (.dct (putD kvs k d)))) C
  | _ => False
section
variable {env : DL.Env} {C : Cs} {d i : D} {n : Nat} {c : Cont} {P : DL.Env → Cs → Prop} {mi : EM D} {xs : List D} {kvs : List (DK × D)}
theorem j_putO (h : env[n]? = some (.own c)) (q : mi E0 env C fun i env1 C1 => PutO n i d P env1 C1) : gPutO n mi d P env C := ⟨⟨c, h⟩, q⟩
theorem a_putOD {k : DK} (h : env[n]? = some (.own (.dct kvs))) (hk : dkOf i = some k) (hl : kvs.length < sizeLine) (q : P (env.set n (.own (.dct (putD kvs k d)))) C) : PutO n i d P env C := by
  unfold PutO
  rw [h]
  exact ⟨k, hk, hl, q⟩
end
/-! ### targets -/
section
variable {env : DL.Env} {C : Cs} {d : D} {r : List D} {n i : Nat} {P : DL.Env → Cs → Prop} {g : GM} {ms : GMs}
theorem j_tupD (h : r.length = n) (q : ms r P env C) : gTupD n ms (.tup r) P env C := ⟨h, q⟩
theorem j_gsF (h : r.all flD = true) (q : g d (fun env1 C1 => ms r P env1 C1) env C) : gsConsF g ms (d :: r) P env C := ⟨h, q⟩
theorem j_gsC (q : ms r P (env.set i (.shr d)) C) : gsCons (gN i) ms (d :: r) P env C := q
theorem j_gsNil (q : P env C) : gsNil [] P env C := ⟨rfl, q⟩
end
/-! ### isinstance -/
theorem i_isHd {C : Cs} {c : Addr} {b : Bool} {r : List (Addr × Bool)} {fs : List (Str × D)} {R : Bool → Prop} (q : R b) : ∃ b', isiB ((c, b) :: r) (dr C (.obj c fs)) = some b' ∧ R b' := ⟨b, by simp [isiB, List.lookup], q⟩
end L2.DL
/-! ER: situations may be shown, may be compared. -/
namespace L2.DL
open PySem PySem.Spec PyProof.Rows
theorem shw_str {k w : Nat} {t : Txt} (h : t.length ≤ w) (hc : ∀ c ∈ t, c < 128) : Shw k w (.str t) := by
  refine ⟨rfl, by simp [toP, PyData.showable], ?_, by simp [toP, PyData.depth], ?_⟩
  · simp only [toP, PyData.leavesShort, sV_cps, List.all_eq_true, decide_eq_true_eq]
    intro c hc'
    have := hc c hc'
    omega
  · have h3 : (toP (.str t)).weight = t.length := by simp [toP, PyData.weight, sV]
    omega
theorem shw_non {k : Nat} : Shw k 4 .non := ⟨rfl, by simp [toP, PyData.showable], by simp [toP, PyData.leavesShort], by simp [toP, PyData.depth], by simp [toP, PyData.weight]⟩
theorem shw_bl {k : Nat} (b : Bool) : Shw k 5 (.bl b) := ⟨rfl, by simp [toP, PyData.showable], by simp [toP, PyData.leavesShort], by simp [toP, PyData.depth], by simp [toP, PyData.weight]⟩
theorem toPs_txs : ∀ ts : List Txt, toPs (txs ts) = ts.map fun t => PyData.str (sV t)
  | [] => rfl
  | t :: r => by
    show toP (.str t) :: toPs (txs r) = _
    rw [toPs_txs r]
    rfl
theorem toP_tupT (ts : List Txt) : toP (.tupT ts) = toP (.tup (txs ts)) := by
  show PyData.tuple _ = PyData.tuple _
  rw [toPs_txs]
theorem Shw.tupT {k w : Nat} {ts : List Txt} (h : Shw k w (.tup (txs ts))) : Shw k w (.tupT ts) :=
  ⟨rfl, by rw [toP_tupT]; exact h.s, by rw [toP_tupT]; exact h.l, by rw [toP_tupT]; exact h.dp, by rw [toP_tupT]; exact h.wt⟩
theorem shws_txs {k m w : Nat} {ts : List Txt} (h : ∀ t ∈ ts, t.length ≤ w ∧ ∀ c ∈ t, c < 128) (hl : ts.length ≤ m) : Shws k ((w + 2) * m) (txs ts) := by
  have a := Shws.all (k := k) (w := w) (ds := txs ts) fun d hd => by
    obtain ⟨t, ht, rfl⟩ := List.mem_map.mp hd
    exact shw_str (h t ht).1 (h t ht).2
  rw [List.length_map] at a
  exact ⟨a.r, a.s, a.l, a.dp, Nat.le_trans a.wt (Nat.mul_le_mul_left _ hl)⟩
theorem code_asc {k : Nat} (hk : k ≤ 26) {t : Txt} (h : codeOk k t) : t.length ≤ 3 ∧ ∀ c ∈ t, c < 128 := ⟨h.2.1, fun c hc => by have := h.2.2 c hc; omega⟩
theorem name_asc {t : Txt} (h : nameOk t) : t.length ≤ 12 ∧ ∀ c ∈ t, c < 128 := ⟨h.2.1, fun c hc => by have := h.2.2 c hc; omega⟩
def asc (t : Txt) : Prop := ∀ c ∈ t, c < 128
theorem Lay.str {k : Nat} {t : Txt} (h : asc t) : Lay k (.str t) := ⟨rfl, by
  simp only [toP, PyData.canLay0, PyData.strOk, sV]
  rw [Array.all_eq_true']
  intro c hc
  have := h c (by simpa using hc)
  simp
  omega, by simp [toP, PyData.depth]⟩
theorem Lay.non {k : Nat} : Lay k .non := ⟨rfl, by simp [toP, PyData.canLay0], by simp [toP, PyData.depth]⟩
theorem Lay.txs {k : Nat} {ts : List Txt} (h : ∀ t ∈ ts, asc t) : ∀ d ∈ DL.txs ts, Lay k d := fun d hd => by
  obtain ⟨t, ht, rfl⟩ := List.mem_map.mp hd
  exact Lay.str (h t ht)
theorem Lay.tupT {k : Nat} {ts : List Txt} (h : ∀ t ∈ ts, asc t) : Lay (k + 1) (.tupT ts) := by
  have h : Lay (k + 1) (.tup (DL.txs ts)) := Lay.tup (Lay.txs h)
  exact ⟨rfl, by rw [toP_tupT]; exact h.c, by rw [toP_tupT]; exact h.dp⟩
theorem Lay.cl {k m n : Nat} (hn : n ≤ 26) {c : Cl} (h : ClOk m n c) : Lay (k + 2) (clD c) := Lay.tup fun d hd => by
  simp only [List.mem_cons, List.not_mem_nil, or_false] at hd
  rcases hd with rfl | rfl | rfl
  · exact .str (name_asc h.n).2
  · exact .tupT fun t ht => (code_asc hn (h.hk t ht)).2
  · exact .tupT fun t ht => (code_asc hn (h.ok t ht)).2
theorem fstIx_lt {t : Txt} {ts : List Txt} {j : Nat} (h : fstIx t ts = some j) : j < ts.length := (List.getElem?_eq_some_iff.mp (fstIx_get h).1).1
end L2.DL
/-! FA: tables that are walked: locked meanwhile. -/
namespace L2.DL
open PySem PySem.Spec PyProof.Rows
/-! ### at the level of readings -/
/-- the entry's heap tells of no locked thing at a -/
def NF (X : Cx) (a : Addr) : Prop := ∀ o u, X.H_0 a ≠ some (.frz o u)
def UL (X : Cx) (P : Hp → Prop) (H : Hp) : Prop := P H ∨ ∃ a o u, NF X a ∧ H a = some (.frz o u) ∧ P (upd H a u)
def tLk (X : Cx) (t : TE) : TE := fun σ H Q => t σ H fun v H1 => ∃ a ws, v = .ref a ∧ ((∃ o, H1 a = some (.frz o (.dK ws)) ∧ Q v H1) ∨ (H1 a = some (.dK ws) ∧ ∀ o, NF X a → Q v (upd H1 a (.frz o (.dK ws)))))
section
variable {X : Cx} {e : Expr} {st : Stmt} {te : TE} {ts : TS}
theorem UL.inv {pins : List (Addr × Obj)} {σ : St} {H : Hp} {s : Shared} {P : Hp → Prop} (I : Inv X pins σ H s) (h : UL X P H) : ∃ H', Inv X pins σ H' s ∧ P H' := by
  rcases h with h | ⟨a, o, u, n, e, h⟩
  · exact ⟨H, I, h⟩
  · exact ⟨_, I.unlock e n, h⟩
theorem pe_lk (h : PE X e te) : PE X e (tLk X te) := ⟨fun pins s σ H Q I hw => by
  refine thn (h.run pins s σ H _ I hw) fun u s1 hq => ?_
  obtain ⟨v, H1, I1, r, a, ws, ev, hq⟩ := hq
  rcases hq with ⟨o, e1, q⟩ | ⟨e1, q⟩
  · exact ⟨v, H1, I1, r, q⟩
  · obtain ⟨o, I2⟩ := I1.lock e1 trivial
    exact ⟨v, _, I2, r, q o (I1.nofrz e1 trivial)⟩⟩
theorem pe_unlk (h : PE X e te) : PE X e (fun σ H Q => te σ H fun v H1 => UL X (Q v) H1) := ⟨fun pins s σ H Q I hw => by
  refine thn (h.run pins s σ H _ I hw) fun u s1 hq => ?_
  obtain ⟨v, H1, I1, r, q⟩ := hq
  obtain ⟨H2, I2, q2⟩ := q.inv I1
  exact ⟨v, H2, I2, r, q2⟩⟩
theorem ps_unlk (h : PS X st ts) : PS X st (fun D σ H => ts ⟨fun σ' => UL X (D.nx σ'), fun v => UL X (D.rt v), fun σ' => UL X (D.bk σ'), fun σ' => UL X (D.ct σ')⟩ σ H) := ⟨fun pins s σ H D I hw => by
  refine thn (h.run pins s σ H _ I hw) fun f s1 hq => ?_
  cases f with
  | next => obtain ⟨σ1, H1, I1, q⟩ := hq; obtain ⟨H2, I2, q2⟩ := UL.inv I1 q; exact ⟨σ1, H2, I2, q2⟩
  | brk => obtain ⟨σ1, H1, I1, q⟩ := hq; obtain ⟨H2, I2, q2⟩ := UL.inv I1 q; exact ⟨σ1, H2, I2, q2⟩
  | cont => obtain ⟨σ1, H1, I1, q⟩ := hq; obtain ⟨H2, I2, q2⟩ := UL.inv I1 q; exact ⟨σ1, H2, I2, q2⟩
  | ret u => obtain ⟨v, σ1, H1, I1, r, q⟩ := hq; obtain ⟨H2, I2, q2⟩ := UL.inv I1 q; exact ⟨v, σ1, H2, I2, r, q2⟩⟩
end
/-! ### what a lock does to the account of a state -/
theorem RepO.le {K : PySem.W.Frag} {H H' : Hp} {c : Cont} {o : HO} (l : Le K H H') (r : RepO K H c o) : RepO K H' c o := by
  cases c with
  | lst xs => obtain ⟨vs, e, r⟩ := r; exact ⟨vs, e, r.le l⟩
  | dct kvs => obtain ⟨vs, e, r⟩ := r; exact ⟨vs, e, r.le l⟩
  | obj C fs => obtain ⟨dx, vs, e, r⟩ := r; exact ⟨dx, vs, e, r.le l⟩
theorem RepC.le {K : PySem.W.Frag} {H H' : Hp} {c : Cell} {o : HO} (l : Le K H H') (r : RepC K H c o) : RepC K H' c o := by
  cases c with
  | pur b => exact r
  | lst xs => obtain ⟨vs, e, r⟩ := r; exact ⟨vs, e, r.le l⟩
  | dct kvs => obtain ⟨vs, e, r⟩ := r; exact ⟨vs, e, r.le l⟩
  | obj C fs => obtain ⟨dx, vs, e, r⟩ := r; exact ⟨dx, vs, e, r.le l⟩
  | lck od ws kvs => exact ⟨r.1, r.2.le l⟩
  | ext φ => obtain ⟨Hs0, s0, r⟩ := r; exact ⟨Hs0, s0.trans l, r⟩
/-- one table's lock changes what is read in nothing -/
theorem Le.lock {K : PySem.W.Frag} {H : Hp} {a : Addr} {o : Obj} {ws : List (Key × V)} (h : H a = some (.dK ws)) : Le K H (upd H a (.frz o (.dK ws))) := by
  have ne : ∀ {b : Addr} {x : HO}, H b = some x → x ≠ .dK ws → b ≠ a := fun e n z => by rw [z, h] at e; cases e; exact n rfl
  refine ⟨fun b vs q => ?_, fun b vs q => ?_, fun b us q => ?_, fun b C dx us q => ?_, fun b vs q => ?_, fun b us q => ?_, fun b o' vs q => ?_⟩
  · rcases q with q | ⟨o', d, q⟩
    · exact .inl (by rw [upd_ne (ne q (by intro z; cases z))]; exact q)
    · exact .inr ⟨o', d, by rw [upd_ne (ne q (by intro z; cases z))]; exact q⟩
  · rw [upd_ne (ne q (by intro z; cases z))]; exact q
  · by_cases hb : b = a
    · subst hb
      rcases q with q | ⟨o', q⟩
      · rw [h] at q; cases q; exact .inr ⟨o, upd_same⟩
      · rw [h] at q; cases q
    · rcases q with q | ⟨o', q⟩
      · exact .inl (by rw [upd_ne hb]; exact q)
      · exact .inr ⟨o', by rw [upd_ne hb]; exact q⟩
  · rw [upd_ne (ne q (by intro z; cases z))]; exact q
  · rcases q with (q | ⟨o', q⟩) | q
    · exact .inl (.inl (by rw [upd_ne (ne q (by intro z; cases z))]; exact q))
    · exact .inl (.inr ⟨o', by rw [upd_ne (ne q (by intro z; cases z))]; exact q⟩)
    · exact .inr q
  · rw [upd_ne (ne q (by intro z; cases z))]; exact q
  · rw [upd_ne (ne q (by intro z; cases z))]; exact q
theorem Le.unlock {K : PySem.W.Frag} {H : Hp} {a : Addr} {o : Obj} {ws : List (Key × V)} (h : H a = some (.frz o (.dK ws))) : Le K H (upd H a (.dK ws)) := by
  have ne : ∀ {b : Addr} {x : HO}, H b = some x → x ≠ .frz o (.dK ws) → b ≠ a := fun e n z => by rw [z, h] at e; cases e; exact n rfl
  refine ⟨fun b vs q => ?_, fun b vs q => ?_, fun b us q => ?_, fun b C dx us q => ?_, fun b vs q => ?_, fun b us q => ?_, fun b o' vs q => ?_⟩
  · rcases q with q | ⟨o', d, q⟩
    · exact .inl (by rw [upd_ne (ne q (by intro z; cases z))]; exact q)
    · exact .inr ⟨o', d, by rw [upd_ne (ne q (by intro z; cases z))]; exact q⟩
  · rw [upd_ne (ne q (by intro z; cases z))]; exact q
  · by_cases hb : b = a
    · subst hb
      rcases q with q | ⟨o', q⟩
      · rw [h] at q; cases q
      · rw [h] at q; cases q; exact .inl upd_same
    · rcases q with q | ⟨o', q⟩
      · exact .inl (by rw [upd_ne hb]; exact q)
      · exact .inr ⟨o', by rw [upd_ne hb]; exact q⟩
  · rw [upd_ne (ne q (by intro z; cases z))]; exact q
  · rcases q with (q | ⟨o', q⟩) | q
    · exact .inl (.inl (by rw [upd_ne (ne q (by intro z; cases z))]; exact q))
    · exact .inl (.inr ⟨o', by rw [upd_ne (ne q (by intro z; cases z))]; exact q⟩)
    · exact .inr q
  · rw [upd_ne (ne q (by intro z; cases z))]; exact q
  · rw [upd_ne (ne q (by intro z; cases z))]; exact q
/-- a lock: Z', Hs', H', C' the account while it holds; G what holds of the cells meanwhile; uHs, uH, uC the way back -/
structure Lkd (K : PySem.W.Frag) (Z Z' : Z0) (Hs H Hs' H' : Hp) (C C' : Cs) (G : Cs → Prop) (uC : Cs → Cs) (uHs uH : Hp → Hp) : Prop where
  inn : ∀ σ env, SR K Z σ Hs H env C → SR K Z' σ Hs' H' env C'
  fl : Z'.F = Hs'
  g0 : G C'
  fit : ∀ Hs2 H2 C2, Fits K Hs2 H2 C2 → Bas Z' Hs2 H2 C2 → G C2 → Fits K (uHs Hs2) (uH H2) (uC C2) ∧ Bas Z (uHs Hs2) (uH H2) (uC C2)
  zH : ∀ p, Z'.H p = none → Z.H p = none
  le : ∀ Hs2, Same Hs' Hs2 → Le K Hs2 (uHs Hs2)
  off : ∀ Hs2 H2 C2 p x, Fits K Hs2 H2 C2 → Same Hs' Hs2 → G C2 → Hs2 p = none → C2 p = none → H2 p = some x → uHs Hs2 p = none ∧ uC C2 p = none ∧ uH H2 p = some x
  same : ∀ Hs2, Same Hs' Hs2 → Same Hs (uHs Hs2)
  kp : ∀ Hs2 H2 C2 b x, Fits K Hs2 H2 C2 → Same Hs' Hs2 → G C2 → H b = some x → C b = none → (H' b = some x → C' b = none → H2 b = some x ∧ C2 b = none) → uH H2 b = some x ∧ uC C2 b = none
section
variable {K : PySem.W.Frag} {Z Z' : Z0} {Hs H Hs' H' : Hp} {C C' : Cs} {G : Cs → Prop} {uC : Cs → Cs} {uHs uH : Hp → Hp} {σ : St} {env : DL.Env}
theorem Lkd.tr (L : Lkd K Z Z' Hs H Hs' H' C C' G uC uHs uH) {Hs2 H2 : Hp} {C2 : Cs} (f : Fits K Hs2 H2 C2) (g : G C2) (t : Tr Hs' H' C' Hs2 H2 C2) : Tr Hs H C (uHs Hs2) (uH H2) (uC C2) :=
  ⟨L.same _ t.fr, fun b x e c => L.kp _ _ _ b x f t.fr g e c fun e1 c1 => t.kp b x e1 c1⟩
theorem Lkd.out (L : Lkd K Z Z' Hs H Hs' H' C C' G uC uHs uH) {Hs2 H2 : Hp} {C2 : Cs} (r : SR K Z' σ Hs2 H2 env C2) (g : G C2) : SR K Z σ (uHs Hs2) (uH H2) env (uC C2) := by
  obtain ⟨f, b⟩ := L.fit _ _ _ r.fit r.bas g
  have fr : Same Hs' Hs2 := by have := r.bas.fl; rw [L.fl] at this; exact this
  refine ⟨f, b, r.slt.len, fun i d e => ?_, fun i c e => ?_, r.slt.sep⟩
  · obtain ⟨v, e1, q⟩ := r.slt.shr i d e
    exact ⟨v, e1, q.le (L.le _ fr)⟩
  · obtain ⟨p, o, e1, e2, q, n1, n2, n3⟩ := r.slt.own i c e
    obtain ⟨m1, m2, m3⟩ := L.off _ _ _ p o r.fit fr g n1 n2 e2
    exact ⟨p, o, e1, m3, q.le (L.le _ fr), m1, m2, L.zH p n3⟩
theorem Lkd.ret (L : Lkd K Z Z' Hs H Hs' H' C C' G uC uHs uH) {Hs2 H2 : Hp} {C2 : Cs} {r : Ret} {v : V} (f : Fits K Hs2 H2 C2) (fr : Same Hs' Hs2) (g : G C2) (q : RRet K Z' Hs2 H2 C2 r v) : RRet K Z (uHs Hs2) (uH H2) (uC C2) r v := by
  cases r with
  | shr d => exact Rep.le (L.le _ fr) q
  | frs c =>
    obtain ⟨p, o, e, e2, r1, n1, n2, n3⟩ := q
    obtain ⟨m1, m2, m3⟩ := L.off _ _ _ p o f fr g n1 n2 e2
    exact ⟨p, o, e, m3, r1.le (L.le _ fr), m1, m2, L.zH p n3⟩
/-- nothing is locked -/
theorem Lkd.no (b0 : Bas Z Hs H C) : Lkd K Z { Z with F := Hs } Hs H Hs H C C (fun _ => True) id id id where
  inn := fun σ env r => r.raise
  fl := rfl
  g0 := trivial
  fit := fun Hs2 H2 C2 f b _ => ⟨f, ⟨fun x y e => b.fl x y (b0.fl x y e), b.kp, b.th⟩⟩
  zH := fun p h => h
  le := fun Hs2 _ => Le.of fun _ _ e => e
  off := fun Hs2 H2 C2 p x _ _ _ h1 h2 h3 => ⟨h1, h2, h3⟩
  same := fun Hs2 s => s
  kp := fun Hs2 H2 C2 b x _ _ _ e c k => k e c
/-- the heap with the lock, where the thing was there -/
def lkH (a : Addr) (F : HO) (H : Hp) : Hp := fun b => if b = a then (match H a with
  | .none => Option.none
  | some _ => some F) else H b
theorem lkH_ne {a b : Addr} {F : HO} {H : Hp} (h : b ≠ a) : lkH a F H b = H b := by unfold lkH; rw [if_neg h]
theorem lkH_at {a : Addr} {F y : HO} {H : Hp} (h : H a = some y) : lkH a F H a = some F := by unfold lkH; rw [if_pos rfl, h]
theorem lkH_no {a : Addr} {F : HO} {H : Hp} (h : H a = none) : lkH a F H a = none := by unfold lkH; rw [if_pos rfl, h]
theorem cel_not {Hs2 H2 : Hp} {C2 : Cs} {a : Addr} {x : HO} (f : Fits K Hs2 H2 C2) (h : Hs2 a = some x) : C2 a = none := by
  cases e : C2 a with
  | none => rfl
  | some c => have := (f.cel a c e).1; rw [h] at this; cases this
/-- a table that stays -/
theorem Lkd.shr {a : Addr} {ws : List (Key × V)} (f0 : Fits K Hs H C) (b0 : Bas Z Hs H C) (h : Hs a = some (.dK ws)) (o : Obj) :
    Lkd K Z ⟨Z.Hs, lkH a (.frz o (.dK ws)) Z.H, Z.C, upd Hs a (.frz o (.dK ws))⟩ Hs H (upd Hs a (.frz o (.dK ws))) (upd H a (.frz o (.dK ws))) C C (fun _ => True) id (fun Hs2 => upd Hs2 a (.dK ws)) (fun H2 => upd H2 a (.dK ws)) := by
  have ha : H a = some (.dK ws) := f0.sub _ _ h
  have ca : ∀ {Hs2 H2 C2}, Fits K Hs2 H2 C2 → Same (upd Hs a (.frz o (.dK ws))) Hs2 → Hs2 a = some (.frz o (.dK ws)) ∧ H2 a = some (.frz o (.dK ws)) ∧ C2 a = none := fun f s => ⟨s _ _ upd_same, f.sub _ _ (s _ _ upd_same), cel_not f (s _ _ upd_same)⟩
  refine ⟨fun σ env r => ⟨⟨fun b x e => ?_, fun b c e => ?_⟩, ⟨fun b x e => e, fun b x e c => ?_, fun b x e => ?_⟩, ⟨r.slt.len, fun i d e => ?_, fun i c e => ?_, r.slt.sep⟩⟩, rfl, trivial, fun Hs2 H2 C2 f b _ => ?_, fun p e => ?_, fun Hs2 s => Le.unlock (s _ _ upd_same), fun Hs2 H2 C2 p x f s _ h1 h2 h3 => ?_, fun Hs2 s b x e => ?_, fun Hs2 H2 C2 b x f s _ e c k => ?_⟩
  · by_cases hb : b = a
    · subst hb; rw [upd_same] at e ⊢; exact e
    · rw [upd_ne hb] at e ⊢; exact r.fit.sub b x e
  · obtain ⟨n, x, e1, q⟩ := r.fit.cel b c e
    have hb : b ≠ a := fun z => by rw [z, h] at n; cases n
    exact ⟨by rw [upd_ne hb]; exact n, x, by rw [upd_ne hb]; exact e1, q.le (Le.lock h)⟩
  · dsimp only at e c ⊢
    by_cases hb : b = a
    · subst hb
      cases hz : Z.H b with
      | none => rw [lkH_no hz] at e; cases e
      | some y =>
        rw [lkH_at hz] at e
        obtain ⟨k1, k2, k3⟩ := r.bas.kp b y hz c
        exact ⟨by rw [upd_same]; exact e, k2, fun z => by have := k3 z; rw [h] at this; cases this⟩
    · rw [lkH_ne hb] at e
      obtain ⟨k1, k2, k3⟩ := r.bas.kp b x e c
      exact ⟨by rw [upd_ne hb]; exact k1, k2, fun z => by rw [upd_ne hb]; exact k3 z⟩
  · dsimp only at e ⊢
    by_cases hb : b = a
    · subst hb; exact ⟨_, upd_same⟩
    · rw [lkH_ne hb] at e
      obtain ⟨o', e'⟩ := r.bas.th b x e
      exact ⟨o', by rw [upd_ne hb]; exact e'⟩
  · obtain ⟨v, e1, q⟩ := r.slt.shr i d e
    exact ⟨v, e1, q.le (Le.lock h)⟩
  · obtain ⟨p, x, e1, e2, q, n1, n2, n3⟩ := r.slt.own i c e
    have hp : p ≠ a := fun z => by rw [z, h] at n1; cases n1
    exact ⟨p, x, e1, by rw [upd_ne hp]; exact e2, q.le (Le.lock h), by rw [upd_ne hp]; exact n1, n2, (lkH_ne hp).trans n3⟩
  · obtain ⟨s1, h1, c1⟩ := ca f b.fl
    refine ⟨⟨fun x y e => ?_, fun x c e => ?_⟩, ⟨fun x y e => ?_, fun x y e c => ?_, fun x y e => ?_⟩⟩
    · by_cases hx : x = a
      · subst hx; rw [upd_same] at e ⊢; exact e
      · rw [upd_ne hx] at e ⊢; exact f.sub x y e
    · obtain ⟨n, y, e1, q⟩ := f.cel x c e
      have hx : x ≠ a := fun z => by rw [z, s1] at n; cases n
      exact ⟨by rw [upd_ne hx]; exact n, y, by rw [upd_ne hx]; exact e1, q.le (Le.unlock s1)⟩
    · have e0 := b0.fl x y e
      by_cases hx : x = a
      · subst hx; rw [h] at e0; rw [upd_same]; exact e0
      · rw [upd_ne hx]; exact b.fl x y (by dsimp only; rw [upd_ne hx]; exact e0)
    · by_cases hx : x = a
      · subst hx
        obtain ⟨k1, k2, k3⟩ := b0.kp x y e c
        rw [ha] at k1
        exact ⟨by rw [upd_same]; exact k1, c1, fun z => by have := k3 z; rw [h] at this; cases this⟩
      · obtain ⟨k1, k2, k3⟩ := b.kp x y ((lkH_ne hx).trans e) c
        exact ⟨by rw [upd_ne hx]; exact k1, k2, fun z => by rw [upd_ne hx]; exact k3 z⟩
    · by_cases hx : x = a
      · subst hx; exact ⟨_, upd_same⟩
      · obtain ⟨o', e'⟩ := b.th x y ((lkH_ne hx).trans e)
        exact ⟨o', by rw [upd_ne hx]; exact e'⟩
  · by_cases hp : p = a
    · subst hp
      cases hz : Z.H p with
      | none => rfl
      | some y => have e' : lkH p _ Z.H p = _ := e; rw [lkH_at hz] at e'; cases e'
    · exact (lkH_ne hp).symm.trans e
  · have hp : p ≠ a := fun z => by rw [z, (ca f s).1] at h1; cases h1
    exact ⟨by rw [upd_ne hp]; exact h1, h2, by rw [upd_ne hp]; exact h3⟩
  · by_cases hb : b = a
    · subst hb; rw [h] at e; rw [upd_same]; exact e
    · rw [upd_ne hb]; exact s b x (by rw [upd_ne hb]; exact e)
  · by_cases hb : b = a
    · subst hb; rw [ha] at e; exact ⟨by rw [upd_same]; exact e, (ca f s).2.2⟩
    · obtain ⟨k1, k2⟩ := k (by rw [upd_ne hb]; exact e) c
      exact ⟨by rw [upd_ne hb]; exact k1, k2⟩
/-- a table that is a cell -/
theorem Lkd.cel {a : Addr} {ws : List (Key × V)} {kvs : List (DK × D)} (f0 : Fits K Hs H C) (b0 : Bas Z Hs H C) (hc : C a = some (.dct kvs)) (ha : H a = some (.dK ws)) (o : Obj) :
    Lkd K Z { Z with F := Hs } Hs H Hs (upd H a (.frz o (.dK ws))) C (cput C a (.lck o ws kvs)) (fun C2 => C2 a = some (.lck o ws kvs)) (fun C2 => cput C2 a (.dct kvs)) id (fun H2 => upd H2 a (.dK ws)) := by
  have at0 : ∀ {Hs2 H2 C2}, Fits K Hs2 H2 C2 → C2 a = some (.lck o ws kvs) → Hs2 a = none ∧ H2 a = some (.frz o (.dK ws)) ∧ RepKV K Hs2 kvs ws := fun f g => by
    obtain ⟨n, x, e1, e2, q⟩ := f.cel a _ g
    exact ⟨n, by rw [e1, e2], q⟩
  have hn : Hs a = none := (f0.cel a _ hc).1
  refine ⟨fun σ env r => ⟨⟨fun b x e => ?_, fun b c e => ?_⟩, ⟨fun b x e => e, fun b x e c => ?_, fun b x e => ?_⟩, ⟨r.slt.len, r.slt.shr, fun i c e => ?_, r.slt.sep⟩⟩, rfl, cput_same, fun Hs2 H2 C2 f b g => ?_, fun p e => e, fun Hs2 s => Le.of fun _ _ e => e, fun Hs2 H2 C2 p x f s g h1 h2 h3 => ?_, fun Hs2 s => s, fun Hs2 H2 C2 b x f s g e c k => ?_⟩
  · have hb : b ≠ a := fun z => by rw [z, hn] at e; cases e
    rw [upd_ne hb]; exact r.fit.sub b x e
  · by_cases hb : b = a
    · subst hb
      rw [cput_same] at e
      cases e
      obtain ⟨n, x, e1, us, e2, q⟩ := r.fit.cel b _ hc
      rw [e1] at ha
      cases ha
      cases e2
      exact ⟨n, _, upd_same, rfl, q⟩
    · rw [cput_ne hb] at e
      obtain ⟨n, x, e1, q⟩ := r.fit.cel b c e
      exact ⟨n, x, by rw [upd_ne hb]; exact e1, q⟩
  · obtain ⟨k1, k2, k3⟩ := r.bas.kp b x e c
    have hb : b ≠ a := fun z => by rw [z, hc] at k2; cases k2
    exact ⟨by rw [upd_ne hb]; exact k1, by rw [cput_ne hb]; exact k2, k3⟩
  · by_cases hb : b = a
    · subst hb; exact ⟨_, upd_same⟩
    · obtain ⟨o', e'⟩ := r.bas.th b x e
      exact ⟨o', by rw [upd_ne hb]; exact e'⟩
  · obtain ⟨p, x, e1, e2, q, n1, n2, n3⟩ := r.slt.own i c e
    have hp : p ≠ a := fun z => by rw [z, hc] at n2; cases n2
    exact ⟨p, x, e1, by rw [upd_ne hp]; exact e2, q, n1, by rw [cput_ne hp]; exact n2, n3⟩
  · obtain ⟨s1, h1, q1⟩ := at0 f g
    refine ⟨⟨fun x y e => ?_, fun x c e => ?_⟩, ⟨fun x y e => b.fl x y (b0.fl x y e), fun x y e c => ?_, fun x y e => ?_⟩⟩
    · have hx : x ≠ a := fun z => by rw [z] at e; exact absurd (e.symm.trans s1) (by intro z; cases z)
      rw [upd_ne hx]; exact f.sub x y e
    · by_cases hx : x = a
      · subst hx
        rw [cput_same] at e
        cases e
        exact ⟨s1, _, upd_same, ws, rfl, q1⟩
      · rw [cput_ne hx] at e
        obtain ⟨n, y, e1, q⟩ := f.cel x c e
        exact ⟨n, y, by rw [upd_ne hx]; exact e1, q⟩
    · obtain ⟨k1, k2, k3⟩ := b.kp x y e c
      have hx : x ≠ a := fun z => by rw [z, g] at k2; cases k2
      exact ⟨by rw [upd_ne hx]; exact k1, by rw [cput_ne hx]; exact k2, k3⟩
    · by_cases hx : x = a
      · subst hx; exact ⟨_, upd_same⟩
      · obtain ⟨o', e'⟩ := b.th x y e
        exact ⟨o', by rw [upd_ne hx]; exact e'⟩
  · have hp : p ≠ a := fun z => by rw [z, g] at h2; cases h2
    exact ⟨h1, by rw [cput_ne hp]; exact h2, by rw [upd_ne hp]; exact h3⟩
  · have hb : b ≠ a := fun z => by rw [z, hc] at c; cases c
    obtain ⟨k1, k2⟩ := k (by rw [upd_ne hb]; exact e) (by rw [cput_ne hb]; exact c)
    exact ⟨by rw [upd_ne hb]; exact k1, by rw [cput_ne hb]; exact k2⟩
end
end L2.DL
/-! FB: walks over tables: for, list and table comprehensions. -/
namespace L2.DL
open PySem PySem.Spec PyProof.Rows
def keyD : DK → D
  | .inl i => .int i
  | .inr s => .str s
inductive WK where
  | keys | vals | items
@[reducible] def oneW : WK → DK → D → D
  | .keys, k, _ => keyD k
  | .vals, _, d => d
  | .items, k, d => .tup [keyD k, d]
def walkD (w : WK) (kvs : List (DK × D)) : List D := kvs.map fun kv => oneW w kv.1 kv.2
def itOf : WK → Addr → Obj → List (Key × V) → It
  | .keys => Itk
  | .vals => Itd
  | .items => Iti
theorem keyD_rep {K : PySem.W.Frag} {Hs : Hp} (k : DK) : Rep K Hs (keyD k) (kV (kOf k)) := by
  cases k with
  | inl i => exact .int i
  | inr s => exact .str s
theorem RepKV.get {K : PySem.W.Frag} {Hs : Hp} : ∀ {kvs : List (DK × D)} {ws : List (Key × V)} {i : Nat} {k : DK} {d : D}, RepKV K Hs kvs ws → kvs[i]? = some (k, d) → ∃ v, ws[i]? = some (kOf k, v) ∧ Rep K Hs d v
  | _, _, _, _, _, .nil, e => by simp at e
  | _, _, 0, _, _, .cons h _, e => by simp at e; obtain ⟨rfl, rfl⟩ := e; exact ⟨_, rfl, h⟩
  | _, _, i + 1, _, _, .cons _ r, e => RepKV.get (i := i) r (by simpa using e)
theorem walkD_len (w : WK) (kvs : List (DK × D)) : (walkD w kvs).length = kvs.length := by simp [walkD]
theorem walkD_get {w : WK} {kvs : List (DK × D)} {i : Nat} {x : D} (h : (walkD w kvs)[i]? = some x) : ∃ k d, kvs[i]? = some (k, d) ∧ x = oneW w k d := by
  simp only [walkD, List.getElem?_map] at h
  obtain ⟨⟨k, d⟩, e, rfl⟩ := Option.map_eq_some_iff.mp h
  exact ⟨k, d, e, rfl⟩
/-- what an iterator gives, while G holds of the cells -/
structure WalksX (K : PySem.W.Frag) (J : It) (ds : List D) (F : Hp) (G : Cs → Prop) : Prop where
  go : ∀ (i : Nat) (d : D) Hs H C, ds[i]? = some d → Same F Hs → Fits K Hs H C → G C → J.go i H
  yld : ∀ (i : Nat) (d : D) Hs H C x H', ds[i]? = some d → Same F Hs → Fits K Hs H C → G C → J.yld i H x H' → ∃ Hs', Rep K Hs' d x ∧ Same Hs Hs' ∧ ∀ Z σ env, SR K Z σ Hs H env C → SR K Z σ Hs' H' env C ∧ Tr Hs H C Hs' H' C
  stop : ∀ Hs H C, Same F Hs → Fits K Hs H C → G C → J.stop ds.length H
theorem WalksX.of {K : PySem.W.Frag} {J : It} {ds : List D} {F : Hp} (w : Walks K J ds F) : WalksX K J ds F (fun _ => True) :=
  ⟨fun i d Hs H C e s f _ => w.go i d Hs H C e s f, fun i d Hs H C x H' e s f _ y => w.yld i d Hs H C x H' e s f y, fun Hs H C s f _ => w.stop Hs H C s f⟩
theorem walksD {K : PySem.W.Frag} {a : Addr} {o : Obj} {ws : List (Key × V)} {kvs : List (DK × D)} {F : Hp} {G : Cs → Prop} (w : WK)
    (at0 : ∀ Hs H C, Same F Hs → Fits K Hs H C → G C → H a = some (.frz o (.dK ws)) ∧ RepKV K Hs kvs ws) : WalksX K (itOf w a o ws) (walkD w kvs) F G where
  go := fun i d Hs H C e s f g => by
    obtain ⟨h, r⟩ := at0 Hs H C s f g
    have hl : i < ws.length := by rw [← r.length, ← walkD_len w]; exact (List.getElem?_eq_some_iff.mp e).1
    cases w <;> exact ⟨h, hl⟩
  yld := fun i d Hs H C x H' e s f g y => by
    obtain ⟨h, r⟩ := at0 Hs H C s f g
    obtain ⟨k, d', e', rfl⟩ := walkD_get e
    obtain ⟨v, ev, rv⟩ := RepKV.get r e'
    cases w with
    | keys =>
      obtain ⟨rfl, k', v', e2, rfl⟩ := y
      rw [ev] at e2
      cases e2
      exact ⟨Hs, keyD_rep k, fun _ _ z => z, fun Z σ env r => ⟨r, .refl⟩⟩
    | vals =>
      obtain ⟨rfl, k', e2⟩ := y
      rw [ev] at e2
      cases e2
      exact ⟨Hs, rv, fun _ _ z => z, fun Z σ env r => ⟨r, .refl⟩⟩
    | items =>
      obtain ⟨T, k', v', e2, rfl, hT, rfl⟩ := y
      rw [ev] at e2
      cases e2
      have hn := (f.nothing hT).1
      exact ⟨upd Hs T (.tup [kV (kOf k), v]), .tup (.inl upd_same) (.cons (keyD_rep k) (.cons (rv.same (same_upd hn)) .nil)), same_upd hn, fun Z σ env r => ⟨r.lay hT _, Tr.lay f hT _⟩⟩
  stop := fun Hs H C s f g => by
    obtain ⟨h, r⟩ := at0 Hs H C s f g
    have hl : ws.length ≤ (walkD w kvs).length := by rw [walkD_len, r.length]; exact Nat.le_refl _
    cases w <;> exact ⟨h, hl⟩
/-! ### what is walked, with what holds meanwhile -/
abbrev WM := EX → DL.Env → Cs → (List D → (Cs → Prop) → (Cs → Cs) → DL.Env → Cs → Prop) → Prop
def ULok (X : Cx) (Hs' : Hp) (G : Cs → Prop) (uH : Hp → Hp) : Prop := ∀ Hs2 H2 C2 (P : Hp → Prop), Same Hs' Hs2 → Fits X.K Hs2 H2 C2 → G C2 → P (uH H2) → UL X P H2
def LIx (X : Cx) (Z : Z0) (m : DL.Env → Cs → (List D → (Cs → Prop) → (Cs → Cs) → DL.Env → Cs → Prop) → Prop) : TI := fun σ H R => ∃ Hs env C P, SR X.K Z σ Hs H env C ∧ m env C P ∧
  ∀ ds G uC env1 C1 C' Z' Hs1 H1 Hs' H' J uHs uH, P ds G uC env1 C' → Tr Hs H C Hs1 H1 C1 → SR X.K Z σ Hs1 H1 env1 C1 → Lkd X.K Z Z' Hs1 H1 Hs' H' C1 C' G uC uHs uH → ULok X Hs' G uH → WalksX X.K J ds Hs' G → R J H'
def DIx (X : Cx) (tg iter : Expr) (m : WM) : Prop := ∀ Z E, DX X Z E → PI X tg iter (LIx X Z (m E))
def mLift (mi : EM (List D)) : WM := fun E env C Q => mi E env C fun ds env1 C1 => Q ds (fun _ => True) id env1 C1
def mDw (w : WK) (mo : EM D) : WM := fun E env C Q => mo E env C fun d env1 C1 => match d with
  | .dct kvs => Q (walkD w kvs) (fun _ => True) id env1 C1
  | .cell a => match C1 a with
    | some (.dct kvs) => ∀ o ws, Q (walkD w kvs) (fun C2 => C2 a = some (.lck o ws kvs)) (fun C2 => cput C2 a (.dct kvs)) env1 (cput C1 a (.lck o ws kvs))
    | _ => False
  | _ => False
section
variable {X : Cx} {tg e : Expr} {apos cpos : Pos} {mo : EM D} {mi : EM (List D)}
theorem pi_weak {w w' : TI} (h : PI X tg e w) (k : ∀ σ H R, w' σ H R → w σ H R) : PI X tg e w' := ⟨fun pins s σ H R I q => h.run pins s σ H R I (k σ H R q)⟩
/-- the ways of a table's lock -/
theorem lk_read {Z : Z0} {E : EX} {w : WK} {σ : St} {H : Hp} {R : It → Hp → Prop} (q : LIx X Z (mDw w mo E) σ H R) :
    tLk X (LG X.K RShr Z (mo E)) σ H fun x H1 => ∃ d o ws, x = .ref d ∧ H1 d = some (.frz o (.dK ws)) ∧ R (itOf w d o ws) H1 := by
  obtain ⟨Hs, env, C, P, sr, q, k⟩ := q
  refine ⟨Hs, env, C, _, sr, q, fun d env1 C1 v Hs1 H1 p t s1 r => ?_⟩
  cases r with
  | dct h r =>
    rename_i kvs a ws
    rcases h with h | ⟨o, h⟩
    · have hH := s1.fit.sub _ _ h
      refine ⟨a, ws, rfl, .inr ⟨hH, fun o nf => ⟨a, o, ws, rfl, upd_same, ?_⟩⟩⟩
      exact k _ _ _ _ _ _ _ _ _ _ _ _ _ _ p t s1 (Lkd.shr s1.fit s1.bas h o) (fun Hs2 H2 C2 P s f _ p => .inr ⟨a, o, _, nf, f.sub _ _ (s _ _ upd_same), p⟩)
        (walksD w fun Hs2 H2 C2 s f _ => ⟨f.sub _ _ (s _ _ upd_same), (r.le (Le.lock h)).same s⟩)
    · have hH := s1.fit.sub _ _ h
      refine ⟨a, ws, rfl, .inl ⟨o, hH, a, o, ws, rfl, hH, ?_⟩⟩
      exact k _ _ _ _ _ _ _ _ _ _ _ _ _ _ p t s1 (Lkd.no s1.bas) (fun Hs2 H2 C2 P _ _ _ p => .inl p)
        (walksD w fun Hs2 H2 C2 s f _ => ⟨f.sub _ _ (s _ _ h), r.same s⟩)
  | cell a =>
    dsimp only at p
    split at p
    · rename_i kvs hc
      obtain ⟨n, o1, hH, ws, rfl, r⟩ := s1.fit.cel _ _ hc
      refine ⟨a, ws, rfl, .inr ⟨hH, fun o nf => ⟨a, o, ws, rfl, upd_same, ?_⟩⟩⟩
      have at0 : ∀ Hs2 H2 C2, Same Hs1 Hs2 → Fits X.K Hs2 H2 C2 → C2 a = some (.lck o ws kvs) → H2 a = some (.frz o (.dK ws)) ∧ RepKV X.K Hs2 kvs ws := fun Hs2 H2 C2 s f g => by
        obtain ⟨n, x, e1, e2, q⟩ := f.cel a _ g
        exact ⟨by rw [e1, e2], q⟩
      exact k _ _ _ _ _ _ _ _ _ _ _ _ _ _ (p o ws) t s1 (Lkd.cel s1.fit s1.bas hc hH o) (fun Hs2 H2 C2 P s f g p => .inr ⟨a, o, _, nf, (at0 _ _ _ s f g).1, p⟩) (walksD w at0)
    · exact p.elim
  | _ => exact p.elim
theorem dix_keys (he : DE X RShr e mo) : DIx X tg e (mDw .keys mo) := fun Z E hE => pi_weak (pi_keys (pe_lk (he Z E hE))) fun σ H R q => by
  obtain ⟨Hs, env, C, P, sr, q, k⟩ := lk_read q
  refine ⟨Hs, env, C, P, sr, q, fun d env1 C1 v Hs1 H1 p t s1 r => ?_⟩
  obtain ⟨a, ws, ev, h⟩ := k d env1 C1 v Hs1 H1 p t s1 r
  refine ⟨a, ws, ev, ?_⟩
  rcases h with ⟨o, e1, d, o', ws', e2, e3, e4⟩ | ⟨e1, h⟩
  · exact .inl ⟨o, e1, d, o', e2, .inl ⟨ws', e3, e4⟩⟩
  · exact .inr ⟨e1, fun o nf => by obtain ⟨d, o', ws', e2, e3, e4⟩ := h o nf; exact ⟨d, o', e2, .inl ⟨ws', e3, e4⟩⟩⟩
theorem dix_items {elts : List Expr} {kk : Nat} {tpos : Pos} (he : DE X RShr e mo) (hbase : attributeBase e "items" X.env (eval e X.env) = eval e X.env) (hline : (apos.endLine == cpos.line) = true) : DIx X (.Tuple elts kk tpos) (.Call (.Attribute e "items" apos) [] [] cpos) (mDw .items mo) :=
  fun Z E hE => pi_weak (pi_items (pe_lk (he Z E hE)) hbase hline) fun σ H R q => lk_read q
end
/-! ### for -/
def forG (G : Cs → Prop) (uC : Cs → Cs) (g : GM) (mb : SM) (dE : DEnds) : List D → DL.Env → Cs → Prop
  | [], env, C => G C ∧ dE.nx env (uC C)
  | d :: ds, env, C => G C ∧ g d (fun env1 C1 => mb E0 ⟨forG G uC g mb dE ds, fun r C2 => G C2 ∧ dE.rt r (uC C2), fun env2 C2 => G C2 ∧ dE.nx env2 (uC C2), forG G uC g mb dE ds⟩ env1 C1) env C
def sForX (g : GM) (mi : WM) (mb : SM) : SM := fun E dE env C => mi E env C fun ds G uC env1 C1 => forG G uC g mb dE ds env1 C1
section
variable {X : Cx} {pos : Pos}
theorem ds_forX {tg iter : Expr} {body : List Stmt} {g : GM} {mi : WM} {mb : SM} (hp : PassesOwn (model X.prog X.w) X.A X.env X.xe) (hc : X.calm = true) (hi : DIx X tg iter mi) (hg : DG X tg g) (hb : DSs X body mb)
    (hs : ∀ x, foldedSetIterable iter X.env x = pure x) : DS X (.For tg iter body [] pos) (sForX g mi mb) := fun Z E hE => by
  have hg' : PG X tg (fun v σ H Q => ∃ Z', LGt X.K Z' g v σ H Q) := ⟨fun pins s σ H v u Q I r ⟨Z', q⟩ => (hg Z').run pins s σ H v u Q I r q⟩
  have hb' : PSs X body (fun D σ H => ∃ Z', LS X.K Z' (mb E0) D σ H) := ⟨fun pins s σ H D I ⟨Z', q⟩ => (hb Z' E0 dx0).run pins s σ H D I q⟩
  refine ⟨fun pins s σ H D I ⟨Hs, env, C, dE, sr, ok, q⟩ => (ps_unlk (ps_for hp hc (hi Z E hE) hg' hb' hs)).run pins s σ H D I ?_⟩
  refine ⟨Hs, env, C, _, sr, q, fun ds G uC env1 C1 C' Z' Hs1 H1 Hs' H' J uHs uH q1 t1 s1 L ul wk => ?_⟩
  have s0 := L.inn _ _ s1
  have fl : ∀ {σ Hs2 H2 env2 C2}, SR X.K Z' σ Hs2 H2 env2 C2 → Same Hs' Hs2 := fun r => by have := r.bas.fl; rw [L.fl] at this; exact this
  have enx : ∀ {σ2 Hs2 H2 env2 C2}, SR X.K Z' σ2 Hs2 H2 env2 C2 → G C2 → dE.nx env2 (uC C2) → UL X (D.nx σ2) H2 := fun {σ2 Hs2 H2 env2 C2} r g z => ul Hs2 H2 C2 (D.nx σ2) (fl r) r.fit g (ok.1 _ _ _ _ _ (L.out r g) z)
  refine ⟨fun i m σ H => m = ds.length - i ∧ i ≤ ds.length ∧ ∃ Hs env C, SR X.K Z' σ Hs H env C ∧ forG G uC g mb dE (ds.drop i) env C, ⟨ds.length, by simp, Nat.zero_le _, Hs', env1, C', s0, by simpa using q1⟩, ?_⟩
  rintro i m σ2 H2 ⟨rfl, hi2, Hs2, env2, C2, s2, q2⟩
  by_cases hlt : i < ds.length
  · have hd : ds[i]? = some ds[i] := by simp [hlt]
    rw [List.drop_eq_getElem_cons hlt] at q2
    obtain ⟨g2, q2⟩ := q2
    refine .inr ⟨wk.go i _ Hs2 H2 C2 hd (fl s2) s2.fit g2, fun σ' H' => ∃ Hs env C, SR X.K Z' σ' Hs H' env C ∧ forG G uC g mb dE (ds.drop (i + 1)) env C, fun σ' H' ⟨Hs', env', C', s', q'⟩ => ⟨ds.length - (i + 1), by omega, rfl, hlt, Hs', env', C', s', q'⟩, fun x H' y => ?_⟩
    obtain ⟨Hs3, r3, l3, f3⟩ := wk.yld i _ Hs2 H2 C2 x H' hd (fl s2) s2.fit g2 y
    obtain ⟨s3, t3⟩ := f3 _ _ _ s2
    refine ⟨Z', Hs3, env2, C2, _, _, s3, r3, q2, fun σ' Hs' H' env' C' s' p => ⟨Z', Hs', env', C', _, s', ⟨?_, ?_, ?_, ?_⟩, p⟩⟩
    · exact fun σ Hs H env C r z => ⟨Hs, env, C, r, z⟩
    · rintro r v Hs4 H4 C4 f4 b4 rr ⟨g4, z4⟩
      have fr4 := b4.fl
      rw [L.fl] at fr4
      obtain ⟨f5, b5⟩ := L.fit _ _ _ f4 b4 g4
      exact ul Hs4 H4 C4 (D.rt v) fr4 f4 g4 (ok.2.1 r v _ _ _ f5 b5 (L.ret f4 fr4 g4 rr) z4)
    · rintro σ4 Hs4 H4 env4 C4 r4 ⟨g4, z4⟩
      exact enx r4 g4 z4
    · exact fun σ Hs H env C r z => ⟨Hs, env, C, r, z⟩
  · have e : i = ds.length := by omega
    subst e
    rw [List.drop_length] at q2
    exact .inl ⟨wk.stop Hs2 H2 C2 (fl s2) s2.fit q2.1, enx s2 q2.1 q2.2⟩
end
end L2.DL
/-! FC: list and table comprehensions over whatever is walked. -/
namespace L2.DL
open PySem PySem.Spec PyProof.Rows
/-- the loop of a comprehension: acc what is made so far, put how an item joins it -/
def compX {β : Type} (G : Cs → Prop) (uC : Cs → Cs) (vs : List Nat) (g : GM) (mc : EM Bool) (me : EM β) (put : List γ → β → (List γ → Prop) → Prop) (Q : List γ → Cs → Prop) : List D → List γ → DL.Env → Cs → Prop
  | [], acc, _, C => G C ∧ Q acc (uC C)
  | d :: ds, acc, env, C => G C ∧ g d (fun env1 C1 => wipeE env1 vs = env ∧ mc E0 env1 C1 fun b env2 C2 => env2 = env1 ∧
      if b = true then me E0 env1 C2 fun y env3 C3 => env3 = env1 ∧ acc.length < sizeLine ∧ put acc y fun acc' => compX G uC vs g mc me put Q ds acc' env C3 else compX G uC vs g mc me put Q ds acc env C2) env C
def putL (acc : List D) (y : D) (P : List D → Prop) : Prop := P (acc ++ [y])
def putKV (acc : List (DK × D)) (y : D × D) (P : List (DK × D) → Prop) : Prop := ∃ k, dkOf y.1 = some k ∧ P (putD acc k y.2)
def mCompX (vs : List Nat) (g : GM) (mi : WM) (mc : EM Bool) (me : EM D) : EM Cont := fun E env C Q => mi E env C fun ds G uC env1 C1 => noOwn env1 vs = true ∧ compX G uC vs g mc me putL (fun acc C2 => Q (.lst acc) env1 C2) ds [] (wipeE env1 vs) C1
/-- key, value -/
def mKV (mk mv : EM D) : EM (D × D) := fun E env C Q => mk E env C fun k env1 C1 => env1 = env ∧ mv E env1 C1 fun v env2 C2 => Q (k, v) env2 C2
def mCompD (vs : List Nat) (g : GM) (mi : WM) (mc : EM Bool) (mk mv : EM D) : EM Cont := fun E env C Q => mi E env C fun ds G uC env1 C1 => noOwn env1 vs = true ∧ compX G uC vs g mc (mKV mk mv) putKV (fun acc C2 => Q (.dct acc) env1 C2) ds [] (wipeE env1 vs) C1
section
variable {X : Cx} {Z : Z0}
/-- the account of the state within the comprehension; o what the new thing holds -/
structure InC (K : PySem.W.Frag) (Z' : Z0) (σ : St) (vs : List Nat) (env1 : DL.Env) (D : Addr) (H' : Hp) (C' : Cs) (o : HO) (Hs H : Hp) (C : Cs) : Prop where
  sr : SR K Z' (wipe σ vs) Hs H (wipeE env1 vs) C
  at0 : H D = some o
  hs : Hs D = none
  c : C D = none
  kp : ∀ a x, H' a = some x → C' a = none → H a = some x ∧ C a = none
theorem nod_wiped {σ : St} {vs : List Nat} {env1 : DL.Env} {D : Addr} (noD : ∀ (i : Nat) (c : Cont), env1[i]? = some (Slot.own c) → σ[i]? ≠ some (some (V.ref D))) : ∀ (i : Nat) (c : Cont), (wipeE env1 vs)[i]? = some (Slot.own c) → (wipe σ vs)[i]? ≠ some (some (V.ref D)) := fun i c e z => by
  rcases wipeE_get e with ⟨h1, h2⟩ | h1
  · rw [wipe_out h1] at z
    exact noD i c h2 z
  · cases h1
/-- within a turn -/
theorem InC.turn {K : PySem.W.Frag} {Z' : Z0} {σ : St} {vs : List Nat} {env1 : DL.Env} {D : Addr} {H' : Hp} {C' : Cs} {o : HO} {Hs2 H2 Hs3 H3 : Hp} {C2 : Cs} (h : InC K Z' σ vs env1 D H' C' o Hs2 H2 C2)
    (noD : ∀ (i : Nat) (c : Cont), env1[i]? = some (Slot.own c) → σ[i]? ≠ some (some (V.ref D))) (zD : Z'.H D = none) (l3 : Same Hs2 Hs3)
    (f3 : ∀ Z σ env, SR K Z σ Hs2 H2 env C2 → SR K Z σ Hs3 H3 env C2 ∧ Tr Hs2 H2 C2 Hs3 H3 C2) :
    ∃ Z3 : Z0, SR K Z3 (wipe σ vs) Hs3 H3 (wipeE env1 vs) C2 ∧ Tr Hs2 H2 C2 Hs3 H3 C2 ∧
      ∀ {σ5 : St} {Hs5 H5 : Hp} {env5 : DL.Env} {C5 : Cs}, SR K Z3 σ5 Hs5 H5 env5 C5 → wipe σ5 vs = wipe σ vs → wipeE env5 vs = wipeE env1 vs → Tr Hs2 H2 C2 Hs5 H5 C5 → InC K Z' σ vs env1 D H' C' o Hs5 H5 C5 := by
  have noD2 := nod_wiped (vs := vs) noD
  have sp := h.sr.prot h.at0 h.hs h.c noD2
  obtain ⟨s3', t3⟩ := f3 _ _ _ sp
  refine ⟨{ DL.prot Z' D o with F := Hs3 }, s3'.raise, t3, ?_⟩
  intro σ5 Hs5 H5 env5 C5 s5 w5 e5 t5
  have zD' : ({ DL.prot Z' D o with F := Hs3 } : Z0).H D = some o := upd_same
  have zDc : ({ DL.prot Z' D o with F := Hs3 } : Z0).C D = none := by simp [DL.prot]
  have zDs : ({ DL.prot Z' D o with F := Hs3 } : Z0).Hs D = none := by simp [DL.prot]
  obtain ⟨b1, b2, b3⟩ := s5.bas.kp D _ zD' zDc
  have s6 : SR K Z' σ5 Hs5 H5 env5 C5 := SR.unprot zD (SR.up (Up.raise s3') s5)
  have s7 := s6.wiped (vs := vs)
  rw [w5, e5] at s7
  refine ⟨s7, b1, b3 zDs, b2, fun a x e c => ?_⟩
  obtain ⟨k1, k2⟩ := h.kp a x e c
  exact t5.kp a x k1 k2
/-- the new thing is written -/
theorem InC.put {K : PySem.W.Frag} {Z' : Z0} {σ : St} {vs : List Nat} {env1 : DL.Env} {D : Addr} {H' : Hp} {C' : Cs} {o o' : HO} {Hs2 H2 : Hp} {C2 : Cs} (h : InC K Z' σ vs env1 D H' C' o Hs2 H2 C2)
    (noD : ∀ (i : Nat) (c : Cont), env1[i]? = some (Slot.own c) → σ[i]? ≠ some (some (V.ref D))) (zD : Z'.H D = none) (hD : H' D = none) : InC K Z' σ vs env1 D H' C' o' Hs2 (upd H2 D o') C2 :=
  ⟨h.sr.wrP h.hs h.c zD (nod_wiped noD), upd_same, h.hs, h.c, fun a x e c => by
    obtain ⟨k1, k2⟩ := h.kp a x e c
    have ha : a ≠ D := ne_of_none e hD
    exact ⟨by rw [upd_ne ha]; exact k1, k2⟩⟩
/-- the start -/
theorem InC.start {K : PySem.W.Frag} {Z' : Z0} {σ : St} {vs : List Nat} {env1 : DL.Env} {D : Addr} {Hs' H' : Hp} {C' : Cs} {o : HO} (s0 : SR K Z' σ Hs' H' env1 C') (hD : H' D = none) : InC K Z' σ vs env1 D H' C' o Hs' (upd H' D o) C' := by
  obtain ⟨h1, h2⟩ := s0.fit.nothing hD
  exact ⟨(s0.layP hD _).wiped, upd_same, h1, h2, fun a x e c => ⟨by rw [upd_ne (ne_of_none e hD)]; exact e, c⟩⟩
/-- the end -/
theorem InC.fin {K : PySem.W.Frag} {Z Z' : Z0} {σ : St} {vs : List Nat} {env1 : DL.Env} {D : Addr} {Hs1 H1 Hs' H' : Hp} {C1 C' : Cs} {G : Cs → Prop} {uC : Cs → Cs} {uHs uH : Hp → Hp} {o : HO} {Hs2 H2 : Hp} {C2 : Cs} {c : Cont} (L : Lkd K Z Z' Hs1 H1 Hs' H' C1 C' G uC uHs uH) (s1 : SR K Z σ Hs1 H1 env1 C1)
    (h : InC K Z' σ vs env1 D H' C' o Hs2 H2 C2) (noD : ∀ (i : Nat) (c : Cont), env1[i]? = some (Slot.own c) → σ[i]? ≠ some (some (V.ref D))) (zD : Z'.H D = none) (nO : noOwn env1 vs = true) (g : G C2) (ro : RepO K Hs2 c o) :
    SR K Z σ (uHs Hs2) (uH H2) env1 (uC C2) ∧ Tr Hs1 H1 C1 (uHs Hs2) (uH H2) (uC C2) ∧ RFr K Z σ (uHs Hs2) (uH H2) env1 (uC C2) c (.ref D) := by
  have fr : Same Hs' Hs2 := by have := h.sr.bas.fl; rw [L.fl] at this; exact this
  have s2 := L.out h.sr g
  obtain ⟨m1, m2, m3⟩ := L.off _ _ _ D o h.sr.fit fr g h.hs h.c h.at0
  exact ⟨SR.unwipe nO s1 (L.same _ fr) s2 s2.bas fun p e => e, L.tr h.sr.fit g ⟨fr, h.kp⟩, D, o, rfl, m3, ro.le (L.le _ fr), m1, m2, L.zH D zD, noD⟩
theorem compX_tree {vs : List Nat} {g : GM} {mi : WM} {mc : EM Bool} {me : EM D} {E : EX} {σ : St} {H : Hp} {Q : VK} (q0 : LG X.K RFr Z (mCompX vs g mi mc me E) σ H Q) :
    tLc (LIx X Z (mi E)) (WG X.K vs g) (WT X.K mc) (WE1 X.K me) vs σ H (fun v H => UL X (Q v) H) := by
  obtain ⟨Hs, env, C, P, sr, q, k⟩ := q0
  refine ⟨Hs, env, C, _, sr, q, fun ds G uC env1 C1 C' Z' Hs1 H1 Hs' H' J uHs uH q1 t1 s1 L ul wk => ?_⟩
  obtain ⟨nO, q1⟩ := q1
  intro D hD
  have s0 := L.inn _ _ s1
  have zD : Z'.H D = none := s0.bas.zfree hD
  have noD : ∀ (i : Nat) (c : Cont), env1[i]? = some (Slot.own c) → σ[i]? ≠ some (some (V.ref D)) := fun i c e z => by
    obtain ⟨p, o, e1, e2, _⟩ := s0.slt.own i c e
    rw [e1] at z
    cases z
    rw [hD] at e2
    cases e2
  have fl : ∀ {σ Hs2 H2 env2 C2}, SR X.K Z' σ Hs2 H2 env2 C2 → Same Hs' Hs2 := fun r => by have := r.bas.fl; rw [L.fl] at this; exact this
  refine ⟨fun i m H => m = ds.length - i ∧ i ≤ ds.length ∧ ∃ Hs C acc xs, InC X.K Z' σ vs env1 D H' C' (.lst xs) Hs H C ∧ RepL X.K Hs acc xs ∧ compX G uC vs g mc me putL (fun acc C2 => P (.lst acc) env1 C2) (ds.drop i) acc (wipeE env1 vs) C, ⟨ds.length, by simp, Nat.zero_le _, Hs', C', [], [], .start s0 hD, .nil, by simpa using q1⟩, ?_⟩
  rintro i m H2 ⟨rfl, hi2, Hs2, C2, acc, xs, h2, rx, q2⟩
  by_cases hlt : i < ds.length
  · have hd : ds[i]? = some ds[i] := by simp [hlt]
    rw [List.drop_eq_getElem_cons hlt] at q2
    obtain ⟨g2, q2⟩ := q2
    refine .inr ⟨wk.go i _ Hs2 H2 C2 hd (fl h2.sr) h2.sr.fit g2, fun H4 => ∃ Hs C acc xs, InC X.K Z' σ vs env1 D H' C' (.lst xs) Hs H4 C ∧ RepL X.K Hs acc xs ∧ compX G uC vs g mc me putL (fun acc C2 => P (.lst acc) env1 C2) (ds.drop (i + 1)) acc (wipeE env1 vs) C,
      fun H4 z => ⟨ds.length - (i + 1), by omega, rfl, hlt, z⟩, fun x H3 y => ?_⟩
    obtain ⟨Hs3, r3, l3, f3⟩ := wk.yld i _ Hs2 H2 C2 x H3 hd (fl h2.sr) h2.sr.fit g2 y
    obtain ⟨Z3, s3, t3, back⟩ := h2.turn noD zD l3 f3
    refine ⟨Z3, Hs3, wipeE env1 vs, C2, _, _, s3, r3, q2, fun σ4 Hs4 H4 env4 C4 s4 t4 w4 q4 => ⟨w4.trans wipe_wipe, ?_⟩⟩
    obtain ⟨e4, q4⟩ := q4
    have w4' : wipe σ4 vs = wipe σ vs := w4.trans wipe_wipe
    refine ⟨_, Hs4, env4, C4, _, s4, q4, fun b env5 C5 Hs5 H5 q5 t5 s5 => ?_⟩
    obtain ⟨rfl, q5⟩ := q5
    cases b with
    | true =>
      rw [if_pos rfl] at q5 ⊢
      refine ⟨_, Hs5, env5, C5, _, s5, q5, fun y env6 C6 v6 Hs6 H6 q6 t6 s6 r6 => ?_⟩
      obtain ⟨rfl, l6, q6⟩ := q6
      have h6 := back s6 w4' e4 (((t3.trans t4).trans t5).trans t6)
      have rx6 : RepL X.K Hs6 acc xs := rx.same (((l3.trans t4.fr).trans t5.fr).trans t6.fr)
      exact ⟨xs, h6.at0, by rw [← rx.length]; exact l6, Hs6, C6, acc ++ [y], xs ++ [v6], h6.put noD zD hD, rx6.append (.cons r6 .nil), q6⟩
    | false =>
      rw [if_neg Bool.false_ne_true] at q5 ⊢
      have h5 := back s5 w4' e4 ((t3.trans t4).trans t5)
      exact ⟨Hs5, C5, acc, xs, h5, rx.same ((l3.trans t4.fr).trans t5.fr), q5⟩
  · have e : i = ds.length := by omega
    subst e
    rw [List.drop_length] at q2
    refine .inl ⟨wk.stop Hs2 H2 C2 (fl h2.sr) h2.sr.fit q2.1, ?_⟩
    obtain ⟨z1, z2, z3⟩ := h2.fin (c := .lst acc) L s1 noD zD nO q2.1 ⟨_, rfl, rx⟩
    exact ul Hs2 H2 C2 (Q (.ref D)) (fl h2.sr) h2.sr.fit q2.1 (k _ _ _ _ _ _ q2.2 (t1.trans z2) z1 z3)
theorem compD_tree {vs : List Nat} {g : GM} {mi : WM} {mc : EM Bool} {mk mv : EM D} {E : EX} {σ : St} {H : Hp} {Q : VK} (q0 : LG X.K RFr Z (mCompD vs g mi mc mk mv E) σ H Q) :
    tDc (LIx X Z (mi E)) (WG X.K vs g) (WT X.K mc) (WE1 X.K mk) (WE1 X.K mv) vs σ H (fun v H => UL X (Q v) H) := by
  obtain ⟨Hs, env, C, P, sr, q, k⟩ := q0
  refine ⟨Hs, env, C, _, sr, q, fun ds G uC env1 C1 C' Z' Hs1 H1 Hs' H' J uHs uH q1 t1 s1 L ul wk => ?_⟩
  obtain ⟨nO, q1⟩ := q1
  intro D hD
  have s0 := L.inn _ _ s1
  have zD : Z'.H D = none := s0.bas.zfree hD
  have noD : ∀ (i : Nat) (c : Cont), env1[i]? = some (Slot.own c) → σ[i]? ≠ some (some (V.ref D)) := fun i c e z => by
    obtain ⟨p, o, e1, e2, _⟩ := s0.slt.own i c e
    rw [e1] at z
    cases z
    rw [hD] at e2
    cases e2
  have fl : ∀ {σ Hs2 H2 env2 C2}, SR X.K Z' σ Hs2 H2 env2 C2 → Same Hs' Hs2 := fun r => by have := r.bas.fl; rw [L.fl] at this; exact this
  refine ⟨fun i m H => m = ds.length - i ∧ i ≤ ds.length ∧ ∃ Hs C acc xs, InC X.K Z' σ vs env1 D H' C' (.dK xs) Hs H C ∧ RepKV X.K Hs acc xs ∧ compX G uC vs g mc (mKV mk mv) putKV (fun acc C2 => P (.dct acc) env1 C2) (ds.drop i) acc (wipeE env1 vs) C, ⟨ds.length, by simp, Nat.zero_le _, Hs', C', [], [], .start s0 hD, .nil, by simpa using q1⟩, ?_⟩
  rintro i m H2 ⟨rfl, hi2, Hs2, C2, acc, xs, h2, rx, q2⟩
  by_cases hlt : i < ds.length
  · have hd : ds[i]? = some ds[i] := by simp [hlt]
    rw [List.drop_eq_getElem_cons hlt] at q2
    obtain ⟨g2, q2⟩ := q2
    refine .inr ⟨wk.go i _ Hs2 H2 C2 hd (fl h2.sr) h2.sr.fit g2, fun H4 => ∃ Hs C acc xs, InC X.K Z' σ vs env1 D H' C' (.dK xs) Hs H4 C ∧ RepKV X.K Hs acc xs ∧ compX G uC vs g mc (mKV mk mv) putKV (fun acc C2 => P (.dct acc) env1 C2) (ds.drop (i + 1)) acc (wipeE env1 vs) C,
      fun H4 z => ⟨ds.length - (i + 1), by omega, rfl, hlt, z⟩, fun x H3 y => ?_⟩
    obtain ⟨Hs3, r3, l3, f3⟩ := wk.yld i _ Hs2 H2 C2 x H3 hd (fl h2.sr) h2.sr.fit g2 y
    obtain ⟨Z3, s3, t3, back⟩ := h2.turn noD zD l3 f3
    refine ⟨Z3, Hs3, wipeE env1 vs, C2, _, _, s3, r3, q2, fun σ4 Hs4 H4 env4 C4 s4 t4 w4 q4 => ⟨w4.trans wipe_wipe, ?_⟩⟩
    obtain ⟨e4, q4⟩ := q4
    have w4' : wipe σ4 vs = wipe σ vs := w4.trans wipe_wipe
    refine ⟨_, Hs4, env4, C4, _, s4, q4, fun b env5 C5 Hs5 H5 q5 t5 s5 => ?_⟩
    obtain ⟨rfl, q5⟩ := q5
    cases b with
    | true =>
      rw [if_pos rfl] at q5 ⊢
      refine ⟨_, Hs5, env5, C5, _, s5, q5, fun y env6 C6 v6 Hs6 H6 q6 t6 s6 r6 => ?_⟩
      obtain ⟨rfl, q6⟩ := q6
      refine ⟨_, Hs6, env6, C6, _, s6, q6, fun z env7 C7 v7 Hs7 H7 q7 t7 s7 r7 => ?_⟩
      obtain ⟨rfl, l7, k7, e7, q7⟩ := q7
      have h7 := back s7 w4' e4 ((((t3.trans t4).trans t5).trans t6).trans t7)
      have rx7 : RepKV X.K Hs7 acc xs := rx.same ((((l3.trans t4.fr).trans t5.fr).trans t6.fr).trans t7.fr)
      have hv := dk_rep r6 e7
      exact ⟨xs, kOf k7, hv, h7.at0, by rw [← rx.length]; exact l7, Hs7, C7, putD acc k7 z, putK xs (kOf k7) v7, h7.put noD zD hD, rx7.put r7, q7⟩
    | false =>
      rw [if_neg Bool.false_ne_true] at q5 ⊢
      have h5 := back s5 w4' e4 ((t3.trans t4).trans t5)
      exact ⟨Hs5, C5, acc, xs, h5, rx.same ((l3.trans t4.fr).trans t5.fr), q5⟩
  · have e : i = ds.length := by omega
    subst e
    rw [List.drop_length] at q2
    refine .inl ⟨wk.stop Hs2 H2 C2 (fl h2.sr) h2.sr.fit q2.1, ?_⟩
    obtain ⟨z1, z2, z3⟩ := h2.fin (c := .dct acc) L s1 noD zD nO q2.1 ⟨_, rfl, rx⟩
    exact ul Hs2 H2 C2 (Q (.ref D)) (fl h2.sr) h2.sr.fit q2.1 (k _ _ _ _ _ _ q2.2 (t1.trans z2) z1 z3)
end
section
variable {X : Cx} {tg iter : Expr} {pos : Pos}
theorem d_compX {elt : Expr} {ifs : List Expr} {scope : Scope} {own : List (Str × Nat)} {g : GM} {mi : WM} {mc : EM Bool} {me : EM D} (hc : X.calm = true) (hN : X.N.Nodup) (hi : DIx X tg iter mi) (ok : BlkOk X.N X.env.scope scope own)
    (hg : ∀ (s : Shared) (H : Hp) (C : Addr) (cl : List (Str × Addr)) (fp : List Addr), DGw (Blk X scope s H C cl fp) (own.map (·.2)) tg g) (ht : ∀ (s : Shared) (H : Hp) (C : Addr) (cl : List (Str × Addr)) (fp : List Addr), DTs (Blk X scope s H C cl fp) ifs mc)
    (he : ∀ (s : Shared) (H : Hp) (C : Addr) (cl : List (Str × Addr)) (fp : List Addr), DE (Blk X scope s H C cl fp) RShr elt me) (hs : ∀ x, foldedSetIterable iter X.env x = pure x) :
    DE X RFr (.ListComp elt [⟨tg, iter, ifs, 0⟩] scope pos) (mCompX (own.map (·.2)) g mi mc me) := fun Z E hE =>
  ⟨fun pins s σ H Q I q => (pe_unlk (pe_lc (wi := LIx X Z (mi E)) (g := WG X.K (own.map (·.2)) g) (tt := WT X.K mc) (te := WE1 X.K me) hc hN (hi Z E hE) ok
    (fun s H C cl fp => ⟨fun pins s σ H v u Q I r ⟨Z', q⟩ => (hg _ _ _ _ _ Z').run pins s σ H v u Q I r q⟩)
    (fun s H C cl fp => ⟨fun pins s σ H Q I ⟨Z', q⟩ => (ht _ _ _ _ _ Z' E0 dx0).run pins s σ H Q I q⟩)
    (fun s H C cl fp => ⟨fun pins s σ H Q I ⟨Z', q⟩ => (he _ _ _ _ _ Z' E0 dx0).run pins s σ H Q I q⟩) hs)).run pins s σ H Q I (compX_tree q)⟩
theorem d_compD {kx vx : Expr} {ifs : List Expr} {scope : Scope} {own : List (Str × Nat)} {g : GM} {mi : WM} {mc : EM Bool} {mk mv : EM D} (hc : X.calm = true) (hN : X.N.Nodup) (hi : DIx X tg iter mi) (ok : BlkOk X.N X.env.scope scope own)
    (hg : ∀ (s : Shared) (H : Hp) (C : Addr) (cl : List (Str × Addr)) (fp : List Addr), DGw (Blk X scope s H C cl fp) (own.map (·.2)) tg g) (ht : ∀ (s : Shared) (H : Hp) (C : Addr) (cl : List (Str × Addr)) (fp : List Addr), DTs (Blk X scope s H C cl fp) ifs mc)
    (hk : ∀ (s : Shared) (H : Hp) (C : Addr) (cl : List (Str × Addr)) (fp : List Addr), DE (Blk X scope s H C cl fp) RShr kx mk) (hv : ∀ (s : Shared) (H : Hp) (C : Addr) (cl : List (Str × Addr)) (fp : List Addr), DE (Blk X scope s H C cl fp) RShr vx mv) (hs : ∀ x, foldedSetIterable iter X.env x = pure x) :
    DE X RFr (.DictComp kx vx [⟨tg, iter, ifs, 0⟩] scope pos) (mCompD (own.map (·.2)) g mi mc mk mv) := fun Z E hE =>
  ⟨fun pins s σ H Q I q => (pe_unlk (pe_dc (wi := LIx X Z (mi E)) (g := WG X.K (own.map (·.2)) g) (tt := WT X.K mc) (tk := WE1 X.K mk) (tv := WE1 X.K mv) hc hN (hi Z E hE) ok
    (fun s H C cl fp => ⟨fun pins s σ H v u Q I r ⟨Z', q⟩ => (hg _ _ _ _ _ Z').run pins s σ H v u Q I r q⟩)
    (fun s H C cl fp => ⟨fun pins s σ H Q I ⟨Z', q⟩ => (ht _ _ _ _ _ Z' E0 dx0).run pins s σ H Q I q⟩)
    (fun s H C cl fp => ⟨fun pins s σ H Q I ⟨Z', q⟩ => (hk _ _ _ _ _ Z' E0 dx0).run pins s σ H Q I q⟩)
    (fun s H C cl fp => ⟨fun pins s σ H Q I ⟨Z', q⟩ => (hv _ _ _ _ _ Z' E0 dx0).run pins s σ H Q I q⟩) hs)).run pins s σ H Q I (compD_tree q)⟩
end
end L2.DL
/-! FD: table comprehensions of two clauses. -/
namespace L2.DL
open PySem PySem.Spec PyProof.Rows
section
variable {X : Cx} {pins : List (Addr × Obj)} {s : Shared} {σ : St} {H : Hp} {Q : VK} {kx vx ta sa tb sb : Expr} {ca cb : List Expr} {sc : Scope} {own : List (Str × Nat)} {vb : List Nat} {pos pos2 : Pos} {wa wb : TI} {ga gb : TG} {qa qb : TT} {tk tv : TE} {use : Option (Value → Sem Unit)} {Qf : Value → Shared → Prop}
/-- the readings of the block's parts, wherever it stands -/
abbrev BlkAll (X : Cx) (sc : Scope) (P : Cx → Prop) : Prop := ∀ (s : Shared) (H : Hp) (C : Addr) (cl : List (Str × Addr)) (fp : List Addr), P (X.blk s H sc (compEnvC sc cl C X.env) fp)
end
end L2.DL
/-! FE: table comprehensions of two clauses, over trees. -/
namespace L2.DL
open PySem PySem.Spec PyProof.Rows
/-- the loops of two clauses -/
def compY {β γ : Type} (vs vb : List Nat) (ga : GM) (ma : EM Bool) (mj : EM (List D)) (gb : GM) (mb : EM Bool) (me : EM β) (put : List γ → β → (List γ → Prop) → Prop) (Q : List γ → Cs → Prop) : List D → List γ → DL.Env → Cs → Prop
  | [], acc, _, C => Q acc C
  | d :: ds, acc, env, C => ga d (fun env1 C1 => wipeE env1 vs = env ∧ ma E0 env1 C1 fun b env2 C2 => env2 = env1 ∧
      if b = true then mj E0 env1 C2 fun es env3 C3 => env3 = env1 ∧ compX (fun _ => True) id vb gb mb me put (fun acc' C4 => compY vs vb ga ma mj gb mb me put Q ds acc' env C4) es acc (wipeE env1 vb) C3
      else compY vs vb ga ma mj gb mb me put Q ds acc env C2) env C
def mCompD2 (vs vb : List Nat) (ga : GM) (mi : EM (List D)) (ma : EM Bool) (mj : EM (List D)) (gb : GM) (mb : EM Bool) (mk mv : EM D) : EM Cont := fun E env C Q => mi E env C fun ds env1 C1 => noOwn env1 vs = true ∧ compY vs vb ga ma mj gb mb (mKV mk mv) putKV (fun acc C2 => Q (.dct acc) env1 C2) ds [] (wipeE env1 vs) C1
end L2.DL
/-! FF: o[i] op= e of own operators; tables' get and pop; lists that are cells, walked; targets in targets. -/
namespace PySem.W
open PySem PySem.Spec PyProof.Rows
end PySem.W
namespace L2.DL
open PySem PySem.Spec PyProof.Rows
/-! ### o[i] op= e, o a cell, the operator an own one -/
def GetC (o i : D) (C : Cs) (R : D → Prop) : Prop := ∃ a, o = .cell a ∧ match C a with
  | some (.lst xs) => ∃ k x, i = .int k ∧ atI xs k = some x ∧ R x
  | some (.dct kvs) => ∃ k x, dkOf i = some k ∧ look k kvs = some x ∧ R x
  | _ => False
def sAugS (Cl : Addr) (spv : DSpV) (mo mi me : EM D) : SM := fun E dE env C => mo E env C fun o env1 C1 => mi E env1 C1 fun i env2 C2 => GetC o i C2 fun x => me E env2 C2 fun y env3 C3 =>
  isOb Cl (dr C3 x) ∧ isOb Cl (dr C3 y) ∧ spv [x, y] [] C3 (fun r C4 => PutC o i r.tree dE.nx env3 C4) fun xx C4 => E xx env3 C4
end L2.DL
/-! FG: tables' get, pop, ==; lists that are cells, walked; targets in targets. -/
namespace L2.DL
open PySem PySem.Spec PyProof.Rows
/-! ### d.get(k), d.pop(k) -/
def mDGet2 (mo me mx : EM D) : EM D := fun E env C Q => mo E env C fun d env1 C1 => (∃ kvs0, dr C1 d = .dct kvs0) ∧ me E env1 C1 fun k env2 C2 => mx E env2 C2 fun x env3 C3 => ∃ kvs key, dr C3 d = .dct kvs ∧ dkOf k = some key ∧ Q ((look key kvs).getD x) env3 C3
def dropD (kvs : List (DK × D)) (k : DK) : List (DK × D) := kvs.filter fun kv => decide (kv.1 ≠ k)
def mDPop (mo me : EM D) : EM D := fun E env C Q => mo E env C fun d env1 C1 => ∃ a, d = .cell a ∧ (∃ kvs0, C1 a = some (.dct kvs0)) ∧ me E env1 C1 fun k env2 C2 => ∃ kvs key x, C2 a = some (.dct kvs) ∧ dkOf k = some key ∧ look key kvs = some x ∧ Q x env2 (cput C2 a (.dct (dropD kvs key)))
theorem RepKV.drop {K : PySem.W.Frag} {Hs : Hp} {k : DK} : ∀ {kvs : List (DK × D)} {ws : List (Key × V)}, RepKV K Hs kvs ws → RepKV K Hs (dropD kvs k) (dropK ws (kOf k))
  | _, _, .nil => .nil
  | _, _, @RepKV.cons _ _ j d v ds vs h r => by
    unfold dropD dropK
    rw [List.filter_cons, List.filter_cons]
    by_cases e : j = k
    · subst e
      simp only [ne_eq, not_true_eq_false, decide_false, Bool.false_eq_true, if_false]
      exact RepKV.drop r
    · have e' : kOf j ≠ kOf k := fun z => e (kOf_inj z)
      simp only [ne_eq, e, e', not_false_eq_true, decide_true, if_true]
      exact .cons h (RepKV.drop r)
/-! ### lists that are cells, walked -/
theorem Lkd.noG {K : PySem.W.Frag} {Z : Z0} {Hs H : Hp} {C : Cs} {G : Cs → Prop} (b0 : Bas Z Hs H C) (g : G C) : Lkd K Z { Z with F := Hs } Hs H Hs H C C G id id id where
  inn := fun σ env r => r.raise
  fl := rfl
  g0 := g
  fit := fun Hs2 H2 C2 f b _ => ⟨f, ⟨fun x y e => b.fl x y (b0.fl x y e), b.kp, b.th⟩⟩
  zH := fun p h => h
  le := fun Hs2 _ => Le.of fun _ _ e => e
  off := fun Hs2 H2 C2 p x _ _ _ h1 h2 h3 => ⟨h1, h2, h3⟩
  same := fun Hs2 s => s
  kp := fun Hs2 H2 C2 b x _ _ _ e c k => k e c
def mDl (mo : EM D) : WM := fun E env C Q => mo E env C fun d env1 C1 => match d with
  | .cell a => match C1 a with
    | some (.lst xs) => Q xs (fun C2 => C2 a = some (.lst xs)) id env1 C1
    | _ => False
  | d => match iterD d with
    | some ds => Q ds (fun _ => True) id env1 C1
    | none => False
/-! ### targets in targets -/
/-! ### == of tables -/
def hitsB (lvs : List (DK × D)) : List (DK × D) → Bool
  | [] => true
  | (k, v) :: r => match look k lvs with
    | none => false
    | some w => eqv v w && hitsB lvs r
def eqKV (kvs lvs : List (DK × D)) : Bool := kvs.length == lvs.length && hitsB lvs kvs
def gEqK (neg : Bool) (d e : D) (P : D → Prop) : Prop := match d, e with
  | .dct kvs, .dct lvs => (kvs.length = lvs.length → (∀ p ∈ kvs, okD p.2 = true) ∧ ∀ p ∈ lvs, okD p.2 = true) ∧ P (.bl (if neg then !eqKV kvs lvs else eqKV kvs lvs))
  | _, _ => False
/-- what is compared, by values -/
def rEqK (K : PySem.W.Frag) (neg : Bool) : R2 := fun x y H Q => ∃ (Hs : Hp) (a b : Addr) (ks ls : List (Key × V)) (kvs lvs : List (DK × D)), x = .ref a ∧ y = .ref b ∧ Same Hs H ∧ Rd H a (.dK ks) ∧ Rd H b (.dK ls) ∧ RepKV K Hs kvs ks ∧ RepKV K Hs lvs ls ∧
  (kvs.length = lvs.length → (∀ p ∈ kvs, okD p.2 = true) ∧ ∀ p ∈ lvs, okD p.2 = true) ∧ Q (.bl (if neg then !eqKV kvs lvs else eqKV kvs lvs)) H
section
variable {X : Cx}
theorem look_mem {k : DK} {d : D} : ∀ {kvs : List (DK × D)}, look k kvs = some d → (k, d) ∈ kvs
  | (j, x) :: r, h => by
    unfold look at h
    by_cases e : j = k
    · rw [if_pos e] at h; cases h; subst e; exact List.mem_cons_self
    · rw [if_neg e] at h; exact List.mem_cons_of_mem _ (look_mem h)
theorem keq_hits {pins : List (Addr × Obj)} {σ : St} {H Hs : Hp} {s : Shared} {lvs : List (DK × D)} {ls : List (Key × V)} {kb : List (Key × Value)} (hu : X.A.in1.units + 64 < cLine) (I : Inv X pins σ H s) (sub : Same Hs H) (rl : RepKV X.K Hs lvs ls) (vl : KV ls kb) (ol : ∀ p ∈ lvs, okD p.2 = true) :
    ∀ {kvs : List (DK × D)} {ks : List (Key × V)} {ka : List (Key × Value)}, RepKV X.K Hs kvs ks → KV ks ka → (∀ p ∈ kvs, okD p.2 = true) → PySem.W.KeqHits X.A.in1 s kb ka (hitsB lvs kvs)
  | _, _, _, .nil, .nil, _ => .nil
  | _, _, _, @RepKV.cons _ _ k d v ds vs h r, .cons (b := (k', u)) ⟨e1, rv⟩ r', o => by
    cases e1
    have rel := vl.val (kOf k)
    unfold hitsB
    cases hl : look k lvs with
    | none =>
      rw [(look_rep rl).2 hl] at rel
      exact .miss (RelO.none_of rel)
    | some w =>
      obtain ⟨z, ez, rz⟩ := (look_rep rl).1 w hl
      rw [ez] at rel
      obtain ⟨y, ey, ry⟩ := RelO.some_of rel
      have o1 := Bool.and_eq_true_iff.mp (o (k, d) List.mem_cons_self)
      have o2 := Bool.and_eq_true_iff.mp (ol (k, w) (look_mem hl))
      obtain ⟨as, r1⟩ := Dp.reads I _ _ _ (h.dp sub o1.1) rv
      obtain ⟨bs, r2⟩ := Dp.reads I _ _ _ (rz.dp sub o2.1) ry
      exact .hit ey (PySem.W.keq_at r1 r2 o1.2 o2.2 hu) (keq_hits hu I sub rl vl ol r r' fun p hp => o p (List.mem_cons_of_mem _ hp))
theorem eqK_len {K : PySem.W.Frag} {Hs : Hp} {kvs lvs : List (DK × D)} {ks ls : List (Key × V)} {ka kb : List (Key × Value)} (r : RepKV K Hs kvs ks) (r' : RepKV K Hs lvs ls) (v : KV ks ka) (v' : KV ls kb) : (ka.length == kb.length) = (kvs.length == lvs.length) := by
  rw [← v.length, ← v'.length, ← r.length, ← r'.length]
theorem op_eqK (hu : X.A.in1.units + 64 < cLine) : OpR X (compareOp .Eq) (rEqK X.K false) := by
  rintro pins s σ H x y v u Q I rx ry ⟨Hs, a, b, ks, ls, kvs, lvs, rfl, rfl, sub, ha, hb, ra, rb, o, q⟩
  obtain rfl : v = Value.ref a := rx
  obtain rfl : u = Value.ref b := ry
  obtain ⟨_, ya, ka, va, da⟩ := dk_rd I.hok ha
  obtain ⟨_, yb, kb, vb, db⟩ := dk_rd I.hok hb
  refine PySem.W.keq_eq (knd := mixKind X.prog X.w) (r := hitsB lvs kvs) ya yb da db (by have : X.A.in1.units = X.A.units + 1 := rfl; omega) (fun hl => ?_) ⟨.bl _, H, I, rfl, ?_⟩
  · have hl' : kvs.length = lvs.length := by rw [ra.length, rb.length, va.length, vb.length]; exact hl
    exact keq_hits hu I sub rb vb (o hl').2 ra va (o hl').1
  · rw [eqK_len ra rb va vb]
    exact q
theorem opd_eqK' {neg : Bool} {f : Value → Value → Sem Value} (o : OpR X f (rEqK X.K neg)) : OpD X f RShr (gEqK neg) := by
  refine ⟨_, o, ?_⟩
  intro Z σ Hs H env C d e v u P Q sr n n' g k
  cases n with
  | dct h r =>
    cases n' with
    | dct h' r' => exact ⟨Hs, _, _, _, _, _, _, rfl, rfl, sr.fit.sub, h, h', r, r', g.1, k _ _ Hs H g.2 Tr.refl sr (.bl _)⟩
    | _ => exact g.elim
  | _ => cases n' <;> exact g.elim
theorem opd_eqK (hu : X.A.units + 65 < cLine) : OpD X (compareOp .Eq) RShr (gEqK false) := opd_eqK' (op_eqK (by have : X.A.in1.units = X.A.units + 1 := rfl; omega))
end
end L2.DL
/-! FH: list(d.values()), list(d.items()), dict(d), list(d), dict(pairs). -/
namespace L2.DL
open PySem PySem.Spec PyProof.Rows
/-- the table that a tree is now -/
def mTab {α : Type} (mo : EM D) (g : List (DK × D) → (α → Prop) → Prop) : EM α := fun E env C Q => mo E env C fun d env1 C1 => ∃ kvs, dr C1 d = .dct kvs ∧ g kvs fun x => Q x env1 C1
def valsL (kvs : List (DK × D)) : List D := kvs.map (·.2)
def itemsL (kvs : List (DK × D)) : List D := kvs.map fun kv => .tup [keyD kv.1, kv.2]
theorem vals_getL {vs : List V} {us : List Value} : vs.length = us.length → (∀ (j : Nat) u, us[j]? = some u → ∃ v, vs[j]? = some v ∧ RelV v u) → Vals vs us := by
  induction vs generalizing us with
  | nil => intro h _; cases us with
    | nil => exact .nil
    | cons u us => simp at h
  | cons v vs ih =>
    intro h k
    cases us with
    | nil => simp at h
    | cons u us =>
      obtain ⟨v', e, r⟩ := k 0 u rfl
      simp at e
      subst e
      exact .cons r (ih (by simpa using h) fun j u' e => by simpa using k (j + 1) u' (by simpa using e))
section
variable {X : Cx} {e : Expr} {p apos cpos pos : Pos} {mo : EM D}
theorem d_listVals (hc : X.calm = true) (he : DE X RPk e mo) (hg : Gl X "list") (hm : X.mg "list" = none) (hv : bootBuiltins "list" = some (.type "list")) (hbase : attributeBase e "values" X.env (eval e X.env) = eval e X.env) (hline : (apos.endLine == cpos.line) = true)
    (hs : starEach [.Call (.Attribute e "values" apos) [] [] cpos] X.env = (false, eval (.Call (.Attribute e "values" apos) [] [] cpos) X.env) :: starEach [] X.env) :
    DE X RFr (.Call (.Name "list" p) [.Call (.Attribute e "values" apos) [] [] cpos] [] pos) (mTab mo fun kvs K => K (.lst (valsL kvs))) := fun Z E hE => ⟨fun pins s σ H Q I ⟨Hs, env, C, P, sr, q, k⟩ => by
  refine wpAny_Call_Name_kw (ld_blt I hg hm hv ?_)
  refine PyProof.Rows.callWith_type1 ?_ hs rfl
  rw [hs]
  show wpAny _ _ (spliced ((false, eval (.Call (.Attribute e "values" apos) [] [] cpos) X.env) :: backTo pos (starEach [] X.env))) _ _ s
  refine Calls.spliced_cons ?_
  refine wpAny_Call_method (T := "dict") (id := "dict.values") hbase rfl hline F.plainAttrs_dict F.slot_dict_values F.type_dict_values (thn ((he Z E hE).run pins s σ H (fun x H1 => ∃ a ws kvs Hs1 env1 C1, x = .ref a ∧ Rd H1 a (.dK ws) ∧ RepKV X.K Hs1 kvs ws ∧ SR X.K Z σ Hs1 H1 env1 C1 ∧ Tr Hs H C Hs1 H1 C1 ∧ P (.lst (valsL kvs)) env1 C1) I ⟨Hs, env, C, _, sr, q, fun d env1 C1 v Hs1 H1 ⟨kvs, e1, q1⟩ t1 s1 r1 => by
    have n1 := r1.now s1.fit
    rw [e1] at n1
    cases n1 with
    | dct h r => exact ⟨_, _, _, Hs1, env1, C1, rfl, h, r, s1, t1, q1⟩⟩) fun u s1 ⟨x, H1, I1, rx, a, ws, kvs, Hs1, env1, C1, ex, hd, rk, sr1, t1, q1⟩ => ?_)
  subst ex
  obtain rfl : u = Value.ref a := rx
  obtain ⟨hz, hs0, us, kv, hdo⟩ := dk_rd I1.hok hd
  obtain ⟨ep, hat⟩ := hdo.dictAt
  have lk : ws.length = us.length := Paired.length kv
  have I2 : Inv X pins σ H1 { s1 with heap := s1.heap.push { cls := .type "dict_values", data := .fields #[.ref a] } } := I1.kept (t' := s1.toks) fun b ob q => Heap.get?_push_of_some _ q
  refine ⟨hdo.typeIs, hdo.mapOf.noDict, ?_⟩
  show wpAny _ _ (callWith cpos (.builtin "dict.values") [.ref a] [] []) _ X.xe s1
  refine method_meetsIn F.slot_dict_values F.entry_dict_values rfl (PySem.evalArgs_none ⟨rfl, hdo.typeIs, F.args_dict_values_1 _, _, meets_dict_values (mixKind X.prog X.w) a hs0, ⟨us, hdo⟩, ?_⟩)
  refine Calls.spliced_nil ?_
  refine PySem.W.kdl_call (PySem.W.kdl_values (knd := mixKind X.prog X.w) (kvs := us) (ep := ep)) (I1.ok.hd hc) ⟨⟨_, Heap.get?_push_size _ rfl, rfl, rfl⟩, hat.push _⟩ (by omega) fun h' tk acc c hk hS hacc => ?_
  have hl := hacc.1
  have vs' : Vals (ws.map (·.2)) acc.toList := vals_getL ((List.length_map _).trans (lk.trans (hl.symm.trans Array.length_toList.symm))) fun j u e => by
    obtain ⟨key, ek⟩ := hacc.2 j u (by rw [← Array.getElem?_toList]; exact e)
    have hj := (List.getElem?_eq_some_iff.mp ek).1
    have hw : j < ws.length := by rw [lk]; exact hj
    obtain ⟨kk, vv, ew⟩ : ∃ kk vv, ws[j]? = some (kk, vv) := ⟨_, _, List.getElem?_eq_getElem hw⟩
    obtain ⟨u', eu, ru⟩ := L2.kv_get kv ew
    rw [eu] at ek
    cases ek
    exact ⟨vv, by rw [List.getElem?_map, ew]; rfl, ru⟩
  have hn : H1 (s1.heap.push { cls := .type "dict_values", data := .fields #[.ref a] }).objs.size = none := I2.hok.fresh (Nat.le_refl _)
  have I3 : Inv X pins σ (upd H1 (s1.heap.push { cls := .type "dict_values", data := .fields #[.ref a] }).objs.size (.lst (ws.map (·.2)))) _ := I2.laid (t' := tk) hk (Nat.le_refl _) (o := .lst (ws.map (·.2))) (by
    refine ⟨by rw [List.length_map]; exact hz, acc.toList, c, vs', ?_⟩
    first | (rw [Array.toArray_toList]; exact hS) | simpa using hS)
  exact ⟨.ref _, _, I3, rfl, k _ _ _ _ Hs1 _ q1 (t1.trans (Tr.layP hn _)) (sr1.layP hn _) (fr_lay sr1 hn ⟨_, rfl, repKV_vals rk⟩)⟩⟩
theorem tup_pairs {K : PySem.W.Frag} {Hs H' : Hp} : ∀ {kvs : List (DK × D)} {ws : List (Key × V)} {ts : List Addr}, RepKV K Hs kvs ws → Paired (fun (t : Addr) (q : Key × V) => H' t = some (.tup [kV q.1, q.2])) ts ws →
    (∀ t ∈ ts, Hs t = none) → ∃ Hs2, Same Hs Hs2 ∧ (∀ b, Hs2 b ≠ Hs b → b ∈ ts ∧ Hs2 b = H' b) ∧ RepL K Hs2 (itemsL kvs) (ts.map V.ref)
  | _, _, _, .nil, .nil, _ => ⟨Hs, fun _ _ h => h, fun b h => absurd rfl h, .nil⟩
  | _, _, _, @RepKV.cons _ _ k d v ds vs h r, .cons (a := t) e r', n => by
    obtain ⟨Hs2, s2, o2, r2⟩ := tup_pairs r r' fun u hu => n u (List.mem_cons_of_mem _ hu)
    rename_i us
    by_cases ht : Hs2 t = none
    · refine ⟨upd Hs2 t (.tup [kV (kOf k), v]), fun b x hb => ?_, fun b hb => ?_, .cons (.tup (.inl upd_same) (.cons (keyD_rep k) (.cons ((h.same s2).same (same_upd ht)) .nil))) (r2.same (same_upd ht))⟩
      · have hbt : b ≠ t := fun z => by rw [z] at hb; have := s2 _ _ hb; rw [ht] at this; cases this
        rw [upd_ne hbt]; exact s2 b x hb
      · by_cases hbt : b = t
        · subst hbt; exact ⟨List.mem_cons_self, by rw [upd_same]; exact e.symm⟩
        · rw [upd_ne hbt] at hb ⊢
          obtain ⟨m1, m2⟩ := o2 b hb
          exact ⟨List.mem_cons_of_mem _ m1, m2⟩
    · have hne : Hs2 t ≠ Hs t := by rw [n t List.mem_cons_self]; exact ht
      obtain ⟨m1, m2⟩ := o2 t hne
      refine ⟨Hs2, s2, fun b hb => ?_, .cons (.tup (.inl (m2.trans e)) (.cons (keyD_rep k) (.cons (h.same s2) .nil))) r2⟩
      obtain ⟨m3, m4⟩ := o2 b hb
      exact ⟨List.mem_cons_of_mem _ m3, m4⟩
end
section
variable {X : Cx}
/-- dict(d): a copy; list(d): the keys -/
def gDictD (ds : List D) (P : Cont → Prop) : Prop := match ds with
  | [.dct kvs] => P (.dct kvs)
  | _ => False
theorem calld_dictD : CallD X (.type "dict") RFr gDictD := ⟨_, call_dictD, fun Z σ Hs H env C ds vs P Q sr n g k => by
  cases n with
  | nil => exact g.elim
  | cons n1 n2 =>
    cases n2 with
    | cons _ _ => cases n1 <;> exact g.elim
    | nil => cases n1 with
      | dct h r => exact ⟨_, _, rfl, h, fun p hp => k _ _ Hs _ g (Tr.layP hp _) (sr.layP hp _) (fr_lay sr hp ⟨_, rfl, r⟩)⟩
      | _ => exact g.elim⟩
/-- dict(pairs) -/
def pairsOf : List D → Option (List (DK × D))
  | [] => some []
  | .tup [k, v] :: r => match dkOf k, pairsOf r with
    | some key, some kvs => some ((key, v) :: kvs)
    | _, _ => none
  | _ => none
def gDictP (ds : List D) (P : Cont → Prop) : Prop := match ds with
  | [.lst xs] => ∃ kvs, pairsOf xs = some kvs ∧ P (.dct (mergeD [] kvs))
  | _ => False
theorem pairs_rep {K : PySem.W.Frag} {Hs H : Hp} (sub : Same Hs H) : ∀ {xs : List D} {vs : List V} {kvs : List (DK × D)}, RepL K Hs xs vs → pairsOf xs = some kvs → ∃ (ps : List Addr) (ws : List (Key × V)), vs = ps.map V.ref ∧ RepKV K Hs kvs ws ∧ Paired (fun (p : Addr) (kv : Key × V) => SqT K H p [kV kv.1, kv.2]) ps ws
  | _, _, kvs, .nil, h => by cases h; exact ⟨[], [], rfl, .nil, .nil⟩
  | _, _, kvs, .cons (d := d) h1 r1, h => by
    unfold pairsOf at h
    split at h
    · rename_i e; cases e
    · rename_i e
      cases e
      rename_i k v r
      split at h
      · rename_i key kvs' ek er
        cases h
        obtain ⟨ps, ws, rfl, rk, pp⟩ := pairs_rep sub r1 er
        cases h1 with
        | tup ht hr =>
          cases hr with
          | cons ha hb =>
            cases hb with
            | cons hb hc =>
              cases hc
              have hv := dk_rep ha ek
              subst hv
              exact ⟨_ :: ps, (kOf key, _) :: ws, rfl, .cons hb rk, .cons (TupA.sq sub ht) pp⟩
      · cases h
    · cases h
theorem calld_dictP (hc : X.calm = true) : CallD X (.type "dict") RFr gDictP := ⟨_, call_dictP hc, fun Z σ Hs H env C ds vs P Q sr n g k => by
  cases n with
  | nil => exact g.elim
  | cons n1 n2 =>
    cases n2 with
    | cons _ _ => cases n1 <;> exact g.elim
    | nil => cases n1 with
      | lst h r =>
        obtain ⟨kvs, e, p⟩ := g
        obtain ⟨ps, ws, rfl, rk, pp⟩ := pairs_rep sr.fit.sub r e
        exact ⟨_, ps, ws, rfl, SqL.of h, pp, fun q hq => k _ _ Hs _ p (Tr.layP hq _) (sr.layP hq _) (fr_lay sr hq ⟨_, rfl, rk.merge .nil⟩)⟩
      | _ => exact g.elim⟩
end
section
variable {K : PySem.W.Frag} {Z : Z0} {σ : St} {Hs H Hs' H' : Hp} {env : DL.Env} {C : Cs}
/-- new things are laid, some of them stay -/
theorem SR.grow (r : SR K Z σ Hs H env C) (sH : Same H H') (sHs : Same Hs Hs') (new : ∀ b, Hs' b ≠ Hs b → H b = none ∧ Hs' b = H' b) : SR K Z σ Hs' H' env C ∧ Tr Hs H C Hs' H' C := by
  have old : ∀ {b : Addr} {x : HO}, H b = some x → Hs b = none → Hs' b = none := fun {b x} h n => by
    by_cases e : Hs' b = Hs b
    · rw [e]; exact n
    · rw [(new b e).1] at h; cases h
  refine ⟨⟨⟨fun b x e => ?_, fun a c e => ?_⟩, ⟨fun b x e => sHs b x (r.bas.fl b x e), fun b x e c => ?_, fun b x e => ?_⟩, ⟨r.slt.len, fun i d e => ?_, fun i c e => ?_, r.slt.sep⟩⟩, sHs, fun b x e c => ⟨sH b x e, c⟩⟩
  · by_cases q : Hs' b = Hs b
    · rw [q] at e; exact sH b x (r.fit.sub b x e)
    · rw [← (new b q).2]; exact e
  · obtain ⟨n, x, e1, q⟩ := r.fit.cel a c e
    exact ⟨old e1 n, x, sH a x e1, q.same sHs⟩
  · obtain ⟨k1, k2, k3⟩ := r.bas.kp b x e c
    exact ⟨sH b x k1, k2, fun z => old k1 (k3 z)⟩
  · obtain ⟨o', e'⟩ := r.bas.th b x e
    exact ⟨o', sH b o' e'⟩
  · obtain ⟨v, e1, q⟩ := r.slt.shr i d e
    exact ⟨v, e1, q.same sHs⟩
  · obtain ⟨p, x, e1, e2, q, n1, n2, n3⟩ := r.slt.own i c e
    exact ⟨p, x, e1, sH p x e2, q.same sHs, old e2 n1, n2, n3⟩
end
section
variable {X : Cx} {e : Expr} {p apos cpos pos : Pos} {mo : EM D}
theorem d_listItems (hc : X.calm = true) (he : DE X RPk e mo) (hg : Gl X "list") (hm : X.mg "list" = none) (hv : bootBuiltins "list" = some (.type "list")) (hbase : attributeBase e "items" X.env (eval e X.env) = eval e X.env) (hline : (apos.endLine == cpos.line) = true)
    (hs : starEach [.Call (.Attribute e "items" apos) [] [] cpos] X.env = (false, eval (.Call (.Attribute e "items" apos) [] [] cpos) X.env) :: starEach [] X.env) :
    DE X RFr (.Call (.Name "list" p) [.Call (.Attribute e "items" apos) [] [] cpos] [] pos) (mTab mo fun kvs K => K (.lst (itemsL kvs))) := fun Z E hE => ⟨fun pins s σ H Q I ⟨Hs, env, C, P, sr, q, k⟩ => by
  refine wpAny_Call_Name_kw (ld_blt I hg hm hv ?_)
  refine PyProof.Rows.callWith_type1 ?_ hs rfl
  rw [hs]
  show wpAny _ _ (spliced ((false, eval (.Call (.Attribute e "items" apos) [] [] cpos) X.env) :: backTo pos (starEach [] X.env))) _ _ s
  refine Calls.spliced_cons ?_
  refine wpAny_Call_method (T := "dict") (id := "dict.items") hbase rfl hline F.plainAttrs_dict F.slot_dict_items F.type_dict_items (thn ((he Z E hE).run pins s σ H (fun x H1 => ∃ a ws kvs Hs1 env1 C1, x = .ref a ∧ Rd H1 a (.dK ws) ∧ RepKV X.K Hs1 kvs ws ∧ SR X.K Z σ Hs1 H1 env1 C1 ∧ Tr Hs H C Hs1 H1 C1 ∧ P (.lst (itemsL kvs)) env1 C1) I ⟨Hs, env, C, _, sr, q, fun d env1 C1 v Hs1 H1 ⟨kvs, e1, q1⟩ t1 s1 r1 => by
    have n1 := r1.now s1.fit
    rw [e1] at n1
    cases n1 with
    | dct h r => exact ⟨_, _, _, Hs1, env1, C1, rfl, h, r, s1, t1, q1⟩⟩) fun u s1 ⟨x, H1, I1, rx, a, ws, kvs, Hs1, env1, C1, ex, hd, rk, sr1, t1, q1⟩ => ?_)
  subst ex
  obtain rfl : u = Value.ref a := rx
  obtain ⟨hz, hs0, us, kv, hdo⟩ := dk_rd I1.hok hd
  obtain ⟨ep, hat⟩ := hdo.dictAt
  have lk : ws.length = us.length := Paired.length kv
  have I2 : Inv X pins σ H1 { s1 with heap := s1.heap.push { cls := .type "dict_items", data := .fields #[.ref a] } } := I1.kept (t' := s1.toks) fun b ob q => Heap.get?_push_of_some _ q
  refine ⟨hdo.typeIs, hdo.mapOf.noDict, ?_⟩
  show wpAny _ _ (callWith cpos (.builtin "dict.items") [.ref a] [] []) _ X.xe s1
  refine method_meetsIn F.slot_dict_items F.entry_dict_items rfl (PySem.evalArgs_none ⟨rfl, hdo.typeIs, F.args_dict_items_1 _, _, meets_dict_items (mixKind X.prog X.w) a hs0, ⟨us, hdo⟩, ?_⟩)
  refine Calls.spliced_nil ?_
  refine PySem.W.kdx_call (knd := mixKind X.prog X.w) (kvs := us) (ep := ep) (I1.ok.hd hc) ⟨_, Heap.get?_push_size _ rfl, rfl, rfl⟩ (hat.push _) (by omega) fun h' tk acc c as hk hS hl hG hacc => ?_
  obtain ⟨H', k1, k2, k3, k4, k5, k6, J⟩ := LiI.items_laid (tk := tk) I2 hz kv hk hS hl hG hacc
  obtain ⟨Hs2, g1, g2, g3⟩ := tup_pairs (Hs := Hs1) rk k6 fun t ht => (sr1.fit.nothing (k3 t ht)).1
  obtain ⟨s2, t2⟩ := sr1.grow k1 g1 fun b hb => ⟨k3 b (g2 b hb).1, (g2 b hb).2⟩
  obtain ⟨n1, n2⟩ := sr1.fit.nothing k2
  have m1 : Hs2 (s1.heap.push { cls := .type "dict_items", data := .fields #[.ref a] }).objs.size = none := by
    by_cases z : Hs2 (s1.heap.push { cls := .type "dict_items", data := .fields #[.ref a] }).objs.size = Hs1 (s1.heap.push { cls := .type "dict_items", data := .fields #[.ref a] }).objs.size
    · rw [z]; exact n1
    · exact absurd (g2 _ z).1 k4
  exact ⟨.ref _, H', J, rfl, k _ _ _ _ Hs2 _ q1 (t1.trans t2) s2 ⟨_, _, rfl, k5, ⟨_, rfl, g3⟩, m1, n2, sr1.bas.zfree k2, fun i c e z => by
    obtain ⟨p', x', e1, e2, _⟩ := sr1.slt.own i c e
    rw [e1] at z
    cases z
    rw [k2] at e2
    cases e2⟩⟩⟩
end
end L2.DL
/-! FI: name = a comprehension of any kind, on one row. -/
namespace L2.DL
open PySem PySem.Spec PyProof.Rows
section
variable {X : Cx} {Z : Z0} {i : Nat} {y : Str} {py pos spos : Pos} {kx vx ta sa tb sb elt : Expr} {ca cb : List Expr} {sc : Scope} {own : List (Str × Nat)} {vb : List Nat}
/-! the same over trees -/
variable {g ga gb : GM} {mi : WM} {mj mk' : EM (List D)} {mc ma mb : EM Bool} {me mk mv : EM D} {E : EX}
theorem ps_compX (hc : X.calm = true) (hN : X.N.Nodup) (hy : X.N[i]? = some y) (hyl : X.env.scope.names.lookup y = some .local)
    (hsw : swapsWith (.ListComp elt [⟨ta, sa, ca, 0⟩] sc pos) (some (.Name y py)) spos.line X.env = pure true) (hi : DIx X ta sa mi) (ok : BlkOk X.N X.env.scope sc own)
    (hg : BlkAll X sc fun Y => DGw Y (own.map (·.2)) ta g) (ht : BlkAll X sc fun Y => DTs Y ca mc) (he : BlkAll X sc fun Y => DE Y RShr elt me) (hs : ∀ x, foldedSetIterable sa X.env x = pure x) (hE : DX X Z E) :
    PS X (.Assign [.Name y py] (.ListComp elt [⟨ta, sa, ca, 0⟩] sc pos) spos) (tAsg (LG X.K RFr Z (mCompX (own.map (·.2)) g mi mc me E)) (gName i)) :=
  ⟨fun pins s σ H De I q => (ps_unlk (ps_setLc (wi := LIx X Z (mi E)) (g := WG X.K (own.map (·.2)) g) (tt := WT X.K mc) (te := WE1 X.K me) hc hN hy hyl hsw (hi Z E hE) ok
    (fun s H C cl fp => ⟨fun pins s σ H v u Q I r ⟨Z', q⟩ => (hg _ _ _ _ _ Z').run pins s σ H v u Q I r q⟩)
    (fun s H C cl fp => ⟨fun pins s σ H Q I ⟨Z', q⟩ => (ht _ _ _ _ _ Z' E0 dx0).run pins s σ H Q I q⟩)
    (fun s H C cl fp => ⟨fun pins s σ H Q I ⟨Z', q⟩ => (he _ _ _ _ _ Z' E0 dx0).run pins s σ H Q I q⟩) hs)).run pins s σ H De I (compX_tree (Q := fun v H1 => gName i v σ H1 De.nx) q)⟩
end
end L2.DL
/-! FJ: d.clear() of an own table. -/
namespace L2.DL
open PySem PySem.Spec PyProof.Rows
def sClrO (n : Nat) : SM := fun _ dE env C => ∃ kvs, env[n]? = some (.own (.dct kvs)) ∧ dE.nx (env.set n (.own (.dct []))) C
end L2.DL
/-! FK: d.get(k) where k may be None; what is no more wanted is let go at a def's end. -/
namespace L2.DL
open PySem PySem.Spec PyProof.Rows
def GetR (kvs : List (DK × D)) (k : D) (R : D → Prop) : Prop := match k with
  | .non => R .non
  | k => ∃ key, dkOf k = some key ∧ R ((look key kvs).getD .non)
def mDGet (mo me : EM D) : EM D := fun E env C Q => mo E env C fun d env1 C1 => (∃ kvs0, dr C1 d = .dct kvs0) ∧ me E env1 C1 fun k env2 C2 => ∃ kvs, dr C2 d = .dct kvs ∧ GetR kvs k fun x => Q x env2 C2
end L2.DL
/-! MA: rows of a size as an ordered group. -/
namespace L2.DL
def Vc (N : Nat) := {l : List Int // l.length = N}
namespace Vc
variable {N : Nat}
theorem ext' : ∀ {a b : Vc N}, a.1 = b.1 → a = b
  | ⟨_, _⟩, ⟨_, _⟩, rfl => rfl
instance : DecidableEq (Vc N) := fun a b => decidable_of_iff (a.1 = b.1) ⟨ext', fun h => h ▸ rfl⟩
instance : Zero (Vc N) := ⟨⟨List.replicate N 0, List.length_replicate⟩⟩
instance : Add (Vc N) := ⟨fun a b => ⟨List.zipWith (fun i j => i + j) a.1 b.1, by simp [a.2, b.2]⟩⟩
instance : Sub (Vc N) := ⟨fun a b => ⟨List.zipWith (fun i j => i - j) a.1 b.1, by simp [a.2, b.2]⟩⟩
instance : Neg (Vc N) := ⟨fun a => ⟨a.1.map fun n => -n, by simp [a.2]⟩⟩
instance : SMul Nat (Vc N) := ⟨fun k a => ⟨a.1.map fun n => (k : Int) * n, by simp [a.2]⟩⟩
instance : SMul Int (Vc N) := ⟨fun k a => ⟨a.1.map fun n => k * n, by simp [a.2]⟩⟩
instance : HSMul Nat (Vc N) (Vc N) := ⟨fun k a => k • a⟩
instance : HSMul Int (Vc N) (Vc N) := ⟨fun k a => k • a⟩
theorem add_val (a b : Vc N) : (a + b).1 = List.zipWith (fun i j => i + j) a.1 b.1 := rfl
def at' (a : Vc N) (i : Nat) (h : i < N) : Int := a.1[i]'(by rw [a.2]; exact h)
theorem ext_at {a b : Vc N} (h : ∀ i hi, a.at' i hi = b.at' i hi) : a = b := ext' (List.ext_getElem (by rw [a.2, b.2]) fun i h1 h2 => h i (by rw [← a.2]; exact h1))
theorem add_at (a b : Vc N) (i) (h) : (a + b).at' i h = a.at' i h + b.at' i h := List.getElem_zipWith ..
theorem sub_at (a b : Vc N) (i) (h) : (a - b).at' i h = a.at' i h - b.at' i h := List.getElem_zipWith ..
theorem neg_at (a : Vc N) (i) (h) : (-a).at' i h = - a.at' i h := List.getElem_map ..
theorem zero_at (i) (h) : (0 : Vc N).at' i h = 0 := List.getElem_replicate ..
theorem nsm_at (k : Nat) (a : Vc N) (i) (h) : (k • a).at' i h = k * a.at' i h := List.getElem_map ..
theorem zsm_at (k : Int) (a : Vc N) (i) (h) : (k • a).at' i h = k * a.at' i h := List.getElem_map ..
instance : Lean.Grind.IntModule (Vc N) where
  add_zero a := ext_at fun i h => by rw [add_at, zero_at]; omega
  add_comm a b := ext_at fun i h => by rw [add_at, add_at]; omega
  add_assoc a b c := ext_at fun i h => by simp only [add_at]; omega
  neg_add_cancel a := ext_at fun i h => by simp only [add_at, neg_at, zero_at]; omega
  sub_eq_add_neg a b := ext_at fun i h => by simp only [add_at, neg_at, sub_at]; omega
  zero_zsmul a := ext_at fun i h => by rw [zsm_at, zero_at]; omega
  one_zsmul a := ext_at fun i h => by rw [zsm_at]; omega
  add_zsmul n m a := ext_at fun i h => by simp only [zsm_at, add_at]; rw [Int.add_mul]
  zsmul_natCast_eq_nsmul n a := ext_at fun i h => by rw [zsm_at, nsm_at]
instance : _root_.LE (Vc N) := ⟨fun a b => sgn a.1 b.1 ≤ 0⟩
instance : _root_.LT (Vc N) := ⟨fun a b => sgn a.1 b.1 < 0⟩
theorem le_def (a b : Vc N) : a ≤ b ↔ sgn a.1 b.1 ≤ 0 := .rfl
theorem lt_def (a b : Vc N) : a < b ↔ sgn a.1 b.1 < 0 := .rfl
instance : DecidableLT (Vc N) := fun a b => inferInstanceAs (Decidable (sgn a.1 b.1 < 0))
instance : DecidableLE (Vc N) := fun a b => inferInstanceAs (Decidable (sgn a.1 b.1 ≤ 0))
theorem anti : ∀ xs ys : List Int, sgn ys xs = - sgn xs ys
  | [], [] => rfl
  | [], _ :: _ => rfl
  | _ :: _, [] => rfl
  | x :: xs, y :: ys => by
    have ih := anti xs ys
    simp only [sgn]
    by_cases h : x = y
    · subst h; simp [ih]
    · rw [if_neg h, if_neg (fun e => h e.symm)]
      by_cases h2 : x < y
      · rw [if_pos h2, if_neg (by omega)]; rfl
      · rw [if_neg h2, if_pos (by omega)]
instance : Std.IsLinearOrder (Vc N) where
  le_refl a := by rw [le_def, sgn_zero.mpr rfl]; exact Int.le_refl 0
  le_trans a b c h1 h2 := by
    rw [le_def] at h1 h2 ⊢
    by_cases e1 : sgn a.1 b.1 = 0
    · rw [sgn_zero.mp e1]; exact h2
    · by_cases e2 : sgn b.1 c.1 = 0
      · rw [← sgn_zero.mp e2]; exact h1
      · have := sgn_trans (xs := a.1) (ys := b.1) (zs := c.1) (by omega) (by omega)
        omega
  le_antisymm a b h1 h2 := by
    rw [le_def] at h1 h2
    rw [anti] at h2
    exact ext' (sgn_zero.mp (by omega))
  le_total a b := by rw [le_def, le_def, anti a.1 b.1]; omega
instance : Std.LawfulOrderLT (Vc N) where
  lt_iff a b := by rw [lt_def, le_def, le_def, anti a.1 b.1]; omega
instance : Lean.Grind.OrderedAdd (Vc N) where
  add_le_left_iff {a b} c := by
    rw [le_def, le_def, add_val, add_val, sgn_add (by rw [a.2, c.2]) (by rw [b.2, c.2])]
end Vc
end L2.DL
/-! MB: tables as lists of pairs. -/
namespace L2.AS
variable {κ α : Type} [DecidableEq κ]
abbrev Tb (κ α : Type) := List (κ × α)
def lk (c : κ) : Tb κ α → Option α
  | [] => none
  | (d, x) :: r => if d = c then some x else lk c r
def pt (l : Tb κ α) (c : κ) (x : α) : Tb κ α := if (l.any fun e => decide (e.1 = c)) = true then l.map (fun e => if e.1 = c then (e.1, x) else e) else l ++ [(c, x)]
def dp (l : Tb κ α) (c : κ) : Tb κ α := l.filter fun e => decide (e.1 ≠ c)
def ks (l : Tb κ α) : List κ := l.map (·.1)
theorem lk_none {c : κ} : ∀ {l : Tb κ α}, lk c l = none ↔ c ∉ ks l
  | [] => by simp [lk, ks]
  | (d, x) :: r => by
    have ih := lk_none (c := c) (l := r)
    simp only [lk, ks, List.map_cons, List.mem_cons, not_or] at ih ⊢
    split
    · rename_i h; simp [h]
    · rename_i h; rw [ih]; exact ⟨fun q => ⟨fun e => h e.symm, q⟩, fun q => q.2⟩
theorem lk_mem {c : κ} {x : α} : ∀ {l : Tb κ α}, lk c l = some x → (c, x) ∈ l
  | (d, y) :: r, h => by
    simp only [lk] at h
    split at h
    · rename_i e; cases h; subst e; exact .head _
    · exact .tail _ (lk_mem h)
theorem mem_ks {c : κ} {x : α} {l : Tb κ α} (h : (c, x) ∈ l) : c ∈ ks l := List.mem_map.mpr ⟨_, h, rfl⟩
theorem lk_of {c : κ} {x : α} : ∀ {l : Tb κ α}, (ks l).Nodup → (c, x) ∈ l → lk c l = some x
  | (d, y) :: r, n, h => by
    simp only [ks, List.map_cons, List.nodup_cons] at n
    simp only [lk]
    rcases List.mem_cons.mp h with e | e
    · cases e; rw [if_pos rfl]
    · rw [if_neg (fun z => n.1 (by rw [z]; exact mem_ks e))]; exact lk_of n.2 e
theorem lk_app {c : κ} {r : Tb κ α} : ∀ {l : Tb κ α}, lk c (l ++ r) = (lk c l).or (lk c r)
  | [] => rfl
  | (d, x) :: l => by
    simp only [List.cons_append, lk]
    split
    · rfl
    · exact lk_app
theorem lk_repl {c d : κ} {x : α} : ∀ {l : Tb κ α}, lk d (l.map fun e => if e.1 = c then (e.1, x) else e) = if d = c then (lk c l).map fun _ => x else lk d l
  | [] => by simp [lk]
  | (a, y) :: l => by
    have ih := lk_repl (c := c) (d := d) (x := x) (l := l)
    simp only [List.map_cons, lk] at ih ⊢
    by_cases h : a = c
    · subst h
      rw [if_pos rfl, if_pos rfl]
      simp only [lk]
      by_cases h2 : a = d
      · subst h2; simp
      · have h3 : ¬ d = a := fun e => h2 e.symm
        rw [if_neg h2, ih, if_neg h3, if_neg h3, if_neg h2]
    · rw [if_neg h, if_neg h]
      simp only [lk]
      by_cases h2 : a = d
      · subst h2; simp [h]
      · rw [if_neg h2, if_neg h2, ih]
theorem lk_some {c : κ} {l : Tb κ α} (h : c ∈ ks l) : ∃ x, lk c l = some x := by
  cases e : lk c l with
  | none => exact absurd h (lk_none.mp e)
  | some x => exact ⟨x, rfl⟩
theorem lk_pt {l : Tb κ α} {c d : κ} {x : α} : lk d (pt l c x) = if d = c then some x else lk d l := by
  unfold pt
  have hk : (l.any fun e => decide (e.1 = c)) = true ↔ c ∈ ks l := by simp [ks, List.any_eq_true]
  by_cases h : c ∈ ks l
  · obtain ⟨y, hy⟩ := lk_some h
    rw [if_pos (hk.mpr h), lk_repl, hy]
    rfl
  · rw [if_neg (fun z => h (hk.mp z)), lk_app]
    by_cases h2 : d = c
    · subst h2; rw [if_pos rfl, lk_none.mpr h]; simp [lk]
    · have h3 : ¬ c = d := fun e => h2 e.symm
      rw [if_neg h2]; simp [lk, h3]
theorem ks_repl {c : κ} {x : α} {l : Tb κ α} : ks (l.map fun e => if e.1 = c then (e.1, x) else e) = ks l := by
  simp only [ks, List.map_map]
  refine List.map_congr_left fun e _ => ?_
  simp only [Function.comp]
  split <;> rfl
theorem pt_nd {l : Tb κ α} {c : κ} {x : α} (n : (ks l).Nodup) : (ks (pt l c x)).Nodup := by
  unfold pt
  have hk : (l.any fun e => decide (e.1 = c)) = true ↔ c ∈ ks l := by simp [ks, List.any_eq_true]
  by_cases h : c ∈ ks l
  · rw [if_pos (hk.mpr h), ks_repl]; exact n
  · rw [if_neg (fun z => h (hk.mp z))]
    simp only [ks, List.map_append, List.map_cons, List.map_nil]
    exact List.nodup_append.mpr ⟨n, by simp, by simp; exact fun a b h1 e => h (mem_ks (by rw [← e]; exact h1))⟩
end L2.AS
/-! MC: codes given at least cost; what holds within. -/
namespace L2.AS
open _root_.Lean.Grind
variable {κ : Type} [DecidableEq κ] {V : Type} [IntModule V] [_root_.LE V] [_root_.LT V] [Std.IsLinearOrder V] [Std.LawfulOrderLT V] [OrderedAdd V] [DecidableLT V] [DecidableEq V]
structure Prb (κ V : Type) where
  n : Nat
  opt : Nat → List κ
  k : Nat → κ → V
structure AInv (P : Prb κ V) (m : Nat) (U : Nat → V) (W : κ → V) (ow : Tb κ Nat) : Prop where
  feas : ∀ p c, p < P.n → c ∈ P.opt p → U p + W c ≤ P.k p c
  neg : ∀ c, W c ≤ 0
  zero : ∀ c, lk c ow = none → W c = 0
  own : ∀ c p, lk c ow = some p → p < m ∧ c ∈ P.opt p ∧ U p + W c = P.k p c
  inj : ∀ c d p, lk c ow = some p → lk d ow = some p → c = d
  sur : ∀ p, p < m → ∃ c, lk c ow = some p
  nd : (ks ow).Nodup
  le : m ≤ P.n
def sl (P : Prb κ V) (U : Nat → V) (W : κ → V) (p : Nat) (c : κ) : V := P.k p c - U p - W c
structure LInv (R : Nat → κ → Prop) (lb : Tb κ Nat) (sl : Nat → κ → V) (ls : Tb κ (V × Nat)) : Prop where
  key : ∀ c q, lk c lb = none → R q c → lk c ls ≠ none
  val : ∀ c s q, lk c ls = some (s, q) → lk c lb = none ∧ R q c ∧ s = sl q c ∧ ∀ q', R q' c → s ≤ sl q' c
  nd : (ks ls).Nodup
def lookStep (s : κ → V) (lb : Tb κ Nat) (p : Nat) (ls : Tb κ (V × Nat)) (c : κ) : Tb κ (V × Nat) := if (lk c lb).isSome then ls else match lk c ls with
  | none => pt ls c (s c, p)
  | some (s0, _) => if s c < s0 then pt ls c (s c, p) else ls
theorem LInv.mono {R R' : Nat → κ → Prop} {lb : Tb κ Nat} {sl : Nat → κ → V} {ls : Tb κ (V × Nat)} (h : LInv R lb sl ls) (e : ∀ q c, R q c ↔ R' q c) : LInv R' lb sl ls :=
  ⟨fun c q a b => h.key c q a ((e q c).mpr b), fun c s q a => by obtain ⟨h1, h2, h3, h4⟩ := h.val c s q a; exact ⟨h1, (e q c).mp h2, h3, fun q' b => h4 q' ((e q' c).mpr b)⟩, h.nd⟩
theorem LInv.step {R : Nat → κ → Prop} {lb : Tb κ Nat} {sl : Nat → κ → V} {ls : Tb κ (V × Nat)} (h : LInv R lb sl ls) (p : Nat) (c : κ) : LInv (fun q d => R q d ∨ q = p ∧ d = c) lb sl (lookStep (sl p) lb p ls c) := by
  unfold lookStep
  cases hl : lk c lb with
  | some x =>
    simp only [Option.isSome_some, if_true]
    refine ⟨fun d q a b => ?_, fun d s q a => ?_, h.nd⟩
    · rcases b with b | ⟨_, rfl⟩
      · exact h.key d q a b
      · rw [hl] at a; cases a
    · obtain ⟨h1, h2, h3, h4⟩ := h.val d s q a
      refine ⟨h1, .inl h2, h3, fun q' b => ?_⟩
      rcases b with b | ⟨_, rfl⟩
      · exact h4 q' b
      · rw [hl] at h1; cases h1
  | none =>
    have put : (∀ s q, lk c ls = some (s, q) → sl p c ≤ s) → LInv (fun q d => R q d ∨ q = p ∧ d = c) lb sl (pt ls c (sl p c, p)) := fun hs => by
      refine ⟨fun d q a b => ?_, fun d s q a => ?_, pt_nd h.nd⟩
      · rw [lk_pt]
        by_cases e : d = c
        · rw [if_pos e]; simp
        · rw [if_neg e]
          rcases b with b | ⟨_, rfl⟩
          · exact h.key d q a b
          · exact absurd rfl e
      · rw [lk_pt] at a
        by_cases e : d = c
        · subst e
          rw [if_pos rfl] at a
          cases a
          refine ⟨hl, .inr ⟨rfl, rfl⟩, rfl, fun q' b => ?_⟩
          rcases b with b | ⟨rfl, _⟩
          · cases hd : lk d ls with
            | none => exact absurd hd (h.key d q' hl b)
            | some x =>
              obtain ⟨s, q⟩ := x
              have h1 := hs s q hd
              have h2 := (h.val d s q hd).2.2.2 q' b
              grind
          · grind
        · rw [if_neg e] at a
          obtain ⟨h1, h2, h3, h4⟩ := h.val d s q a
          refine ⟨h1, .inl h2, h3, fun q' b => ?_⟩
          rcases b with b | ⟨_, rfl⟩
          · exact h4 q' b
          · exact absurd rfl e
    simp only [Option.isSome_none]
    rw [if_neg (by simp)]
    split
    · rename_i e0
      exact put fun s q e => by rw [e0] at e; cases e
    · rename_i s0 q0 e0
      split
      · rename_i hlt
        exact put fun s q e => by rw [e0] at e; cases e; grind
      · rename_i hlt
        refine ⟨fun d q a b => ?_, fun d s q a => ?_, h.nd⟩
        · rcases b with b | ⟨_, rfl⟩
          · exact h.key d q a b
          · rw [e0]; simp
        · obtain ⟨h1, h2, h3, h4⟩ := h.val d s q a
          refine ⟨h1, .inl h2, h3, fun q' b => ?_⟩
          rcases b with b | ⟨rfl, rfl⟩
          · exact h4 q' b
          · rw [e0] at a; cases a; grind
structure SInv (P : Prb κ V) (m : Nat) (U : Nat → V) (W : κ → V) (ow : Tb κ Nat) (pl : List Nat) (lb : Tb κ Nat) : Prop where
  lt : m < P.n
  len : pl.length = lb.length + 1
  hd : pl[0]? = some m
  nd : pl.Nodup
  lbO : ∀ i c q, lb[i]? = some (c, q) → ∃ p, pl[i + 1]? = some p ∧ lk c ow = some p ∧ (∃ j, j ≤ i ∧ pl[j]? = some q) ∧ c ∈ P.opt q ∧ U q + W c = P.k q c
def Rl (P : Prb κ V) (pl : List Nat) (q : Nat) (c : κ) : Prop := q ∈ pl ∧ c ∈ P.opt q
variable {P : Prb κ V} {m : Nat} {U : Nat → V} {W : κ → V} {ow : Tb κ Nat} {pl : List Nat} {lb : Tb κ Nat} {ls : Tb κ (V × Nat)}
theorem SInv.start (h : m < P.n) : SInv P m U W ow [m] [] := ⟨h, rfl, rfl, by simp, fun i c q e => by simp at e⟩
theorem LInv.start (sl : Nat → κ → V) : LInv (Rl P []) ([] : Tb κ Nat) sl ([] : Tb κ (V × Nat)) := ⟨fun c q _ r => by simp [Rl] at r, fun c s q e => by simp [lk] at e, by simp [ks]⟩
theorem lk_get {c : κ} {q : Nat} {l : Tb κ Nat} (h : lk c l = some q) : ∃ i : Nat, l[i]? = some (c, q) := List.mem_iff_getElem?.mp (lk_mem h)
theorem SInv.lbN (S : SInv P m U W ow pl lb) {i j : Nat} {c : κ} {q r : Nat} (h : lb[i]? = some (c, q)) (h' : lb[j]? = some (c, r)) : i = j := by
  obtain ⟨p, e1, e2, _⟩ := S.lbO i c q h
  obtain ⟨p', e1', e2', _⟩ := S.lbO j c r h'
  rw [e2] at e2'; cases e2'
  have h1 := (List.getElem?_eq_some_iff.mp e1).1
  have h2 := (List.getElem?_eq_some_iff.mp e1').1
  have := (List.getElem?_inj h1 S.nd).mp (e1.trans e1'.symm)
  omega
end L2.AS
/-! MD: one more code given; crowds; what is best. -/
namespace L2.AS
open _root_.Lean.Grind
variable {κ : Type} [DecidableEq κ] {V : Type} [IntModule V] [_root_.LE V] [_root_.LT V] [Std.IsLinearOrder V] [Std.LawfulOrderLT V] [OrderedAdd V] [DecidableLT V] [DecidableEq V]
variable {P : Prb κ V} {m : Nat} {U : Nat → V} {W : κ → V} {ow : Tb κ Nat} {pl : List Nat} {lb : Tb κ Nat} {ls : Tb κ (V × Nat)}
/-! ### the change -/
structure CInv (P : Prb κ V) (m : Nat) (U : Nat → V) (W : κ → V) (Q : Nat → Prop) (pl : List Nat) (lb : Tb κ Nat) (i : Nat) (c : κ) (ow : Tb κ Nat) : Prop where
  at0 : ∃ p, pl[i]? = some p ∧ c ∈ P.opt p ∧ U p + W c = P.k p c
  nd : (ks ow).Nodup
  ent : ∀ d p, lk d ow = some p → d ≠ c → p < m ∧ d ∈ P.opt p ∧ U p + W d = P.k p d
  inj : ∀ d e p, lk d ow = some p → lk e ow = some p → d ≠ c → e ≠ c → d = e
  sur : ∀ p, p < m → Q p → ∃ d, d ≠ c ∧ lk d ow = some p
  lbs : ∀ j d q, j < i → lb[j]? = some (d, q) → lk d ow = pl[j + 1]? ∧ d ≠ c
  own : ∀ p, lk c ow = some p → ∀ j, j ≤ i → pl[j]? ≠ some p
theorem CInv.start (A : AInv P m U W ow) (S : SInv P m U W ow pl lb) (L : LInv (Rl P pl) lb (sl P U W) ls) {c : κ} {q : Nat} (h : lk c ls = some (0, q)) (ho : lk c ow = none) :
    ∃ i, pl[i]? = some q ∧ CInv P m U W (fun _ => True) pl lb i c ow := by
  obtain ⟨h1, h2, h3, h4⟩ := L.val c 0 q h
  obtain ⟨i, hi, e⟩ := List.getElem_of_mem h2.1
  have e' : pl[i]? = some q := by rw [List.getElem?_eq_getElem hi, e]
  refine ⟨i, e', ⟨q, e', h2.2, by unfold sl at h3; grind⟩, A.nd, fun d p e _ => A.own d p e, fun d e p h h' _ _ => A.inj d e p h h', fun p hp _ => ?_, fun j d q hj e => ?_, fun p e => by rw [ho] at e; cases e⟩
  · obtain ⟨d, hd⟩ := A.sur p hp
    exact ⟨d, fun z => (by rw [z, ho] at hd; cases hd), hd⟩
  · obtain ⟨p, e1, e2, _⟩ := S.lbO j d q e
    exact ⟨by rw [e2, e1], fun z => by rw [z, ho] at e2; cases e2⟩
theorem SInv.lk_lb (S : SInv P m U W ow pl lb) {i : Nat} {c : κ} {q : Nat} (h : lb[i]? = some (c, q)) : lk c lb = some q := by
  cases e : lk c lb with
  | none => exact absurd (mem_ks (List.mem_of_getElem? h)) (lk_none.mp e)
  | some r =>
    obtain ⟨j, hj⟩ := lk_get e
    have := S.lbN h hj
    subst this
    rw [h] at hj
    cases hj
    rfl
def codeOf (p : Nat) (ow : Tb κ Nat) : Option κ := (ow.find? fun e => decide (e.2 = p)).map (·.1)
theorem codeOf_some {p : Nat} {ow : Tb κ Nat} {c : κ} (n : (ks ow).Nodup) (h : codeOf p ow = some c) : lk c ow = some p := by
  unfold codeOf at h
  obtain ⟨⟨d, r⟩, e, rfl⟩ := Option.map_eq_some_iff.mp h
  have h1 := List.find?_some e
  have h2 := List.mem_of_find?_eq_some e
  simp at h1
  subst h1
  exact lk_of n h2
theorem codeOf_none {p : Nat} {ow : Tb κ Nat} {c : κ} (h : codeOf p ow = none) : lk c ow ≠ some p := fun e => by
  unfold codeOf at h
  rw [Option.map_eq_none_iff, List.find?_eq_none] at h
  have := h _ (lk_mem e)
  simp at this
variable {U0 : Nat → V} {W0 : κ → V} {ow0 : Tb κ Nat} {Q : Nat → Prop} {i : Nat} {c : κ}
/-- the last turn -/
theorem CInv.last (S : SInv P m U0 W0 ow0 pl lb) (I : CInv P m U W Q pl lb 0 c ow) : codeOf m ow = none := by
  cases e : codeOf m ow with
  | none => rfl
  | some d =>
    have h := codeOf_some I.nd e
    by_cases hd : d = c
    · subst hd; exact absurd S.hd (I.own m h 0 (Nat.le_refl _))
    · have := (I.ent d m h hd).1; omega
/-- one turn more -/
theorem CInv.turn (S : SInv P m U0 W0 ow0 pl lb) (hT : ∀ (i : Nat) (c : κ) (q : Nat), lb[i]? = some (c, q) → c ∈ P.opt q ∧ U q + W c = P.k q c) {p : Nat} (hp : pl[i + 1]? = some p) (I : CInv P m U W Q pl lb (i + 1) c ow) :
    ∃ d q j, lb[i]? = some (d, q) ∧ codeOf p ow = some d ∧ lk d lb = some q ∧ j ≤ i ∧ pl[j]? = some q ∧ CInv P m U W Q pl lb j d (pt ow c p) := by
  have hi := (List.getElem?_eq_some_iff.mp hp).1
  have hl := S.len
  obtain ⟨⟨d, q⟩, hb⟩ : ∃ x, lb[i]? = some x := ⟨lb[i], List.getElem?_eq_getElem (by omega)⟩
  obtain ⟨p', e1, _, ⟨j, e3, e4⟩, _⟩ := S.lbO i d q hb
  obtain ⟨o1, o2⟩ := I.lbs i d q (Nat.lt_succ_self _) hb
  rw [hp] at o1
  obtain ⟨p2, a1, a2, a3⟩ := I.at0
  rw [hp] at a1; cases a1
  have only : ∀ e, lk e ow = some p → e = d := fun e h => by
    by_cases he : e = c
    · subst he; exact absurd hp (I.own p h (i + 1) (Nat.le_refl _))
    · exact I.inj e d p h o1 he o2
  have hc : codeOf p ow = some d := by
    cases e : codeOf p ow with
    | none => exact absurd o1 (codeOf_none e)
    | some e' => rw [only e' (codeOf_some I.nd e)]
  have pne : ∀ (a b : Nat), pl[a]? = pl[b]? → a < pl.length → a = b := fun a b e h => (List.getElem?_inj h S.nd).mp e
  obtain ⟨t1, t2⟩ := hT i d q hb
  refine ⟨d, q, j, hb, hc, S.lk_lb hb, e3, e4, ⟨q, e4, t1, t2⟩, pt_nd I.nd, fun e p' h hd => ?_, fun e f p' h h' he hf => ?_, fun p' hp' hq => ?_, fun j' e r hj h => ?_, fun p' h j' hj' => ?_⟩
  · rw [lk_pt] at h
    by_cases he : e = c
    · subst he; rw [if_pos rfl] at h; cases h
      have : p < m := (I.ent d p o1 o2).1
      exact ⟨this, a2, a3⟩
    · rw [if_neg he] at h; exact I.ent e p' h he
  · rw [lk_pt] at h h'
    by_cases h1 : e = c
    · by_cases h2 : f = c
      · rw [h1, h2]
      · rw [if_pos h1] at h; rw [if_neg h2] at h'; cases h
        exact absurd (only f h') hf
    · by_cases h2 : f = c
      · rw [if_neg h1] at h; rw [if_pos h2] at h'; cases h'
        exact absurd (only e h) he
      · rw [if_neg h1] at h; rw [if_neg h2] at h'; exact I.inj e f p' h h' h1 h2
  · obtain ⟨e, he, h⟩ := I.sur p' hp' hq
    by_cases h1 : e = d
    · subst h1
      rw [o1] at h; cases h
      exact ⟨c, fun z => o2 z.symm, by rw [lk_pt, if_pos rfl]⟩
    · exact ⟨e, h1, by rw [lk_pt, if_neg he]; exact h⟩
  · obtain ⟨g1, g2⟩ := I.lbs j' e r (by omega) h
    refine ⟨by rw [lk_pt, if_neg g2]; exact g1, fun z => ?_⟩
    subst z
    have := S.lbN h hb
    omega
  · rw [lk_pt, if_neg o2, o1] at h
    cases h
    intro z
    have := pne j' (i + 1) (z.trans hp.symm) ((List.getElem?_eq_some_iff.mp z).1)
    omega
/-- all places up to m -/
structure Owns (P : Prb κ V) (m : Nat) (U : Nat → V) (W : κ → V) (Q : Nat → Prop) (ow : Tb κ Nat) : Prop where
  nd : (ks ow).Nodup
  own : ∀ d p, lk d ow = some p → p ≤ m ∧ d ∈ P.opt p ∧ U p + W d = P.k p d
  inj : ∀ d e p, lk d ow = some p → lk e ow = some p → d = e
  sur : ∀ p, p < m → Q p → ∃ d, lk d ow = some p
  surm : ∃ d, lk d ow = some m
theorem CInv.fin (S : SInv P m U0 W0 ow0 pl lb) (I : CInv P m U W Q pl lb 0 c ow) : Owns P m U W Q (pt ow c m) := by
  obtain ⟨p2, a1, a2, a3⟩ := I.at0
  rw [S.hd] at a1; cases a1
  have only : ∀ e, lk e ow = some m → e = c := fun e h => by
    by_cases hd : e = c
    · exact hd
    · have := (I.ent e m h hd).1; omega
  refine ⟨pt_nd I.nd, fun d p h => ?_, fun d e p h h' => ?_, fun p hp hq => ?_, c, by rw [lk_pt, if_pos rfl]⟩
  · rw [lk_pt] at h
    by_cases he : d = c
    · subst he; rw [if_pos rfl] at h; cases h; exact ⟨Nat.le_refl _, a2, a3⟩
    · rw [if_neg he] at h
      obtain ⟨g1, g2⟩ := I.ent d p h he
      exact ⟨by omega, g2⟩
  · rw [lk_pt] at h h'
    by_cases h1 : d = c
    · by_cases h2 : e = c
      · rw [h1, h2]
      · rw [if_pos h1] at h; rw [if_neg h2] at h'; cases h
        exact absurd (only e h') h2
    · by_cases h2 : e = c
      · rw [if_neg h1] at h; rw [if_pos h2] at h'; cases h'
        exact absurd (only d h) h1
      · rw [if_neg h1] at h; rw [if_neg h2] at h'; exact I.inj d e p h h' h1 h2
  · obtain ⟨d, h1, h2⟩ := I.sur p hp hq
    exact ⟨d, by rw [lk_pt, if_neg h1]; exact h2⟩
/-- the change goes through -/
theorem CInv.go (S : SInv P m U0 W0 ow0 pl lb) (hT : ∀ (i : Nat) (c : κ) (q : Nat), lb[i]? = some (c, q) → c ∈ P.opt q ∧ U q + W c = P.k q c) : ∀ (i : Nat) {c : κ} {ow : Tb κ Nat}, CInv P m U W Q pl lb i c ow → ∃ ow', Owns P m U W Q ow' := fun i => by
  induction i using Nat.strongRecOn with
  | ind i ih =>
    intro c ow I
    cases i with
    | zero => exact ⟨_, I.fin S⟩
    | succ i =>
      obtain ⟨p, hp, _⟩ := I.at0
      obtain ⟨d, q, j, _, _, _, hj, _, I'⟩ := CInv.turn S hT hp I
      exact ih j (by omega) I'
/-! ### crowds -/
structure Cd (P : Prb κ V) (Q : Nat → Prop) (M : Nat → κ) : Prop where
  opt : ∀ p, Q p → M p ∈ P.opt p
  inj : ∀ p q, Q p → Q q → M p = M q → p = q
theorem nd_le {α : Type} [DecidableEq α] : ∀ {l r : List α}, l.Nodup → (∀ x ∈ l, x ∈ r) → l.length ≤ r.length
  | [], r, _, _ => Nat.zero_le _
  | a :: l, r, n, h => by
    rw [List.nodup_cons] at n
    have ha := h a (.head _)
    have := nd_le (l := l) (r := r.erase a) n.2 fun x hx => (List.mem_erase_of_ne (fun e : x = a => n.1 (e ▸ hx))).mpr (h x (.tail _ hx))
    rw [List.length_erase_of_mem ha] at this
    have h0 : 0 < r.length := List.length_pos_of_mem ha
    simp only [List.length_cons]
    omega
theorem nd_map {α β : Type} {f : α → β} : ∀ {l : List α}, l.Nodup → (∀ a b, a ∈ l → b ∈ l → f a = f b → a = b) → (l.map f).Nodup
  | [], _, _ => by simp
  | a :: l, n, h => by
    rw [List.nodup_cons] at n
    rw [List.map_cons, List.nodup_cons]
    refine ⟨fun z => ?_, nd_map n.2 fun x y hx hy => h x y (.tail _ hx) (.tail _ hy)⟩
    obtain ⟨b, hb, e⟩ := List.mem_map.mp z
    exact n.1 (h a b (.head _) (.tail _ hb) e.symm ▸ hb)
structure Crowd (P : Prb κ V) (m : Nat) (pl : List Nat) : Prop where
  lt : m < P.n
  hd : m ∈ pl
  le : ∀ p ∈ pl, p ≤ m
  pre : ∃ M, Cd P (fun p => p < m) M
  no : ∀ Q : Nat → Prop, (∀ p ∈ pl, Q p) → ∀ M, ¬ Cd P Q M
  one : ∀ q ∈ pl, ∃ M, Cd P (fun p => p ≤ m ∧ p ≠ q) M
/-! ### what is best -/
def sm (f : Nat → V) : Nat → V
  | 0 => 0
  | n + 1 => sm f n + f n
theorem sm_le {f g : Nat → V} : ∀ {n : Nat}, (∀ p, p < n → f p ≤ g p) → sm f n ≤ sm g n
  | 0, _ => by unfold sm; grind
  | n + 1, h => by
    have h1 := sm_le (n := n) fun p hp => h p (by omega)
    have h2 := h n (by omega)
    unfold sm; grind
theorem sm_eq {f g : Nat → V} : ∀ {n : Nat}, (∀ p, p < n → f p = g p) → sm f n = sm g n
  | 0, _ => rfl
  | n + 1, h => by unfold sm; rw [sm_eq (n := n) fun p hp => h p (by omega), h n (by omega)]
end L2.AS
/-! FL: what is no more wanted is let go at a def's end; walks and tables worked out. -/
namespace L2.DL
open PySem PySem.Spec PyProof.Rows
/-! ### less cells -/
def Sub (C0 C : Cs) : Prop := ∀ b c, C0 b = some c → C b = some c
theorem Sub.refl (C : Cs) : Sub C C := fun _ _ h => h
theorem Sub.none {C0 C : Cs} (h : Sub C0 C) {b : Addr} (e : C b = none) : C0 b = none := by
  cases q : C0 b with
  | none => rfl
  | some c => rw [h b c q] at e; cases e
/-! ### worked out -/
section
variable {E : EX} {env : DL.Env} {C : Cs} {d e x : D} {a Cl : Addr} {f m : Str} {fs : List (Str × D)} {i j : Nat} {c : Cont} {xs ys : List D} {kvs : List (DK × D)} {k : DK}
variable {Q : D → DL.Env → Cs → Prop} {QL : List D → DL.Env → Cs → Prop} {QB : Bool → DL.Env → Cs → Prop} {QC : Cont → DL.Env → Cs → Prop} {R : D → Prop} {RL : List D → Prop} {mo mi me mx : EM D} {mf : EM Cont} {ms : EM (List D)} {nx bk ct : DL.Env → Cs → Prop} {rt : Ret → Cs → Prop} {P : DL.Env → Cs → Prop} {g : GM} {mb : SM} {wm : WM} {spv : DSpV}
/-- what is walked -/
def Dw (w : WK) (Q : List D → (Cs → Prop) → (Cs → Cs) → DL.Env → Cs → Prop) (env : DL.Env) (C : Cs) (d : D) : Prop := match d with
  | .dct kvs => Q (walkD w kvs) (fun _ => True) id env C
  | .cell a => match C a with
    | some (.dct kvs) => ∀ o ws, Q (walkD w kvs) (fun C2 => C2 a = some (.lck o ws kvs)) (fun C2 => cput C2 a (.dct kvs)) env (cput C a (.lck o ws kvs))
    | _ => False
  | _ => False
variable {QW : List D → (Cs → Prop) → (Cs → Cs) → DL.Env → Cs → Prop}
theorem i_dw {w : WK} (q : mo E env C fun d env1 C1 => Dw w QW env1 C1 d) : mDw w mo E env C QW := q
theorem w_dct {w : WK} (q : QW (walkD w kvs) (fun _ => True) id env C) : Dw w QW env C (.dct kvs) := q
theorem i_lift {mi : EM (List D)} (q : mi E env C fun ds env1 C1 => QW ds (fun _ => True) id env1 C1) : mLift mi E env C QW := q
def Dl (Q : List D → (Cs → Prop) → (Cs → Cs) → DL.Env → Cs → Prop) (env : DL.Env) (C : Cs) (d : D) : Prop := match d with
  | .cell a => match C a with
    | some (.lst xs) => Q xs (fun C2 => C2 a = some (.lst xs)) id env C
    | _ => False
  | d => match iterD d with
    | some ds => Q ds (fun _ => True) id env C
    | none => False
theorem i_dl (q : mo E env C fun d env1 C1 => Dl QW env1 C1 d) : mDl mo E env C QW := q
theorem l_lst (q : QW xs (fun _ => True) id env C) : Dl QW env C (.lst xs) := q
theorem l_tup (q : QW xs (fun _ => True) id env C) : Dl QW env C (.tup xs) := q
theorem j_forX (q : wm E env C fun ds G uC env1 C1 => forG G uC g mb ⟨nx, rt, bk, ct⟩ ds env1 C1) : sForX g wm mb E ⟨nx, rt, bk, ct⟩ env C := q
/-- a walk by an invariant -/
theorem forG_inv {G : Cs → Prop} {uC : Cs → Cs} {ds : List D} (I : Nat → DL.Env → Cs → Prop) (h0 : I 0 env C) (hG : ∀ k env C, I k env C → G C)
    (step : ∀ (k : Nat) (d : D) (env : DL.Env) (C : Cs) (nx' : DL.Env → Cs → Prop), ds[k]? = some d → I k env C → (∀ env C, I (k + 1) env C → nx' env C) →
      g d (fun env1 C1 => mb E0 ⟨nx', fun r C2 => G C2 ∧ rt r (uC C2), fun env2 C2 => G C2 ∧ nx env2 (uC C2), nx'⟩ env1 C1) env C)
    (fin : ∀ env C, I ds.length env C → nx env (uC C)) : forG G uC g mb ⟨nx, rt, bk, ct⟩ ds env C := by
  suffices h : ∀ (es : List D) (k : Nat) (env : DL.Env) (C : Cs), ds.drop k = es → k ≤ ds.length → I k env C → forG G uC g mb ⟨nx, rt, bk, ct⟩ es env C from h ds 0 env C rfl (Nat.zero_le _) h0
  intro es
  induction es with
  | nil =>
    intro k env C hk hl hI
    have e : k = ds.length := by
      have := congrArg List.length hk
      simp at this
      omega
    subst e
    exact ⟨hG _ _ _ hI, fin env C hI⟩
  | cons d es ih =>
    intro k env C hk hl hI
    have hd : ds[k]? = some d := by
      have := congrArg (fun l => l[0]?) hk
      simpa using this
    have hk' : k < ds.length := (List.getElem?_eq_some_iff.mp hd).1
    have hk2 : ds.drop (k + 1) = es := by
      have := congrArg List.tail hk
      simpa using this
    exact ⟨hG _ _ _ hI, step k d env C (forG G uC g mb ⟨nx, rt, bk, ct⟩ es) hd hI fun env C hI' => ih (k + 1) env C hk2 hk' hI'⟩
/-- a comprehension by an invariant -/
theorem compX_inv {β γ : Type} {G : Cs → Prop} {uC : Cs → Cs} {vs : List Nat} {mc : EM Bool} {me : EM β} {put : List γ → β → (List γ → Prop) → Prop} {QQ : List γ → Cs → Prop} {ds : List D} (I : Nat → List γ → Cs → Prop) {acc : List γ} (h0 : I 0 acc C) (hG : ∀ k acc C, I k acc C → G C)
    (step : ∀ (k : Nat) (d : D) (acc : List γ) (C : Cs) (nxt : List γ → Cs → Prop), ds[k]? = some d → I k acc C → (∀ acc' C', I (k + 1) acc' C' → nxt acc' C') →
      g d (fun env1 C1 => wipeE env1 vs = env ∧ mc E0 env1 C1 fun b env2 C2 => env2 = env1 ∧ if b = true then me E0 env1 C2 fun y env3 C3 => env3 = env1 ∧ acc.length < sizeLine ∧ put acc y fun acc' => nxt acc' C3 else nxt acc C2) env C)
    (fin : ∀ acc C, I ds.length acc C → QQ acc (uC C)) : compX G uC vs g mc me put QQ ds acc env C := by
  suffices h : ∀ (es : List D) (k : Nat) (acc : List γ) (C : Cs), ds.drop k = es → k ≤ ds.length → I k acc C → compX G uC vs g mc me put QQ es acc env C from h ds 0 acc C rfl (Nat.zero_le _) h0
  intro es
  induction es with
  | nil =>
    intro k acc C hk hl hI
    have e : k = ds.length := by
      have := congrArg List.length hk
      simp at this
      omega
    subst e
    exact ⟨hG _ _ _ hI, fin acc C hI⟩
  | cons d es ih =>
    intro k acc C hk hl hI
    have hd : ds[k]? = some d := by
      have := congrArg (fun l => l[0]?) hk
      simpa using this
    have hk' : k < ds.length := (List.getElem?_eq_some_iff.mp hd).1
    have hk2 : ds.drop (k + 1) = es := by
      have := congrArg List.tail hk
      simpa using this
    exact ⟨hG _ _ _ hI, step k d acc C (fun acc' C' => compX G uC vs g mc me put QQ es acc' env C') hd hI fun acc' C' hI' => ih (k + 1) acc' C' hk2 hk' hI'⟩
theorem i_compX {vs : List Nat} {mc : EM Bool} (q : wm E env C fun ds G uC env1 C1 => noOwn env1 vs = true ∧ compX G uC vs g mc me putL (fun acc C2 => QC (.lst acc) env1 C2) ds [] (wipeE env1 vs) C1) : mCompX vs g wm mc me E env C QC := q
theorem i_compD {vs : List Nat} {mc : EM Bool} {mk mv : EM D} (q : wm E env C fun ds G uC env1 C1 => noOwn env1 vs = true ∧ compX G uC vs g mc (mKV mk mv) putKV (fun acc C2 => QC (.dct acc) env1 C2) ds [] (wipeE env1 vs) C1) : mCompD vs g wm mc mk mv E env C QC := q
theorem i_kv {QK : D × D → DL.Env → Cs → Prop} {mk mv : EM D} (q : mk E env C fun k env1 C1 => env1 = env ∧ mv E env1 C1 fun v env2 C2 => QK (k, v) env2 C2) : mKV mk mv E env C QK := q
theorem p_kv {acc : List (DK × D)} {PP : List (DK × D) → Prop} (hk : dkOf x = some k) (q : PP (putD acc k d)) : putKV acc (x, d) PP := ⟨k, hk, q⟩
theorem p_l {acc : List D} {PP : List D → Prop} (q : PP (acc ++ [d])) : putL acc d PP := q
theorem i_dget (q : mo E env C fun d env1 C1 => (∃ kvs0, dr C1 d = .dct kvs0) ∧ me E env1 C1 fun k env2 C2 => ∃ kvs, dr C2 d = .dct kvs ∧ GetR kvs k fun x => Q x env2 C2) : mDGet mo me E env C Q := q
theorem r_none (q : R .non) : GetR kvs .non R := q
theorem r_str {t : Txt} (q : R ((look (.inr t) kvs).getD .non)) : GetR kvs (.str t) R := ⟨_, rfl, q⟩
theorem i_dpop (q : mo E env C fun d env1 C1 => ∃ a, d = .cell a ∧ (∃ kvs0, C1 a = some (.dct kvs0)) ∧ me E env1 C1 fun k env2 C2 => ∃ kvs key x, C2 a = some (.dct kvs) ∧ dkOf k = some key ∧ look key kvs = some x ∧ Q x env2 (cput C2 a (.dct (dropD kvs key)))) : mDPop mo me E env C Q := q
theorem i_tab {α : Type} {gg : List (DK × D) → (α → Prop) → Prop} {QA : α → DL.Env → Cs → Prop} (q : mo E env C fun d env1 C1 => ∃ kvs, dr C1 d = .dct kvs ∧ gg kvs fun x => QA x env1 C1) : mTab mo gg E env C QA := q
theorem j_augS (q : mo E env C fun o env1 C1 => mi E env1 C1 fun i env2 C2 => GetC o i C2 fun x => me E env2 C2 fun y env3 C3 => isOb Cl (dr C3 x) ∧ isOb Cl (dr C3 y) ∧ spv [x, y] [] C3 (fun r C4 => PutC o i r.tree nx env3 C4) fun xx C4 => E xx env3 C4) : sAugS Cl spv mo mi me E ⟨nx, rt, bk, ct⟩ env C := q
theorem j_appC (q : mo E env C fun d0 env0 C0 => ∃ a xs0, d0 = .cell a ∧ C0 a = some (.lst xs0) ∧ me E env0 C0 fun d env1 C1 => ∃ xs, C1 a = some (.lst xs) ∧ xs.length < sizeLine ∧ nx env1 (cput C1 a (.lst (xs ++ [d])))) : sAppC mo me E ⟨nx, rt, bk, ct⟩ env C := q
theorem i_truO (q : mo E env C fun d env1 C1 => isOb Cl (dr C1 d) ∧ spv [d] [] C1 (fun r C2 => ∃ b, r = .shr (.bl b) ∧ QB b env1 C2) fun _ _ => False) : mTruO Cl spv mo E env C QB := q
theorem j_clrO (h : env[i]? = some (.own (.dct kvs))) (q : nx (env.set i (.own (.dct []))) C) : sClrO i E ⟨nx, rt, bk, ct⟩ env C := ⟨kvs, h, q⟩
theorem g_eqKD {ng : Bool} {lvs : List (DK × D)} (h : kvs.length = lvs.length → (∀ p ∈ kvs, okD p.2 = true) ∧ ∀ p ∈ lvs, okD p.2 = true) (q : R (.bl (if ng then !eqKV kvs lvs else eqKV kvs lvs))) : gEqK ng (dr C (.dct kvs)) (dr C (.dct lvs)) R := ⟨h, q⟩
end
section
variable {env : DL.Env} {C : Cs} {d : D} {r : List D} {P : DL.Env → Cs → Prop} {g : GM} {ms : GMs}
theorem j_gsG (q : g d (fun env1 C1 => ms r P env1 C1) env C) : gsCons g ms (d :: r) P env C := q
end
theorem i_compD2 {vs vb : List Nat} {ga gb : GM} {mi : EM (List D)} {ma mb : EM Bool} {mj : EM (List D)} {mk mv : EM D} {E : EX} {env : DL.Env} {C : Cs} {QC : Cont → DL.Env → Cs → Prop} (q : mi E env C fun ds env1 C1 => noOwn env1 vs = true ∧ compY vs vb ga ma mj gb mb (mKV mk mv) putKV (fun acc C2 => QC (.dct acc) env1 C2) ds [] (wipeE env1 vs) C1) : mCompD2 vs vb ga mi ma mj gb mb mk mv E env C QC := q
/-! ### tables by texts -/
open L2.AS
def tD {α : Type} (f : α → D) (l : Tb Txt α) : List (DK × D) := l.map fun e => (.inr e.1, f e.2)
section
variable {α : Type} {f : α → D}
theorem look_tD {c : Txt} : ∀ {l : Tb Txt α}, look (.inr c) (tD f l) = (lk c l).map f
  | [] => rfl
  | (d, x) :: l => by
    have ih := look_tD (c := c) (l := l)
    simp only [tD, List.map_cons, look, lk] at ih ⊢
    by_cases h : d = c
    · subst h; rw [if_pos rfl, if_pos rfl]; rfl
    · rw [if_neg h, if_neg (fun z => h (Sum.inr.inj z))]; exact ih
end
end L2.DL
/-! ME: the assigner's and the search's cells. -/
namespace L2.DL
open PySem PySem.Spec PyProof.Rows L2.AS
/-! ### cells that are written, others stay -/
def Fx (L : List Addr) (C C' : Cs) : Prop := ∀ b c, b ∉ L → C b = some c → C' b = some c
theorem Fx.refl {L : List Addr} {C : Cs} : Fx L C C := fun _ _ _ h => h
theorem Fx.trans {L : List Addr} {C C1 C2 : Cs} (h : Fx L C C1) (h' : Fx L C1 C2) : Fx L C C2 := fun b c hb e => h' b c hb (h b c hb e)
theorem Fx.mono {L L' : List Addr} {C C' : Cs} (h : Fx L C C') (s : ∀ a ∈ L, a ∈ L') : Fx L' C C' := fun b c hb e => h b c (fun z => hb (s b z)) e
theorem Fx.put {L : List Addr} {C C' : Cs} {a : Addr} {x : Cell} (h : Fx L C C') (ha : a ∈ L) : Fx L C (cput C' a x) := fun b c hb e => by
  rw [cput_ne (fun z : b = a => hb (by rw [z]; exact ha))]; exact h b c hb e
theorem Fx.new {L : List Addr} {C C' : Cs} {a : Addr} {x : Cell} (h : Fx L C C') (ha : C' a = none) : Fx L C (cput C' a x) := fun b c hb e => by
  have e' := h b c hb e
  rw [cput_ne (fun z => by rw [z, ha] at e'; cases e')]; exact e'
theorem Fx.sub {C C' : Cs} (h : Fx [] C C') : Sub C C' := fun b c e => h b c (by simp) e
/-- what was not there is written at will -/
theorem Fx.cut {L : List Addr} {C C' : Cs} {a : Addr} (h : Fx (a :: L) C C') (ha : C a = none) : Fx L C C' := fun b c hb e => by
  refine h b c (fun z => ?_) e
  rcases List.mem_cons.mp z with z | z
  · rw [z, ha] at e; cases e
  · exact hb z
/-! ### the problem of a situation -/
abbrev VS (S : List Cl) := Vc (2 * S.length + 1)
def kst (S : List Cl) (p : Nat) (t : Txt) : VS S := match S[p]? with
  | some c => (match numCl c t with
    | some j => ⟨costRow S.length p c t j, costRow_len _ _ _ _ _⟩
    | none => 0)
  | none => 0
def opS (S : List Cl) (p : Nat) : List Txt := match S[p]? with
  | some c => c.opts
  | none => []
abbrev prb (S : List Cl) : Prb Txt (VS S) := ⟨S.length, opS S, kst S⟩
theorem kst_val {S : List Cl} {p : Nat} {t : Txt} {c : Cl} {j : Nat} (h : S[p]? = some c) (h' : numCl c t = some j) : (kst S p t).1 = costRow S.length p c t j := by
  unfold kst; rw [h]; dsimp only; rw [h']
theorem opS_some {S : List Cl} {p : Nat} {c : Cl} (h : S[p]? = some c) : opS S p = c.opts := by unfold opS; rw [h]
abbrev cV (cC : Addr) {N : Nat} (x : Vc N) : D := costI cC x.1
abbrev natD (p : Nat) : D := .int p
structure SGd (S : List Cl) : Prop where
  n : S.length ≤ 400
  o : ∀ c ∈ S, c.opts.length ≤ 1000
  nd : (S.map (·.nm)).Nodup
def allC (S : List Cl) : List Txt := S.flatMap (·.opts)
/-! ### the cells -/
structure Adr where
  (a o nc cc s pc bc lc : Addr)
structure ASt (cA cC : Addr) (S : List Cl) (A : Adr) (u : List (VS S)) (v : Tb Txt (VS S)) (ow : Tb Txt Nat) (C : Cs) : Prop where
  ob : C A.a = some (.obj cA [("rows", sitD S), ("size", .int ((2 * S.length + 1 : Nat))), ("owners", .cell A.o), ("name_costs", .cell A.nc), ("code_costs", .cell A.cc)])
  ow : C A.o = some (.dct (tD natD ow))
  nc : C A.nc = some (.lst (u.map (cV cC)))
  cc : C A.cc = some (.dct (tD (cV cC) v))
  nd : [A.a, A.o, A.nc, A.cc].Nodup
  ul : u.length = S.length
  vk : ∀ c ∈ allC S, ∃ y, lk c v = some y
  vn : (ks v).Nodup
  va : ∀ c, lk c v ≠ none → c ∈ allC S
/-! ### the options looked at -/
/-! ### the first option that costs nothing more, the code of a place -/
def optD : Option Txt → D
  | none => .non
  | some t => .str t
def rch {N : Nat} (ls : Tb Txt (Vc N × Nat)) : Option Txt := (ls.find? fun e => decide (e.2.1 = 0)).map (·.1)
/-! ### a crowd's names -/
def crowdT : Nat → List Cl → List Nat → List Txt
  | _, [], _ => []
  | i, c :: r, pl => if i ∈ pl then c.nm :: crowdT (i + 1) r pl else crowdT (i + 1) r pl
/-- no own slot -/
def NOw (s : Slot) : Prop := ∀ c, s ≠ .own c
theorem nOw_shr {d : D} : NOw (.shr d) := fun _ h => by cases h
theorem nOw_non : NOw .non := fun _ h => by cases h
/-! ### all that holds within a search -/
structure AEq (A A' : Adr) : Prop where
  a : A'.a = A.a
  o : A'.o = A.o
  nc : A'.nc = A.nc
  cc : A'.cc = A.cc
theorem AEq.symm {A A' : Adr} (e : AEq A A') : AEq A' A := ⟨e.a.symm, e.o.symm, e.nc.symm, e.cc.symm⟩
theorem AEq.trans {A A' A'' : Adr} (e : AEq A A') (e' : AEq A' A'') : AEq A A'' := ⟨e'.a.trans e.a, e'.o.trans e.o, e'.nc.trans e.nc, e'.cc.trans e.cc⟩
theorem ASt.no {cA cC : Addr} {S : List Cl} {A : Adr} {u : List (VS S)} {v : Tb Txt (VS S)} {ow : Tb Txt Nat} {C : Cs} (h : ASt cA cC S A u v ow C) {b : Addr} (hb : C b = none) : b ∉ [A.a, A.o, A.nc, A.cc] := fun z => by
  simp only [List.mem_cons, List.not_mem_nil, or_false] at z
  rcases z with rfl | rfl | rfl | rfl
  · rw [h.ob] at hb; cases hb
  · rw [h.ow] at hb; cases hb
  · rw [h.nc] at hb; cases hb
  · rw [h.cc] at hb; cases hb
theorem Fx.none {L : List Addr} {C C' : Cs} (f : Fx L C C') {b : Addr} (hL : b ∉ L) (h : C' b = none) : C b = none := by
  cases e : C b with
  | none => rfl
  | some c => rw [f b c hL e] at h; cases h
instance : Inhabited Txt := ⟨[]⟩
theorem sgn_nonneg : ∀ {xs : List Int}, (∀ x ∈ xs, 0 ≤ x) → sgn (List.replicate xs.length 0) xs ≤ 0
  | [], _ => by simp [sgn]
  | x :: xs, h => by
    have h1 := h x (.head _)
    have ih := sgn_nonneg (xs := xs) fun y hy => h y (.tail _ hy)
    rw [List.length_cons, List.replicate_succ]
    unfold sgn
    split
    · exact ih
    · rw [if_pos (by omega)]; omega
theorem costRow_nonneg {n p : Nat} {c : Cl} {t : Txt} {j : Nat} : ∀ x ∈ costRow n p c t j, 0 ≤ x := fun x hx => by
  unfold costRow at hx
  have hc : 0 ≤ chgI c t := by unfold chgI; split <;> omega
  rcases List.mem_or_eq_of_mem_set hx with hx | rfl
  · rcases List.mem_or_eq_of_mem_set hx with hx | rfl
    · rcases List.mem_or_eq_of_mem_set hx with hx | rfl
      · have := List.eq_of_mem_replicate hx; omega
      · exact hc
    · exact hc
  · omega
theorem kst_nonneg (S : List Cl) (p : Nat) (t : Txt) : 0 ≤ kst S p t := by
  unfold kst
  split
  · split
    · rename_i c _ _ j _
      show sgn (List.replicate (2 * S.length + 1) 0) (costRow S.length p c t j) ≤ 0
      have := sgn_nonneg (costRow_nonneg (n := S.length) (p := p) (c := c) (t := t) (j := j))
      rwa [costRow_len] at this
    · exact Std.le_refl _
  · exact Std.le_refl _
/-! ### the coding -/
/-- a coding of a situation: the codes in order -/
structure Cod (S : List Cl) (M : List Txt) : Prop where
  len : M.length = S.length
  opt : ∀ p c, M[p]? = some c → c ∈ opS S p
  nd : M.Nodup
def rowSum (S : List Cl) (M : List Txt) : VS S := sm (fun p => kst S p (M.getD p [])) S.length
structure Best (S : List Cl) (M : List Txt) : Prop where
  cod : Cod S M
  best : ∀ M', Cod S M' → rowSum S M ≤ rowSum S M'
theorem Cod.cd {S : List Cl} {M : List Txt} (h : Cod S M) : Cd (prb S) (fun p => p < S.length) (fun p => M.getD p []) where
  opt := fun p hp => by
    have hp' : p < M.length := by rw [h.len]; exact hp
    rw [List.getD_eq_getElem?_getD, List.getElem?_eq_getElem hp']
    exact h.opt p _ (List.getElem?_eq_getElem hp')
  inj := fun p q hp hq e => by
    have hp' : p < M.length := by rw [h.len]; exact hp
    have hq' : q < M.length := by rw [h.len]; exact hq
    rw [List.getD_eq_getElem?_getD, List.getD_eq_getElem?_getD, List.getElem?_eq_getElem hp', List.getElem?_eq_getElem hq'] at e
    exact (List.getElem?_inj hp' h.nd).mp (by rw [List.getElem?_eq_getElem hp', List.getElem?_eq_getElem hq']; exact congrArg some e)
theorem Cd.cod {S : List Cl} {M : Nat → Txt} (h : Cd (prb S) (fun p => p < S.length) M) : Cod S ((List.range S.length).map M) where
  len := by simp
  opt := fun p c e => by
    rw [List.getElem?_map] at e
    obtain ⟨q, e1, rfl⟩ := Option.map_eq_some_iff.mp e
    have hp : p < S.length := by have := (List.getElem?_eq_some_iff.mp e1).1; simpa using this
    rw [List.getElem?_range hp] at e1
    cases e1
    exact h.opt p hp
  nd := nd_map List.nodup_range fun a b ha hb e => h.inj a b (by simpa using ha) (by simpa using hb) e
end L2.DL
/-! MF: the row of a coding, the only best one, all codings. -/
namespace L2.DL
open PySem PySem.Spec PyProof.Rows L2.AS
/-! ### sums of numbers -/
def isum (g : Nat → Int) : Nat → Int
  | 0 => 0
  | n + 1 => isum g n + g n
theorem isum_eq {f g : Nat → Int} : ∀ {n : Nat}, (∀ p, p < n → f p = g p) → isum f n = isum g n
  | 0, _ => rfl
  | n + 1, h => by unfold isum; rw [isum_eq (n := n) fun p hp => h p (by omega), h n (by omega)]
theorem isum_cons {g : Nat → Int} : ∀ {n : Nat}, isum g (n + 1) = g 0 + isum (fun p => g (p + 1)) n
  | 0 => by simp [isum]
  | n + 1 => by
    have := isum_cons (g := g) (n := n)
    unfold isum at this ⊢
    unfold isum
    omega
theorem isum_one {x : Nat → Int} {q : Nat} : ∀ {n : Nat}, isum (fun p => if p = q then x p else 0) n = if q < n then x q else 0
  | 0 => by simp [isum]
  | n + 1 => by
    unfold isum
    rw [isum_one (n := n)]
    by_cases h : n = q
    · subst h; simp
    · rw [if_neg h]
      by_cases h2 : q < n
      · rw [if_pos h2, if_pos (by omega)]; omega
      · rw [if_neg h2, if_neg (by omega)]; omega
theorem sum_isum : ∀ l : List Int, l.sum = isum (fun p => l.getD p 0) l.length
  | [] => rfl
  | x :: l => by
    rw [List.sum_cons, List.length_cons, isum_cons, sum_isum l]
    simp
theorem sm_at {N : Nat} {f : Nat → Vc N} {i : Nat} {h : i < N} : ∀ {n : Nat}, (sm f n).at' i h = isum (fun p => (f p).at' i h) n
  | 0 => Vc.zero_at i h
  | n + 1 => by
    show (sm f n + f n).at' i h = _
    rw [Vc.add_at, sm_at]; rfl
/-! ### the row -/
def chs (S : List Cl) (M : List Txt) : List Int := List.zipWith chgI S M
def nmb (c : Cl) (t : Txt) : Int := (((numCl c t).getD 0 : Nat) : Int)
def nms (S : List Cl) (M : List Txt) : List Int := List.zipWith nmb S M
def rowL (S : List Cl) (M : List Txt) : List Int := (chs S M).sum :: (chs S M ++ nms S M)
theorem costRow_at {n p : Nat} {c : Cl} {t : Txt} {j i : Nat} (h : i < (costRow n p c t j).length) : (costRow n p c t j)[i] = if i = n + p + 1 then (j : Int) else if i = p + 1 then chgI c t else if i = 0 then chgI c t else 0 := by
  simp only [costRow, List.getElem_set, List.getElem_replicate]
  by_cases h1 : n + p + 1 = i
  · rw [if_pos h1, if_pos h1.symm]
  · rw [if_neg h1, if_neg (fun e : i = n + p + 1 => h1 e.symm)]
    by_cases h2 : p + 1 = i
    · rw [if_pos h2, if_pos h2.symm]
    · rw [if_neg h2, if_neg (fun e : i = p + 1 => h2 e.symm)]
      by_cases h3 : 0 = i
      · rw [if_pos h3, if_pos h3.symm]
      · rw [if_neg h3, if_neg (fun e : i = 0 => h3 e.symm)]
theorem kst_at {S : List Cl} {p : Nat} {t : Txt} {c : Cl} (hc : S[p]? = some c) (ht : t ∈ c.opts) {i : Nat} (h : i < 2 * S.length + 1) : (kst S p t).at' i h = if i = S.length + p + 1 then nmb c t else if i = p + 1 then chgI c t else if i = 0 then chgI c t else 0 := by
  obtain ⟨j, hj⟩ := numCl_some ht
  have e := kst_val hc hj
  unfold Vc.at'
  have : ∀ (l : List Int) (hl : i < l.length), l = costRow S.length p c t j → l[i] = if i = S.length + p + 1 then nmb c t else if i = p + 1 then chgI c t else if i = 0 then chgI c t else 0 := fun l hl e => by
    subst e
    rw [costRow_at hl]
    unfold nmb
    rw [hj]; rfl
  exact this _ _ e
theorem rowSum_val {S : List Cl} {M : List Txt} (h : Cod S M) : (rowSum S M).1 = rowL S M := by
  have hl := h.len
  have l1 : (chs S M).length = S.length := by unfold chs; rw [List.length_zipWith]; omega
  have l2 : (nms S M).length = S.length := by unfold nms; rw [List.length_zipWith]; omega
  refine List.ext_getElem (by rw [(rowSum S M).2]; unfold rowL; rw [List.length_cons, List.length_append]; omega) fun i h1 h2 => ?_
  have hi : i < 2 * S.length + 1 := by rw [(rowSum S M).2] at h1; exact h1
  show (rowSum S M).at' i hi = _
  unfold rowSum
  rw [sm_at]
  have gm : ∀ p, p < S.length → ∃ c t, S[p]? = some c ∧ M[p]? = some t ∧ M.getD p [] = t ∧ t ∈ c.opts := fun p hp => by
    have hp' : p < M.length := by omega
    refine ⟨S[p], M[p], List.getElem?_eq_getElem hp, List.getElem?_eq_getElem hp', by simp [List.getD_eq_getElem?_getD, hp'], ?_⟩
    have := h.opt p _ (List.getElem?_eq_getElem hp')
    rwa [opS_some (List.getElem?_eq_getElem hp)] at this
  have gc : ∀ p, p < S.length → ∀ c t, S[p]? = some c → M[p]? = some t → (chs S M).getD p 0 = chgI c t ∧ (nms S M).getD p 0 = nmb c t := fun p hp c t e1 e2 => by
    unfold chs nms
    simp [List.getD_eq_getElem?_getD, List.getElem?_zipWith, e1, e2]
  have main : ∀ p, p < S.length → (kst S p (M.getD p [])).at' i hi = if i = S.length + p + 1 then (nms S M).getD p 0 else if i = p + 1 then (chs S M).getD p 0 else if i = 0 then (chs S M).getD p 0 else 0 := fun p hp => by
    obtain ⟨c, t, e1, e2, e3, e4⟩ := gm p hp
    obtain ⟨g1, g2⟩ := gc p hp c t e1 e2
    rw [e3, kst_at e1 e4, g1, g2]
  rw [isum_eq main]
  suffices key : ∀ (l : List Int) (hl : i < l.length), l = (chs S M).sum :: (chs S M ++ nms S M) → isum (fun p => if i = S.length + p + 1 then (nms S M).getD p 0 else if i = p + 1 then (chs S M).getD p 0 else if i = 0 then (chs S M).getD p 0 else 0) S.length = l[i] from key _ h2 rfl
  clear h1 h2 main
  rintro l hl' rfl
  cases i with
  | zero =>
    rw [List.getElem_cons_zero, sum_isum, l1]
    refine isum_eq fun p hp => ?_
    rw [if_neg (by omega), if_neg (by omega), if_pos rfl]
  | succ i =>
    rw [List.getElem_cons_succ]
    by_cases hi2 : i < S.length
    · rw [List.getElem_append_left (by omega)]
      have e : isum (fun p => if i + 1 = S.length + p + 1 then (nms S M).getD p 0 else if i + 1 = p + 1 then (chs S M).getD p 0 else if i + 1 = 0 then (chs S M).getD p 0 else 0) S.length = isum (fun p => if p = i then (chs S M).getD p 0 else 0) S.length := isum_eq fun p hp => by
        rw [if_neg (by omega)]
        by_cases e : p = i
        · rw [if_pos (by omega), if_pos e]
        · rw [if_neg (by omega), if_neg (by omega), if_neg e]
      rw [e, isum_one, if_pos hi2]
      simp [List.getD_eq_getElem?_getD, l1, hi2]
    · rw [List.getElem_append_right (by omega)]
      have e : isum (fun p => if i + 1 = S.length + p + 1 then (nms S M).getD p 0 else if i + 1 = p + 1 then (chs S M).getD p 0 else if i + 1 = 0 then (chs S M).getD p 0 else 0) S.length = isum (fun p => if p = i - S.length then (nms S M).getD p 0 else 0) S.length := isum_eq fun p hp => by
        by_cases e : p = i - S.length
        · rw [if_pos (by omega), if_pos e]
        · rw [if_neg (by omega), if_neg (by omega), if_neg (by omega), if_neg e]
      rw [e, isum_one, if_pos (by omega)]
      have hq : i - S.length < (nms S M).length := by omega
      simp [List.getD_eq_getElem?_getD, l1, hq]
/-! ### the only best one -/
theorem numCl_inj {c : Cl} (h2 : c.held.length ≤ 2) {t t' : Txt} {j : Nat} (h : numCl c t = some j) (h' : numCl c t' = some j) : t = t' := by
  unfold numCl at h h'
  by_cases e : t ∈ c.held
  · rw [if_pos e] at h
    by_cases e' : t' ∈ c.held
    · rw [if_pos e'] at h'
      have a := (fstIx_get h).1
      have b := (fstIx_get h').1
      rw [a] at b; exact Option.some.inj b
    · rw [if_neg e'] at h'
      obtain ⟨i, _, rfl⟩ := Option.map_eq_some_iff.mp h'
      have := fstIx_lt h
      omega
  · rw [if_neg e] at h
    obtain ⟨i, hi, rfl⟩ := Option.map_eq_some_iff.mp h
    by_cases e' : t' ∈ c.held
    · rw [if_pos e'] at h'
      have := fstIx_lt h'
      omega
    · rw [if_neg e'] at h'
      obtain ⟨k, hk, e2⟩ := Option.map_eq_some_iff.mp h'
      have : k = i := by omega
      subst this
      have a := (fstIx_get hi).1
      have b := (fstIx_get hk).1
      rw [a] at b; exact Option.some.inj b
theorem Best.only {S : List Cl} (hh : ∀ c ∈ S, c.held.length ≤ 2) {M M' : List Txt} (h : Best S M) (h' : Best S M') : M = M' := by
  have e : rowSum S M = rowSum S M' := by
    have a := h.best M' h'.cod
    have b := h'.best M h.cod
    grind
  have e2 : rowL S M = rowL S M' := by rw [← rowSum_val h.cod, ← rowSum_val h'.cod, e]
  unfold rowL at e2
  have l1 : (chs S M).length = S.length := by unfold chs; rw [List.length_zipWith, h.cod.len]; omega
  have l1' : (chs S M').length = S.length := by unfold chs; rw [List.length_zipWith, h'.cod.len]; omega
  have e3 : nms S M = nms S M' := (List.append_inj (List.cons.inj e2).2 (by rw [l1, l1'])).2
  refine List.ext_getElem (by rw [h.cod.len, h'.cod.len]) fun p h1 h2 => ?_
  have hp : p < S.length := by rw [h.cod.len] at h1; exact h1
  have o1 := h.cod.opt p _ (List.getElem?_eq_getElem h1)
  have o2 := h'.cod.opt p _ (List.getElem?_eq_getElem h2)
  rw [opS_some (List.getElem?_eq_getElem hp)] at o1 o2
  obtain ⟨j, hj⟩ := numCl_some o1
  obtain ⟨k, hk⟩ := numCl_some o2
  have e4 : (nms S M)[p]? = (nms S M')[p]? := by rw [e3]
  unfold nms at e4
  rw [List.getElem?_zipWith, List.getElem?_zipWith, List.getElem?_eq_getElem hp, List.getElem?_eq_getElem h1, List.getElem?_eq_getElem h2] at e4
  have e5 : nmb S[p] M[p] = nmb S[p] M'[p] := Option.some.inj e4
  unfold nmb at e5
  rw [hj, hk] at e5
  have e6 : j = k := by simp at e5; omega
  subst e6
  exact numCl_inj (hh _ (List.getElem_mem hp)) hj hk
/-! ### all codings -/
/-! ### tables of texts -/
theorem g_inTL {C : Cs} {ng : Bool} {t : Txt} {M : List Txt} {R : D → Prop} (q : R (.bl (if ng then !decide (t ∈ M) else decide (t ∈ M)))) : gIn ng (dr C (.str t)) (dr C (.lst (txs M))) R := by
  refine ⟨.inl ⟨rfl, ?_⟩, ?_⟩
  · rw [List.all_map]
    exact List.all_eq_true.mpr fun _ _ => rfl
  · show R (.bl (if ng then !inD (.str t) (txs M) else inD (.str t) (txs M)))
    rw [inD_str]; exact q
theorem j_tryO {yes no : List Addr} {mb ms : SM} {E : EX} {dE : DEnds} {env : DL.Env} {C : Cs} (q : mb (CatchO yes no ms E dE) dE env C) : sTryO yes no mb ms E dE env C := q
end L2.DL
/-! FM: a written tuple of texts tells its object. -/
namespace L2.DL
open PySem PySem.Spec PyProof.Rows
section
variable {X : Cx} {es : List Expr} {pos : Pos}
def tTupF (t : TA) : TE := fun σ H Q => t σ H fun xs H1 => xs.length ≤ sizeLine ∧ ∀ (l : Addr) (o : Obj), H1 l = none → o.dict = none → Q (.ref l) (upd H1 l (.frz o (.tup xs)))
theorem pe_tupF {kk : Nat} {t : TA} (h : PA X es t) : PE X (.Tuple es kk pos) (tTupF t) := ⟨fun pins s σ H Q I hq => by
  refine wpAny_Tuple_spliced (thn (h.run pos pins s σ H _ I hq) fun its s' ⟨xs, H', I', rv, hz, k⟩ => ⟨by rw [← rv.length]; exact hz, ?_⟩)
  have none' : H' s'.heap.objs.size = none := I'.hok.fresh (Nat.le_refl _)
  exact ⟨.ref s'.heap.objs.size, upd H' s'.heap.objs.size (.frz { cls := .type "tuple", data := .seq its.toArray } (.tup xs)), I'.laid (t' := s'.toks) (fun _ _ e => Heap.get?_push_of_some _ e) (Nat.le_refl _) (show ObjOk X.prog X.w _ _ _ (.frz _ (.tup xs)) from ⟨Heap.get?_push_size _ rfl, hz, its, rv, IsTup.new _ _⟩), rfl, k _ _ none' rfl⟩⟩
def TupX (ds : List D) (R : D → Prop) : Prop := match txtsOf ds with
  | some ts => R (.tupT ts)
  | none => R (.tup ds)
def mTupX (ms : EM (List D)) : EM D := fun E env C Q => ms E env C fun ds env1 C1 => ds.length ≤ sizeLine ∧ TupX ds fun x => Q x env1 C1
theorem d_tupX {ms : EM (List D)} {kk : Nat} (h : DA X RShr es ms) : DE X RShr (.Tuple es kk pos) (mTupX ms) := fun Z E hE => by
  refine ⟨fun pins s σ H Q I ⟨Hs, env, C, P, sr, q, k⟩ => (pe_tupF (h Z E hE)).run pins s σ H Q I ?_⟩
  refine ⟨Hs, env, C, _, sr, q, fun ds env1 C1 vs Hs1 H1 q1 t1 s1 r1 => ?_⟩
  have r := r1.rep
  refine ⟨by rw [← r.length]; exact q1.1, fun l o hl ho => ?_⟩
  have q2 := q1.2
  unfold TupX at q2
  cases ht : txtsOf ds with
  | none =>
    rw [ht] at q2
    exact k _ _ _ _ _ _ q2 (t1.trans (Tr.lay s1.fit hl _)) (s1.lay hl _) (.tup (.inr ⟨o, ho, upd_same⟩) (r.same (same_upd (s1.fit.nothing hl).1)))
  | some ts =>
    rw [ht] at q2
    have e := txts_rep r ht
    subst e
    exact k _ _ _ _ _ _ q2 (t1.trans (Tr.lay s1.fit hl _)) (s1.lay hl _) (.tupT ho upd_same)
end
section
variable {E : EX} {env : DL.Env} {C : Cs} {Q : D → DL.Env → Cs → Prop} {ms : EM (List D)} {R : D → Prop}
theorem i_tupX (q : ms E env C fun ds env1 C1 => ds.length ≤ sizeLine ∧ TupX ds fun x => Q x env1 C1) : mTupX ms E env C Q := q
theorem x_txs {ts : List Txt} (q : R (.tupT ts)) : TupX (txs ts) R := by unfold TupX; rw [txtsOf_txs]; exact q
theorem x_nil (q : R (.tupT [])) : TupX [] R := q
theorem x_one {t : Txt} (q : R (.tupT [t])) : TupX [.str t] R := q
end
end L2.DL
namespace L2.DL
open PySem PySem.Spec PyProof.Rows L2.AS
/-- a list comprehension by an invariant -/
theorem compL_inv {vs : List Nat} {g : GM} {mc : EM Bool} {me : EM D} {QQ : Cont → Cs → Prop} {ds : List D} {env : DL.Env} {C : Cs} (I : Nat → List D → Cs → Prop) {acc : List D} (h0 : I 0 acc C)
    (step : ∀ (k : Nat) (d : D) (acc : List D) (C : Cs) (nxt : List D → Cs → Prop), ds[k]? = some d → I k acc C → (∀ acc' C', I (k + 1) acc' C' → nxt acc' C') →
      g d (fun env1 C1 => wipeE env1 vs = env ∧ mc E0 env1 C1 fun b env2 C2 => env2 = env1 ∧ if b = true then me E0 env1 C2 fun y env3 C3 => env3 = env1 ∧ acc.length < sizeLine ∧ nxt (acc ++ [y]) C3 else nxt acc C2) env C)
    (fin : ∀ acc C, I ds.length acc C → QQ (.lst acc) C) : compL vs g mc me QQ ds acc env C := by
  suffices h : ∀ (es : List D) (k : Nat) (acc : List D) (C : Cs), ds.drop k = es → k ≤ ds.length → I k acc C → compL vs g mc me QQ es acc env C from h ds 0 acc C rfl (Nat.zero_le _) h0
  intro es
  induction es with
  | nil =>
    intro k acc C hk hl hI
    have e : k = ds.length := by
      have := congrArg List.length hk
      simp at this
      omega
    subst e
    exact fin acc C hI
  | cons d es ih =>
    intro k acc C hk hl hI
    have hd : ds[k]? = some d := by
      have := congrArg (fun l => l[0]?) hk
      simpa using this
    have hk' : k < ds.length := (List.getElem?_eq_some_iff.mp hd).1
    have hk2 : ds.drop (k + 1) = es := by
      have := congrArg List.tail hk
      simpa using this
    exact step k d acc C (fun acc' C' => compL vs g mc me QQ es acc' env C') hd hI fun acc' C' hI' => ih (k + 1) acc' C' hk2 hk' hI'
/-! ### sums of rows -/
/-! ### all hold their codes -/
structure Own1 (S : List Cl) (M : List Txt) : Prop where
  h : ∀ (p : Nat) (c : Cl) (t : Txt), S[p]? = some c → M[p]? = some t → c.held = [t]
theorem costRow_zero {n p : Nat} {c : Cl} {t : Txt} (h : c.held = [t]) : costRow n p c t 0 = List.replicate (2 * n + 1) 0 := by
  have hc : chgI c t = 0 := by unfold chgI chg; rw [h]; simp
  refine List.ext_getElem (by rw [costRow_len, List.length_replicate]) fun i h1 h2 => ?_
  rw [costRow_at h1, List.getElem_replicate, hc]
  split
  · rfl
  · split
    · rfl
    · split <;> rfl
theorem kst_zero {S : List Cl} {p : Nat} {c : Cl} {t : Txt} (hc : S[p]? = some c) (h : c.held = [t]) : kst S p t = 0 := by
  refine Vc.ext' ?_
  rw [kst_val (j := 0) hc (by unfold numCl; rw [h]; simp [fstIx]), costRow_zero h]
  rfl
theorem sm_zero {N : Nat} {f : Nat → Vc N} : ∀ {n : Nat}, (∀ p, p < n → f p = 0) → sm f n = 0
  | 0, _ => rfl
  | n + 1, h => by
    have h1 := sm_zero (n := n) fun p hp => h p (by omega)
    have h2 := h n (by omega)
    unfold sm
    rw [h1, h2]
    grind
theorem Own1.sum {S : List Cl} {M : List Txt} (c : Cod S M) (o : Own1 S M) : rowSum S M = 0 := sm_zero fun p hp => by
  have hM : p < M.length := by rw [c.len]; exact hp
  rw [show M.getD p [] = M[p] by simp [List.getD_eq_getElem?_getD, hM]]
  exact kst_zero (List.getElem?_eq_getElem hp) (o.h p _ _ (List.getElem?_eq_getElem hp) (List.getElem?_eq_getElem hM))
theorem Own1.best {S : List Cl} {M : List Txt} (c : Cod S M) (o : Own1 S M) : Best S M := ⟨c, fun M' _ => by
  rw [o.sum c]
  have h := sm_le (f := fun _ => (0 : VS S)) (g := fun p => kst S p (M'.getD p [])) (n := S.length) fun p _ => kst_nonneg S p _
  rw [sm_zero (f := fun _ => (0 : VS S)) fun _ _ => rfl] at h
  exact h⟩
end L2.DL
namespace L2.DL
open PySem PySem.Spec PyProof.Rows L2.AS
/-! ### claims beside their codes -/
end L2.DL
namespace L2.DL
open PySem PySem.Spec PyProof.Rows
end L2.DL
/-! FN: dict(zip(a, b)). -/
namespace L2.DL
open PySem PySem.Spec PyProof.Rows
end L2.DL
/-! FO: a, b = new, constant by ordinary stores. -/
namespace L2.DL
open PySem PySem.Spec PyProof.Rows
section
variable {X : Cx} {st : Stmt} {e1 e2 : Expr}
def sParF (i j : Nat) (mf : EM Cont) (d : D) : SM := fun E dE env C => mf E env C fun c env1 C1 => dE.nx ((env1.set i (.own c)).set j (.shr d)) C1
theorem j_parF {i j : Nat} {mf : EM Cont} {d : D} {E : EX} {nx bk ct : DL.Env → Cs → Prop} {rt : Ret → Cs → Prop} {env : DL.Env} {C : Cs} (q : mf E env C fun c env1 C1 => nx ((env1.set i (.own c)).set j (.shr d)) C1) : sParF i j mf d E ⟨nx, rt, bk, ct⟩ env C := q
end
end L2.DL
/-! MG: crowds found from any coding of the names ahead; there is one first crowd. -/
namespace L2.AS
open _root_.Lean.Grind
section
variable {κ : Type} [DecidableEq κ] {V : Type} [IntModule V] [_root_.LE V] [_root_.LT V] [Std.IsLinearOrder V] [Std.LawfulOrderLT V] [OrderedAdd V] [DecidableLT V] [DecidableEq V]
variable {P : Prb κ V} {m : Nat} {U : Nat → V} {W : κ → V} {ow : Tb κ Nat} {pl : List Nat} {lb : Tb κ Nat}
theorem SInv.push (A : AInv P m U W ow) (S : SInv P m U W ow pl lb) {c : κ} {q p : Nat} (ho : lk c ow = some p) (hp : p ∉ pl) (hq : q ∈ pl) (hc : c ∈ P.opt q) (ht : U q + W c = P.k q c) : SInv P m U W ow (pl ++ [p]) (lb ++ [(c, q)]) := by
  refine ⟨S.lt, by rw [List.length_append, List.length_append, S.len]; rfl, ?_, ?_, ?_⟩
  · have := S.len
    rw [List.getElem?_append_left (by omega)]; exact S.hd
  · exact List.nodup_append.mpr ⟨S.nd, by simp, by simp; exact fun a ha e => hp (e ▸ ha)⟩
  · intro i d r e
    by_cases hi : i < lb.length
    · rw [List.getElem?_append_left hi] at e
      obtain ⟨p', e1, e2, ⟨j, e3, e4⟩, e5⟩ := S.lbO i d r e
      have hl := S.len
      exact ⟨p', by rw [List.getElem?_append_left (by omega)]; exact e1, e2, ⟨j, e3, by rw [List.getElem?_append_left (by have := (List.getElem?_eq_some_iff.mp e4).1; omega)]; exact e4⟩, e5⟩
    · have hi2 : i = lb.length := by
        have := (List.getElem?_eq_some_iff.mp e).1
        simp at this; omega
      subst hi2
      rw [List.getElem?_append_right (Nat.le_refl _)] at e
      simp at e
      obtain ⟨rfl, rfl⟩ := e
      have hl := S.len
      obtain ⟨j, hj, ej⟩ := List.getElem_of_mem hq
      exact ⟨p, by rw [← hl, List.getElem?_append_right (Nat.le_refl _)]; simp, ho, ⟨j, by omega, by rw [List.getElem?_append_left hj, List.getElem?_eq_getElem hj, ej]⟩, hc, ht⟩
theorem Crowd.only {pl' : List Nat} {m' : Nat} (h : Crowd P m pl) (h' : Crowd P m' pl') : m = m' ∧ ∀ q, q ∈ pl ↔ q ∈ pl' := by
  have le : ∀ {a b : Nat} {l l' : List Nat}, Crowd P a l → Crowd P b l' → a ≤ b := fun {a b l l'} h h' => Nat.le_of_not_lt fun z => by
    obtain ⟨M, hM⟩ := h.pre
    exact h'.no (fun p => p < a) (fun p hp => by have := h'.le p hp; omega) M hM
  have e : m = m' := Nat.le_antisymm (le h h') (le h' h)
  subst e
  have sub : ∀ {l l' : List Nat}, Crowd P m l → Crowd P m l' → ∀ q, q ∈ l → q ∈ l' := fun {l l'} h h' q hq => Classical.byContradiction fun z => by
    obtain ⟨M, hM⟩ := h.one q hq
    exact h'.no (fun p => p ≤ m ∧ p ≠ q) (fun p hp => ⟨h'.le p hp, fun e => z (e ▸ hp)⟩) M hM
  exact ⟨rfl, fun q => ⟨sub h h' q, sub h' h q⟩⟩
end
end L2.AS
namespace L2.DL
open PySem PySem.Spec PyProof.Rows L2.AS
end L2.DL
/-! GA: sets of texts of any number, and their sorting. -/
namespace L2.DL
open PySem PySem.Spec PyProof.Rows
/-- the text of an entry -/
def entT (e : Int × Value) : Str := match e.2 with
  | .str x _ => x
  | _ => Str.empty
def EntOk (w : World) (e : Int × Value) : Prop := ∃ (x : Str) (tk : Tok), e.2 = Value.str x tk ∧ e.1 = hashStr w x
/-- what stands in the table of a set of texts -/
structure TsE (w : World) (L : List Str) (es : Array (Int × Value)) (t : SetTable) : Prop where
  good : ∀ e ∈ es.toList, EntOk w e
  perm : (es.toList.map entT).Perm L
  few : es.size < scanBound
  fits : t.fits es.size = true
  ris : Ris t.place.toList
  led : w.params.followText "set-order" = true ∨ t.led = true
/-- at a stands a set of the texts L -/
def TSet (w : World) (h : Heap) (a : Addr) (L : List Str) : Prop :=
  ∃ (o : Obj) (es : Array (Int × Value)) (ep : Nat) (t : SetTable), h.get? a = some o ∧ o.ExactSet ∧ o.data = .set es ep t ∧ TsE w L es t
section
variable {P : Program} {w : World} {h h' : Heap} {a : Addr} {L : List Str}
theorem TSet.keep (R : TSet w h a L) (k : ∀ o, h.get? a = some o → h'.get? a = some o) : TSet w h' a L := by
  obtain ⟨o, es, ep, t, q0, q⟩ := R
  exact ⟨o, es, ep, t, k o q0, q⟩
theorem TSet.perm {L' : List Str} (R : TSet w h a L) (p : L.Perm L') : TSet w h a L' := by
  obtain ⟨o, es, ep, t, q0, q1, q2, q⟩ := R
  exact ⟨o, es, ep, t, q0, q1, q2, { q with perm := q.perm.trans p }⟩
theorem entOk_is {e : Int × Value} (g : EntOk w e) (x : Str) : (strKind P w).is x e.2 = true ↔ entT e = x := by
  obtain ⟨y, tk, e1, _⟩ := g
  unfold entT
  rw [e1]
  constructor
  · intro z
    exact Value.isStrOf_inj (.str y tk) y x (strKind_is P w y tk) z
  · rintro rfl
    exact strKind_is P w _ tk
theorem TsE.mem {es : Array (Int × Value)} {t : SetTable} (q : TsE w L es t) (x : Str) : x ∈ L ↔ ∃ e ∈ es.toList, (strKind P w).is x e.2 = true := by
  rw [← q.perm.mem_iff, List.mem_map]
  constructor
  · rintro ⟨e, me, z⟩
    exact ⟨e, me, (entOk_is (q.good e me) x).mpr z⟩
  · rintro ⟨e, me, z⟩
    exact ⟨e, me, (entOk_is (q.good e me) x).mp z⟩
end
/-! ### len(set(..)), sorted(set(..)) -/
end L2.DL
/-! GB: sorted texts, sets of texts, over trees. -/
namespace L2.DL
open PySem PySem.Spec PyProof.Rows
/-! ### sorting of texts -/
def leT (a b : Txt) : Prop := ¬ b < a
instance (a b : Txt) : Decidable (leT a b) := inferInstanceAs (Decidable (¬ b < a))
theorem leT_anti {a b : Txt} (h : leT a b) (h' : leT b a) : a = b := List.le_antisymm (List.not_lt.mp h) (List.not_lt.mp h')
theorem leT_total (a b : Txt) : leT a b ∨ leT b a := by
  rcases List.le_total a b with h | h
  · exact .inl (List.not_lt.mpr h)
  · exact .inr (List.not_lt.mpr h)
theorem leT_trans {a b c : Txt} (h : leT a b) (h' : leT b c) : leT a c := List.not_lt.mpr (List.le_trans (List.not_lt.mp h) (List.not_lt.mp h'))
def insT (x : Txt) : List Txt → List Txt
  | [] => [x]
  | y :: r => if leT x y then x :: y :: r else y :: insT x r
def sortT : List Txt → List Txt
  | [] => []
  | x :: r => insT x (sortT r)
theorem insT_perm (x : Txt) : ∀ l : List Txt, (insT x l).Perm (x :: l)
  | [] => List.Perm.refl _
  | y :: r => by
    unfold insT
    split
    · exact List.Perm.refl _
    · exact ((insT_perm x r).cons y).trans (List.Perm.swap _ _ _)
theorem sortT_perm : ∀ l : List Txt, (sortT l).Perm l
  | [] => List.Perm.refl _
  | x :: r => (insT_perm x _).trans ((sortT_perm r).cons x)
theorem insT_pw (x : Txt) : ∀ {l : List Txt}, l.Pairwise leT → (insT x l).Pairwise leT
  | [], _ => List.pairwise_singleton _ _
  | y :: r, h => by
    unfold insT
    rw [List.pairwise_cons] at h
    split
    · rename_i e
      rw [List.pairwise_cons, List.pairwise_cons]
      refine ⟨fun z hz => ?_, h⟩
      rcases List.mem_cons.mp hz with rfl | hz
      · exact e
      · exact leT_trans e (h.1 z hz)
    · rename_i e
      rw [List.pairwise_cons]
      refine ⟨fun z hz => ?_, insT_pw x h.2⟩
      rcases List.mem_cons.mp ((insT_perm x r).mem_iff.mp hz) with rfl | hz
      · exact (leT_total z y).resolve_left e
      · exact h.1 z hz
theorem sortT_pw : ∀ l : List Txt, (sortT l).Pairwise leT
  | [] => List.Pairwise.nil
  | x :: r => insT_pw x (sortT_pw r)
theorem sortT_only {l r : List Txt} (p : r.Perm l) (h : r.Pairwise leT) : r = sortT l :=
  List.Perm.eq_of_pairwise (fun _ _ _ _ a b => leT_anti a b) h (sortT_pw l) (p.trans (sortT_perm l).symm)
theorem sortT_id {l : List Txt} (h : l.Pairwise leT) : sortT l = l := (sortT_only (List.Perm.refl l) h).symm
theorem mem_sortT {l : List Txt} {t : Txt} : t ∈ sortT l ↔ t ∈ l := (sortT_perm l).mem_iff
theorem sortT_len (l : List Txt) : (sortT l).length = l.length := (sortT_perm l).length_eq
/-! ### each once -/
def oneT (L : List Txt) (x : Txt) : List Txt := if x ∈ L then L else L ++ [x]
def uniT (xs : List Txt) : List Txt := xs.foldl oneT []
theorem oneT_nd {L : List Txt} {x : Txt} (h : L.Nodup) : (oneT L x).Nodup := by
  unfold oneT
  split
  · exact h
  · rename_i e
    rw [List.nodup_append]
    refine ⟨h, List.pairwise_singleton _ _, fun a ha b hb => ?_⟩
    rw [List.mem_singleton.mp hb]
    intro z; exact e (z ▸ ha)
theorem mem_oneT {L : List Txt} {x t : Txt} : t ∈ oneT L x ↔ t ∈ L ∨ t = x := by
  unfold oneT
  split
  · rename_i e
    exact ⟨.inl, fun h => h.elim id fun z => z ▸ e⟩
  · simp
theorem fold_oneT_nd : ∀ (xs L : List Txt), L.Nodup → (xs.foldl oneT L).Nodup
  | [], L, h => h
  | x :: xs, L, h => fold_oneT_nd xs _ (oneT_nd h)
theorem mem_fold_oneT {t : Txt} : ∀ (xs L : List Txt), t ∈ xs.foldl oneT L ↔ t ∈ L ∨ t ∈ xs
  | [], L => by simp
  | x :: xs, L => by
    rw [List.foldl_cons, mem_fold_oneT xs, mem_oneT, List.mem_cons, or_assoc]
theorem uniT_nd (xs : List Txt) : (uniT xs).Nodup := fold_oneT_nd xs [] List.nodup_nil
theorem mem_uniT {xs : List Txt} {t : Txt} : t ∈ uniT xs ↔ t ∈ xs := by
  unfold uniT; rw [mem_fold_oneT]; simp
theorem uniT_len (xs : List Txt) : (uniT xs).length ≤ xs.length := L2.AS.nd_le (uniT_nd xs) fun t h => mem_uniT.mp h
theorem rising_pw : ∀ (p : Str) (l : List Str), risingS p l = true → l.Pairwise (fun a b => ltCps b.cps.toList a.cps.toList = false) ∧ ∀ b ∈ l, leT p.cps.toList b.cps.toList
  | p, [], _ => ⟨List.Pairwise.nil, fun b hb => by cases hb⟩
  | p, x :: r, h => by
    have h' : (!ltCps x.cps.toList p.cps.toList && risingS x r) = true := h
    rw [Bool.and_eq_true, Bool.not_eq_true'] at h'
    obtain ⟨h1, h2⟩ := h'
    obtain ⟨i1, i2⟩ := rising_pw x r h2
    have hp : leT p.cps.toList x.cps.toList := by rw [ltCps_eq] at h1; exact of_decide_eq_false h1
    refine ⟨List.pairwise_cons.mpr ⟨fun b hb => ?_, i1⟩, fun b hb => ?_⟩
    · rw [ltCps_eq]; exact decide_eq_false (i2 b hb)
    · rcases List.mem_cons.mp hb with rfl | hb
      · exact hp
      · exact leT_trans hp (i2 b hb)
theorem sorted_is {ys : List Str} {ts : List Txt} (p : ys.Perm (ts.map sV)) (h : sortedS ys = true) : ys = (sortT ts).map sV := by
  have hp : ys.Pairwise (fun a b => ltCps b.cps.toList a.cps.toList = false) := by
    cases ys with
    | nil => exact List.Pairwise.nil
    | cons x r =>
      obtain ⟨i1, i2⟩ := rising_pw x r h
      exact List.pairwise_cons.mpr ⟨fun b hb => by rw [ltCps_eq]; exact decide_eq_false (i2 b hb), i1⟩
  have e : ys = (ys.map fun y => y.cps.toList).map sV := by
    rw [List.map_map]
    have : (sV ∘ fun y : Str => y.cps.toList) = id := funext fun y => sV_of y
    rw [this, List.map_id]
  rw [e]
  congr 1
  refine sortT_only ?_ ?_
  · have := p.map fun y : Str => y.cps.toList
    rw [List.map_map] at this
    have e2 : ((fun y : Str => y.cps.toList) ∘ sV) = id := funext fun y => sV_cps y
    rw [e2, List.map_id] at this
    exact this
  · rw [List.pairwise_map]
    exact hp.imp fun {a b} q => by rw [ltCps_eq] at q; exact of_decide_eq_false q
/-! ### over trees -/
def sqD : D → Option (List D)
  | .lst xs => some xs
  | .tup xs => some xs
  | .kt => some []
  | _ => none
def gSetSort (d : D) (P : Cont → Prop) : Prop := ∃ xs ts, sqD d = some xs ∧ txtsOf xs = some ts ∧ ts.length < 4000 ∧ P (.lst ((sortT (uniT ts)).map D.str))
def mUnF (g : D → (Cont → Prop) → Prop) (ma : EM D) : EM Cont := fun E env C Q => ma E env C fun d env1 C1 => g (dr C1 d) fun x => Q x env1 C1
section
variable {X : Cx} {a : Expr} {p p2 q pos : Pos} {ma : EM D}
theorem repL_txts {K : PySem.W.Frag} {H : Hp} : ∀ ts : List Txt, RepL K H (ts.map D.str) ((ts.map sV).map V.str)
  | [] => .nil
  | t :: ts => .cons (.str t) (repL_txts ts)
/-! ### sorted(list of texts) -/
def gSorted (ds : List D) (P : Cont → Prop) : Prop := match ds with
  | [.lst xs] => ∃ ts, txtsOf xs = some ts ∧ P (.lst ((sortT ts).map D.str))
  | _ => False
end
section
variable {E : EX} {env : DL.Env} {C : Cs} {ts : List Txt} {P : D → Prop} {PC : Cont → Prop}
theorem i_unF {g : D → (Cont → Prop) → Prop} {ma : EM D} {R : Cont → DL.Env → Cs → Prop} (q : ma E env C fun d env1 C1 => g (dr C1 d) fun x => R x env1 C1) : mUnF g ma E env C R := q
theorem g_setSortK (q : PC (.lst [])) : gSetSort (dr C .kt) PC := ⟨_, [], rfl, rfl, by decide, q⟩
theorem g_sortedL (q : PC (.lst (txs (sortT ts)))) : gSorted ([D.lst (txs ts)].map (dr C)) PC := ⟨ts, txtsOf_txs ts, q⟩
end
end L2.DL
/-! GC: results of either kind; a, b = e1, e2 of any kinds; xs.extend(e); o.f += e; str(text). -/
namespace L2.DL
open PySem PySem.Spec PyProof.Rows
/-- shared or new -/
def RRt : RR Ret := fun K Z σ Hs H env C r v => match r with
  | .shr d => Rep K Hs d v
  | .frs c => RFr K Z σ Hs H env C c v
section
variable {X : Cx} {e e1 e2 : Expr} {es : List Expr} {st : Stmt} {pos : Pos} {K : PySem.W.Frag} {Z : Z0}
theorem DE.rts {m : EM D} (h : DE X RShr e m) : DE X RRt e (mMap Ret.shr m) := fun Z E hE => ⟨fun pins s σ H Q I ⟨Hs, env, C, P, r, q, k⟩ =>
  (h Z E hE).run pins s σ H Q I ⟨Hs, env, C, fun d env' C' => P (.shr d) env' C', r, q, fun d env' C' v Hs' H' p t s rr => k (.shr d) env' C' v Hs' H' p t s rr⟩⟩
theorem DE.rtf {m : EM Cont} (h : DE X RFr e m) : DE X RRt e (mMap Ret.frs m) := fun Z E hE => ⟨fun pins s σ H Q I ⟨Hs, env, C, P, r, q, k⟩ =>
  (h Z E hE).run pins s σ H Q I ⟨Hs, env, C, fun d env' C' => P (.frs d) env' C', r, q, fun d env' C' v Hs' H' p t s rr => k (.frs d) env' C' v Hs' H' p t s rr⟩⟩
def mCallR (sp : DSp) (dfl : List D) (ms : EM (List D)) : EM Ret := fun E env C Q => ms E env C fun ds env1 C1 => sp (ds ++ dfl) C1 (fun r C2 => Q r env1 C2) fun x C2 => E x env1 C2
/-! ### two results one after the other -/
theorem RFr.setS {σ : St} {Hs H : Hp} {env : DL.Env} {C : Cs} {c : Cont} {v w : V} {i : Nat} {d : D} (h : RFr K Z σ Hs H env C c v) : RFr K Z (σ.set i (some w)) Hs H (env.set i (.shr d)) C c v := by
  obtain ⟨p, o, rfl, a1, a2, a3, a4, a5, no⟩ := h
  refine ⟨p, o, rfl, a1, a2, a3, a4, a5, fun k c' y z => ?_⟩
  by_cases q : k = i
  · subst q
    rw [List.getElem?_set] at y
    split at y
    · split at y
      · cases y
      · cases y
    · rename_i n; exact n rfl
  · rw [List.getElem?_set_ne (Ne.symm q)] at y z
    exact no k c' y z
def mTwo (m1 m2 : EM Ret) : EM (Ret × Ret) := fun E env C Q => m1 E env C fun r1 env1 C1 => m2 E env1 C1 fun r2 env2 C2 => Q (r1, r2) env2 C2
/-- both, and what is done with them -/
def Two (K : PySem.W.Frag) (Z : Z0) (i j : Nat) (m : DM (Ret × Ret)) : TA := fun σ H Q => ∃ Hs env C P, SR K Z σ Hs H env C ∧ m env C P ∧
  ∀ r1 r2 env' C' v u Hs' H', P (r1, r2) env' C' → SR K Z ((σ.set i (some v)).set j (some u)) Hs' H' ((env'.set i (slotR r1)).set j (slotR r2)) C' → Q [v, u] H'
theorem pa_two {i j : Nat} {m1 m2 : EM Ret} (h1 : DE X RRt e1 m1) (h2 : DE X RRt e2 m2) (hst : starEach [e2] X.env = (false, eval e2 X.env) :: starEach [] X.env) (hst1 : starEach [e1, e2] X.env = (false, eval e1 X.env) :: starEach [e2] X.env) {Z : Z0} {E : EX} (hE : DX X Z E) : 
    ∃ t : TA, PA X [e1, e2] t ∧ ∀ σ H Q, Two X.K Z i j (mTwo m1 m2 E) σ H Q → t σ H Q := by
  refine ⟨_, pa_cons (h1 Z E hE) (pa_cons (h2.all E) pa_nil hst) hst1, fun σ H Q ⟨Hs, env, C, P, sr, q, k⟩ => ?_⟩
  refine ⟨Hs, env, C, _, sr, q, fun r1 env1 C1 v Hs1 H1 q1 t1 s1 rr1 => ?_⟩
  cases r1 with
  | shr d =>
    have rr1' : Rep X.K Hs1 d v := rr1
    refine ⟨Z, hE, Hs1, env1, C1, _, s1, q1, fun r2 env2 C2 u Hs2 H2 q2 t2 s2 rr2 => ?_⟩
    refine k _ _ _ _ v u Hs2 H2 q2 ?_
    have s3 := s2.setS (i := i) (rr1'.same t2.fr)
    cases r2 with
    | shr d2 => exact s3.setS (i := j) rr2
    | frs c2 => exact s3.setO (i := j) (RFr.setS rr2)
  | frs c =>
    obtain ⟨p, o, rfl, a1, a2, a3, a4, a5, no⟩ := rr1
    refine ⟨DL.prot Z p o, hE.prot a5, Hs1, env1, C1, _, s1.prot a1 a3 a4 no, q1, fun r2 env2 C2 u Hs2 H2 q2 t2 s2 rr2 => ?_⟩
    refine k _ _ _ _ (.ref p) u Hs2 H2 q2 ?_
    obtain ⟨b1, b2, b3⟩ := s2.bas.kp p o upd_same (by simp [DL.prot])
    have b3 := b3 (by simp [DL.prot])
    have no2 : ∀ (k : Nat) (c' : Cont), env2[k]? = some (Slot.own c') → σ[k]? ≠ some (some (V.ref p)) := fun k c' y z => by
      obtain ⟨q, w, y1, y2, _, _, _, n3⟩ := s2.slt.own k c' y
      rw [y1] at z
      cases z
      exact (prot_free n3).2 rfl
    have s2' := SR.unprot a5 s2
    have a2' : RepO X.K Hs2 c o := a2.same t2.fr
    have s3 := s2'.setO (i := i) ⟨p, o, rfl, b1, a2', b3, b2, a5, no2⟩
    cases r2 with
    | shr d2 => exact s3.setS (i := j) rr2
    | frs c2 =>
      obtain ⟨q, w, rfl, d1, d2, d3, d4, d5, no3⟩ := rr2
      obtain ⟨z5, ne⟩ := prot_free d5
      refine s3.setO (i := j) ⟨q, w, rfl, d1, d2, d3, d4, z5, fun k c' y z => ?_⟩
      by_cases e : k = i
      · subst e
        rw [List.getElem?_set] at z
        split at z
        · split at z
          · cases z; exact ne rfl
          · cases z
        · rename_i n; exact n rfl
      · rw [List.getElem?_set_ne (Ne.symm e)] at y z
        exact no3 k c' y z
/-- a, b = e1, e2 by the stores swapped -/
def sPar2 (i j : Nat) (m1 m2 : EM Ret) : SM := fun E dE env C => m1 E env C fun r1 env1 C1 => m2 E env1 C1 fun r2 env2 C2 => dE.nx ((env2.set i (slotR r1)).set j (slotR r2)) C2
theorem ds_par2 {i j : Nat} {m1 m2 : EM Ret} (h1 : DE X RRt e1 m1) (h2 : DE X RRt e2 m2) (hp : ∀ {t : TA}, PA X [e1, e2] t → PS X st (tPar i j t))
    (hst : starEach [e2] X.env = (false, eval e2 X.env) :: starEach [] X.env) (hst1 : starEach [e1, e2] X.env = (false, eval e1 X.env) :: starEach [e2] X.env) : DS X st (sPar2 i j m1 m2) := fun Z E hE => by
  obtain ⟨t, ht, k⟩ := pa_two (i := i) (j := j) h1 h2 hst hst1 hE
  refine ⟨fun pins s σ H D I ⟨Hs, env, C, dE, sr, ok, q⟩ => (hp ht).run pins s σ H D I (k _ _ _ ⟨Hs, env, C, fun p env' C' => dE.nx ((env'.set i (slotR p.1)).set j (slotR p.2)) C', sr, q, fun r1 r2 env' C' v u Hs' H' pq s' => ⟨v, u, rfl, ok.1 _ _ _ _ _ s' pq⟩⟩)⟩
theorem j_par2 {i j : Nat} {m1 m2 : EM Ret} {E : EX} {nx bk ct : DL.Env → Cs → Prop} {rt : Ret → Cs → Prop} {env : DL.Env} {C : Cs} (q : m1 E env C fun r1 env1 C1 => m2 E env1 C1 fun r2 env2 C2 => nx ((env2.set i (slotR r1)).set j (slotR r2)) C2) : sPar2 i j m1 m2 E ⟨nx, rt, bk, ct⟩ env C := q
theorem i_callR {E : EX} {env : DL.Env} {C : Cs} {Q : Ret → DL.Env → Cs → Prop} {sp : DSp} {dfl : List D} {ms : EM (List D)} (q : ms E env C fun ds env1 C1 => sp (ds ++ dfl) C1 (fun r C2 => Q r env1 C2) fun x C2 => E x env1 C2) : mCallR sp dfl ms E env C Q := q
/-! ### xs.extend(e) -/
def sExt (n : Nat) (me : EM D) : SM := fun E dE env C => (∃ xs, env[n]? = some (.own (.lst xs))) ∧ me E env C fun d env1 C1 => ∃ xs ys, env1[n]? = some (.own (.lst xs)) ∧ dr C1 d = .lst ys ∧ xs.length + ys.length ≤ sizeLine ∧ dE.nx (env1.set n (.own (.lst (xs ++ ys)))) C1
def Ext (n : Nat) (nx : DL.Env → Cs → Prop) (d : D) (env1 : DL.Env) (C1 : Cs) : Prop := ∃ xs ys, env1[n]? = some (.own (.lst xs)) ∧ dr C1 d = .lst ys ∧ xs.length + ys.length ≤ sizeLine ∧ nx (env1.set n (.own (.lst (xs ++ ys)))) C1
theorem j_ext {n : Nat} {xs : List D} {me : EM D} {E : EX} {nx bk ct : DL.Env → Cs → Prop} {rt : Ret → Cs → Prop} {env : DL.Env} {C : Cs} (h : env[n]? = some (.own (.lst xs))) (q : me E env C fun d env1 C1 => Ext n nx d env1 C1) : sExt n me E ⟨nx, rt, bk, ct⟩ env C := ⟨⟨xs, h⟩, q⟩
/-! ### o.f += e -/
def sAugF (C : Addr) (f : Str) (g : Int → Int → Int) (mo me : EM D) : SM := fun E dE env C0 => mo E env C0 fun o env1 C1 => ∃ a fs i, o = .cell a ∧ C1 a = some (.obj C fs) ∧ fs.lookup f = some (.int i) ∧ me E env1 C1 fun d env2 C2 => ∃ j, dr C2 d = .int j ∧ StF C f (.cell a) (.int (g i j)) dE.nx env2 C2
theorem j_augF {C : Addr} {f : Str} {g : Int → Int → Int} {mo me : EM D} {E : EX} {nx bk ct : DL.Env → Cs → Prop} {rt : Ret → Cs → Prop} {env : DL.Env} {C0 : Cs} (q : mo E env C0 fun o env1 C1 => ∃ a fs i, o = .cell a ∧ C1 a = some (.obj C fs) ∧ fs.lookup f = some (.int i) ∧ me E env1 C1 fun d env2 C2 => ∃ j, dr C2 d = .int j ∧ StF C f (.cell a) (.int (g i j)) nx env2 C2) : sAugF C f g mo me E ⟨nx, rt, bk, ct⟩ env C0 := q
/-! ### str(text) -/
def gStr (ds : List D) (P : D → Prop) : Prop := match ds with
  | [.str s] => P (.str s)
  | _ => False
theorem g_str {C : Cs} {s : Txt} {P : D → Prop} (q : P (.str s)) : gStr ([D.str s].map (dr C)) P := q
end
end L2.DL
/-! SC: x in d.values(), as a test. -/
namespace L2.DL
open PySem PySem.Spec PyProof.Rows
theorem dvals_no_in : typeLookup (.type "dict_values") "__contains__" = pure none := by rw [typeLookup_type, builtinLookup_eq_fast]; kernel_rfl
theorem entry_in_iter : entryFor table "proto.contains_iter" = some Builtin.«proto.contains_iter» := entryFor_of_fast (by kernel_rfl)
theorem den_of {prog : Program} {w : World} {id : String} {args : Args} {b : Builtin} (hb : entryFor table id = some b) : (model prog w).den (.builtin id args) = b args := by
  show (match entryFor table id with | some b => b args | none => unsupported ((withoutEnding? id "#data").getD id)) = _
  rw [hb]
theorem plain_in_iter : plainId "proto.contains_iter" = true := by decide +kernel
section
variable {prog : Program} {w : World} {KT : Type} [DecidableEq KT] {knd : KeyKind prog w KT} {A : Around} {E : Value → Shared → Prop} {s : Shared}
theorem contains_vals {v d : Addr} {x : Value} {kvs : List (KT × Value)} {ep : Nat} {Q : Bool → Shared → Prop} (e : Value → Bool) (hh : A.handled = none) (hv : s.heap.IsValuesView v d) (hm : s.heap.DictAt knd d kvs ep)
    (he : ∀ (A' : Around) (s' : Shared), ∀ y ∈ kvs, SeqAt.EqAt A' s' y.2 x (e y.2))
    (hQ : ∀ h', (∀ b o, s.heap.get? b = some o → h'.get? b = some o) → Q (kvs.any fun y => e y.2) { s with heap := h' }) : wpAny (model prog w) A (contains (.ref v) x) Q E s := by
  unfold contains
  refine wpAny_holding ?_
  rw [stdlibNamesSay?_of_typeIs hv.typeIs]
  refine wpAny_bind (wpAny_specialOf hv.typeIs dvals_no_in ?_)
  show wpAny _ A (if ((none : Option Value) == some Value.none) = true then _ else _) Q E s
  rw [if_neg (by simp)]
  refine wpAny_bind (wpAny_callSpecialUnlessNone?_none hv.typeIs dvals_no_in ?_)
  refine wpAny_bind (wpAny_rule ?_)
  refine wpAny_bind (wpAny_tryCatch (wpAny_pyIter_values hv hm ?_))
  have hk : ∀ b o, s.heap.get? b = some o → (s.heap.push { cls := .type "dict_valueiterator", data := .fields #[.ref d, .int 0 0, .int kvs.length 0, .int ep 0] }).get? b = some o := fun b o q => Heap.get?_push_of_some _ q
  generalize hh1 : s.heap.push { cls := .type "dict_valueiterator", data := .fields #[.ref d, .int 0 0, .int kvs.length 0, .int ep 0] } = h1 at hk ⊢
  have hit : h1.IsValIter s.heap.objs.size d 0 kvs.length ep := by rw [← hh1]; exact ⟨_, Heap.get?_push_size _ rfl, rfl, rfl⟩
  have lt : ∀ b o, s.heap.get? b = some o → b ≠ s.heap.objs.size := fun b o q => Nat.ne_of_lt (Heap.lt_size q)
  have fin : ∀ h', (∀ b o, s.heap.get? b = some o → h'.get? b = some o) → wpAny (model prog w) A (match (Value.bool (kvs.any fun y => e y.2)) with | .bool b => pure b | _ => unsupported "internal:contains") Q E { s with heap := h' } := fun h' q => wpAny_pure (hQ h' q)
  refine wpAny_bind (wpAny_runValue (codeAny_loop (plainId_quiet plain_in_iter _) (fun n s' => ∃ i h', s' = { s with heap := h' } ∧ h'.IsValIter s.heap.objs.size d i kvs.length ep ∧ (∀ b o, s.heap.get? b = some o → h'.get? b = some o) ∧ i ≤ kvs.length ∧ n = kvs.length - i ∧ (kvs.take i).any (fun y => e y.2) = false) (fun n s' hI => ?_) kvs.length ⟨0, h1, rfl, hit, hk, Nat.zero_le _, rfl, by simp⟩))
  obtain ⟨i, h', rfl, it, kp, hi, rfl, no⟩ := hI
  have hm' : h'.DictAt knd d kvs ep := by
    obtain ⟨o, es, ho, hc, hdat, hkk, hp, hn⟩ := hm
    exact ⟨o, es, kp _ _ ho, hc, hdat, hkk, hp, hn⟩
  have hden : (model prog w).den (.builtin "proto.contains_iter" ⟨[.ref s.heap.objs.size, x], []⟩) = Builtin.«proto.contains_iter» ⟨[.ref s.heap.objs.size, x], []⟩ := den_of entry_in_iter
  rw [hden]
  unfold Builtin.«proto.contains_iter»
  by_cases hlt : i < kvs.length
  · have hx : kvs[i]? = some kvs[i] := by simp [hlt]
    refine wpAny_bind (wpAny_pyNext_values_item (s := { s with heap := h' }) (k := kvs[i].1) (v := kvs[i].2) it hm' hx fun h2 it2 sb => ?_)
    have kp2 : ∀ b o, s.heap.get? b = some o → h2.get? b = some o := fun b o q => (sb.2 b (lt b o q)).trans (kp b o q)
    refine wpAny_bind (he _ _ kvs[i] (List.getElem_mem _) _ _ _ _ ?_)
    have tk : (kvs.take (i + 1)).any (fun y => e y.2) = e kvs[i].2 := by
      rw [List.take_add_one, hx, List.any_append, no]; simp
    cases hb : e kvs[i].2 with
    | true =>
      rw [if_pos rfl]
      refine wpAny_bind (wpAny_rule (wpAny_pure ?_))
      have : (kvs.any fun y => e y.2) = true := List.any_eq_true.mpr ⟨kvs[i], List.getElem_mem _, hb⟩
      have := fin h2 kp2
      first
        | (simpa [*] using this)
        | skip
    | false =>
      rw [if_neg Bool.false_ne_true]
      exact wpAny_pure ⟨rfl, kvs.length - (i + 1), by omega, i + 1, h2, rfl, it2, kp2, hlt, rfl, by rw [tk, hb]⟩
  · have e0 : i = kvs.length := by omega
    subst e0
    refine wpAny_bind (wpAny_pyNext_values_end (s := { s with heap := h' }) hh it hm' (by simp) fun h2 eb => ?_)
    refine wpAny_bind (wpAny_rule (wpAny_pure ?_))
    rw [List.take_length] at no
    have := fin h2 fun b o q => eb b o (lt b o q) (kp b o q)
    rw [no] at this
    exact this
theorem in_vals {v d : Addr} {x : Value} {kvs : List (KT × Value)} {ep : Nat} {Q : Value → Shared → Prop} (e : Value → Bool) (hh : A.handled = none) (hv : s.heap.IsValuesView v d) (hm : s.heap.DictAt knd d kvs ep)
    (he : ∀ (A' : Around) (s' : Shared), ∀ y ∈ kvs, SeqAt.EqAt A' s' y.2 x (e y.2))
    (hQ : ∀ h', (∀ b o, s.heap.get? b = some o → h'.get? b = some o) → Q (.bool (kvs.any fun y => e y.2)) { s with heap := h' }) : wpAny (model prog w) A (compareOp .In x (.ref v)) Q E s := by
  unfold compareOp
  exact wpAny_bind (contains_vals e hh hv hm he fun h' q => wpAny_pure (hQ h' q))
theorem notIn_vals {v d : Addr} {x : Value} {kvs : List (KT × Value)} {ep : Nat} {Q : Value → Shared → Prop} (e : Value → Bool) (hh : A.handled = none) (hv : s.heap.IsValuesView v d) (hm : s.heap.DictAt knd d kvs ep)
    (he : ∀ (A' : Around) (s' : Shared), ∀ y ∈ kvs, SeqAt.EqAt A' s' y.2 x (e y.2))
    (hQ : ∀ h', (∀ b o, s.heap.get? b = some o → h'.get? b = some o) → Q (.bool (!kvs.any fun y => e y.2)) { s with heap := h' }) : wpAny (model prog w) A (compareOp .NotIn x (.ref v)) Q E s := by
  unfold compareOp
  exact wpAny_bind (contains_vals e hh hv hm he fun h' q => wpAny_pure (hQ h' q))
end
/-- x in d.values(); neg: not in -/
def mInV (neg : Bool) (ml mo : EM D) : EM Bool := fun E env C Q => ml E env C fun d env1 C1 => flD d = true ∧ mo E env1 C1 fun e env2 C2 => ∃ kvs, dr C2 e = .dct kvs ∧ (valsL kvs).all flD = true ∧ Q (if neg then !inD d (valsL kvs) else inD d (valsL kvs)) env2 C2
section
variable {X : Cx} {l e : Expr} {apos cpos pos : Pos} {ml mo : EM D}
theorem dr_flat {C : Cs} {d : D} (h : flD d = true) : dr C d = d := by
  cases d <;> first | rfl | cases h
theorem dt_inV {neg : Bool} (hc : X.calm = true) (hl : DE X RPk l ml) (he : DE X RPk e mo) (hbase : attributeBase e "values" X.env (eval e X.env) = eval e X.env) (hline : (apos.endLine == cpos.line) = true)
    (hm : behindInMarks (if neg then .NotIn else .In) (.Call (.Attribute e "values" apos) [] [] cpos) = false) :
    DT X (.Compare l [if neg then .NotIn else .In] [.Call (.Attribute e "values" apos) [] [] cpos] pos) (mInV neg ml mo) := fun Z E hE => ⟨fun pins s σ H Q I ⟨Hs, env, C, P, sr, q, k⟩ => by
  refine wpAny_isTrue_Compare1 ?_ hm
  refine thn ((hl Z E hE).run pins s σ H (fun x H1 => ∃ d Hs1 env1 C1, SR X.K Z σ Hs1 H1 env1 C1 ∧ Tr Hs H C Hs1 H1 C1 ∧ RNow X.K Hs1 H1 d x ∧ flD d = true ∧ mo E env1 C1 fun e env2 C2 => ∃ kvs, dr C2 e = .dct kvs ∧ (valsL kvs).all flD = true ∧ P (if neg then !inD d (valsL kvs) else inD d (valsL kvs)) env2 C2) I
    ⟨Hs, env, C, _, sr, q, fun d env1 C1 v Hs1 H1 ⟨f1, q1⟩ t1 s1 r1 => ⟨d, Hs1, env1, C1, s1, t1, by have := r1.now s1.fit; rwa [dr_flat f1] at this, f1, q1⟩⟩) fun u1 s1 ⟨x, H1, I1, rx, d, Hs1, env1, C1, sr1, t1, n1, f1, q1⟩ => ?_
  refine wpAny_Call_method (T := "dict") (id := "dict.values") hbase rfl hline F.plainAttrs_dict F.slot_dict_values F.type_dict_values (thn ((he Z E hE).run pins s1 σ H1 (fun y H2 => ∃ a ws kvs Hs2 env2 C2, y = .ref a ∧ Rd H2 a (.dK ws) ∧ RepKV X.K Hs2 kvs ws ∧ SR X.K Z σ Hs2 H2 env2 C2 ∧ Tr Hs1 H1 C1 Hs2 H2 C2 ∧ (valsL kvs).all flD = true ∧ P (if neg then !inD d (valsL kvs) else inD d (valsL kvs)) env2 C2) I1 ⟨Hs1, env1, C1, _, sr1, q1, fun d2 env2 C2 v Hs2 H2 ⟨kvs, e1, a1, q2⟩ t2 s2 r2 => by
    have n2 := r2.now s2.fit
    rw [e1] at n2
    cases n2 with
    | dct h r => exact ⟨_, _, _, Hs2, env2, C2, rfl, h, r, s2, t2, a1, q2⟩⟩) fun u2 s2 ⟨y, H2, I2, ry, a, ws, kvs, Hs2, env2, C2, ey, hd, rk, sr2, t2, fl2, q2⟩ => ?_)
  subst ey
  obtain rfl : u2 = Value.ref a := ry
  obtain ⟨hz, hs0, us, kv, hdo⟩ := dk_rd I2.hok hd
  obtain ⟨ep, hat⟩ := hdo.dictAt
  refine ⟨hdo.typeIs, hdo.mapOf.noDict, ?_⟩
  show wpAny _ _ (callWith cpos (.builtin "dict.values") [.ref a] [] []) _ X.xe s2
  refine method_meetsIn F.slot_dict_values F.entry_dict_values rfl (PySem.evalArgs_none ⟨rfl, hdo.typeIs, F.args_dict_values_1 _, _, meets_dict_values (mixKind X.prog X.w) a hs0, ⟨us, hdo⟩, ?_⟩)
  have hview : (s2.heap.push { cls := .type "dict_values", data := .fields #[.ref a] }).IsValuesView s2.heap.objs.size a := ⟨_, Heap.get?_push_size _ rfl, rfl, rfl⟩
  have fx : flatV x = true := flat_now n1 f1
  have rvl := repKV_vals rk
  have fvs := flats_rep rvl fl2
  have vs' : Vals (ws.map (·.2)) (us.map (·.2)) := by
    have lk : ws.length = us.length := Paired.length kv
    refine vals_getL (by rw [List.length_map, List.length_map]; exact lk) fun j u e => ?_
    rw [List.getElem?_map] at e
    obtain ⟨z, ez, rfl⟩ := Option.map_eq_some_iff.mp e
    have hj := (List.getElem?_eq_some_iff.mp ez).1
    obtain ⟨kk, vv, ew⟩ : ∃ kk vv, ws[j]? = some (kk, vv) := ⟨_, _, List.getElem?_eq_getElem (by omega)⟩
    obtain ⟨u', eu, ru⟩ := L2.kv_get kv ew
    rw [eu] at ez
    cases ez
    exact ⟨vv, by rw [List.getElem?_map, ew]; rfl, ru⟩
  have he' : ∀ (A' : Around) (s' : Shared), ∀ y ∈ us, SeqAt.EqAt A' s' y.2 u1 (eqU x y.2) := fun A' s' y hy => mem_eqAt rx fx vs' fvs y.2 (List.mem_map.mpr ⟨y, hy, rfl⟩)
  have hval : (us.any fun y => eqU x y.2) = inD d (valsL kvs) := by
    have e1 : (us.any fun y => eqU x y.2) = (us.map (·.2)).any (eqU x) := by rw [List.any_map]; rfl
    rw [e1, any_eqU vs' fvs]
    have n2 : RNow X.K Hs2 H2 d x := by
      cases n1 with
      | non => exact .non
      | bl b => exact .bl b
      | int i => exact .int i
      | str t => exact .str t
      | _ => cases f1
    exact any_now n2 f1 rvl fl2
  have done : ∀ h', (∀ b o, (s2.heap.push { cls := .type "dict_values", data := .fields #[.ref a] }).get? b = some o → h'.get? b = some o) → ∀ b, b = (if neg then !(us.any fun y => eqU x y.2) else us.any fun y => eqU x y.2) →
      wpAny (model X.prog X.w) X.A (truthy (.bool b)) (TP X pins σ Q) X.xe { s2 with heap := h' } := fun h' hk b eb => by
    subst eb
    rw [hval]
    refine wpAny_truthy_bool ⟨H2, I2.kept (t' := s2.toks) fun b ob q => hk b ob (Heap.get?_push_of_some _ q), ?_⟩
    exact k _ _ _ _ _ q2 (t1.trans t2) sr2
  cases neg with
  | false => exact in_vals (eqU x) (I2.ok.hd hc) hview (hat.push _) he' fun h' hk => done h' hk _ rfl
  | true => exact notIn_vals (eqU x) (I2.ok.hd hc) hview (hat.push _) he' fun h' hk => done h' hk _ rfl⟩
end
end L2.DL
/-! SA: generators with a loop and tests in their body. -/
namespace L2.DL
open PySem PySem.Spec PyProof.Rows GenW L2
end L2.DL
/-! SB: generators over trees; list(g(..)). -/
namespace L2.DL
open PySem PySem.Spec PyProof.Rows GenW L2
/-- what is wanted behind a statement of a generator; the list: the trees handed out so far -/
structure GDE where
  nx : List D → DL.Env → Cs → Prop
  bk : List D → DL.Env → Cs → Prop := fun _ _ _ => False
  ct : List D → DL.Env → Cs → Prop := fun _ _ _ => False
def GEndsOk (K : PySem.W.Frag) (Z : Z0) (dE : GDE) (D : GEnds) : Prop :=
  (∀ ds ys σ Hs H env C, SR K Z σ Hs H env C → RepL K Hs ds ys → dE.nx ds env C → D.nx ys σ H) ∧
  (∀ ds ys σ Hs H env C, SR K Z σ Hs H env C → RepL K Hs ds ys → dE.bk ds env C → D.bk ys σ H) ∧
  (∀ ds ys σ Hs H env C, SR K Z σ Hs H env C → RepL K Hs ds ys → dE.ct ds env C → D.ct ys σ H)
theorem GEndsOk.up {K : PySem.W.Frag} {Z Z' : Z0} {dE : GDE} {D : GEnds} (u : Up Z Z') (h : GEndsOk K Z dE D) : GEndsOk K Z' dE D :=
  ⟨fun ds ys σ Hs H env C r => h.1 ds ys σ Hs H env C (r.up u), fun ds ys σ Hs H env C r => h.2.1 ds ys σ Hs H env C (r.up u), fun ds ys σ Hs H env C r => h.2.2 ds ys σ Hs H env C (r.up u)⟩
/-! ### the promise of a generator def -/
/-! ### list(g(..)) -/
end L2.DL
/-! SD: sorted(d) of keys that are texts or ints; min(list of ints). -/
namespace L2.DL
open PySem PySem.Spec PyProof.Rows
def gSortDT (ds : List D) (P : Cont → Prop) : Prop := match ds with
  | [.dct kvs] => ∃ ts : List Txt, kvs.map (·.1) = ts.map Sum.inr ∧ ts.length < 64 ∧ P (.lst (txs (sortT ts)))
  | _ => False
def gMinL (ds : List D) (P : D → Prop) : Prop := match ds with
  | [.lst xs] => ∃ is : List Int, xs = is.map D.int ∧ is ≠ [] ∧ ∀ m ∈ is, (∀ y ∈ is, m ≤ y) → P (.int m)
  | _ => False
theorem keys_repKV {K : PySem.W.Frag} {Hs : Hp} : ∀ {kvs : List (DK × D)} {ws : List (Key × V)}, RepKV K Hs kvs ws → ws.map (·.1) = (kvs.map (·.1)).map kOf
  | _, _, .nil => rfl
  | _, _, .cons _ r => by rw [List.map_cons, List.map_cons, List.map_cons, keys_repKV r]
theorem intsD_rep {K : PySem.W.Frag} {Hs : Hp} : ∀ {is : List Int} {vs : List V}, RepL K Hs (is.map D.int) vs → vs = is.map V.int
  | [], _, .nil => rfl
  | _ :: _, _, .cons h r => by cases h; rw [List.map_cons, intsD_rep r]
section
variable {X : Cx}
theorem calld_sortDT (hc : X.calm = true) : CallD X (.builtin "sorted") RFr gSortDT := by
  refine ⟨⟨_, call_sortedD hc, fun Z σ Hs H env C ds vs P Q sr n g k => ?_⟩⟩
  cases n with
  | nil => exact g.elim
  | cons n n2 =>
    cases n2 with
    | cons _ _ => cases n <;> exact g.elim
    | nil =>
      cases n with
      | dct h r =>
        obtain ⟨ts, e1, l1, g⟩ := g
        refine ⟨_, _, ts.map sV, rfl, h, ?_, by rw [List.length_map]; exact l1, fun ys p pm so hp => ?_⟩
        · rw [keys_repKV r, e1, List.map_map, List.map_map]; rfl
        · rw [sorted_is pm so]
          exact k _ _ Hs _ g (Tr.layP hp _) (sr.layP hp _) (fr_lay sr hp ⟨_, rfl, repL_txts _⟩)
      | _ => exact g.elim
theorem calld_minL (hc : X.calm = true) : CallD X (.builtin "min") RShr gMinL := by
  refine ⟨⟨_, cr_min hc, fun Z σ Hs H env C ds vs P Q sr n g k => ?_⟩⟩
  cases n with
  | nil => exact g.elim
  | cons n n2 =>
    cases n2 with
    | cons _ _ => cases n <;> exact g.elim
    | nil =>
      cases n with
      | lst h r =>
        obtain ⟨is, rfl, ne, g⟩ := g
        have e := intsD_rep r
        subst e
        refine ⟨_, is, rfl, SqL.of h, List.length_pos_iff.mpr ne, fun m hm hle => k _ _ Hs H (g m hm hle) Tr.refl sr (.int m)⟩
      | _ => exact g.elim
end
section
variable {C : Cs} {PC : Cont → Prop} {P : D → Prop}
theorem g_sortDT {kvs : List (DK × D)} {ts : List Txt} (e : kvs.map (·.1) = ts.map Sum.inr) (h : ts.length < 64) (q : PC (.lst (txs (sortT ts)))) : gSortDT ([D.dct kvs].map (dr C)) PC := ⟨ts, e, h, q⟩
theorem g_minL {xs : List D} {is : List Int} (e : xs = is.map D.int) (h : is ≠ []) (q : ∀ m ∈ is, (∀ y ∈ is, m ≤ y) → P (.int m)) : gMinL ([D.lst xs].map (dr C)) P := ⟨is, e, h, q⟩
variable {E : EX} {env : DL.Env} {l mo : Expr}
theorem i_inV {neg : Bool} {ml mo : EM D} {Q : Bool → DL.Env → Cs → Prop} (q : ml E env C fun d env1 C1 => flD d = true ∧ mo E env1 C1 fun e env2 C2 => ∃ kvs, dr C2 e = .dct kvs ∧ (valsL kvs).all flD = true ∧ Q (if neg then !inD d (valsL kvs) else inD d (valsL kvs)) env2 C2) : mInV neg ml mo E env C Q := q
end
end L2.DL
/-! SE: a generator's meaning by steps. -/
namespace L2.DL
open PySem PySem.Spec PyProof.Rows
end L2.DL
/-! GD: a def that calls itself. -/
namespace L2.DL
open PySem PySem.Spec PyProof.Rows
/-! ### list(x) of a list or a tuple, within an except suite too -/
def gListN (ds : List D) (P : Cont → Prop) : Prop := match ds with
  | [.lst xs] => P (.lst xs)
  | [.tup xs] => P (.lst xs)
  | _ => False
section
variable {X : Cx}
theorem g_listNL {C : Cs} {xs : List D} {P : Cont → Prop} (q : P (.lst xs)) : gListN ([D.lst xs].map (dr C)) P := q
theorem g_listNT {C : Cs} {xs : List D} {P : Cont → Prop} (q : P (.lst xs)) : gListN ([D.tup xs].map (dr C)) P := q
/-! ### o.m(*e) -/
structure MeSV (X : Cx) (C : Addr) (m : Str) (spv : DSpV) : Prop where
  ex : ∃ k g, DCal X.prog X.w X.K X.mg X.base k (.ref g) [] spv ∧ Room k X.A ∧ Cls X.K C ∧ BMeth X.K C m g
end
section
variable (P : Program) (w : World) (K : PySem.W.Frag) (mg : Str → Option Value) (base : Heap) (k : Nat)
structure QMs (C : Addr) (m : Str) (spv : DSpV) : Prop where
  ex : ∃ g, DCal P w K mg base k (.ref g) [] spv ∧ Cls K C ∧ BMeth K C m g
end
theorem QMs.to {X : Cx} {j k : Nat} {C : Addr} {m : Str} {spv : DSpV} (c : QMs X.prog X.w X.K X.mg X.base k C m spv) (hr : Room j X.A) (h : k ≤ j) : MeSV X C m spv := let ⟨g, d, a, b⟩ := c.ex; ⟨k, g, d, hr.mono h, a, b⟩
/-! ### a, b, c = e1, e2, e3 by the stores swapped -/
def sPar3 (i j l : Nat) (ms : EM (List D)) : SM := fun E dE env C => ms E env C fun ds env1 C1 => match ds with
  | [d, e, f] => dE.nx (((env1.set i (.shr d)).set j (.shr e)).set l (.shr f)) C1
  | _ => False
def Par3 (ds : List D) (R : D → D → D → Prop) : Prop := match ds with
  | [d, e, f] => R d e f
  | _ => False
theorem p_par3 {d e f : D} {R : D → D → D → Prop} (q : R d e f) : Par3 [d, e, f] R := q
theorem j_par3 {i j l : Nat} {ms : EM (List D)} {E : EX} {nx bk ct : DL.Env → Cs → Prop} {rt : Ret → Cs → Prop} {env : DL.Env} {C : Cs} (q : ms E env C fun ds env1 C1 => Par3 ds fun d e f => nx (((env1.set i (.shr d)).set j (.shr e)).set l (.shr f)) C1) : sPar3 i j l ms E ⟨nx, rt, bk, ct⟩ env C := q
end L2.DL
/-! MH: which of two lists of ints comes first. -/
namespace L2.DL
open PySem PySem.Spec PyProof.Rows
end L2.DL
/-! MI: rows of codings put in order, names that keep their codes. -/
namespace L2.DL
open PySem PySem.Spec PyProof.Rows L2.AS
theorem chs_len {S : List Cl} {M : List Txt} (h : M.length = S.length) : (chs S M).length = S.length := by unfold chs; rw [List.length_zipWith, h]; omega
theorem row_inj {S : List Cl} (hh : ∀ c ∈ S, c.held.length ≤ 2) {M M' : List Txt} (h : Cod S M) (h' : Cod S M') (e2 : rowL S M = rowL S M') : M = M' := by
  unfold rowL at e2
  have e3 : nms S M = nms S M' := (List.append_inj (List.cons.inj e2).2 (by rw [chs_len h.len, chs_len h'.len])).2
  refine List.ext_getElem (by rw [h.len, h'.len]) fun p h1 h2 => ?_
  have hp : p < S.length := by rw [h.len] at h1; exact h1
  have o1 := h.opt p _ (List.getElem?_eq_getElem h1)
  have o2 := h'.opt p _ (List.getElem?_eq_getElem h2)
  rw [opS_some (List.getElem?_eq_getElem hp)] at o1 o2
  obtain ⟨j, hj⟩ := numCl_some o1
  obtain ⟨k, hk⟩ := numCl_some o2
  have e4 : (nms S M)[p]? = (nms S M')[p]? := by rw [e3]
  unfold nms at e4
  rw [List.getElem?_zipWith, List.getElem?_zipWith, List.getElem?_eq_getElem hp, List.getElem?_eq_getElem h1, List.getElem?_eq_getElem h2] at e4
  have e5 : nmb S[p] M[p] = nmb S[p] M'[p] := Option.some.inj e4
  unfold nmb at e5
  rw [hj, hk] at e5
  have e6 : j = k := by simp at e5; omega
  subst e6
  exact numCl_inj (hh _ (List.getElem_mem hp)) hj hk
/-! ### names that keep their codes -/
def keptT (S : List Cl) (M : List Txt) : List Txt := ((S.zip M).filter fun x => decide (x.2 ∈ x.1.held)).map (·.1.nm)
theorem kept_len : ∀ (S : List Cl) (M : List Txt), M.length = S.length → (((keptT S M).length : Nat) : Int) + (chs S M).sum = ((S.filter fun c => !c.held.isEmpty).length : Nat)
  | [], [], _ => rfl
  | [], _ :: _, h => by simp at h
  | _ :: _, [], h => by simp at h
  | c :: S, t :: M, h => by
    have ih := kept_len S M (by simpa using h)
    have e1 : keptT (c :: S) (t :: M) = if t ∈ c.held then c.nm :: keptT S M else keptT S M := by
      unfold keptT
      rw [List.zip_cons_cons, List.filter_cons]
      by_cases e : t ∈ c.held <;> simp [e]
    have e2 : (chs (c :: S) (t :: M)).sum = chgI c t + (chs S M).sum := by unfold chs; rw [List.zipWith_cons_cons, List.sum_cons]
    rw [e1, e2, List.filter_cons]
    unfold chgI chg
    by_cases e : t ∈ c.held
    · have hne : c.held.isEmpty = false := by cases hh : c.held with
        | nil => rw [hh] at e; cases e
        | cons _ _ => rfl
      simp only [e, hne, if_pos]
      simp
      omega
    · cases hh : c.held.isEmpty
      · simp [e]
        omega
      · simp [e]
        omega
/-! ### two codings told apart -/
/-! ### comprehensions over a list -/
end L2.DL
/-! MJ: two tuples of texts joined, the new one's object told. -/
namespace L2.DL
open PySem PySem.Spec PyProof.Rows
end L2.DL
/-! MK: a best coding where options are fewer, or more. -/
namespace L2.DL
open PySem PySem.Spec PyProof.Rows L2.AS
theorem ix_app {t : Txt} : ∀ {l : List Txt} (x : List Txt), t ∈ l → fstIx t (l ++ x) = fstIx t l
  | [], _, h => by cases h
  | a :: l, x, h => by
    show (if a = t then some 0 else (fstIx t (l ++ x)).map (· + 1)) = (if a = t then some 0 else (fstIx t l).map (· + 1))
    by_cases e : a = t
    · rw [if_pos e, if_pos e]
    · rw [if_neg e, if_neg e, ix_app x (by rcases List.mem_cons.mp h with h | h; exact absurd h.symm e; exact h)]
theorem num_mo {c m : Cl} {x : List Txt} (hh : m.held = c.held) (ho : m.opts = c.opts ++ x) {t : Txt} (ht : t ∈ c.opts) : nmb m t = nmb c t := by
  unfold nmb numCl
  rw [hh, ho, ix_app x ht]
theorem chs_eq : ∀ (S F : List Cl) (M : List Txt), F.map (·.held) = S.map (·.held) → chs F M = chs S M
  | [], [], _, _ => rfl
  | [], _ :: _, _, h => by simp at h
  | _ :: _, [], _, h => by simp at h
  | _ :: _, _ :: _, [], _ => rfl
  | c :: S, f :: F, t :: M, h => by
    obtain ⟨h1, h2⟩ := List.cons.inj h
    show chgI f t :: chs F M = chgI c t :: chs S M
    have e : f.held = c.held := h1
    rw [chs_eq S F M h2]
    unfold chgI chg
    rw [e]
theorem nms_eq : ∀ (S F : List Cl) (M : List Txt), F.length = S.length → (∀ (p : Nat) (c f : Cl) (t : Txt), S[p]? = some c → F[p]? = some f → M[p]? = some t → nmb f t = nmb c t) → nms F M = nms S M
  | [], [], _, _, _ => rfl
  | [], _ :: _, _, h, _ => by simp at h
  | _ :: _, [], _, h, _ => by simp at h
  | _ :: _, _ :: _, [], _, _ => rfl
  | c :: S, f :: F, t :: M, h, hn => by
    show nmb f t :: nms F M = nmb c t :: nms S M
    rw [nms_eq S F M (by simpa using h) fun p c' f' t' a b d => hn (p + 1) c' f' t' a b d, hn 0 c f t rfl rfl rfl]
/-- more options, behind the others -/
structure MoS (S G : List Cl) : Prop where
  len : G.length = S.length
  nm : G.map (·.nm) = S.map (·.nm)
  held : G.map (·.held) = S.map (·.held)
  at_ : ∀ (p : Nat) (c g : Cl), S[p]? = some c → G[p]? = some g → ∃ x, g.opts = c.opts ++ x
theorem held_at {S F : List Cl} (h : F.map (·.held) = S.map (·.held)) {p : Nat} {c f : Cl} (hc : S[p]? = some c) (hf : F[p]? = some f) : f.held = c.held := by
  have := congrArg (fun l => l[p]?) h
  simp only [List.getElem?_map, hc, hf, Option.map_some] at this
  exact Option.some.inj this
theorem get_of_len {α β : Type} {a : List α} {b : List β} (h : a.length = b.length) {p : Nat} {y : β} (hy : b[p]? = some y) : ∃ x, a[p]? = some x := ⟨_, List.getElem?_eq_getElem (by rw [h]; exact (List.getElem?_eq_some_iff.mp hy).1)⟩
theorem MoS.cod {S G : List Cl} {M : List Txt} (mo : MoS S G) (h : Cod S M) : Cod G M := ⟨by rw [h.len, mo.len], fun p t ht => by
    have h1 := h.opt p t ht
    obtain ⟨c, hc⟩ := get_of_len h.len.symm ht
    obtain ⟨g, hg⟩ := get_of_len mo.len hc
    obtain ⟨x, hx⟩ := mo.at_ p c g hc hg
    rw [opS_some hc] at h1
    rw [opS_some hg, hx]
    exact List.mem_append.mpr (.inl h1), h.nd⟩
theorem MoS.row {S G : List Cl} {M : List Txt} (mo : MoS S G) (h : Cod S M) : rowL G M = rowL S M := by
  unfold rowL
  rw [chs_eq S G M mo.held, nms_eq S G M mo.len fun p c g t hc hg ht => ?_]
  obtain ⟨x, hx⟩ := mo.at_ p c g hc hg
  have h1 := h.opt p t ht
  rw [opS_some hc] at h1
  exact num_mo (held_at mo.held hc hg) hx h1
/-- and where it serves without them, it is the one -/
theorem Best.same {S G : List Cl} {M N : List Txt} (hl : ∀ c ∈ S, c.held.length ≤ 2) (h : Best S M) (mo : MoS S G) (h' : Best G N) (hN : Cod S N) : N = M := by
  have b := h'.best M (mo.cod h.cod)
  rw [Vc.le_def, rowSum_val h'.cod, rowSum_val (mo.cod h.cod), mo.row h.cod, mo.row hN] at b
  have a := h.best N hN
  rw [Vc.le_def, rowSum_val h.cod, rowSum_val hN] at a
  have e := Vc.anti (rowL S M) (rowL S N)
  exact row_inj hl hN h.cod (sgn_zero.mp (by omega))
end L2.DL
/-! NA: spellings; what a register holds; its changes. -/
namespace L2.DL
open PySem PySem.Spec PyProof.Rows L2.AS
/-! ### lists of places, spellings -/
def frst (ps : List Nat) : Nat := match ps.getLast? with
  | some l => l + 1
  | none => 0
def plsF (size : Nat) (ps : List Nat) : List (List Nat) := (List.range' (frst ps) (size - frst ps)).map fun p => ps ++ [p]
def pls (size : Nat) : Nat → List (List Nat)
  | 0 => [[]]
  | n + 1 => (pls size n).flatMap (plsF size)
theorem pls_mem {size : Nat} : ∀ {n : Nat} {ps : List Nat}, ps ∈ pls size n → ps.length = n ∧ ∀ p ∈ ps, p < size
  | 0, ps, h => by
    unfold pls at h
    rw [List.mem_singleton] at h
    subst h
    exact ⟨rfl, fun p hp => by cases hp⟩
  | n + 1, ps, h => by
    unfold pls at h
    obtain ⟨qs, hq, h⟩ := List.mem_flatMap.mp h
    obtain ⟨p, hp, rfl⟩ := List.mem_map.mp h
    obtain ⟨i1, i2⟩ := pls_mem hq
    refine ⟨by simp [i1], fun x hx => ?_⟩
    rcases List.mem_append.mp hx with hx | hx
    · exact i2 x hx
    · rw [List.mem_singleton.mp hx]
      have := (List.mem_range'_1.mp hp)
      omega
def cdAt (name : Txt) (ps : List Nat) : Txt := ps.map fun p => name.getD p 0
def spellS (name : Txt) (n : Nat) : List Txt := uniT ((pls name.length n).map (cdAt name))
theorem spellS_mem {name t : Txt} {n : Nat} (h : t ∈ spellS name n) : t.length = n ∧ ∀ c ∈ t, c ∈ name := by
  obtain ⟨ps, hp, rfl⟩ := List.mem_map.mp (mem_uniT.mp h)
  obtain ⟨h1, h2⟩ := pls_mem hp
  refine ⟨by simp [cdAt, h1], fun c hc => ?_⟩
  obtain ⟨p, hp, rfl⟩ := List.mem_map.mp hc
  have := h2 p hp
  simp [List.getD_eq_getElem?_getD, this]
/-! ### rows, states, registers -/
structure Row where
  b : Nat
  nm : Txt
  cd : Option Txt
structure RSt where
  tk : Nat
  nx : Nat
  bar : List Txt
  rows : List Row
  slp : Tb Txt (Txt × Nat)
structure Reg where
  span : Nat
  pause : Nat
  sts : List RSt
  spot : Nat
abbrev rowD (r : Row) : D := .tup [.int r.b, .str r.nm, optD r.cd]
abbrev slD (x : Txt × Nat) : D := .tup [.str x.1, .int x.2]
abbrev stD (cS : Addr) (s : RSt) : D := .obj cS [("ticks", .int s.tk), ("following", .int s.nx), ("barred", .lst (txs s.bar)), ("rows", .lst (s.rows.map rowD)), ("asleep", .dct (tD slD s.slp))]
abbrev regC (cR cS : Addr) (r : Reg) : Cell := .obj cR [("span", .int r.span), ("pause", .int r.pause), ("states", .lst (r.sts.map (stD cS))), ("spot", .int r.spot)]
def slpOk (slp : Tb Txt (Txt × Nat)) (nm o : Txt) : Bool := match lk o slp with
  | some x => decide (x.1 = nm)
  | none => true
def optsR (span : Nat) (bar : List Txt) (slp : Tb Txt (Txt × Nat)) (nm : Txt) : List Txt := (spellS nm span).filter fun o => !decide (o ∈ bar) && slpOk slp nm o
def claimR (span : Nat) (bar : List Txt) (slp : Tb Txt (Txt × Nat)) (r : Row) : Cl := ⟨r.nm, r.cd.toList, optsR span bar slp r.nm⟩
abbrev sitR (span : Nat) (bar : List Txt) (slp : Tb Txt (Txt × Nat)) (rows : List Row) : List Cl := rows.map (claimR span bar slp)
/-- a code of a length -/
def cdOk (n : Nat) (c : Txt) : Prop := c.length = n ∧ ∀ x ∈ c, 97 ≤ x ∧ x ≤ 122
/-! ### what holds of rows and states -/
structure RwOk (nx : Nat) (rows : List Row) : Prop where
  len : rows.length ≤ 44
  nd : (rows.map (·.nm)).Nodup
  bn : (rows.map (·.b)).Nodup
  lt : ∀ r ∈ rows, r.b < nx
  nm : ∀ r ∈ rows, nameOk r.nm
structure StOk (n span : Nat) (s : RSt) : Prop where
  rws : RwOk s.nx s.rows
  cd : ∀ r ∈ s.rows, ∃ c, r.cd = some c ∧ cdOk span c
  bar : ∀ c ∈ s.bar, cdOk span c
  barL : s.bar.length ≤ 8 * n + 8
  slpN : (ks s.slp).Nodup
  slpK : ∀ e ∈ s.slp, cdOk span e.1 ∧ nameOk e.2.1
  slpL : s.slp.length ≤ 44 * n + 44
structure ROk (n : Nat) (r : Reg) : Prop where
  n1 : n ≤ 100
  s1 : 1 ≤ r.span
  s3 : r.span ≤ 3
  p : r.pause ≤ 20
  spot : r.spot < r.sts.length
  len : r.sts.length ≤ n + 1
  st : ∀ s ∈ r.sts, StOk n r.span s
theorem StOk.mono {n m span : Nat} {s : RSt} (h : StOk n span s) (l : n ≤ m) : StOk m span s := ⟨h.rws, h.cd, h.bar, Nat.le_trans h.barL (by omega), h.slpN, h.slpK, Nat.le_trans h.slpL (by omega)⟩
theorem held_sitR {span : Nat} {bar : List Txt} {slp : Tb Txt (Txt × Nat)} {rows : List Row} : ∀ c ∈ sitR span bar slp rows, c.held.length ≤ 2 := fun c hc => by
  obtain ⟨r, hr, rfl⟩ := List.mem_map.mp hc
  show r.cd.toList.length ≤ 2
  cases r.cd <;> simp
/-! ### a change -/
def setCd (rows : List Row) (M : List Txt) : List Row := List.zipWith (fun r t => { r with cd := some t }) rows M
def restF (pause t1 : Nat) (M : List Txt) (slp : Tb Txt (Txt × Nat)) (r : Row) : Tb Txt (Txt × Nat) := match r.cd with
  | some c => if c ∉ M ∧ 0 < pause then pt slp c (r.nm, t1 + pause) else slp
  | none => slp
def restIn (pause t1 : Nat) (M : List Txt) (slp : Tb Txt (Txt × Nat)) (rows : List Row) : Tb Txt (Txt × Nat) := rows.foldl (restF pause t1 M) slp
def slpCut (t1 : Nat) (M : List Txt) (slp : Tb Txt (Txt × Nat)) : Tb Txt (Txt × Nat) := slp.filter fun e => decide (t1 < e.2.2) && !decide (e.1 ∈ M)
def chgR (pause : Nat) (s : RSt) (nx : Nat) (bar : List Txt) (rows : List Row) (M : List Txt) : RSt := ⟨s.tk + 1, nx, bar, setCd rows M, restIn pause (s.tk + 1) M (slpCut (s.tk + 1) M s.slp) s.rows⟩
def Reg.push (r : Reg) (s : RSt) : Reg := { r with sts := r.sts.take (r.spot + 1) ++ [s], spot := r.spot + 1 }
def oldOf (rows : List Row) (b : Nat) : Option Txt := (rows.find? fun r => decide (r.b = b)).bind (·.cd)
def toldR (o n : List Row) : List Row := n.filter fun r => !decide (oldOf o r.b = r.cd)
abbrev tolD (o : List Row) (r : Row) : D := .tup [.str r.nm, optD (oldOf o r.b), optD r.cd]
abbrev toldD (o n : List Row) : D := .lst ((toldR o n).map (tolD o))
abbrev toldC (o n : List Row) : Cont := .lst ((toldR o n).map (tolD o))
/-- handed over as a new list -/
def frsD (x : D) (PR : Ret → Cs → Prop) (C : Cs) : Prop := ∀ xs, x = .lst xs → PR (.frs (.lst xs)) C
theorem setCd_mem {rows : List Row} {M : List Txt} {x : Row} (h : x ∈ setCd rows M) : ∃ (i : Nat) (r : Row) (t : Txt), rows[i]? = some r ∧ M[i]? = some t ∧ x = { r with cd := some t } := by
  obtain ⟨i, hi⟩ := List.mem_iff_getElem?.mp h
  unfold setCd at hi
  rw [List.getElem?_zipWith] at hi
  cases h1 : rows[i]? with
  | none => rw [h1] at hi; cases hi
  | some r =>
    cases h2 : M[i]? with
    | none => rw [h1, h2] at hi; cases hi
    | some t => rw [h1, h2] at hi; exact ⟨i, r, t, h1, h2, (Option.some.inj hi).symm⟩
theorem setCd_len {rows : List Row} {M : List Txt} (h : M.length = rows.length) : (setCd rows M).length = rows.length := by
  unfold setCd; rw [List.length_zipWith, h]; simp
theorem pt_len {κ α : Type} [DecidableEq κ] {l : Tb κ α} {c : κ} {x : α} : (pt l c x).length ≤ l.length + 1 := by
  unfold pt
  split <;> simp
theorem pt_mem {κ α : Type} [DecidableEq κ] {l : Tb κ α} {c : κ} {x : α} {e : κ × α} (h : e ∈ pt l c x) : e ∈ l ∨ e = (c, x) := by
  unfold pt at h
  split at h
  · obtain ⟨y, hy, rfl⟩ := List.mem_map.mp h
    split
    · rename_i q; right; rw [q]
    · exact .inl hy
  · rcases List.mem_append.mp h with h | h
    · exact .inl h
    · exact .inr (List.mem_singleton.mp h)
theorem restF_mem {pause t1 : Nat} {M : List Txt} {slp : Tb Txt (Txt × Nat)} {r : Row} {e : Txt × (Txt × Nat)} (h : e ∈ restF pause t1 M slp r) : e ∈ slp ∨ ∃ c, r.cd = some c ∧ e = (c, (r.nm, t1 + pause)) := by
  unfold restF at h
  split at h
  · rename_i c hc
    split at h
    · rcases pt_mem h with h | h
      · exact .inl h
      · exact .inr ⟨c, hc, h⟩
    · exact .inl h
  · exact .inl h
theorem ROk.push {n : Nat} {r : Reg} {s : RSt} (h : ROk n r) (hn : n + 1 ≤ 100) (hs : StOk (n + 1) r.span s) : ROk (n + 1) (r.push s) where
  n1 := hn
  s1 := h.s1
  s3 := h.s3
  p := h.p
  spot := by have := h.spot; show r.spot + 1 < (r.sts.take (r.spot + 1) ++ [s]).length; rw [List.length_append, List.length_take]; simp; omega
  len := by have := h.len; have := h.spot; show (r.sts.take (r.spot + 1) ++ [s]).length ≤ _; rw [List.length_append, List.length_take]; simp; omega
  st := fun x hx => by
    rcases List.mem_append.mp hx with hx | hx
    · exact (h.st x (List.mem_of_mem_take hx)).mono (by omega)
    · rw [List.mem_singleton.mp hx]; exact hs
theorem ROk.mono {n m : Nat} {r : Reg} (h : ROk n r) (l : n ≤ m) (hm : m ≤ 100) : ROk m r := { h with n1 := hm, len := Nat.le_trans h.len (by omega), st := fun s hs => (h.st s hs).mono l }
/-- another of its states -/
theorem ROk.go {n k : Nat} {r : Reg} (h : ROk n r) (hk : k < r.sts.length) : ROk n { r with spot := k } := { h with spot := hk }
/-! ### pure comprehensions -/
theorem compL_of {α : Type} {vs : List Nat} {g : GM} {mc : EM Bool} {me : EM D} {QQ : Cont → Cs → Prop} {env : DL.Env} {C : Cs} (l : List α) (enc : α → D) (f : α → Option D) (hl : l.length ≤ sizeLine)
    (step : ∀ a ∈ l, ∀ (acc : List D) (nxt : List D → Cs → Prop), acc.length < sizeLine → nxt (acc ++ (f a).toList) C → g (enc a) (fun env1 C1 => wipeE env1 vs = env ∧ mc E0 env1 C1 fun b env2 C2 => env2 = env1 ∧ if b = true then me E0 env1 C2 fun y env3 C3 => env3 = env1 ∧ acc.length < sizeLine ∧ nxt (acc ++ [y]) C3 else nxt acc C2) env C)
    (fin : QQ (.lst (l.filterMap f)) C) : compL vs g mc me QQ (l.map enc) [] env C := by
  refine compL_inv (fun k acc C' => C' = C ∧ acc = (l.take k).filterMap f) ⟨rfl, by simp⟩ ?_ ?_
  · rintro k d acc C' nxt hd ⟨rfl, rfl⟩ hx
    rw [List.getElem?_map] at hd
    obtain ⟨a, ha, rfl⟩ := Option.map_eq_some_iff.mp hd
    have hk := (List.getElem?_eq_some_iff.mp ha).1
    have hlen : ((l.take k).filterMap f).length < sizeLine := by
      have := List.length_filterMap_le f (l.take k)
      rw [List.length_take] at this; omega
    refine step a (List.mem_of_getElem? ha) _ nxt hlen (hx _ _ ⟨rfl, ?_⟩)
    rw [List.take_add_one, ha, List.filterMap_append]
    simp only [Option.toList_some, List.filterMap_cons, List.filterMap_nil]
    cases f a <;> rfl
  · rintro acc C' ⟨rfl, rfl⟩
    rw [List.length_map, List.take_length]
    exact fin
/-- the same, all kept -/
theorem compL_map {α : Type} {vs : List Nat} {g : GM} {mc : EM Bool} {me : EM D} {QQ : Cont → Cs → Prop} {env : DL.Env} {C : Cs} (l : List α) (enc : α → D) (f : α → D) (hl : l.length ≤ sizeLine)
    (step : ∀ a ∈ l, ∀ (acc : List D) (nxt : List D → Cs → Prop), acc.length < sizeLine → nxt (acc ++ [f a]) C → g (enc a) (fun env1 C1 => wipeE env1 vs = env ∧ mc E0 env1 C1 fun b env2 C2 => env2 = env1 ∧ if b = true then me E0 env1 C2 fun y env3 C3 => env3 = env1 ∧ acc.length < sizeLine ∧ nxt (acc ++ [y]) C3 else nxt acc C2) env C)
    (fin : QQ (.lst (l.map f)) C) : compL vs g mc me QQ (l.map enc) [] env C :=
  compL_of l enc (fun a => some (f a)) hl (fun a ha acc nxt h1 h2 => step a ha acc nxt h1 h2) (by rw [show (fun a => some (f a)) = some ∘ f from rfl, List.filterMap_eq_map]; exact fin)
/-- the same, some kept -/
theorem compL_flt {α : Type} {vs : List Nat} {g : GM} {mc : EM Bool} {me : EM D} {QQ : Cont → Cs → Prop} {env : DL.Env} {C : Cs} (l : List α) (enc f : α → D) (keep : α → Bool) (hl : l.length ≤ sizeLine)
    (step : ∀ a ∈ l, ∀ (acc : List D) (nxt : List D → Cs → Prop), acc.length < sizeLine → (keep a = true → nxt (acc ++ [f a]) C) → (keep a = false → nxt acc C) → g (enc a) (fun env1 C1 => wipeE env1 vs = env ∧ mc E0 env1 C1 fun b env2 C2 => env2 = env1 ∧ if b = true then me E0 env1 C2 fun y env3 C3 => env3 = env1 ∧ acc.length < sizeLine ∧ nxt (acc ++ [y]) C3 else nxt acc C2) env C)
    (fin : QQ (.lst ((l.filter keep).map f)) C) : compL vs g mc me QQ (l.map enc) [] env C :=
  compL_of l enc (fun a => if keep a = true then some (f a) else none) hl (fun a ha acc nxt h1 h2 => step a ha acc nxt h1 (fun h => by rw [if_pos h] at h2; exact h2) (fun h => by rw [h, if_neg (by decide)] at h2; simpa using h2))
    (by
      have : ∀ l : List α, l.filterMap (fun a => if keep a = true then some (f a) else none) = (l.filter keep).map f := by
        intro l
        induction l with
        | nil => rfl
        | cons a l ih =>
          rw [List.filterMap_cons, List.filter_cons]
          split
          · rename_i h
            split at h
            · cases h
            · rename_i n; rw [if_neg n, ih]
          · rename_i b h
            split at h
            · rename_i y; cases h; rw [if_pos y, List.map_cons, ih]
            · cases h
      rw [this]; exact fin)
end L2.DL
/-! NB: pure comprehensions of tables; words at hand for registers. -/
namespace L2.DL
open PySem PySem.Spec PyProof.Rows L2.AS
theorem putD_new {kvs : List (DK × D)} {k : DK} {d : D} (h : k ∉ kvs.map (·.1)) : putD kvs k d = kvs ++ [(k, d)] := by
  unfold putD
  rw [if_neg]
  intro z
  obtain ⟨x, hx, e⟩ := List.any_eq_true.mp z
  exact h (List.mem_map.mpr ⟨x, hx, of_decide_eq_true e⟩)
theorem compD_of {α : Type} {β : Type} {vs : List Nat} {g : GM} {mc : EM Bool} {me : EM β} {put : List (DK × D) → β → (List (DK × D) → Prop) → Prop} {QQ : List (DK × D) → Cs → Prop} {env : DL.Env} {C : Cs} (l : List α) (enc : α → D) (key : α → DK) (val : α → D) (keep : α → Bool) (nd : (l.map key).Nodup) (hl : l.length ≤ sizeLine)
    (step : ∀ a ∈ l, ∀ (acc : List (DK × D)) (nxt : List (DK × D) → Cs → Prop), acc.length < sizeLine → (keep a = true → nxt (putD acc (key a) (val a)) C) → (keep a = false → nxt acc C) → g (enc a) (fun env1 C1 => wipeE env1 vs = env ∧ mc E0 env1 C1 fun b env2 C2 => env2 = env1 ∧ if b = true then me E0 env1 C2 fun y env3 C3 => env3 = env1 ∧ acc.length < sizeLine ∧ put acc y fun acc' => nxt acc' C3 else nxt acc C2) env C)
    (fin : QQ ((l.filter keep).map fun a => (key a, val a)) C) : compX (fun _ => True) id vs g mc me put QQ (l.map enc) [] env C := by
  refine compX_inv (fun k acc C' => C' = C ∧ acc = ((l.take k).filter keep).map fun a => (key a, val a)) ⟨rfl, by simp⟩ (fun _ _ _ _ => trivial) ?_ ?_
  · rintro k d acc C' nxt hd ⟨rfl, rfl⟩ hx
    rw [List.getElem?_map] at hd
    obtain ⟨a, ha, rfl⟩ := Option.map_eq_some_iff.mp hd
    have hk := (List.getElem?_eq_some_iff.mp ha).1
    have hlen : (((l.take k).filter keep).map fun a => (key a, val a)).length < sizeLine := by
      rw [List.length_map]
      have := List.length_filter_le keep (l.take k)
      rw [List.length_take] at this; omega
    have hn : key a ∉ (((l.take k).filter keep).map fun a => (key a, val a)).map (·.1) := fun z => by
      rw [List.map_map] at z
      obtain ⟨b, hb, e⟩ := List.mem_map.mp z
      have hb := (List.mem_filter.mp hb).1
      obtain ⟨j, hj, ej⟩ := List.getElem_of_mem hb
      rw [List.length_take] at hj
      rw [List.getElem_take] at ej
      have e1 : (l.map key)[j]? = some (key a) := by rw [List.getElem?_map, List.getElem?_eq_getElem (by omega), ej]; exact congrArg some e
      have e2 : (l.map key)[k]? = some (key a) := by rw [List.getElem?_map, ha]; rfl
      have := (List.getElem?_inj (i := j) (j := k) (by rw [List.length_map]; omega) nd).mp (by rw [e1, e2])
      omega
    refine step a (List.mem_of_getElem? ha) _ nxt hlen (fun h => hx _ _ ⟨rfl, ?_⟩) fun h => hx _ _ ⟨rfl, ?_⟩
    · rw [putD_new hn, List.take_add_one, ha, List.filter_append, List.map_append]
      simp [h]
    · rw [List.take_add_one, ha, List.filter_append, List.map_append]
      simp [h]
  · rintro acc C' ⟨rfl, rfl⟩
    rw [List.length_map, List.take_length]
    exact fin
/-! ### tables of rows -/
abbrev nmKV (rows : List Row) : List (DK × D) := rows.map fun r => (.inr r.nm, optD r.cd)
abbrev bKV (rows : List Row) : List (DK × D) := rows.map fun r => (.inl (r.b : Int), optD r.cd)
/-! ### lists of places -/
theorem intsFrom_natD : ∀ (n a : Nat), intsFrom (a : Int) n = (List.range' a n).map natD
  | 0, a => rfl
  | n + 1, a => by
    have ih := intsFrom_natD n (a + 1)
    rw [List.range'_succ, List.map_cons, ← ih]
    show D.int a :: intsFrom ((a : Int) + 1) n = _
    congr 1
theorem i_dget2 {mo me mx : EM D} {E : EX} {env : DL.Env} {C : Cs} {Q : D → DL.Env → Cs → Prop} (q : mo E env C fun d env1 C1 => (∃ kvs0, dr C1 d = .dct kvs0) ∧ me E env1 C1 fun k env2 C2 => mx E env2 C2 fun x env3 C3 => ∃ kvs key, dr C3 d = .dct kvs ∧ dkOf k = some key ∧ Q ((look key kvs).getD x) env3 C3) : mDGet2 mo me mx E env C Q := q
end L2.DL
/-! NC: what each change makes of the rows and the banned codes. -/
namespace L2.DL
open PySem PySem.Spec PyProof.Rows L2.AS
/-- a register at hand -/
structure RAt (cR cS a : Addr) (r : Reg) (n : Nat) (s : RSt) (C : Cs) : Prop where
  c : C a = some (regC cR cS r)
  ok : ROk n r
  n1 : n + 1 ≤ 100
  s : r.sts[r.spot]? = some s
theorem RAt.st {cR cS a : Addr} {r : Reg} {n : Nat} {s : RSt} {C : Cs} (h : RAt cR cS a r n s C) : StOk n r.span s := h.ok.st s (List.mem_of_getElem? h.s)
def newR : Nat → List Txt → List Row
  | _, [] => []
  | b, t :: r => ⟨b, t, none⟩ :: newR (b + 1) r
abbrev dropR (rows : List Row) (ts : List Txt) : List Row := rows.filter fun r => !decide (r.nm ∈ ts)
def renR (old new : Txt) (r : Row) : Row := if r.nm = old then { r with nm := new } else r
abbrev banL (bar ts : List Txt) : List Txt := sortT (uniT (bar ++ ts))
theorem ban_mem {bar ts : List Txt} {t : Txt} : t ∈ banL bar ts ↔ t ∈ bar ∨ t ∈ ts := by rw [mem_sortT, mem_uniT, List.mem_append]
theorem ban_len {bar ts : List Txt} : (banL bar ts).length ≤ bar.length + ts.length := by
  rw [sortT_len]; refine Nat.le_trans (uniT_len _) ?_; rw [List.length_append]; exact Nat.le_refl _
abbrev alwL (bar ts : List Txt) : List Txt := bar.filter fun t => !decide (t ∈ ts)
end L2.DL
/-! GE: enumerate of a tuple. -/
namespace L2.DL
open PySem PySem.Spec PyProof.Rows
open AutoSeq1 (wpAny_loadPart')
def mEnumT (ms : EM (List D)) : EM (List D) := fun E env C Q => ms E env C fun ds env1 C1 => match ds with
  | [.lst xs] => Q (enumD 0 xs) env1 C1
  | [.tup xs] => Q (enumD 0 xs) env1 C1
  | _ => False
def EnumO (ds : List D) (R : List D → Prop) : Prop := match ds with
  | [.lst xs] => R (enumD 0 xs)
  | [.tup xs] => R (enumD 0 xs)
  | _ => False
theorem i_enumT {ms : EM (List D)} {E : EX} {env : DL.Env} {C : Cs} {Q : List D → DL.Env → Cs → Prop} (q : ms E env C fun ds env1 C1 => EnumO ds fun l => Q l env1 C1) : mEnumT ms E env C Q := q
theorem e_lst {xs : List D} {R : List D → Prop} (q : R (enumD 0 xs)) : EnumO [.lst xs] R := q
theorem e_tup {xs : List D} {R : List D → Prop} (q : R (enumD 0 xs)) : EnumO [.tup xs] R := q
end L2.DL
/-! ND: deeds done with a register and with the law's own account of it. -/
namespace L2.DL
open PySem PySem.Spec PyProof.Rows L2.AS
inductive Deed where
  | add (ts : List Txt) | drop (ts : List Txt) | ren (o n : Txt) | ban (ts : List Txt) | alw (ts : List Txt) | undo | redo
def wAdd : Txt := [97, 100, 100]
def wDrop : Txt := [100, 114, 111, 112]
def wRen : Txt := [114, 101, 110, 97, 109, 101]
def wBan : Txt := [98, 97, 110]
def wAlw : Txt := [97, 108, 108, 111, 119]
def wUndo : Txt := [117, 110, 100, 111]
def wRedo : Txt := [114, 101, 100, 111]
def Deed.w : Deed → Txt
  | .add _ => wAdd | .drop _ => wDrop | .ren _ _ => wRen | .ban _ => wBan | .alw _ => wAlw | .undo => wUndo | .redo => wRedo
def Deed.vals : Deed → List Txt
  | .add ts => ts | .drop ts => ts | .ren o n => [o, n] | .ban ts => ts | .alw ts => ts | .undo => [] | .redo => []
def DeedOk (r : Reg) (s : RSt) : Deed → Prop
  | .add ts => (∀ t ∈ ts, nameOk t) ∧ (s.rows.map (·.nm) ++ ts).Nodup ∧ s.rows.length + ts.length ≤ 44 ∧ ts.length ≤ 2
  | .drop ts => (∀ t ∈ ts, t ∈ s.rows.map (·.nm)) ∧ ts.Nodup ∧ ts.length ≤ 2
  | .ren o n => o ∈ s.rows.map (·.nm) ∧ nameOk n ∧ n ∉ s.rows.map (·.nm)
  | .ban ts => (∀ t ∈ ts, cdOk r.span t) ∧ 0 ≤ ts.length ∧ ts.length ≤ 2
  | .alw ts => (∀ t ∈ ts, cdOk r.span t) ∧ 0 ≤ ts.length ∧ ts.length ≤ 2
  | .undo => 0 < r.spot
  | .redo => r.spot + 1 < r.sts.length
/-- next birth number, banned codes and rows behind a change -/
def Deed.nx (s : RSt) : Deed → Nat
  | .add ts => s.nx + ts.length
  | _ => s.nx
def Deed.bar (s : RSt) : Deed → List Txt
  | .ban ts => banL s.bar ts
  | .alw ts => alwL s.bar ts
  | _ => s.bar
def Deed.rows (s : RSt) : Deed → List Row
  | .add ts => s.rows ++ newR s.nx ts
  | .drop ts => dropR s.rows ts
  | .ren o n => s.rows.map (renR o n)
  | _ => s.rows
/-- how a deed ends: no coding, or another register and what is told -/
def DeedOut (r : Reg) (n : Nat) (s : RSt) (d : Deed) (no : List Txt → Prop) (go : Reg → D → Prop) : Prop := match d with
  | .undo => ∀ sn, r.sts[r.spot - 1]? = some sn → go { r with spot := r.spot - 1 } (toldD s.rows sn.rows)
  | .redo => ∀ sn, r.sts[r.spot + 1]? = some sn → go { r with spot := r.spot + 1 } (toldD s.rows sn.rows)
  | d => (∀ (m : Nat) (pl : List Nat), L2.AS.Crowd (prb (sitR r.span (d.bar s) s.slp (d.rows s))) m pl → no (crowdT 0 (sitR r.span (d.bar s) s.slp (d.rows s)) pl)) ∧
    (∀ (M : List Txt), Best (sitR r.span (d.bar s) s.slp (d.rows s)) M → ROk (n + 1) (r.push (chgR r.pause s (d.nx s) (d.bar s) (d.rows s) M)) → go (r.push (chgR r.pause s (d.nx s) (d.bar s) (d.rows s) M)) (toldD s.rows (setCd (d.rows s) M)))
theorem DeedOut.imp {r : Reg} {n : Nat} {s : RSt} {d : Deed} {no no' : List Txt → Prop} {go go' : Reg → D → Prop} (h : DeedOut r n s d no go) (h1 : ∀ l, no l → no' l) (h2 : ∀ r' x, go r' x → go' r' x) : DeedOut r n s d no' go' := by
  cases d <;> first | exact fun sn e => h2 _ _ (h sn e) | exact ⟨fun m pl c => h1 _ (h.1 m pl c), fun M b o => h2 _ _ (h.2 M b o)⟩
theorem DeedOk.bar {r : Reg} {n : Nat} {s : RSt} {d : Deed} (h : DeedOk r s d) (so : StOk n r.span s) : (∀ c ∈ d.bar s, cdOk r.span c) ∧ (d.bar s).length ≤ 8 * n + 16 := by
  have hb := so.barL
  cases d with
  | ban ts => exact ⟨fun c hc => (ban_mem.mp hc).elim (so.bar c) (h.1 c), by have := ban_len (bar := s.bar) (ts := ts); have := h.2.2; show (banL s.bar ts).length ≤ _; omega⟩
  | alw ts => exact ⟨fun c hc => so.bar c (List.mem_filter.mp hc).1, by have := List.length_filter_le (fun t => !decide (t ∈ ts)) s.bar; show (s.bar.filter fun t => !decide (t ∈ ts)).length ≤ _; omega⟩
  | _ => exact ⟨so.bar, by show s.bar.length ≤ _; omega⟩
theorem crowd_no {S : List Cl} {m : Nat} {pl : List Nat} (cr : L2.AS.Crowd (prb S) m pl) (M : List Txt) : ¬ Cod S M := fun h => cr.no (fun p => p < S.length) (fun p hp => by have h1 := cr.le p hp; have h2 : m < S.length := cr.lt; show p < S.length; omega) _ h.cd
end L2.DL
/-! NE: dict(pairs) of rows; codes or nothing compared. -/
namespace L2.DL
open PySem PySem.Spec PyProof.Rows L2.AS
abbrev dkD : DK → D
  | .inl i => .int i
  | .inr t => .str t
theorem dkOf_dkD (k : DK) : dkOf (dkD k) = some k := by cases k <;> rfl
theorem pairsOf_map {α : Type} (k : α → DK) (v : α → D) : ∀ l : List α, pairsOf (l.map fun x => .tup [dkD (k x), v x]) = some (l.map fun x => (k x, v x))
  | [] => rfl
  | x :: l => by
    rw [List.map_cons]
    unfold pairsOf
    rw [dkOf_dkD, pairsOf_map k v l]; rfl
theorem mergeD_nd : ∀ (kvs acc : List (DK × D)), ((acc ++ kvs).map (·.1)).Nodup → mergeD acc kvs = acc ++ kvs
  | [], acc, _ => by simp [mergeD]
  | (k, d) :: kvs, acc, h => by
    have h1 : k ∉ acc.map (·.1) := fun z => by
      rw [List.map_append, List.map_cons, List.nodup_append] at h
      exact h.2.2 _ z _ (.head _) rfl
    have ih := mergeD_nd kvs (acc ++ [(k, d)]) (by rw [List.append_assoc]; exact h)
    rw [List.append_assoc] at ih
    rw [← putD_new h1] at ih
    exact ih
theorem g_dictPM {C : Cs} {α : Type} {k : α → DK} {v : α → D} {l : List α} {P : Cont → Prop} (nd : (l.map k).Nodup) (q : P (.dct (l.map fun x => (k x, v x)))) : gDictP ([D.lst (l.map fun x => .tup [dkD (k x), v x])].map (dr C)) P := by
  refine ⟨_, pairsOf_map k v l, ?_⟩
  rw [mergeD_nd _ [] (by rw [List.nil_append, List.map_map]; exact nd)]
  exact q
theorem setCd_map {rows : List Row} {M : List Txt} (h : M.length = rows.length) : (setCd rows M).map (fun r => D.str (r.cd.getD [])) = txs M := by
  unfold setCd
  rw [List.map_zipWith]
  induction rows generalizing M with
  | nil => cases M with
    | nil => rfl
    | cons t M => simp at h
  | cons r rows ih =>
    cases M with
    | nil => simp at h
    | cons t M => simp only [List.zipWith_cons_cons, List.map_cons]; rw [ih (by simpa using h)]; rfl
theorem txs_inj : ∀ {l m : List Txt}, txs l = txs m → l = m
  | [], [], _ => rfl
  | [], _ :: _, h => by cases h
  | _ :: _, [], h => by cases h
  | a :: l, b :: m, h => by
    simp only [txs, List.map_cons, List.cons.injEq, D.str.injEq] at h
    rw [h.1, txs_inj h.2]
theorem setCd_cds {rows : List Row} {M : List Txt} (h : M.length = rows.length) : (setCd rows M).map (fun r => r.cd.getD []) = M := by
  refine txs_inj ?_
  rw [← setCd_map h]; unfold txs; rw [List.map_map]; rfl
theorem compXL_of {α : Type} {vs : List Nat} {g : GM} {mc : EM Bool} {me : EM D} {QQ : List D → Cs → Prop} {env : DL.Env} {C : Cs} (l : List α) (enc f : α → D) (keep : α → Bool) (hl : l.length ≤ sizeLine)
    (step : ∀ a ∈ l, ∀ (acc : List D) (nxt : List D → Cs → Prop), acc.length < sizeLine → (keep a = true → nxt (acc ++ [f a]) C) → (keep a = false → nxt acc C) → g (enc a) (fun env1 C1 => wipeE env1 vs = env ∧ mc E0 env1 C1 fun b env2 C2 => env2 = env1 ∧ if b = true then me E0 env1 C2 fun y env3 C3 => env3 = env1 ∧ acc.length < sizeLine ∧ putL acc y fun acc' => nxt acc' C3 else nxt acc C2) env C)
    (fin : QQ ((l.filter keep).map f) C) : compX (fun _ => True) id vs g mc me putL QQ (l.map enc) [] env C := by
  refine compX_inv (fun k acc C' => C' = C ∧ acc = ((l.take k).filter keep).map f) ⟨rfl, by simp⟩ (fun _ _ _ _ => trivial) ?_ ?_
  · rintro k d acc C' nxt hd ⟨rfl, rfl⟩ hx
    rw [List.getElem?_map] at hd
    obtain ⟨a, ha, rfl⟩ := Option.map_eq_some_iff.mp hd
    have hk := (List.getElem?_eq_some_iff.mp ha).1
    have hlen : (((l.take k).filter keep).map f).length < sizeLine := by
      rw [List.length_map]
      have := List.length_filter_le keep (l.take k)
      rw [List.length_take] at this; omega
    refine step a (List.mem_of_getElem? ha) _ nxt hlen (fun h => hx _ _ ⟨rfl, ?_⟩) fun h => hx _ _ ⟨rfl, ?_⟩
    · rw [List.take_add_one, ha, List.filter_append, List.map_append]
      simp [h]
    · rw [List.take_add_one, ha, List.filter_append, List.map_append]
      simp [h]
  · rintro acc C' ⟨rfl, rfl⟩
    rw [List.length_map, List.take_length]
    exact fin
end L2.DL
/-! NF: keyword-only parameters that are not given. -/
namespace L2.DL
open PySem PySem.Spec PyProof.Rows L2.AS
/-! ### results of methods of either kind; returned as they are -/
section
variable {X : Cx} {e o : Expr} {es : List Expr} {kws : List Keyword} {ks : List Str} {apos pos : Pos} {C : Addr} {m : Str} {spv : DSpV} {mo : EM D}
def mMethR (C : Addr) (m : Str) (spv : DSpV) (mo : EM D) (ma : EM (List D × List D)) : EM Ret := fun E env C0 Q => mo E env C0 fun d env1 C1 => IsO C m (dr C1 d) ∧ ma E env1 C1 fun p env2 C2 => spv (d :: p.1) p.2 C2 (fun r C3 => Q r env2 C3) fun x C3 => E x env2 C3
def sRetR (m : EM Ret) : SM := fun E dE env C => m E env C fun r _ C1 => dE.rt r C1
end
section
variable {E : EX} {env : DL.Env} {C0 : Cs} {C : Addr} {m : Str} {spv : DSpV} {mo : EM D} {m2 : EM (List D × List D)} {Q : Ret → DL.Env → Cs → Prop} {mr : EM Ret} {nx bk ct : DL.Env → Cs → Prop} {rt : Ret → Cs → Prop}
theorem i_methR (q : mo E env C0 fun d env1 C1 => IsO C m (dr C1 d) ∧ m2 E env1 C1 fun p env2 C2 => spv (d :: p.1) p.2 C2 (fun r C3 => Q r env2 C3) fun x C3 => E x env2 C3) : mMethR C m spv mo m2 E env C0 Q := q
theorem j_retR (q : mr E env C0 fun r _ C1 => rt r C1) : sRetR mr E ⟨nx, rt, bk, ct⟩ env C0 := q
theorem i_callL {i : Nat} {spv : DSpV} {Q : D → DL.Env → Cs → Prop} {Cl : Addr} (h : env[i]? = some (.shr (.cell Cl))) (q : m2 E env C0 fun p env1 C1 => spv p.1 p.2 C1 (fun r C2 => Q r.tree env1 C2) fun x C2 => E x env1 C2) : mCallL i Cl spv m2 E env C0 Q := ⟨h, q⟩
theorem o_kt {R : List D → Prop} (q : R []) : IterO .kt R := q
theorem g_dictD {kvs : List (DK × D)} {PC : Cont → Prop} (q : PC (.dct kvs)) : gDictD ([D.dct kvs].map (dr C0)) PC := q
end
/-! ### Cls.m(e, .., *e) -/
/-! ### a source of draws as an argument -/
def mCallP (sp : DSp) (dfl : List D) (ms : EM (List D)) : EM D := fun E env C Q => ms E env C fun ds env1 C1 => sp (ds ++ dfl) C1 (fun r C2 => match r with
  | .frs c => ∃ b, asPur c = some b ∧ ∀ a, C2 a = none → Q (.cell a) env1 (cput C2 a (.pur b))
  | .shr _ => False) fun x C2 => E x env1 C2
theorem i_callP {E : EX} {env : DL.Env} {C : Cs} {Q : D → DL.Env → Cs → Prop} {sp : DSp} {dfl : List D} {ms : EM (List D)} (q : ms E env C fun ds env1 C1 => sp (ds ++ dfl) C1 (fun r C2 => match r with
  | .frs c => ∃ b, asPur c = some b ∧ ∀ a, C2 a = none → Q (.cell a) env1 (cput C2 a (.pur b))
  | .shr _ => False) fun x C2 => E x env1 C2) : mCallP sp dfl ms E env C Q := q
/-! ### xs.clear() of an own list -/
def sClrL (n : Nat) : SM := fun _ dE env C => ∃ xs, env[n]? = some (.own (.lst xs)) ∧ dE.nx (env.set n (.own (.lst []))) C
theorem j_clrL {n : Nat} {xs : List D} {E : EX} {nx bk ct : DL.Env → Cs → Prop} {rt : Ret → Cs → Prop} {env : DL.Env} {C : Cs} (h : env[n]? = some (.own (.lst xs))) (q : nx (env.set n (.own (.lst []))) C) : sClrL n E ⟨nx, rt, bk, ct⟩ env C := ⟨xs, h, q⟩
end L2.DL
/-! NG: registers of merges' laws; what two registers make together. -/
namespace L2.DL
open PySem PySem.Spec PyProof.Rows L2.AS
theorem look_of' {k : DK} {d : D} : ∀ {kvs : List (DK × D)}, (kvs.map (·.1)).Nodup → (k, d) ∈ kvs → look k kvs = some d
  | (j, x) :: kvs, n, h => by
    show (if j = k then some x else look k kvs) = some d
    rcases List.mem_cons.mp h with h | h
    · cases h; rw [if_pos rfl]
    · rw [List.map_cons, List.nodup_cons] at n
      rw [if_neg fun z => n.1 (by rw [show ((j, x) : DK × D).1 = k from z]; exact List.mem_map_of_mem (f := (·.1)) h)]
      exact look_of' n.2 h
theorem g_neSame' {C : Cs} {d : D} {P : D → Prop} (h : okD d = true) (hd : dr C d = d) (q : P (.bl false)) : gEq true (dr C d) (dr C d) P := g_neD h h hd hd (by rw [eqv_self h]; exact q)
/-! ### deeds that are done -/
theorem DeedOut.any {r : Reg} {n : Nat} {s : RSt} {d : Deed} {no : List Txt → Prop} {go : Reg → D → Prop} (hu : d ≠ .undo) (hr : d ≠ .redo) (so : StOk n r.span s) (dk : DeedOk r s d)
    (h1 : ∀ l, no l) (h2 : ∀ (M : List Txt) (x : List D), Cod (sitR r.span (d.bar s) s.slp (d.rows s)) M → ROk (n + 1) (r.push (chgR r.pause s (d.nx s) (d.bar s) (d.rows s) M)) → go (r.push (chgR r.pause s (d.nx s) (d.bar s) (d.rows s) M)) (.lst x)) : DeedOut r n s d no go := by
  cases d with
  | undo => exact absurd rfl hu
  | redo => exact absurd rfl hr
  | _ => exact ⟨fun _ _ _ => h1 _, fun M hM ok => h2 M _ hM.cod ok⟩
theorem sort_flt {l : List Txt} {p : Txt → Bool} (h : sortT l = l) : sortT (l.filter p) = l.filter p := by
  have := sortT_pw l
  rw [h] at this
  exact sortT_id (this.filter _)
theorem bar_sorted {r : Reg} {s : RSt} {d : Deed} (h : sortT s.bar = s.bar) : sortT (d.bar s) = d.bar s := by
  cases d with
  | ban ts => exact sortT_id (sortT_pw _)
  | alw ts => exact sort_flt h
  | _ => exact h
/-- what the merges' laws keep of a register -/
structure MOk (n : Nat) (r : Reg) : Prop where
  ok : ROk n r
  l7 : ∀ s ∈ r.sts, s.rows.length ≤ 7
  so : ∀ s ∈ r.sts, sortT s.bar = s.bar
theorem MOk.push {n : Nat} {r : Reg} {s : RSt} {d : Deed} {M : List Txt} (h : MOk n r) (hs : r.sts[r.spot]? = some s) (h7 : (d.rows s).length ≤ 7) (hM : Cod (sitR r.span (d.bar s) s.slp (d.rows s)) M) (ok : ROk (n + 1) (r.push (chgR r.pause s (d.nx s) (d.bar s) (d.rows s) M))) : MOk (n + 1) (r.push (chgR r.pause s (d.nx s) (d.bar s) (d.rows s) M)) := by
  have hm : ∀ s' ∈ (r.push (chgR r.pause s (d.nx s) (d.bar s) (d.rows s) M)).sts, s' ∈ r.sts ∨ s' = chgR r.pause s (d.nx s) (d.bar s) (d.rows s) M := fun s' h' => by
    rcases List.mem_append.mp h' with h' | h'
    · exact .inl (List.mem_of_mem_take h')
    · exact .inr (List.mem_singleton.mp h')
  refine ⟨ok, fun s' h' => ?_, fun s' h' => ?_⟩
  · rcases hm s' h' with h1 | rfl
    · exact h.l7 s' h1
    · show (setCd (d.rows s) M).length ≤ 7
      rw [setCd_len (by rw [hM.len, List.length_map])]; exact h7
  · rcases hm s' h' with h1 | rfl
    · exact h.so s' h1
    · exact bar_sorted (r := r) (h.so s (List.mem_of_getElem? hs))
theorem MOk.go {n k : Nat} {r : Reg} (h : MOk n r) (hk : k < r.sts.length) : MOk n { r with spot := k } := ⟨h.ok.go hk, h.l7, h.so⟩
theorem MOk.mono {n m : Nat} {r : Reg} (h : MOk n r) (l : n ≤ m) (hm : m ≤ 100) : MOk m r := ⟨h.ok.mono l hm, h.l7, h.so⟩
theorem MOk.new {span pause : Nat} (h1 : 1 ≤ span) (h3 : span ≤ 3) (hp : pause ≤ 20) : MOk 0 ⟨span, pause, [⟨0, 1, [], [], []⟩], 0⟩ := by
  refine ⟨{ n1 := by decide, s1 := h1, s3 := h3, p := hp, spot := (by show 0 < 1; decide), len := (by show 1 ≤ 0 + 1; omega), st := fun s' h => ?_ }, fun s' h => ?_, fun s' h => ?_⟩
  · rw [List.mem_singleton.mp h]
    exact ⟨⟨Nat.zero_le _, List.nodup_nil, List.nodup_nil, (by intro r h; cases h), (by intro r h; cases h)⟩, (by intro r h; cases h), (by intro r h; cases h), (by show 0 ≤ _; omega), List.nodup_nil, (by intro r h; cases h), Nat.zero_le _⟩
  · rw [List.mem_singleton.mp h]; exact Nat.zero_le _
  · rw [List.mem_singleton.mp h]; rfl
/-! ### what two registers make together -/
abbrev nmsR (s : RSt) : List Txt := s.rows.map (·.nm)
def cdR (s : RSt) (t : Txt) : Option Txt := (s.rows.find? fun r => decide (r.nm = t)).bind (·.cd)
theorem cdR_some {nx : Nat} {s : RSt} {r : Row} (h : RwOk nx s.rows) (hr : r ∈ s.rows) : cdR s r.nm = r.cd := by
  unfold cdR
  have : (s.rows.find? fun x => decide (x.nm = r.nm)) = some r := by
    have nd := h.nd
    generalize s.rows = l at nd hr
    induction l with
    | nil => cases hr
    | cons x l ih =>
      rw [List.map_cons, List.nodup_cons] at nd
      rw [List.find?_cons]
      rcases List.mem_cons.mp hr with rfl | hr
      · simp
      · have hne : x.nm ≠ r.nm := fun e => nd.1 (e ▸ List.mem_map_of_mem (f := (·.nm)) hr)
        simp only [hne, decide_false]
        exact ih nd.2 hr
  rw [this]; rfl
/-! ### shown -/
structure RFit (r : Row) : Prop where
  nm : nameOk r.nm
  cd : ∃ n c, n ≤ 3 ∧ r.cd = some c ∧ cdOk n c
theorem StOk.fit {n span : Nat} {s : RSt} (h : StOk n span s) (h3 : span ≤ 3) : ∀ r ∈ s.rows, RFit r := fun r hr => by
  obtain ⟨c, h1, h2⟩ := h.cd r hr
  exact ⟨h.rws.nm r hr, span, c, h3, h1, h2⟩
theorem Shws.len {k w b : Nat} {ds : List D} (h : ∀ d ∈ ds, Shw k w d) (hb : (w + 2) * ds.length ≤ b) : Shws k b ds := by
  have a := Shws.all h
  exact ⟨a.r, a.s, a.l, a.dp, Nat.le_trans a.wt hb⟩
/-! ### list(range(a, b)) -/
end L2.DL
/-! NH: the merged register. -/
namespace L2.DL
open PySem PySem.Spec PyProof.Rows L2.AS
end L2.DL
/-! OC: slots that hold nothing of their own. -/
namespace L2.DL
open PySem PySem.Spec PyProof.Rows L2.AS
/-- a slot that holds nothing of its own -/
def Ns (s : Slot) : Prop := s = .non ∨ ∃ d, s = .shr d
theorem ns_non : Ns .non := .inl rfl
theorem ns_shr {d : D} : Ns (.shr d) := .inr ⟨d, rfl⟩
end L2.DL
/-! OA: codes given up and codes that rest. -/
namespace L2.DL
open PySem PySem.Spec PyProof.Rows L2.AS
abbrev cds (s : RSt) : List Txt := s.rows.map fun r => r.cd.getD []
theorem lk_flt {α : Type} {q : Txt × α → Bool} : ∀ {l : Tb Txt α}, (ks l).Nodup → ∀ c, lk c (l.filter q) = (lk c l).bind fun x => if q (c, x) then some x else none
  | [], _, c => rfl
  | (d, x) :: r, n, c => by
    simp only [ks, List.map_cons, List.nodup_cons] at n
    have ih := lk_flt (q := q) (l := r) n.2 c
    rw [List.filter_cons]
    by_cases h : q (d, x) = true
    · rw [if_pos h]
      simp only [lk]
      by_cases e : d = c
      · subst e; rw [if_pos rfl, if_pos rfl]; simp [h]
      · rw [if_neg e, if_neg e]; exact ih
    · rw [if_neg h, ih]
      simp only [lk]
      by_cases e : d = c
      · subst e
        rw [if_pos rfl, lk_none.mpr n.1]; simp [h]
      · rw [if_neg e]
/-- what rests is what was given up not too long ago -/
def Rest (t p : Nat) (sl G : Tb Txt (Txt × Nat)) : Prop := ∀ c, lk c sl = (lk c G).bind fun x => if t < x.2 + p then some (x.1, x.2 + p) else none
structure GInv (p : Nat) (s : RSt) (G : Tb Txt (Txt × Nat)) : Prop where
  nd : (ks G).Nodup
  on : ∀ e ∈ G, e.1 ∉ cds s
  sl : Rest s.tk p s.slp G
def goneF (t1 : Nat) (M : List Txt) (G : Tb Txt (Txt × Nat)) (r : Row) : Tb Txt (Txt × Nat) := match r.cd with
  | some c => if c ∈ M then G else pt G c (r.nm, t1)
  | none => G
def gone (t1 : Nat) (M : List Txt) (rows : List Row) (G : Tb Txt (Txt × Nat)) : Tb Txt (Txt × Nat) := rows.foldl (goneF t1 M) G
abbrev gcut (M : List Txt) (G : Tb Txt (Txt × Nat)) : Tb Txt (Txt × Nat) := G.filter fun e => !decide (e.1 ∈ M)
theorem Rest.step {t1 p : Nat} {M : List Txt} {sl G : Tb Txt (Txt × Nat)} (hp : 0 < p) (h : Rest t1 p sl G) (r : Row) : Rest t1 p (restF p t1 M sl r) (goneF t1 M G r) := by
  unfold restF goneF
  cases r.cd with
  | none => exact h
  | some c =>
    by_cases e : c ∈ M
    · simp only [e, not_true, false_and, if_false, if_true]; exact h
    · simp only [e, not_false_iff, true_and, if_pos hp, if_false]
      intro d
      rw [lk_pt, lk_pt]
      by_cases e2 : d = c
      · rw [if_pos e2, if_pos e2]
        show _ = if t1 < t1 + p then _ else _
        rw [if_pos (by omega)]
      · rw [if_neg e2, if_neg e2]; exact h d
theorem Rest.fold {t1 p : Nat} {M : List Txt} (hp : 0 < p) : ∀ (rows : List Row) {sl G : Tb Txt (Txt × Nat)}, Rest t1 p sl G → Rest t1 p (restIn p t1 M sl rows) (gone t1 M rows G)
  | [], _, _, h => h
  | r :: rows, _, _, h => Rest.fold hp rows (h.step hp r)
theorem Rest.cut {t p : Nat} {M : List Txt} {sl G : Tb Txt (Txt × Nat)} (n1 : (ks sl).Nodup) (n2 : (ks G).Nodup) (h : Rest t p sl G) : Rest (t + 1) p (slpCut (t + 1) M sl) (gcut M G) := by
  intro c
  unfold slpCut
  rw [lk_flt n1, lk_flt n2, h c]
  cases lk c G with
  | none => rfl
  | some x =>
    show (if t < x.2 + p then some (x.1, x.2 + p) else none : Option (Txt × Nat)).bind _ = _
    by_cases e : c ∈ M
    · by_cases h1 : t < x.2 + p
      · simp [e, h1]
      · simp [e, h1]
    · by_cases h1 : t + 1 < x.2 + p
      · simp [e, h1, show t < x.2 + p by omega]
      · by_cases h2 : t < x.2 + p
        · simp [e, h1, h2]
        · simp [e, h1, h2]
theorem goneF_nd {t1 : Nat} {M : List Txt} {G : Tb Txt (Txt × Nat)} {r : Row} (n : (ks G).Nodup) (h : ∀ e ∈ G, e.1 ∉ M) : (ks (goneF t1 M G r)).Nodup ∧ ∀ e ∈ goneF t1 M G r, e.1 ∉ M := by
  unfold goneF
  cases r.cd with
  | none => exact ⟨n, h⟩
  | some c =>
    by_cases e : c ∈ M
    · simp only [e, if_true]; exact ⟨n, h⟩
    · simp only [e, if_false]
      have n' : (ks (pt G c (r.nm, t1))).Nodup := pt_nd n
      refine ⟨n', fun x hx z => ?_⟩
      have h1 : lk x.1 (pt G c (r.nm, t1)) = some x.2 := lk_of n' hx
      rw [lk_pt] at h1
      by_cases e2 : x.1 = c
      · exact e (e2 ▸ z)
      · rw [if_neg e2] at h1
        exact h _ (lk_mem h1) z
theorem gone_nd {t1 : Nat} {M : List Txt} : ∀ (rows : List Row) {G : Tb Txt (Txt × Nat)}, (ks G).Nodup → (∀ e ∈ G, e.1 ∉ M) → (ks (gone t1 M rows G)).Nodup ∧ ∀ e ∈ gone t1 M rows G, e.1 ∉ M
  | [], _, n, h => ⟨n, h⟩
  | r :: rows, _, n, h => by
    obtain ⟨n', h'⟩ := goneF_nd (t1 := t1) (r := r) n h
    exact gone_nd rows n' h'
theorem gcut_nd {M : List Txt} {G : Tb Txt (Txt × Nat)} (n : (ks G).Nodup) : (ks (gcut M G)).Nodup ∧ ∀ e ∈ gcut M G, e.1 ∉ M := by
  refine ⟨?_, fun e he => by simpa using (List.mem_filter.mp he).2⟩
  unfold ks gcut
  exact (List.Sublist.map _ List.filter_sublist).nodup n
theorem chg_cds {pause nx span : Nat} {s : RSt} {bar : List Txt} {rows : List Row} {M : List Txt} (hM : Cod (sitR span bar s.slp rows) M) : cds (chgR pause s nx bar rows M) = M := setCd_cds (by rw [hM.len, List.length_map])
theorem GInv.next {p nx span : Nat} {s : RSt} {G : Tb Txt (Txt × Nat)} {bar : List Txt} {rows : List Row} {M : List Txt} (h : GInv p s G) (hp : 0 < p) (n : (ks s.slp).Nodup) (hM : Cod (sitR span bar s.slp rows) M) : GInv p (chgR p s nx bar rows M) (gone (s.tk + 1) M s.rows (gcut M G)) := by
  obtain ⟨n1, h1⟩ := gcut_nd (M := M) h.nd
  obtain ⟨n2, h2⟩ := gone_nd (t1 := s.tk + 1) s.rows n1 h1
  exact ⟨n2, fun e he => by rw [chg_cds hM]; exact h2 e he, Rest.fold hp s.rows (h.sl.cut n h.nd)⟩
end L2.DL
/-! OB: crowds have fewer options than names; options of some names. -/
namespace L2.AS
open _root_.Lean.Grind
end L2.AS
namespace L2.DL
open PySem PySem.Spec PyProof.Rows L2.AS
/-! ### names of a crowd -/
theorem crowdT_mem (pl : List Nat) : ∀ (i : Nat) (S : List Cl) (t : Txt), t ∈ crowdT i S pl ↔ ∃ p c, S[p]? = some c ∧ i + p ∈ pl ∧ c.nm = t
  | _, [], t => by simp [crowdT]
  | i, c :: r, t => by
    have ih := crowdT_mem pl (i + 1) r t
    have key : (t ∈ crowdT i (c :: r) pl) ↔ ((i ∈ pl ∧ c.nm = t) ∨ t ∈ crowdT (i + 1) r pl) := by
      conv => lhs; unfold crowdT
      by_cases e : i ∈ pl
      · rw [if_pos e, List.mem_cons]; exact ⟨fun h => h.imp (fun h => ⟨e, h.symm⟩) id, fun h => h.imp (fun h => h.2.symm) id⟩
      · rw [if_neg e]; exact ⟨.inr, fun h => h.elim (fun h => absurd h.1 e) id⟩
    rw [key, ih]
    constructor
    · rintro (⟨h1, h2⟩ | ⟨p, d, h1, h2, h3⟩)
      · exact ⟨0, c, rfl, h1, h2⟩
      · exact ⟨p + 1, d, h1, by rw [show i + (p + 1) = i + 1 + p by omega]; exact h2, h3⟩
    · rintro ⟨p, d, h1, h2, h3⟩
      cases p with
      | zero => cases h1; exact .inl ⟨h2, h3⟩
      | succ p => exact .inr ⟨p, d, h1, by rw [show i + 1 + p = i + (p + 1) by omega]; exact h2, h3⟩
theorem crowdT_sub (pl : List Nat) : ∀ (i : Nat) (S : List Cl), (crowdT i S pl).Sublist (S.map (·.nm))
  | _, [] => List.Sublist.slnil
  | i, c :: r => by
    unfold crowdT
    by_cases e : i ∈ pl
    · rw [if_pos e]; exact (crowdT_sub pl (i + 1) r).cons₂ _
    · rw [if_neg e]; exact (crowdT_sub pl (i + 1) r).cons _
/-! ### options of some names -/
/-! ### parts of a situation -/
end L2.DL
/-! OD: the place of a text within a text. -/
namespace L2.DL
open PySem PySem.Spec PyProof.Rows L2.AS
end L2.DL
/-! OE: other names and codes. -/
namespace L2.DL
open PySem PySem.Spec PyProof.Rows L2.AS
/-- small letters -/
def low (t : Txt) : Prop := ∀ c ∈ t, 97 ≤ c ∧ c ≤ 122
def tnC (σ ρ : Txt → Txt) (c : Cl) : Cl := ⟨ρ c.nm, c.held.map σ, c.opts.map σ⟩
structure Turn (σ ρ : Txt → Txt) (S : List Cl) : Prop where
  inj : ∀ a b, low a → low b → σ a = σ b → a = b
  held : ∀ c ∈ S, ∀ t ∈ c.held, low t
  opts : ∀ c ∈ S, ∀ t ∈ c.opts, low t
open Classical in
noncomputable def bk (σ : Txt → Txt) (x : Txt) : Txt := if h : ∃ t, low t ∧ σ t = x then choose h else []
theorem bk_of {σ : Txt → Txt} (inj : ∀ a b, low a → low b → σ a = σ b → a = b) {t : Txt} (h : low t) : bk σ (σ t) = t := by
  have e : ∃ u, low u ∧ σ u = σ t := ⟨t, h, rfl⟩
  unfold bk
  rw [dif_pos e]
  exact inj _ _ (Classical.choose_spec e).1 h (Classical.choose_spec e).2
section
variable {σ ρ : Txt → Txt} {S : List Cl}
theorem tn_ops (p : Nat) : opS (S.map (tnC σ ρ)) p = (opS S p).map σ := by
  unfold opS
  rw [List.getElem?_map]
  cases S[p]? <;> rfl
theorem Turn.low_op (h : Turn σ ρ S) {p : Nat} {t : Txt} (ht : t ∈ opS S p) : low t := by
  unfold opS at ht
  cases hc : S[p]? with
  | none => rw [hc] at ht; cases ht
  | some c => rw [hc] at ht; exact h.opts c (List.mem_of_getElem? hc) t ht
theorem Turn.cod (h : Turn σ ρ S) {M : List Txt} (c : Cod S M) : Cod (S.map (tnC σ ρ)) (M.map σ) := by
  refine ⟨by rw [List.length_map, List.length_map, c.len], fun p x hx => ?_, ?_⟩
  · rw [List.getElem?_map] at hx
    obtain ⟨t, ht, rfl⟩ := Option.map_eq_some_iff.mp hx
    rw [tn_ops]
    exact List.mem_map_of_mem (c.opt p t ht)
  · refine nd_map c.nd fun a b ha hb e => ?_
    obtain ⟨i, hi⟩ := List.getElem?_of_mem ha
    obtain ⟨j, hj⟩ := List.getElem?_of_mem hb
    exact h.inj a b (h.low_op (c.opt i a hi)) (h.low_op (c.opt j b hj)) e
theorem Turn.back (h : Turn σ ρ S) {N : List Txt} (c : Cod (S.map (tnC σ ρ)) N) : ∃ M, N = M.map σ ∧ Cod S M := by
  have at_ : ∀ p x, N[p]? = some x → ∃ t, t ∈ opS S p ∧ σ t = x := fun p x hx => by
    have := c.opt p x hx
    rw [tn_ops] at this
    exact List.mem_map.mp this
  have e : ∀ p x, N[p]? = some x → bk σ x ∈ opS S p ∧ σ (bk σ x) = x := fun p x hx => by
    obtain ⟨t, h1, rfl⟩ := at_ p x hx
    rw [bk_of h.inj (h.low_op h1)]
    exact ⟨h1, rfl⟩
  refine ⟨N.map (bk σ), ?_, by rw [List.length_map, c.len, List.length_map], fun p x hx => ?_, ?_⟩
  · rw [List.map_map]
    conv => lhs; rw [← List.map_id N]
    refine List.map_congr_left fun x hx => ?_
    obtain ⟨i, hi⟩ := List.getElem?_of_mem hx
    exact (e i x hi).2.symm
  · rw [List.getElem?_map] at hx
    obtain ⟨y, hy, rfl⟩ := Option.map_eq_some_iff.mp hx
    exact (e p y hy).1
  · refine nd_map c.nd fun a b ha hb e2 => ?_
    obtain ⟨i, hi⟩ := List.getElem?_of_mem ha
    obtain ⟨j, hj⟩ := List.getElem?_of_mem hb
    rw [← (e i a hi).2, ← (e j b hj).2, e2]
theorem ix_map (inj : ∀ a b, low a → low b → σ a = σ b → a = b) {t : Txt} (ht : low t) : ∀ {l : List Txt}, (∀ u ∈ l, low u) → fstIx (σ t) (l.map σ) = fstIx t l
  | [], _ => rfl
  | a :: l, h => by
    have ih := ix_map inj ht (l := l) fun u hu => h u (List.mem_cons_of_mem _ hu)
    show (if σ a = σ t then some 0 else (fstIx (σ t) (l.map σ)).map (· + 1)) = (if a = t then some 0 else (fstIx t l).map (· + 1))
    by_cases e : a = t
    · rw [if_pos e, if_pos (by rw [e])]
    · rw [if_neg e, if_neg fun z => e (inj _ _ (h a List.mem_cons_self) ht z), ih]
theorem mem_tn (inj : ∀ a b, low a → low b → σ a = σ b → a = b) {t : Txt} (ht : low t) {l : List Txt} (h : ∀ u ∈ l, low u) : σ t ∈ l.map σ ↔ t ∈ l := by
  rw [List.mem_map]
  exact ⟨fun ⟨u, hu, e⟩ => by rwa [← inj u t (h u hu) ht e], fun h => ⟨t, h, rfl⟩⟩
theorem Turn.num (h : Turn σ ρ S) {c : Cl} (hc : c ∈ S) {t : Txt} (ht : low t) : chgI (tnC σ ρ c) (σ t) = chgI c t ∧ nmb (tnC σ ρ c) (σ t) = nmb c t := by
  have m := mem_tn h.inj ht (h.held c hc)
  refine ⟨?_, ?_⟩
  · unfold chgI chg
    have e : (tnC σ ρ c).held.isEmpty = c.held.isEmpty := by show (c.held.map σ).isEmpty = _; rw [List.isEmpty_map]
    rw [e, show decide (σ t ∈ (tnC σ ρ c).held) = decide (t ∈ c.held) from decide_eq_decide.mpr m]
  · unfold nmb numCl
    have e1 := ix_map h.inj ht (h.held c hc)
    have e2 := ix_map h.inj ht (h.opts c hc)
    show (((if σ t ∈ c.held.map σ then fstIx (σ t) (c.held.map σ) else (fstIx (σ t) (c.opts.map σ)).map (2 + ·)).getD 0 : Nat) : Int) = _
    by_cases e : t ∈ c.held
    · rw [if_pos e, if_pos (m.mpr e), e1]
    · rw [if_neg e, if_neg (fun z => e (m.mp z)), e2]
theorem zip_tn {β : Type} {f g : Cl → Txt → β} : ∀ {S : List Cl} {M : List Txt}, (∀ (p : Nat) (c : Cl) (t : Txt), S[p]? = some c → M[p]? = some t → f (tnC σ ρ c) (σ t) = g c t) → List.zipWith f (S.map (tnC σ ρ)) (M.map σ) = List.zipWith g S M
  | [], _, _ => by simp
  | _ :: _, [], _ => by simp
  | c :: S, t :: M, h => by
    simp only [List.map_cons, List.zipWith_cons_cons]
    rw [h 0 c t rfl rfl, zip_tn fun p c' t' a b => h (p + 1) c' t' a b]
theorem Turn.row (h : Turn σ ρ S) {M : List Txt} (c : Cod S M) : rowL (S.map (tnC σ ρ)) (M.map σ) = rowL S M := by
  have lw : ∀ (p : Nat) (d : Cl) (t : Txt), S[p]? = some d → M[p]? = some t → d ∈ S ∧ low t := fun p d t h1 h2 => ⟨List.mem_of_getElem? h1, h.low_op (c.opt p t h2)⟩
  unfold rowL chs nms
  rw [zip_tn (g := chgI) fun p d t h1 h2 => (h.num (lw p d t h1 h2).1 (lw p d t h1 h2).2).1, zip_tn (g := nmb) fun p d t h1 h2 => (h.num (lw p d t h1 h2).1 (lw p d t h1 h2).2).2]
theorem Turn.best (h : Turn σ ρ S) {M : List Txt} (b : Best S M) : Best (S.map (tnC σ ρ)) (M.map σ) := by
  refine ⟨h.cod b.cod, fun N hN => ?_⟩
  obtain ⟨M', rfl, hM'⟩ := h.back hN
  have := b.best M' hM'
  rw [Vc.le_def, rowSum_val b.cod, rowSum_val hM'] at this
  rw [Vc.le_def, rowSum_val (h.cod b.cod), rowSum_val hN, h.row b.cod, h.row hM']
  exact this
theorem Turn.cd (h : Turn σ ρ S) {Q : Nat → Prop} {M : Nat → Txt} (c : Cd (prb S) Q M) : Cd (prb (S.map (tnC σ ρ))) Q (fun p => σ (M p)) where
  opt := fun p hp => by
    show σ (M p) ∈ opS (S.map (tnC σ ρ)) p
    rw [tn_ops]; exact List.mem_map_of_mem (c.opt p hp)
  inj := fun p q hp hq e => c.inj p q hp hq (h.inj _ _ (h.low_op (c.opt p hp)) (h.low_op (c.opt q hq)) e)
theorem Turn.kept (h : Turn σ ρ S) : ∀ {T : List Cl} {M : List Txt}, (∀ c ∈ T, c ∈ S) → (∀ t ∈ M, low t) → keptT (T.map (tnC σ ρ)) (M.map σ) = (keptT T M).map ρ
  | [], _, _, _ => by simp [keptT]
  | _ :: _, [], _, _ => by simp [keptT]
  | c :: T, t :: M, hT, hM => by
    have ih := Turn.kept h (T := T) (M := M) (fun d hd => hT d (List.mem_cons_of_mem _ hd)) fun u hu => hM u (List.mem_cons_of_mem _ hu)
    have m := mem_tn h.inj (hM t List.mem_cons_self) (h.held c (hT c List.mem_cons_self))
    unfold keptT at ih ⊢
    simp only [List.map_cons, List.zip_cons_cons, List.filter_cons]
    by_cases e : t ∈ c.held
    · rw [if_pos (show decide (σ t ∈ (tnC σ ρ c).held) = true from decide_eq_true (m.mpr e)), if_pos (decide_eq_true e), List.map_cons, List.map_cons, List.map_cons, ih]; rfl
    · rw [if_neg (show ¬ decide (σ t ∈ (tnC σ ρ c).held) = true from fun z => e (m.mp (of_decide_eq_true z))), if_neg (by simpa using e), ih]
end
/-! ### letters moved on -/
end L2.DL
/-! RA: registers whose letters are exchanged. -/
namespace L2.DL
open PySem PySem.Spec PyProof.Rows L2.AS
/-- letters turned -/
def ltT (τ : Nat → Nat) (t : Txt) : Txt := t.map τ
structure LtOk (τ : Nat → Nat) : Prop where
  inj : ∀ a b, 97 ≤ a → a ≤ 122 → 97 ≤ b → b ≤ 122 → τ a = τ b → a = b
  lw : ∀ a, 97 ≤ a → a ≤ 122 → 97 ≤ τ a ∧ τ a ≤ 122
section
variable {τ : Nat → Nat}
theorem ltT_len {t : Txt} : (ltT τ t).length = t.length := by unfold ltT; rw [List.length_map]
theorem LtOk.lowT (h : LtOk τ) {t : Txt} (l : low t) : low (ltT τ t) := fun c hc => by
  obtain ⟨x, hx, rfl⟩ := List.mem_map.mp hc
  exact h.lw x (l x hx).1 (l x hx).2
theorem LtOk.name (h : LtOk τ) {t : Txt} (n : nameOk t) : nameOk (ltT τ t) := ⟨by rw [ltT_len]; exact n.1, by rw [ltT_len]; exact n.2.1, h.lowT n.2.2⟩
theorem LtOk.cd (h : LtOk τ) {n : Nat} {t : Txt} (c : cdOk n t) : cdOk n (ltT τ t) := ⟨by rw [ltT_len]; exact c.1, h.lowT c.2⟩
/-! ### lists of texts -/
/-! ### spellings and options -/
/-! ### rows, states, registers -/
/-! ### what changes make -/
/-! ### deeds -/
end
/-- the deed that a word and its texts mean -/
def DdOf (w one two : Txt) (d : Deed) : Prop := (w = wAdd ∧ d = .add [one]) ∨ (w = wDrop ∧ d = .drop [one]) ∨ (w = wRen ∧ d = .ren one two) ∨ (w = wBan ∧ d = .ban [one]) ∨ (w = wAlw ∧ d = .alw [one])
theorem DdOf.is {w one two : Txt} {d : Deed} (h : DdOf w one two d) : (w = wAdd → d = .add [one]) ∧ (w = wDrop → d = .drop [one]) ∧ (w = wRen → d = .ren one two) ∧ (w = wBan → d = .ban [one]) ∧ (w ≠ wAdd → w ≠ wDrop → w ≠ wRen → w ≠ wBan → d = .alw [one]) := by
  rcases h with ⟨rfl, rfl⟩ | ⟨rfl, rfl⟩ | ⟨rfl, rfl⟩ | ⟨rfl, rfl⟩ | ⟨rfl, rfl⟩ <;> simp [wAdd, wDrop, wRen, wBan, wAlw]
/-! ### a table of twelve letters -/
def tau92 (c : Nat) : Nat := ([(97, 113), (98, 109), (99, 122), (100, 120), (101, 107), (102, 121), (113, 97), (109, 98), (122, 99), (120, 100), (107, 101), (121, 102)].lookup c).getD c
theorem tau92_all : ((List.range 26).all fun i => decide (97 ≤ tau92 (97 + i)) && decide (tau92 (97 + i) ≤ 122) && (List.range 26).all fun j => decide (tau92 (97 + i) = tau92 (97 + j) → i = j)) = true := by decide +kernel
theorem tau92_ok : LtOk tau92 := by
  have h : ∀ a, 97 ≤ a → a ≤ 122 → (97 ≤ tau92 a ∧ tau92 a ≤ 122) ∧ ∀ b, 97 ≤ b → b ≤ 122 → tau92 a = tau92 b → a = b := fun a h1 h2 => by
    have q := List.all_eq_true.mp tau92_all (a - 97) (List.mem_range.mpr (by omega))
    rw [show 97 + (a - 97) = a from by omega, Bool.and_eq_true, Bool.and_eq_true] at q
    refine ⟨⟨of_decide_eq_true q.1.1, of_decide_eq_true q.1.2⟩, fun b h3 h4 e => ?_⟩
    have q2 := of_decide_eq_true (List.all_eq_true.mp q.2 (b - 97) (List.mem_range.mpr (by omega)))
    rw [show 97 + (b - 97) = b from by omega] at q2
    have := q2 e
    omega
  exact ⟨fun a b h1 h2 h3 h4 e => (h a h1 h2).2 b h3 h4 e, fun a h1 h2 => (h a h1 h2).1⟩
/-- of the first six letters -/
def inA (t : Txt) : Prop := ∀ c ∈ t, 97 ≤ c ∧ c ≤ 102
theorem inA.low {t : Txt} (h : inA t) : low t := fun c hc => by have := h c hc; omega
/-- all texts of a state are of such letters -/
structure StA (s : RSt) : Prop where
  nm : ∀ r ∈ s.rows, inA r.nm
  cd : ∀ r ∈ s.rows, ∀ c, r.cd = some c → inA c
  bar : ∀ c ∈ s.bar, inA c
  slp : ∀ e ∈ s.slp, inA e.1 ∧ inA e.2.1
theorem opts_inA {span : Nat} {bar : List Txt} {slp : Tb Txt (Txt × Nat)} {nm t : Txt} (h : inA nm) (ht : t ∈ optsR span bar slp nm) : inA t := fun c hc => h c ((spellS_mem (List.mem_filter.mp ht).1).2 c hc)
theorem cod_inA {span : Nat} {bar : List Txt} {slp : Tb Txt (Txt × Nat)} {rows : List Row} (h : ∀ r ∈ rows, inA r.nm) {M : List Txt} (hM : Cod (sitR span bar slp rows) M) : ∀ t ∈ M, inA t := fun t ht => by
  obtain ⟨i, hi⟩ := List.getElem?_of_mem ht
  have h1 := hM.opt i t hi
  unfold opS at h1
  rw [List.getElem?_map] at h1
  cases hr : rows[i]? with
  | none => rw [hr] at h1; cases h1
  | some r => rw [hr] at h1; exact opts_inA (h r (List.mem_of_getElem? hr)) h1
theorem StA.chg {s : RSt} (h : StA s) {span pause nx : Nat} {bar : List Txt} {rows : List Row} (hb : ∀ c ∈ bar, inA c) (hr : ∀ r ∈ rows, inA r.nm) {M : List Txt} (hM : Cod (sitR span bar s.slp rows) M) : StA (chgR pause s nx bar rows M) where
  nm := fun x hx => by
    obtain ⟨i, r, t, h1, h2, rfl⟩ := setCd_mem hx
    exact hr r (List.mem_of_getElem? h1)
  cd := fun x hx c hc => by
    obtain ⟨i, r, t, h1, h2, rfl⟩ := setCd_mem hx
    cases hc
    exact cod_inA hr hM _ (List.mem_of_getElem? h2)
  bar := hb
  slp := by
    have go : ∀ (rows : List Row) (slp : Tb Txt (Txt × Nat)), (∀ r ∈ rows, inA r.nm ∧ ∀ c, r.cd = some c → inA c) → (∀ e ∈ slp, inA e.1 ∧ inA e.2.1) → ∀ e ∈ restIn pause (s.tk + 1) M slp rows, inA e.1 ∧ inA e.2.1 := by
      intro rows
      induction rows with
      | nil => intro slp _ hs; exact hs
      | cons r rows ih =>
        intro slp h1 hs
        refine ih _ (fun x hx => h1 x (List.mem_cons_of_mem _ hx)) fun e he => ?_
        rcases restF_mem he with z | ⟨c, hc, rfl⟩
        · exact hs e z
        · exact ⟨(h1 r List.mem_cons_self).2 c hc, (h1 r List.mem_cons_self).1⟩
    exact go s.rows _ (fun r hr => ⟨h.nm r hr, h.cd r hr⟩) fun e he => h.slp e (List.mem_filter.mp he).1
/-- an item that is told, and the same one with other letters -/
inductive ItTw : D → D → Prop where
  | nm (t : Txt) (h : _root_.L2.DL.inA t) (l : t.length ≤ 100) : ItTw (.str t) (.str (ltT tau92 t))
  | row (t : Txt) (o : Option Txt) (c : Txt) (h : _root_.L2.DL.inA t) (ho : ∀ x, o = some x → _root_.L2.DL.inA x ∧ x.length ≤ 100) (hc : _root_.L2.DL.inA c) (l : t.length ≤ 100) (lc : c.length ≤ 100) :
      ItTw (.tup [.str t, optD o, .str c]) (.tup [.str (ltT tau92 t), optD (o.map (ltT tau92)), .str (ltT tau92 c)])
theorem asc_tau {t : Txt} (h : inA t) : asc (ltT tau92 t) := fun c hc => by
  have := tau92_ok.lowT h.low c hc
  omega
theorem ItTw.lay {d e : D} (h : ItTw d e) : Lay 1 e := by
  cases h with
  | nm t h l => exact Lay.str (k := 1) (asc_tau h)
  | row t o c h ho hc l lc =>
    refine Lay.tup (k := 0) fun x hx => ?_
    simp only [List.mem_cons, List.not_mem_nil, or_false] at hx
    rcases hx with rfl | rfl | rfl
    · exact Lay.str (asc_tau h)
    · cases o with
      | none => exact Lay.non
      | some x => exact Lay.str (asc_tau (ho x rfl).1)
    · exact Lay.str (asc_tau hc)
end L2.DL
/-! RB: target = ys.pop(e) of an own list. -/
namespace L2.DL
open PySem PySem.Spec PyProof.Rows
/-! ### worked out -/
end L2.DL
/-! RC: deeds that may be refused. -/
namespace L2.DL
open PySem PySem.Spec PyProof.Rows L2.AS
/-! ### a container of one's own that stays from here on -/
/-- the first text that is known or stands twice -/
def fstDup (known : List Txt) : List Txt → List Txt → Option Txt
  | _, [] => none
  | seen, t :: r => if t ∈ known ∨ t ∈ seen then some t else fstDup known (seen ++ [t]) r
/-- the first text that is not known or stands twice -/
def fstUn (known : List Txt) : List Txt → List Txt → Option Txt
  | _, [] => none
  | seen, t :: r => if t ∉ known ∨ t ∈ seen then some t else fstUn known (seen ++ [t]) r
/-- the first text that has not so many letters -/
def fstBad (n : Nat) (ts : List Txt) : Option Txt := ts.find? fun t => !decide (t.length = n)
theorem dup_none {known : List Txt} : ∀ {ts seen : List Txt}, fstDup known seen ts = none → (known ++ seen).Nodup → seen.Nodup → (known ++ (seen ++ ts)).Nodup
  | [], seen, _, h, _ => by rw [List.append_nil]; exact h
  | t :: r, seen, h, nd, ns => by
    unfold fstDup at h
    split at h
    · cases h
    · rename_i no
      have h1 : (known ++ (seen ++ [t])).Nodup := by
        rw [← List.append_assoc, List.nodup_append]
        refine ⟨nd, by simp, fun a ha b hb e => no ?_⟩
        rw [List.mem_singleton.mp hb] at e
        rw [← e]
        exact List.mem_append.mp ha
      have := dup_none (ts := r) (seen := seen ++ [t]) h h1 (List.nodup_append.mp h1).2.1
      rwa [List.append_assoc] at this
theorem un_none {known : List Txt} : ∀ {ts seen : List Txt}, fstUn known seen ts = none → seen.Nodup → (∀ t ∈ ts, t ∈ known) ∧ (seen ++ ts).Nodup
  | [], seen, _, h => ⟨fun t ht => (by cases ht), by rw [List.append_nil]; exact h⟩
  | t :: r, seen, h, nd => by
    unfold fstUn at h
    split at h
    · cases h
    · rename_i no
      have no1 : t ∈ known := Decidable.not_not.mp fun z => no (.inl z)
      have no2 : t ∉ seen := fun z => no (.inr z)
      have h1 : (seen ++ [t]).Nodup := by
        rw [List.nodup_append]
        refine ⟨nd, by simp, fun a ha b hb e => no2 ?_⟩
        rw [List.mem_singleton.mp hb] at e
        exact e ▸ ha
      obtain ⟨a, b⟩ := un_none (ts := r) (seen := seen ++ [t]) h h1
      refine ⟨fun u hu => ?_, by rwa [List.append_assoc] at b⟩
      rcases List.mem_cons.mp hu with rfl | z
      · exact no1
      · exact a u z
theorem bad_none {n : Nat} {ts : List Txt} (h : fstBad n ts = none) : ∀ t ∈ ts, t.length = n := fun t ht => by
  have := List.find?_eq_none.mp h t ht
  simpa using this
/-- how a deed is refused ahead of all codings -/
inductive Er where
  | taken (t : Txt) | unknown (t : Txt) | code (t : Txt) | nothing (w : Txt)
def Deed.err (r : Reg) (s : RSt) : Deed → Option Er
  | .add ts => (fstDup (nmsR s) [] ts).map .taken
  | .drop ts => (fstUn (nmsR s) [] ts).map .unknown
  | .ren o n => if o ∉ nmsR s then some (.unknown o) else if n ∈ nmsR s then some (.taken n) else none
  | .ban ts => (fstBad r.span ts).map .code
  | .alw ts => (fstBad r.span ts).map .code
  | .undo => if r.spot = 0 then some (.nothing wUndo) else none
  | .redo => if r.spot + 1 = r.sts.length then some (.nothing wRedo) else none
/-- the form that a deed's texts have -/
def DeedFit (s : RSt) : Deed → Prop
  | .add ts => (∀ t ∈ ts, nameOk t) ∧ s.rows.length + ts.length ≤ 44 ∧ ts.length ≤ 2
  | .drop ts => (∀ t ∈ ts, nameOk t) ∧ ts.length ≤ 2
  | .ren o n => nameOk o ∧ nameOk n
  | .ban ts => (∀ t ∈ ts, nameOk t) ∧ ts.length ≤ 2
  | .alw ts => (∀ t ∈ ts, nameOk t) ∧ ts.length ≤ 2
  | _ => True
theorem Deed.fine {n : Nat} {r : Reg} {s : RSt} {d : Deed} (ok : ROk n r) (so : StOk n r.span s) (f : DeedFit s d) (h : d.err r s = none) : DeedOk r s d := by
  have hsp := ok.spot
  cases d with
  | add ts =>
    have h : fstDup (nmsR s) [] ts = none := by simpa [Deed.err] using h
    exact ⟨f.1, by have := dup_none h (by rw [List.append_nil]; exact so.rws.nd) List.nodup_nil; simpa using this, f.2.1, f.2.2⟩
  | drop ts =>
    have h : fstUn (nmsR s) [] ts = none := by simpa [Deed.err] using h
    obtain ⟨a, b⟩ := un_none h List.nodup_nil
    exact ⟨a, by simpa using b, f.2⟩
  | ren o m =>
    have h : (if o ∉ nmsR s then some (Er.unknown o) else if m ∈ nmsR s then some (Er.taken m) else none) = none := h
    split at h
    · cases h
    · rename_i h1
      split at h
      · cases h
      · rename_i h2
        exact ⟨Decidable.not_not.mp h1, f.2, h2⟩
  | ban ts =>
    have h : fstBad r.span ts = none := by simpa [Deed.err] using h
    exact ⟨fun t ht => ⟨bad_none h t ht, (f.1 t ht).2.2⟩, Nat.zero_le _, f.2⟩
  | alw ts =>
    have h : fstBad r.span ts = none := by simpa [Deed.err] using h
    exact ⟨fun t ht => ⟨bad_none h t ht, (f.1 t ht).2.2⟩, Nat.zero_le _, f.2⟩
  | undo =>
    have h : (if r.spot = 0 then some (Er.nothing wUndo) else none) = none := h
    split at h
    · cases h
    · rename_i h1
      show 0 < r.spot
      omega
  | redo =>
    have h : (if r.spot + 1 = r.sts.length then some (Er.nothing wRedo) else none) = none := h
    split at h
    · cases h
    · rename_i h1
      show r.spot + 1 < r.sts.length
      omega
/-- how a deed ends that may be refused -/
def RegOut (cR cS cN cT cU cC cNo a : Addr) (r : Reg) (n : Nat) (s : RSt) (d : Deed) (C : Cs) (PR : Ret → Cs → Prop) (PX : XD → Cs → Prop) : Prop := match d.err r s with
  | some (.taken t) => PX (.own cT [("name", .str t)]) C
  | some (.unknown t) => PX (.own cU [("name", .str t)]) C
  | some (.code t) => PX (.own cC [("value", .str t)]) C
  | some (.nothing w) => PX (.own cNo [("action", .str w)]) C
  | none => DeedOut r n s d (fun l => PX (.own cN [("crowd", .lst (txs l))]) C) fun r' x => frsD x PR (cput C a (regC cR cS r'))
section
variable {cR cS cN cT cU cC cNo a : Addr} {r : Reg} {n : Nat} {s : RSt} {d : Deed} {C : Cs} {PR : Ret → Cs → Prop} {PX : XD → Cs → Prop}
theorem RegOut.taken {t : Txt} (q : RegOut cR cS cN cT cU cC cNo a r n s d C PR PX) (h : d.err r s = some (.taken t)) : PX (.own cT [("name", .str t)]) C := by unfold RegOut at q; rw [h] at q; exact q
theorem RegOut.unknown {t : Txt} (q : RegOut cR cS cN cT cU cC cNo a r n s d C PR PX) (h : d.err r s = some (.unknown t)) : PX (.own cU [("name", .str t)]) C := by unfold RegOut at q; rw [h] at q; exact q
theorem RegOut.code {t : Txt} (q : RegOut cR cS cN cT cU cC cNo a r n s d C PR PX) (h : d.err r s = some (.code t)) : PX (.own cC [("value", .str t)]) C := by unfold RegOut at q; rw [h] at q; exact q
theorem RegOut.nothing {t : Txt} (q : RegOut cR cS cN cT cU cC cNo a r n s d C PR PX) (h : d.err r s = some (.nothing t)) : PX (.own cNo [("action", .str t)]) C := by unfold RegOut at q; rw [h] at q; exact q
theorem RegOut.out (q : RegOut cR cS cN cT cU cC cNo a r n s d C PR PX) (h : d.err r s = none) : DeedOut r n s d (fun l => PX (.own cN [("crowd", .lst (txs l))]) C) fun r' x => frsD x PR (cput C a (regC cR cS r')) := by unfold RegOut at q; rw [h] at q; exact q
end
/-! ### with letters turned -/
/-! ### words and their texts -/
def wEnter : Txt := [101, 110, 116, 101, 114]
def WdOf (w : Txt) (ts : List Txt) (d : Deed) : Prop := 1 ≤ ts.length ∧ ts.length ≤ 2 ∧ ((w = wEnter ∧ d = .add ts) ∨ (w = wDrop ∧ d = .drop ts) ∨ (∃ o n, w = wRen ∧ ts = [o, n] ∧ d = .ren o n) ∨ (w = wBan ∧ d = .ban ts) ∨ (w = wAlw ∧ d = .alw ts))
theorem WdOf.is {w : Txt} {ts : List Txt} {d : Deed} (h : WdOf w ts d) : (w = wRen → ∃ o m, ts = [o, m] ∧ d = .ren o m) ∧ (w = wEnter → d = .add ts) ∧ (w = wDrop → d = .drop ts) ∧ (w = wBan → d = .ban ts) ∧ (w ≠ wRen → w ≠ wEnter → w ≠ wDrop → w ≠ wBan → d = .alw ts) := by
  rcases h.2.2 with ⟨rfl, rfl⟩ | ⟨rfl, rfl⟩ | ⟨o, m, rfl, rfl, rfl⟩ | ⟨rfl, rfl⟩ | ⟨rfl, rfl⟩ <;> simp [wEnter, wDrop, wRen, wBan, wAlw]
end L2.DL
/-! OI: xs[::e] of a list, e one of 1 and -1. -/
namespace L2.DL
open PySem PySem.Spec PyProof.Rows
theorem pick_fw (items : Array Value) : slicePick items none none (some 1) = items.toList.toArray := by
  have h : slicePick items none none (some 1) = slicePick items none none none := rfl
  rw [h, PySem.W.kmk_pick_nat (a := 0) (b := items.size) items (by simp [sliceBounds])]
  rw [List.drop_zero, List.take_of_length_le (by rw [Array.length_toList]; omega)]
def tStepL (K : PySem.W.Frag) (te ts : TE) : TE := fun σ H Q => te σ H fun x H1 => ts σ H1 fun y H2 => ∃ a xs i, x = .ref a ∧ y = .int i ∧ (i = 1 ∨ i = -1) ∧ SqL K H2 a xs ∧ ∀ p, H2 p = none → Q (.ref p) (upd H2 p (.lst (if i = 1 then xs else xs.reverse)))
theorem pe_stepL {X : Cx} {e st : Expr} {te ts : TE} {p3 pos : Pos} (he : PE X e te) (hs : PE X st ts) (hsub : ∀ a b : Value, subscripted (.Slice none none (some st) p3) false a b = operate [a, b] (getItem a b)) : PE X (.Subscript e (.Slice none none (some st) p3) pos) (tStepL X.K te ts) := by
  refine ⟨fun pins s σ H Q I h => ?_⟩
  refine Subscript_ (thn (he.run pins s σ H _ I h) fun v s1 ⟨x, H1, I1, r1, q1⟩ => ?_)
  refine wpAny_Slice (thn (po_none.run pins s1 σ H1 (fun o H2 => o = none ∧ H2 = H1) I1 ⟨rfl, rfl⟩) fun vl s2 ⟨l, H2, I2, pl, el, e2⟩ => ?_)
  subst el e2
  refine thn (po_none.run pins s2 σ H2 (fun o H3 => o = none ∧ H3 = H2) I2 ⟨rfl, rfl⟩) fun vu s3 ⟨u, H3, I3, pu, eu, e3⟩ => ?_
  subst eu e3
  rw [evalPart_some]
  refine thn (hs.run pins s3 σ H3 _ I3 q1) fun vs s4 ⟨y, H4, I4, r4, q4⟩ => ?_
  obtain ⟨a, xs, i, rfl, rfl, hi, hx, q⟩ := q4
  cases r1
  obtain ⟨t, rfl⟩ := r4
  have I5 : Inv X pins σ H4 { s4 with heap := s4.heap.push { cls := .type "slice", data := .fields #[vl, vu, .int i t] } } := I4.kept (t' := s4.toks) fun b ob q => Heap.get?_push_of_some _ q
  obtain ⟨its, r, ht, hz⟩ := I5.list hx
  have hlen := r.length
  show wpAny (model X.prog X.w) X.A (subscriptTail e (.Slice none none (some st) p3) (.ref a) (.ref s4.heap.objs.size)) (EP X pins σ Q) X.xe { s4 with heap := s4.heap.push { cls := .type "slice", data := .fields #[vl, vu, .int i t] } }
  refine tail_any (ops := [.ref a, .ref s4.heap.objs.size]) ht.isList.typeIs (PySem.slot_list_getitem.lookup) ?_ (hsub _ _)
  refine wpAny_getItem_list_slice (st := some i) ht.isList (Heap.IsSliceOf.new _ vl vu _) pl pu (.int i t) (by rcases hi with rfl | rfl <;> decide) ?_ (by rw [List.size_toArray]; omega)
  have rr : Vals (if i = 1 then xs else xs.reverse) (if i = 1 then its else its.reverse) := by
    by_cases e : i = 1
    · rw [if_pos e, if_pos e]; exact r
    · rw [if_neg e, if_neg e]; exact r.reverse
  have hp : slicePick its.toArray none none (some i) = (if i = 1 then its else its.reverse).toArray := by
    rcases hi with rfl | rfl
    · rw [pick_fw, if_pos rfl]
    · rw [PySem.W.krv_pick, if_neg (by decide)]
  rw [hp]
  refine ⟨.ref _, _, I5.laid (t' := s4.toks) (o := .lst (if i = 1 then xs else xs.reverse)) (fun b ob q => Heap.get?_push_of_some _ q) (Nat.le_refl _) ?_, rfl, q _ (I5.hok.fresh (Nat.le_refl _))⟩
  exact ⟨by split <;> simpa using hz, _, 0, rr, Heap.get?_push_size _ rfl⟩
def mStepL (m mt : EM D) : EM D := fun E env C Q => m E env C fun d env1 C1 => mt E env1 C1 fun e env2 C2 => ∃ xs i, dr C2 d = .lst xs ∧ e = .int i ∧ (i = 1 ∨ i = -1) ∧ Q (.lst (if i = 1 then xs else xs.reverse)) env2 C2
theorem d_stepL {X : Cx} {e st : Expr} {p3 pos : Pos} {m mt : EM D} (h : DE X RPk e m) (hs : DE X RShr st mt) (hsub : ∀ a b : Value, subscripted (.Slice none none (some st) p3) false a b = operate [a, b] (getItem a b)) : DE X RShr (.Subscript e (.Slice none none (some st) p3) pos) (mStepL m mt) := fun Z E hE => by
  refine ⟨fun pins s σ H Q I ⟨Hs, env, C, P, sr, q, k⟩ => (pe_stepL (h Z E hE) (hs Z E hE) hsub).run pins s σ H Q I ?_⟩
  refine ⟨Hs, env, C, _, sr, q, fun d env1 C1 v Hs1 H1 q1 t1 s1 r1 => ?_⟩
  refine ⟨Hs1, env1, C1, _, s1, q1, fun y env2 C2 w Hs2 H2 q2 t2 s2 r2 => ?_⟩
  obtain ⟨xs, i, ed, ey, hi, q3⟩ := q2
  subst ey
  cases r2
  have n := (r1.tr t2 (Z' := Z) (σ' := σ) (env' := env2)).now s2.fit
  rw [ed] at n
  cases n with
  | @lst _ _ ys e1 r =>
    refine ⟨_, _, i, rfl, rfl, hi, SqL.of e1, fun p hp => k _ _ _ _ _ _ q3 ((t1.trans t2).trans (Tr.lay s2.fit hp _)) (s2.lay hp _) (.lst upd_same ?_)⟩
    have rr : RepL X.K Hs2 (if i = 1 then xs else xs.reverse) (if i = 1 then ys else ys.reverse) := by
      by_cases e : i = 1
      · rw [if_pos e, if_pos e]; exact r
      · rw [if_neg e, if_neg e]; exact r.reverse
    exact rr.same (same_upd (s2.fit.nothing hp).1)
theorem i_stepL {E : EX} {env : DL.Env} {C : Cs} {Q : D → DL.Env → Cs → Prop} {m mt : EM D} (q : m E env C fun d env1 C1 => mt E env1 C1 fun e env2 C2 => ∃ xs i, dr C2 d = .lst xs ∧ e = .int i ∧ (i = 1 ∨ i = -1) ∧ Q (.lst (if i = 1 then xs else xs.reverse)) env2 C2) : mStepL m mt E env C Q := q
end L2.DL
/-! OJ: o[e] of an object with its own __getitem__. -/
namespace L2.DL
open PySem PySem.Spec PyProof.Rows
structure GetO (K : PySem.W.Frag) (C g : Addr) : Prop where
  at_ : PySem.W.findIn K (.ref C) "__getitem__" = some (some (.ref g))
  fn : PySem.W.isFn K (.ref g) = true
  fi : PySem.W.fnIn K g = true
structure GtV (X : Cx) (C : Addr) (spv : DSpV) : Prop where
  ex : ∃ k g, DCal X.prog X.w X.K X.mg X.base k (.ref g) [] spv ∧ Room (k + 1) X.A ∧ GetO X.K C g
structure QGt (P : Program) (w : World) (K : PySem.W.Frag) (mg : Str → Option Value) (base : Heap) (k : Nat) (C : Addr) (spv : DSpV) : Prop where
  ex : ∃ g, DCal P w K mg base k (.ref g) [] spv ∧ GetO K C g
theorem QGt.to {X : Cx} {j k : Nat} {C : Addr} {spv : DSpV} (c : QGt X.prog X.w X.K X.mg X.base k C spv) (hr : Room j X.A) (h : k + 1 ≤ j) : GtV X C spv := let ⟨g, d, a⟩ := c.ex; ⟨k, g, d, hr.mono h, a⟩
end L2.DL
/-! PA: codes that names hold stay; registers whose codes are options; merges with less. -/
namespace L2.DL
open PySem PySem.Spec PyProof.Rows L2.AS
theorem costRow_z0 {n p : Nat} {c : Cl} {t : Txt} (h : chgI c t = 0) : costRow n p c t 0 = List.replicate (2 * n + 1) 0 := by
  apply List.ext_getElem
  · rw [costRow_len, List.length_replicate]
  · intro i h1 h2
    rw [costRow_at h1, List.getElem_replicate, h]
    simp
theorem best_stay {S : List Cl} {M : List Txt} (c : Cod S M) (h : ∀ (p : Nat) (d : Cl) (t : Txt), S[p]? = some d → M[p]? = some t → d.held = [t]) : Best S M := by
  refine ⟨c, fun M' _ => ?_⟩
  have e : rowSum S M = sm (fun _ => (0 : VS S)) S.length := by
    unfold rowSum
    refine sm_eq fun p hp => ?_
    have hd : S[p]? = some S[p] := List.getElem?_eq_getElem hp
    have hm : M[p]? = some (M[p]'(by rw [c.len]; exact hp)) := List.getElem?_eq_getElem _
    have hh := h p _ _ hd hm
    rw [show M.getD p [] = M[p]'(by rw [c.len]; exact hp) from by rw [List.getD_eq_getElem?_getD, hm]; rfl]
    generalize M[p]'(by rw [c.len]; exact hp) = t at hh
    refine Vc.ext' ?_
    have hn : numCl S[p] t = some 0 := by
      unfold numCl
      rw [hh, if_pos (List.mem_singleton.mpr rfl)]
      show (if t = t then some 0 else _) = _
      rw [if_pos rfl]
    rw [kst_val hd hn, costRow_z0 (by unfold chgI chg; rw [hh]; simp)]
    rfl
  rw [e]
  exact sm_le fun p _ => kst_nonneg S p _
/-! ### codes that are options -/
structure OwnC (span : Nat) (s : RSt) : Prop where
  nd : (cds s).Nodup
  opt : ∀ r ∈ s.rows, ∀ c, r.cd = some c → c ∈ optsR span s.bar s.slp r.nm
theorem lk_restIn {pause t1 : Nat} {M : List Txt} {c : Txt} (h : c ∈ M) : ∀ (rows : List Row) {slp : Tb Txt (Txt × Nat)}, lk c (restIn pause t1 M slp rows) = lk c slp
  | [], _ => rfl
  | r :: rows, slp => by
    show lk c (restIn pause t1 M (restF pause t1 M slp r) rows) = _
    rw [lk_restIn h rows]
    unfold restF
    cases r.cd with
    | none => rfl
    | some d =>
      by_cases e : d ∈ M
      · simp only [e, not_true, false_and, if_false]
      · by_cases e2 : 0 < pause
        · simp only [e, not_false_iff, true_and, if_pos e2]
          rw [lk_pt, if_neg (fun z : c = d => e (z ▸ h))]
        · simp only [e, not_false_iff, true_and, if_neg e2]
theorem OwnC.chg {pause nx span : Nat} {s : RSt} {bar : List Txt} {rows : List Row} {M : List Txt} (n : (ks s.slp).Nodup) (hM : Cod (sitR span bar s.slp rows) M) : OwnC span (chgR pause s nx bar rows M) := by
  refine ⟨by rw [chg_cds hM]; exact hM.nd, fun r hr c hc => ?_⟩
  obtain ⟨i, r0, t, hr0, ht, rfl⟩ := setCd_mem hr
  have e : t = c := Option.some.inj hc
  subst e
  have ho := hM.opt i t ht
  rw [opS_some (c := claimR span bar s.slp r0) (by rw [List.getElem?_map, hr0]; rfl)] at ho
  obtain ⟨h1, h2⟩ := List.mem_filter.mp (show t ∈ (spellS r0.nm span).filter _ from ho)
  rw [Bool.and_eq_true] at h2
  refine List.mem_filter.mpr ⟨h1, ?_⟩
  rw [Bool.and_eq_true]
  refine ⟨h2.1, ?_⟩
  have hl : lk t (restIn pause (s.tk + 1) M (slpCut (s.tk + 1) M s.slp) s.rows) = none := by
    rw [lk_restIn (List.mem_of_getElem? ht)]
    unfold slpCut
    rw [lk_flt n]
    cases lk t s.slp with
    | none => rfl
    | some x => simp [List.mem_of_getElem? ht]
  show slpOk (restIn pause (s.tk + 1) M (slpCut (s.tk + 1) M s.slp) s.rows) r0.nm t = true
  unfold slpOk
  rw [hl]
structure MOkC (n : Nat) (r : Reg) : Prop where
  m : MOk n r
  own : ∀ s ∈ r.sts, OwnC r.span s
theorem MOkC.push {n : Nat} {r : Reg} {s : RSt} {d : Deed} {M : List Txt} (h : MOkC n r) (hs : r.sts[r.spot]? = some s) (h7 : (d.rows s).length ≤ 7) (hM : Cod (sitR r.span (d.bar s) s.slp (d.rows s)) M) (ok : ROk (n + 1) (r.push (chgR r.pause s (d.nx s) (d.bar s) (d.rows s) M))) : MOkC (n + 1) (r.push (chgR r.pause s (d.nx s) (d.bar s) (d.rows s) M)) :=
  ⟨h.m.push hs h7 hM ok, fun x hx => by
    rcases List.mem_append.mp (show x ∈ r.sts.take (r.spot + 1) ++ [_] from hx) with hx | hx
    · exact h.own x (List.mem_of_mem_take hx)
    · rw [List.mem_singleton.mp hx]; exact OwnC.chg (h.m.ok.st s (List.mem_of_getElem? hs)).slpN hM⟩
theorem MOkC.mono {n m : Nat} {r : Reg} (h : MOkC n r) (l : n ≤ m) (hm : m ≤ 100) : MOkC m r := ⟨h.m.mono l hm, h.own⟩
theorem MOkC.new {span pause : Nat} (h1 : 1 ≤ span) (h3 : span ≤ 3) (hp : pause ≤ 20) : MOkC 0 ⟨span, pause, [⟨0, 1, [], [], []⟩], 0⟩ :=
  ⟨MOk.new h1 h3 hp, fun s hs => by rw [List.mem_singleton.mp hs]; exact ⟨List.nodup_nil, fun r hr => by cases hr⟩⟩
/-! ### names that are dropped -/
abbrev cdsR (rows : List Row) : List Txt := rows.map fun r => r.cd.getD []
theorem setCd_self : ∀ {rows : List Row}, (∀ r ∈ rows, r.cd ≠ none) → setCd rows (cdsR rows) = rows
  | [], _ => rfl
  | r :: rows, h => by
    have ih := setCd_self (rows := rows) fun x hx => h x (List.mem_cons_of_mem _ hx)
    have hr := h r List.mem_cons_self
    show { r with cd := some (r.cd.getD []) } :: setCd rows (cdsR rows) = _
    rw [ih]
    congr 1
    cases e : r.cd with
    | none => exact absurd e hr
    | some c => cases r; simp at e; subst e; rfl
theorem own_best {n span : Nat} {s : RSt} {rows : List Row} (so : StOk n span s) (o : OwnC span s) (h : rows.Sublist s.rows) : Best (sitR span s.bar s.slp rows) (cdsR rows) := by
  have at_ : ∀ (p : Nat) (r : Row), rows[p]? = some r → ∃ c, r.cd = some c ∧ c ∈ optsR span s.bar s.slp r.nm := fun p r hr => by
    have hm := h.subset (List.mem_of_getElem? hr)
    obtain ⟨c, hc, _⟩ := so.cd r hm
    exact ⟨c, hc, o.opt r hm c hc⟩
  refine best_stay ⟨by rw [List.length_map, List.length_map], fun p t ht => ?_, o.nd.sublist (h.map _)⟩ fun p d t hd ht => ?_
  · rw [List.getElem?_map] at ht
    obtain ⟨r, hr, rfl⟩ := Option.map_eq_some_iff.mp ht
    obtain ⟨c, hc, ho⟩ := at_ p r hr
    rw [opS_some (c := claimR span s.bar s.slp r) (by rw [List.getElem?_map, hr]; rfl), hc]
    exact ho
  · rw [List.getElem?_map] at ht hd
    obtain ⟨r, hr, rfl⟩ := Option.map_eq_some_iff.mp ht
    rw [hr] at hd
    cases hd
    obtain ⟨c, hc, _⟩ := at_ p r hr
    show r.cd.toList = [r.cd.getD []]
    rw [hc]; rfl
/-! ### merges with less -/
/-- a state with some of another one's names and bans -/
structure LessR (b s : RSt) : Prop where
  rows : s.rows.Sublist b.rows
  bar : ∀ t ∈ s.bar, t ∈ b.bar
theorem LessR.cd {nx : Nat} {b s : RSt} (h : LessR b s) (hb : RwOk nx b.rows) {t c : Txt} (hc : cdR s t = some c) : cdR b t = some c := by
  unfold cdR at hc
  cases hf : s.rows.find? (fun r => decide (r.nm = t)) with
  | none => rw [hf] at hc; cases hc
  | some r =>
    rw [hf] at hc
    have hn := List.find?_some hf
    have hm := h.rows.subset (List.mem_of_find?_eq_some hf)
    have e : r.nm = t := by simpa using hn
    subst e
    rw [cdR_some hb hm]
    exact hc
/-! ### what a register's names get -/
end L2.DL
/-! PB: best codings of small situations by going through all. -/
namespace L2.DL
open PySem PySem.Spec PyProof.Rows L2.AS
/-! ### abcd, bcda, cdab -/
def n1 : Txt := [97, 98, 99, 100]
def n2 : Txt := [98, 99, 100, 97]
def n3 : Txt := [99, 100, 97, 98]
end L2.DL
/-! PD: is True, is False. -/
namespace L2.DL
open PySem PySem.Spec PyProof.Rows
theorem op_notB {X : Cx} : OpR X (compareOp .IsNot) (fun x y H Q => ∃ b c, x = .bl b ∧ y = .bl c ∧ Q (.bl (b != c)) H) := by
  intro pins s σ H x y v u Q I rx ry h
  obtain ⟨b, c, rfl, rfl, q⟩ := h
  cases rx
  cases ry
  exact isnot_bool (fin_bl I q rfl)
def gIsB (neg : Bool) (d e : D) (P : D → Prop) : Prop := ∃ b c, d = .bl b ∧ e = .bl c ∧ P (.bl (if neg then b != c else b == c))
theorem opd_isnotB {X : Cx} : OpD X (compareOp .IsNot) RShr (gIsB true) := by
  refine ⟨_, op_notB, ?_⟩
  intro Z σ Hs H env C d e v u P Q sr n n' g k
  obtain ⟨b, c, rfl, rfl, p⟩ := g
  cases n
  cases n'
  exact ⟨b, c, rfl, rfl, k _ _ Hs H p Tr.refl sr (.bl _)⟩
theorem g_isB {ng : Bool} {C : Cs} {b c : Bool} {P : D → Prop} (q : P (.bl (if ng then b != c else b == c))) : gIsB ng (dr C (.bl b)) (dr C (.bl c)) P := ⟨b, c, rfl, rfl, q⟩
end L2.DL
/-! PE: [*d.values(), ..]. -/
namespace L2.DL
open PySem PySem.Spec PyProof.Rows
end L2.DL
/-! PF: what a certificate adds up to. -/
namespace L2.AS
open Lean.Grind
end L2.AS
namespace L2.DL
open PySem PySem.Spec PyProof.Rows L2.AS
theorem g_lenDk {C : Cs} {kvs : List (DK × D)} {P : D → Prop} (q : P (.int kvs.length)) : gLen ([D.dct kvs].map (dr C)) P := q
end L2.DL
/-! PG: ts.count(t) of texts. -/
namespace L2.DL
open PySem PySem.Spec PyProof.Rows
end L2.DL
/-! PH: a container of one's own is read as if it were shared, while the cells stay hidden; what comes of it is a list of texts, and all is as it was. -/
namespace L2.DL
open PySem PySem.Spec PyProof.Rows
end L2.DL
/-! PJ: the same claims in another order: as many kept names. -/
namespace L2.DL
open PySem PySem.Spec PyProof.Rows L2.AS
/-- the code a coding gives to a name -/
def fnC (N M : List Txt) (t : Txt) : Txt := (lk t (N.zip M)).getD []
theorem fnC_map {N M : List Txt} (nd : N.Nodup) (hl : M.length = N.length) : N.map (fnC N M) = M := by
  refine List.ext_getElem (by rw [List.length_map, hl]) fun i h1 h2 => ?_
  have hi : i < N.length := by rw [List.length_map] at h1; exact h1
  rw [List.getElem_map]
  unfold fnC
  have hk : (ks (N.zip M)).Nodup := by
    unfold ks
    rw [List.map_fst_zip (by rw [hl]; exact Nat.le_refl _)]
    exact nd
  rw [lk_of hk (List.mem_iff_getElem?.mpr ⟨i, by
    rw [List.getElem?_zip_eq_some]
    exact ⟨List.getElem?_eq_getElem hi, List.getElem?_eq_getElem h2⟩⟩)]
  rfl
theorem cod_fn {N : List Txt} {c : Txt → Cl} {f : Txt → Txt} : Cod (N.map c) (N.map f) ↔ (∀ t ∈ N, f t ∈ (c t).opts) ∧ (N.map f).Nodup := by
  constructor
  · intro h
    refine ⟨fun t ht => ?_, h.nd⟩
    obtain ⟨i, hi⟩ := List.getElem?_of_mem ht
    have := h.opt i (f t) (by rw [List.getElem?_map, hi]; rfl)
    rwa [opS_some (by rw [List.getElem?_map, hi]; rfl)] at this
  · rintro ⟨h1, h2⟩
    refine ⟨by rw [List.length_map, List.length_map], fun p u hu => ?_, h2⟩
    rw [List.getElem?_map] at hu
    obtain ⟨t, ht, rfl⟩ := Option.map_eq_some_iff.mp hu
    rw [opS_some (by rw [List.getElem?_map, ht]; rfl)]
    exact h1 t (List.mem_of_getElem? ht)
theorem sgn_head {a b : Int} {x y : List Int} (h : sgn (a :: x) (b :: y) ≤ 0) : a ≤ b := by
  unfold sgn at h
  split at h
  · omega
  · omega
/-- a best coding keeps as many names as any -/
theorem best_keeps {S : List Cl} {M M' : List Txt} (h : Best S M) (h' : Cod S M') : (keptT S M').length ≤ (keptT S M).length := by
  have hb : sgn (rowSum S M).1 (rowSum S M').1 ≤ 0 := h.best M' h'
  rw [rowSum_val h.cod, rowSum_val h'] at hb
  have hs : (chs S M).sum ≤ (chs S M').sum := sgn_head hb
  have k1 := kept_len S M h.cod.len
  have k2 := kept_len S M' h'.len
  omega
/-! ### merges either way -/
end L2.DL
/-! PK: tuple(a text): a tuple of its signs that tells its object. -/
namespace L2.DL
open PySem PySem.Spec PyProof.Rows
end L2.DL
/-! QA: new containers within a tuple as cells; an expression that reads all cells as if they were laid, for a result without addresses. -/
namespace L2.DL
open PySem PySem.Spec PyProof.Rows
section
variable {X : Cx} {e e2 : Expr} {pos pos' : Pos}
/-- return (new, new): both are cells -/
def sRetC2 (m1 m2 : EM Cont) : SM := fun E dE env C => m1 E env C fun c1 env1 C1 => ∀ a, C1 a = none → m2 E env1 (cput C1 a (cellOf c1)) fun c2 _ C2 => ∀ b, C2 b = none → dE.rt (.shr (.tup [.cell a, .cell b])) (cput C2 b (cellOf c2))
end
/-- the tree with its cells read -/
inductive RdC (C : Cs) : D → D → Prop
  | same (d : D) : RdC C d d
  | lst {a : Addr} {xs : List D} : C a = some (.lst xs) → RdC C (.cell a) (.lst xs)
  | dct {a : Addr} {kvs : List (DK × D)} : C a = some (.dct kvs) → RdC C (.cell a) (.dct kvs)
  | two {d1 d2 e1 e2 : D} : RdC C d1 e1 → RdC C d2 e2 → RdC C (.tup [d1, d2]) (.tup [e1, e2])
/-- all cells laid -/
def hideH (Hs H : Hp) (C : Cs) : Hp := fun a => if (C a).isSome then H a else Hs a
theorem hideH_some {Hs H : Hp} {C : Cs} {a : Addr} {c : Cell} (h : C a = some c) : hideH Hs H C a = H a := by simp [hideH, h]
theorem RdC.rep {K : PySem.W.Frag} {Hs H : Hp} {C : Cs} {d d' : D} (f : Fits K Hs H C) (sH : Same Hs (hideH Hs H C)) (r : RdC C d d') : ∀ {v : V}, Rep K Hs d v → Rep K (hideH Hs H C) d' v := by
  induction r with
  | same d => exact fun h => h.same sH
  | lst hc =>
    intro v h
    cases h
    obtain ⟨_, o, h2, vs, rfl, h3⟩ := f.cel _ _ hc
    exact .lst (by rw [hideH_some hc]; exact h2) (h3.same sH)
  | dct hc =>
    intro v h
    cases h
    obtain ⟨_, o, h2, vs, rfl, h3⟩ := f.cel _ _ hc
    exact .dct (.inl (by rw [hideH_some hc]; exact h2)) (h3.same sH)
  | two _ _ i1 i2 =>
    intro v h
    cases h with
    | tup ht hr =>
      cases hr with
      | cons h1 hr =>
        cases hr with
        | cons h2 hr =>
          cases hr
          exact .tup (TupA.same sH ht) (.cons (i1 h1) (.cons (i2 h2) .nil))
section
variable {env : DL.Env} {C : Cs} {E : EX} {m1 m2 : EM Cont}
theorem j_retC2 {nx bk ct : DL.Env → Cs → Prop} {rt : Ret → Cs → Prop} (q : m1 E env C fun c1 env1 C1 => ∀ a, C1 a = none → m2 E env1 (cput C1 a (cellOf c1)) fun c2 _ C2 => ∀ b, C2 b = none → rt (.shr (.tup [.cell a, .cell b])) (cput C2 b (cellOf c2))) : sRetC2 m1 m2 E ⟨nx, rt, bk, ct⟩ env C := q
end
/-! ### clear of a table that is a cell -/
def sClrD (mo : EM D) : SM := fun E dE env C => mo E env C fun d env1 C1 => ∃ a kvs, d = .cell a ∧ C1 a = some (.dct kvs) ∧ dE.nx env1 (cput C1 a (.dct []))
theorem j_clrD {env : DL.Env} {C : Cs} {E : EX} {mo : EM D} {nx bk ct : DL.Env → Cs → Prop} {rt : Ret → Cs → Prop} (q : mo E env C fun d env1 C1 => ∃ a kvs, d = .cell a ∧ C1 a = some (.dct kvs) ∧ nx env1 (cput C1 a (.dct []))) : sClrD mo E ⟨nx, rt, bk, ct⟩ env C := q
/-! ### two cells of a written pair are laid: nobody writes them any more -/
end L2.DL
/-! QC: try with two except clauses, the first with a name. -/
namespace L2.DL
open PySem PySem.Spec PyProof.Rows
/-! ### over trees -/
def CatchT (yes no yes2 no2 : List Addr) (i : Nat) (ms : Addr → Value → Option Addr → SM) (ms2 : SM) (E : EX) (dE : DEnds) (x : XD) (env : DL.Env) (C : Cs) : Prop := match x with
  | .own B fs => (B ∈ yes ∧ ∀ a dd, C a = none → ms a (.ref B) (some dd) E0 (dE.gone i) (env.set i (.shr (.exc a B dd fs))) C) ∨ (B ∈ no ∧ ((B ∈ yes2 ∧ ms2 E0 dE env C) ∨ (B ∈ no2 ∧ E (.own B fs) env C)))
  | .blt _ => False
def sTryT (yes no yes2 no2 : List Addr) (i : Nat) (mb : SM) (ms : Addr → Value → Option Addr → SM) (ms2 : SM) : SM := fun E dE env C => mb (CatchT yes no yes2 no2 i ms ms2 E dE) dE env C
section
variable {X : Cx} {x y n : Str} {c c2 : Addr} {i : Nat} {body suite suite2 : List Stmt} {b₀ b₁ : Stmt} {np nq pos pos' pos2 : Pos}
theorem j_tryT {E : EX} {env : DL.Env} {C : Cs} {yes no yes2 no2 : List Addr} {mb ms2 : SM} {ms : Addr → Value → Option Addr → SM} {nx bk ct : DL.Env → Cs → Prop} {rt : Ret → Cs → Prop} (q : mb (CatchT yes no yes2 no2 i ms ms2 E ⟨nx, rt, bk, ct⟩) ⟨nx, rt, bk, ct⟩ env C) : sTryT yes no yes2 no2 i mb ms ms2 E ⟨nx, rt, bk, ct⟩ env C := q
end
end L2.DL
/-! QB: states that may be compared; what merges tell, compared. -/
namespace L2.DL
open PySem PySem.Spec PyProof.Rows L2.AS
theorem push_at2 (r : Reg) (s : RSt) (h : r.spot < r.sts.length) : (r.push s).sts[(r.push s).spot]? = some s := by
  show (r.sts.take (r.spot + 1) ++ [s])[r.spot + 1]? = _
  rw [List.getElem?_append_right (by rw [List.length_take]; omega), List.length_take, Nat.min_eq_left (by omega)]
  simp
/-- few names, whose codes are options -/
structure H8 (span : Nat) (s : RSt) : Prop where
  n : s.rows.length ≤ 8
  o : OwnC span s
end L2.DL
/-! QF: registers at rest: changes that change nothing; two accounts of a deed with registers that are alike up to now. -/
namespace L2.DL
open PySem PySem.Spec PyProof.Rows L2.AS
theorem sitR_bar {span : Nat} {b1 b2 : List Txt} {slp : Tb Txt (Txt × Nat)} {rows : List Row} (h : ∀ t, t ∈ b1 ↔ t ∈ b2) : sitR span b1 slp rows = sitR span b2 slp rows := by
  refine List.map_congr_left fun r _ => ?_
  show (⟨_, _, optsR span b1 slp r.nm⟩ : Cl) = ⟨_, _, optsR span b2 slp r.nm⟩
  have : optsR span b1 slp r.nm = optsR span b2 slp r.nm := by
    unfold optsR
    refine List.filter_congr fun o _ => ?_
    rw [decide_eq_decide.mpr (h o)]
  rw [this]
theorem rest_best {n span : Nat} {s : RSt} {bar : List Txt} (so : StOk n span s) (o : OwnC span s) (h : ∀ t, t ∈ bar ↔ t ∈ s.bar) : Best (sitR span bar s.slp s.rows) (cdsR s.rows) := by
  rw [sitR_bar h]; exact own_best so o (List.Sublist.refl _)
theorem old_self {rows : List Row} (h : (rows.map (·.b)).Nodup) : ∀ r ∈ rows, oldOf rows r.b = r.cd := by
  induction rows with
  | nil => intro r hr; cases hr
  | cons x rows ih =>
    rw [List.map_cons, List.nodup_cons] at h
    intro r hr
    unfold oldOf
    rw [List.find?_cons]
    rcases List.mem_cons.mp hr with rfl | hr
    · simp
    · have hne : x.b ≠ r.b := fun e => h.1 (e ▸ List.mem_map_of_mem (f := (·.b)) hr)
      simp only [hne, decide_false]
      exact ih h.2 r hr
theorem told_self {rows : List Row} (h : (rows.map (·.b)).Nodup) : toldD rows rows = .lst [] := by
  show D.lst ((toldR rows rows).map _) = _
  have : toldR rows rows = [] := by
    unfold toldR
    rw [List.filter_eq_nil_iff]
    intro r hr
    simp [old_self h r hr]
  rw [this]; rfl
/-- the state behind a change that changes nothing -/
abbrev calmS (p nx : Nat) (bar : List Txt) (s : RSt) : RSt := chgR p s nx bar s.rows (cdsR s.rows)
theorem calm_rows {n span p nx : Nat} {bar : List Txt} {s : RSt} (so : StOk n span s) : (calmS p nx bar s).rows = s.rows := setCd_self fun x hx => by
  obtain ⟨c', hc', _⟩ := so.cd x hx
  rw [hc']; simp
theorem calm_told {n span : Nat} {s : RSt} (so : StOk n span s) : toldC s.rows (setCd s.rows (cdsR s.rows)) = .lst [] := by
  rw [setCd_self fun x hx => by
    obtain ⟨c', hc', _⟩ := so.cd x hx
    rw [hc']; simp]
  have := told_self so.rws.bn
  show Cont.lst _ = _
  have h2 : (toldR s.rows s.rows).map (tolD s.rows) = [] := by
    have h3 : D.lst ((toldR s.rows s.rows).map (tolD s.rows)) = D.lst [] := this
    injection h3
  rw [h2]
theorem calm_h8 {n span p nx : Nat} {bar : List Txt} {s : RSt} (so : StOk n span s) (h : H8 span s) (hb : ∀ t, t ∈ bar ↔ t ∈ s.bar) : H8 span (calmS p nx bar s) :=
  ⟨by rw [calm_rows so]; exact h.n, OwnC.chg so.slpN (rest_best so h.o hb).cod⟩
/-- registers that are alike up to now -/
structure Alike (r1 r : Reg) : Prop where
  sp : r1.span = r.span
  p : r1.pause = r.pause
  st : r1.spot = r.spot
  tk : r1.sts.take (r1.spot + 1) = r.sts.take (r.spot + 1)
theorem Alike.push {r1 r : Reg} (h : Alike r1 r) (s : RSt) : r1.push s = r.push s := by
  unfold Reg.push
  obtain ⟨a, b, c, d⟩ := r1
  obtain ⟨a', b', c', d'⟩ := r
  obtain ⟨h1, h2, h3, h4⟩ := h
  simp only at h1 h2 h3 h4
  subst h1 h2 h3
  simp only [h4]
theorem Alike.refl (r : Reg) : Alike r r := ⟨rfl, rfl, rfl, rfl⟩
theorem Alike.at {r1 r : Reg} (h : Alike r1 r) : r1.sts[r1.spot]? = r.sts[r.spot]? := by
  have e : ∀ x : Reg, x.sts[x.spot]? = (x.sts.take (x.spot + 1))[x.spot]? := fun x => by rw [List.getElem?_take]; simp
  rw [e r1, e r, h.tk, h.st]
/-- i changes that changed nothing behind the state s0 of r0 -/
structure Calm (r0 : Reg) (s0 : RSt) (i N : Nat) (r : Reg) (s : RSt) : Prop where
  ok : ROk N r
  hs : r.sts[r.spot]? = some s
  all : ∀ x ∈ r.sts, H8 r.span x
  sp : r.span = r0.span
  p : r.pause = r0.pause
  st : r.spot = r0.spot + i
  tk : r.sts.take (r0.spot + 1) = r0.sts.take (r0.spot + 1)
  rows : s.rows = s0.rows
  c : s.tk = s0.tk + i
theorem Calm.no {r0 r : Reg} {s0 s : RSt} {i N : Nat} {bar : List Txt} (K : Calm r0 s0 i N r s) (hb : ∀ t, t ∈ bar ↔ t ∈ s.bar) {m : Nat} {pl : List Nat} (cr : L2.AS.Crowd (prb (sitR r.span bar s.slp s.rows)) m pl) : False :=
  crowd_no cr _ (rest_best (K.ok.st s (List.mem_of_getElem? K.hs)) (K.all s (List.mem_of_getElem? K.hs)).o hb).cod
theorem Calm.step {r0 r : Reg} {s0 s : RSt} {i N nx : Nat} {bar : List Txt} {M : List Txt} (K : Calm r0 s0 i N r s) (hb : ∀ t, t ∈ bar ↔ t ∈ s.bar) (hM : Best (sitR r.span bar s.slp s.rows) M) (okM : ROk (N + 1) (r.push (chgR r.pause s nx bar s.rows M))) :
    toldC s.rows (setCd s.rows M) = .lst [] ∧ ∃ s', Calm r0 s0 (i + 1) (N + 1) (r.push (chgR r.pause s nx bar s.rows M)) s' := by
  have so := K.ok.st s (List.mem_of_getElem? K.hs)
  have h8 := K.all s (List.mem_of_getElem? K.hs)
  have e := hM.only held_sitR (rest_best so h8.o hb)
  subst e
  refine ⟨calm_told so, calmS r.pause nx bar s, okM, push_at2 r _ K.ok.spot, fun x hx => ?_, K.sp, K.p, ?_, ?_, (calm_rows so).trans K.rows, ?_⟩
  · rcases List.mem_append.mp hx with hx | hx
    · exact K.all x (List.mem_of_mem_take hx)
    · rw [List.mem_singleton.mp hx]; exact calm_h8 so h8 hb
  · show r.spot + 1 = _
    have := K.st; omega
  · show (r.sts.take (r.spot + 1) ++ [_]).take (r0.spot + 1) = _
    have h1 := K.ok.spot
    have h2 := K.st
    rw [List.take_append_of_le_length (by rw [List.length_take]; omega), List.take_take, Nat.min_eq_left (by omega)]
    exact K.tk
  · show s.tk + 1 = _
    have := K.c; omega
/-- going back -/
theorem Calm.back {r0 r : Reg} {s0 s : RSt} {i N : Nat} (K : Calm r0 s0 i N r s) : Alike { r with spot := r.spot - i } r0 := by
  have h := K.st
  have e : r.spot - i = r0.spot := by omega
  exact ⟨K.sp, K.p, e, by show r.sts.take (r.spot - i + 1) = _; rw [e]; exact K.tk⟩
end L2.DL
/-! QI: a newcomer among names that hold their codes: rows of names, and what the best coding changes. -/
namespace L2.DL
open PySem PySem.Spec PyProof.Rows L2.AS
/-- names N, each but nc with a code of its own, g, which is one of its options, op -/
structure NewC (N : List Txt) (nc : Txt) (g : Txt → Txt) (op : Txt → List Txt) : Prop where
  nd : N.Nodup
  hn : nc ∈ N
  inj : ∀ x ∈ N, ∀ y ∈ N, x ≠ nc → y ≠ nc → g x = g y → x = y
  ok : ∀ x ∈ N, x ≠ nc → g x ∈ op x
def newCl (nc : Txt) (g : Txt → Txt) (op : Txt → List Txt) (x : Txt) : Cl := ⟨x, if x = nc then [] else [g x], op x⟩
section
variable {N : List Txt} {nc : Txt} {g : Txt → Txt} {op : Txt → List Txt}
def EdgeN (N : List Txt) (nc : Txt) (g : Txt → Txt) (op : Txt → List Txt) (a b : Txt) : Prop := b ∈ N ∧ b ≠ nc ∧ g b ∈ op a
def FreeN (N : List Txt) (nc : Txt) (g : Txt → Txt) (op : Txt → List Txt) (a : Txt) : Prop := ∃ o ∈ op a, ∀ y ∈ N, y ≠ nc → g y ≠ o
inductive PathL (N : List Txt) (nc : Txt) (g : Txt → Txt) (op : Txt → List Txt) : Txt → List Txt → Prop
  | one : PathL N nc g op nc [nc]
  | step {n m : Txt} {R : List Txt} : PathL N nc g op n R → EdgeN N nc g op n m → PathL N nc g op m (R ++ [m])
theorem PathL.mem (hn : nc ∈ N) {n : Txt} {R : List Txt} (h : PathL N nc g op n R) : ∀ x ∈ R, x ∈ N := by
  induction h with
  | one => intro x hx; rw [List.mem_singleton.mp hx]; exact hn
  | step _ e ih =>
    intro x hx
    rcases List.mem_append.mp hx with hx | hx
    · exact ih x hx
    · rw [List.mem_singleton.mp hx]; exact e.1
theorem PathL.pre {n : Txt} {R : List Txt} (h : PathL N nc g op n R) : ∀ x ∈ R, ∃ R', PathL N nc g op x R' ∧ R'.length ≤ R.length := by
  induction h with
  | one => intro x hx; rw [List.mem_singleton.mp hx]; exact ⟨_, .one, Nat.le_refl _⟩
  | step p e ih =>
    intro x hx
    rcases List.mem_append.mp hx with hx | hx
    · obtain ⟨R', h1, h2⟩ := ih x hx
      exact ⟨R', h1, by rw [List.length_append]; omega⟩
    · rw [List.mem_singleton.mp hx]; exact ⟨_, .step p e, Nat.le_refl _⟩
theorem PathL.nodup {n : Txt} {R : List Txt} (h : PathL N nc g op n R) : (∀ R', PathL N nc g op n R' → R.length ≤ R'.length) → R.Nodup := by
  induction h with
  | one => intro _; simp
  | @step n m R p e ih =>
    intro hm
    have h1 : R.Nodup := ih fun R' h' => by
      have := hm _ (.step h' e)
      simp at this; omega
    refine List.nodup_append.mpr ⟨h1, by simp, fun a ha b hb z => ?_⟩
    rw [List.mem_singleton.mp hb] at z
    subst z
    obtain ⟨R', h2, h3⟩ := p.pre a ha
    have := hm R' h2
    simp at this; omega
/-- a row is moved up: each name takes the next one's code, the last one o -/
def shf (g : Txt → Txt) (o : Txt) : List Txt → Txt → Txt
  | [], x => g x
  | [a], x => if x = a then o else g x
  | a :: b :: r, x => if x = a then g b else shf g o (b :: r) x
theorem shf_out {o : Txt} : ∀ {R : List Txt} {x : Txt}, x ∉ R → shf g o R x = g x
  | [], _, _ => rfl
  | [a], x, h => by unfold shf; rw [if_neg (by simpa using h)]
  | a :: b :: r, x, h => by
    have hx : x ≠ a := fun e => h (e ▸ List.mem_cons_self)
    rw [shf, if_neg hx]
    exact shf_out fun z => h (List.mem_cons_of_mem _ z)
theorem shf_inj {o : Txt} {T : Txt → Prop} (inj : ∀ x y, T x → T y → g x = g y → x = y) (ho : ∀ x, T x → g x ≠ o) : ∀ {b : Txt} {r : List Txt}, (∀ x ∈ b :: r, T x) → (b :: r).Nodup →
    (∀ x y, T x → T y → shf g o (b :: r) x = shf g o (b :: r) y → x = y) ∧ ∀ x, T x → shf g o (b :: r) x ≠ g b
  | b, [], hT, _ => by
    have hb := hT b List.mem_cons_self
    refine ⟨fun x y hx hy e => ?_, fun x hx e => ?_⟩
    · unfold shf at e
      by_cases e1 : x = b
      · by_cases e2 : y = b
        · rw [e1, e2]
        · rw [if_pos e1, if_neg e2] at e; exact absurd e.symm (ho y hy)
      · by_cases e2 : y = b
        · rw [if_neg e1, if_pos e2] at e; exact absurd e (ho x hx)
        · rw [if_neg e1, if_neg e2] at e; exact inj x y hx hy e
    · unfold shf at e
      by_cases e1 : x = b
      · rw [if_pos e1] at e; exact ho b hb e.symm
      · rw [if_neg e1] at e; exact e1 (inj x b hx hb e)
  | b, b' :: r, hT, nd => by
    rw [List.nodup_cons] at nd
    have hb := hT b List.mem_cons_self
    have hb' := hT b' (List.mem_cons_of_mem _ List.mem_cons_self)
    obtain ⟨i1, i2⟩ := shf_inj inj ho (b := b') (r := r) (fun x hx => hT x (List.mem_cons_of_mem _ hx)) nd.2
    have hout : shf g o (b' :: r) b = g b := shf_out nd.1
    refine ⟨fun x y hx hy e => ?_, fun x hx e => ?_⟩
    · rw [shf, shf] at e
      by_cases e1 : x = b
      · by_cases e2 : y = b
        · rw [e1, e2]
        · rw [if_pos e1, if_neg e2] at e; exact absurd e.symm (i2 y hy)
      · by_cases e2 : y = b
        · rw [if_neg e1, if_pos e2] at e; exact absurd e (i2 x hx)
        · rw [if_neg e1, if_neg e2] at e; exact i1 x y hx hy e
    · rw [shf] at e
      by_cases e1 : x = b
      · rw [if_pos e1] at e
        exact nd.1 (by rw [inj b' b hb' hb e]; exact List.mem_cons_self)
      · rw [if_neg e1, ← hout] at e
        exact e1 (i1 x b hx hb e)
/-- consecutive names of a path -/
inductive Ch (N : List Txt) (nc : Txt) (g : Txt → Txt) (op : Txt → List Txt) : List Txt → Prop
  | one (a : Txt) : Ch N nc g op [a]
  | cons {a b : Txt} {r : List Txt} : EdgeN N nc g op a b → Ch N nc g op (b :: r) → Ch N nc g op (a :: b :: r)
theorem Ch.snoc {m : Txt} : ∀ {R : List Txt} {n : Txt}, Ch N nc g op R → R.getLast? = some n → EdgeN N nc g op n m → Ch N nc g op (R ++ [m])
  | _, n, .one a, h, e => by
    simp at h; subst h
    exact .cons e (.one m)
  | _, n, .cons (a := a) (b := b) (r := r) e1 c, h, e => by
    refine .cons e1 (Ch.snoc (R := b :: r) (n := n) c ?_ e)
    rw [List.getLast?_cons_cons] at h
    exact h
theorem PathL.ch {n : Txt} {R : List Txt} (h : PathL N nc g op n R) : Ch N nc g op R ∧ R.getLast? = some n ∧ ∃ r, R = nc :: r ∧ ∀ x ∈ r, x ∈ N ∧ x ≠ nc := by
  induction h with
  | one => exact ⟨.one _, rfl, [], rfl, fun x hx => by cases hx⟩
  | @step n m R p e ih =>
    obtain ⟨c, l, r, rfl, hr⟩ := ih
    refine ⟨c.snoc l e, List.getLast?_concat, r ++ [m], rfl, fun x hx => ?_⟩
    rcases List.mem_append.mp hx with hx | hx
    · exact hr x hx
    · rw [List.mem_singleton.mp hx]; exact ⟨e.1, e.2.1⟩
theorem shf_opt {o : Txt} : ∀ {R : List Txt} {n : Txt}, Ch N nc g op R → R.getLast? = some n → o ∈ op n → R.Nodup → ∀ x ∈ R, shf g o R x ∈ op x
  | _, n, .one a, h, ho, _, x, hx => by
    rw [List.mem_singleton.mp hx]
    simp at h; subst h
    unfold shf; rw [if_pos rfl]; exact ho
  | _, n, .cons (a := a) (b := b) (r := r) e c, h, ho, nd, x, hx => by
    rw [List.nodup_cons] at nd
    rw [List.getLast?_cons_cons] at h
    unfold shf
    by_cases e1 : x = a
    · rw [if_pos e1, e1]; exact e.2.2
    · rw [if_neg e1]
      exact shf_opt c h ho nd.2 x ((List.mem_cons.mp hx).resolve_left e1)
/-- moved up along a row whose last name has a free option: a coding, and who is not on the row keeps its code -/
theorem NewC.aug (h : NewC N nc g op) {n : Txt} {R : List Txt} (p : PathL N nc g op n R) (nd : R.Nodup) (hf : FreeN N nc g op n) : ∃ f, Cod (N.map (newCl nc g op)) (N.map f) ∧ ∀ x ∈ N, x ∉ R → f x = g x := by
  obtain ⟨o, ho, hfo⟩ := hf
  obtain ⟨c, l, r, rfl, hr⟩ := p.ch
  have hinj : ∀ x y, (x ∈ N ∧ x ≠ nc) → (y ∈ N ∧ y ≠ nc) → g x = g y → x = y := fun x y hx hy e => h.inj x hx.1 y hy.1 hx.2 hy.2 e
  have hno : ∀ x, (x ∈ N ∧ x ≠ nc) → g x ≠ o := fun x hx => hfo x hx.1 hx.2
  refine ⟨shf g o (nc :: r), cod_fn.mpr ⟨fun t ht => ?_, ?_⟩, fun x _ hx => shf_out hx⟩
  · by_cases hm : t ∈ nc :: r
    · exact shf_opt c l ho nd t hm
    · rw [shf_out hm]
      exact h.ok t ht fun e => hm (e ▸ List.mem_cons_self)
  · refine nd_map h.nd fun x y hx hy e => ?_
    cases r with
    | nil =>
      unfold shf at e
      by_cases e1 : x = nc
      · by_cases e2 : y = nc
        · rw [e1, e2]
        · rw [if_pos e1, if_neg e2] at e; exact absurd e.symm (hno y ⟨hy, e2⟩)
      · by_cases e2 : y = nc
        · rw [if_neg e1, if_pos e2] at e; exact absurd e (hno x ⟨hx, e1⟩)
        · rw [if_neg e1, if_neg e2] at e; exact hinj x y ⟨hx, e1⟩ ⟨hy, e2⟩ e
    | cons b r =>
      rw [List.nodup_cons] at nd
      obtain ⟨i1, i2⟩ := shf_inj hinj hno (b := b) (r := r) hr nd.2
      rw [shf, shf] at e
      by_cases e1 : x = nc
      · by_cases e2 : y = nc
        · rw [e1, e2]
        · rw [if_pos e1, if_neg e2] at e; exact absurd e.symm (i2 y ⟨hy, e2⟩)
      · by_cases e2 : y = nc
        · rw [if_neg e1, if_pos e2] at e; exact absurd e (i2 x ⟨hx, e1⟩)
        · rw [if_neg e1, if_neg e2] at e; exact i1 x y ⟨hx, e1⟩ ⟨hy, e2⟩ e
/-- the row of a coding f from the newcomer on: each next name had the code that the one before it gets -/
inductive RowF (N : List Txt) (nc : Txt) (g f : Txt → Txt) : Txt → List Txt → Prop
  | one : RowF N nc g f nc [nc]
  | step {n m : Txt} {R : List Txt} : RowF N nc g f n R → m ∈ N → m ≠ nc → g m = f n → RowF N nc g f m (R ++ [m])
theorem RowF.path {f : Txt → Txt} (hn : nc ∈ N) (hf : ∀ x ∈ N, f x ∈ op x) {n : Txt} {R : List Txt} (h : RowF N nc g f n R) : PathL N nc g op n R ∧ n ∈ N := by
  induction h with
  | one => exact ⟨.one, hn⟩
  | step _ h1 h2 h3 ih => exact ⟨.step ih.1 ⟨h1, h2, h3 ▸ hf _ ih.2⟩, h1⟩
theorem RowF.last {f : Txt → Txt} {n : Txt} {R : List Txt} (h : RowF N nc g f n R) : ∃ Q, R = Q ++ [n] := by
  cases h with
  | one => exact ⟨[], rfl⟩
  | step h _ _ _ => exact ⟨_, rfl⟩
theorem RowF.prev {f : Txt → Txt} {n : Txt} {R : List Txt} (h : RowF N nc g f n R) : ∀ x ∈ R, x ≠ nc → ∃ p ∈ R.dropLast, g x = f p := by
  induction h with
  | one => intro x hx hne; exact absurd (List.mem_singleton.mp hx) hne
  | @step n m R h h1 h2 h3 ih =>
    intro x hx hne
    obtain ⟨Q, eQ⟩ := h.last
    rw [List.dropLast_concat]
    rcases List.mem_append.mp hx with hx | hx
    · obtain ⟨p, hp, e⟩ := ih x hx hne
      exact ⟨p, (List.dropLast_sublist _).subset hp, e⟩
    · rw [List.mem_singleton.mp hx]
      exact ⟨n, by rw [eQ]; simp, h3⟩
theorem RowF.nodup {f : Txt → Txt} (hn : nc ∈ N) (hi : ∀ x ∈ N, ∀ y ∈ N, f x = f y → x = y) {n : Txt} {R : List Txt} (h : RowF N nc g f n R) : R.Nodup ∧ ∀ x ∈ R, x ∈ N := by
  induction h with
  | one => exact ⟨by simp, fun x hx => by rw [List.mem_singleton.mp hx]; exact hn⟩
  | @step n m R h h1 h2 h3 ih =>
    obtain ⟨i1, i2⟩ := ih
    obtain ⟨Q, eQ⟩ := h.last
    refine ⟨List.nodup_append.mpr ⟨i1, by simp, fun a ha b hb z => ?_⟩, fun x hx => ?_⟩
    · rw [List.mem_singleton.mp hb] at z
      subst z
      obtain ⟨p, hp, e⟩ := h.prev a ha h2
      rw [h3] at e
      have hnR : n ∈ R := by rw [eQ]; simp
      have : n = p := hi n (i2 n hnR) p (i2 p ((List.dropLast_sublist _).subset hp)) e
      rw [eQ] at i1 hp
      rw [List.dropLast_concat] at hp
      exact (List.nodup_append.mp i1).2.2 p hp n (by simp) this.symm
    · rcases List.mem_append.mp hx with hx | hx
      · exact i2 x hx
      · rw [List.mem_singleton.mp hx]; exact h1
theorem RowF.moved {f : Txt → Txt} (hi : ∀ x ∈ N, ∀ y ∈ N, f x = f y → x = y) (hn : nc ∈ N) {n : Txt} {R : List Txt} (h : RowF N nc g f n R) : ∀ x ∈ R, x ≠ nc → f x ≠ g x := by
  obtain ⟨nd, hm⟩ := h.nodup hn hi
  intro x hx hne e
  obtain ⟨p, hp, e2⟩ := h.prev x hx hne
  have hpx := hi x (hm x hx) p (hm p ((List.dropLast_sublist _).subset hp)) (e.trans e2)
  subst hpx
  -- x stands ahead of itself
  have key : ∀ {n : Txt} {R : List Txt}, RowF N nc g f n R → R.Nodup → ∀ x ∈ R, x ≠ nc → ¬ g x = f x := by
    intro n R h
    induction h with
    | one => intro _ x hx hne; exact absurd (List.mem_singleton.mp hx) hne
    | @step n m R h h1 h2 h3 ih =>
      intro nd x hx hne e
      have nd1 := (List.nodup_append.mp nd).1
      rcases List.mem_append.mp hx with hx | hx
      · exact ih nd1 x hx hne e
      · have hxm := List.mem_singleton.mp hx
        subst hxm
        obtain ⟨Q, eQ⟩ := h.last
        have hnR : n ∈ R := by rw [eQ]; simp
        have hR := (RowF.nodup hn hi h).2
        have : n = x := hi n (hR n hnR) x h1 (h3.symm.trans e)
        exact (List.nodup_append.mp nd).2.2 n hnR x (by simp) this
  exact key h nd x hx hne e.symm
theorem kept_eq {c : Txt → Cl} {f : Txt → Txt} (hc : ∀ t, (c t).nm = t) : ∀ N : List Txt, keptT (N.map c) (N.map f) = N.filter fun t => decide (f t ∈ (c t).held)
  | [] => rfl
  | t :: N => by
    have ih := kept_eq (c := c) (f := f) hc N
    unfold keptT at ih ⊢
    rw [List.map_cons, List.map_cons, List.zip_cons_cons, List.filter_cons, List.filter_cons]
    by_cases h : f t ∈ (c t).held
    · rw [if_pos (decide_eq_true h), if_pos (decide_eq_true h), List.map_cons, ih]
      show (c t).nm :: _ = _
      rw [hc]
    · rw [if_neg (by simpa using h), if_neg (by simpa using h), ih]
theorem filter_eq_of {α : Type} {p q : α → Bool} : ∀ {l : List α}, (∀ x ∈ l, p x = true → q x = true) → (l.filter q).length ≤ (l.filter p).length → l.filter p = l.filter q
  | [], _, _ => rfl
  | x :: l, h, hl => by
    have hle : (l.filter p).length ≤ (l.filter q).length := by
      rw [← List.countP_eq_length_filter, ← List.countP_eq_length_filter]
      exact List.countP_mono_left fun y hy => h y (List.mem_cons_of_mem _ hy)
    have h' : ∀ y ∈ l, p y = true → q y = true := fun y hy => h y (List.mem_cons_of_mem _ hy)
    rw [List.filter_cons, List.filter_cons] at hl ⊢
    by_cases hp : p x = true
    · have hq := h x List.mem_cons_self hp
      rw [if_pos hp, if_pos hq] at hl ⊢
      rw [filter_eq_of h' (by simpa using hl)]
    · by_cases hq : q x = true
      · rw [if_neg hp, if_pos hq] at hl
        simp at hl; omega
      · rw [if_neg hp, if_neg hq] at hl ⊢
        exact filter_eq_of h' hl
theorem flt_both {α : Type} (p : α → Bool) : ∀ l : List α, (l.filter p).length + (l.filter fun x => !p x).length = l.length
  | [] => rfl
  | x :: l => by
    have ih := flt_both p l
    rw [List.filter_cons, List.filter_cons]
    cases p x <;> simp <;> omega
theorem not_in_len {N R : List Txt} (hN : N.Nodup) (nd : R.Nodup) (hm : ∀ x ∈ R, x ∈ N) : (N.filter fun x => !decide (x ∈ R)).length + R.length = N.length := by
  have h1 : (N.filter fun x => decide (x ∈ R)).length = R.length := by
    refine Nat.le_antisymm (nd_le (hN.filter _) fun x hx => by simpa using (List.mem_filter.mp hx).2) (nd_le nd fun x hx => List.mem_filter.mpr ⟨hm x hx, by simpa using hx⟩)
  have h2 : (N.filter fun x => decide (x ∈ R)).length + (N.filter fun x => !decide (x ∈ R)).length = N.length := flt_both _ N
  omega
/-- the best coding with a newcomer: its row has the least length, and all others keep their codes -/
theorem NewC.best (h : NewC N nc g op) {M : List Txt} (hM : Best (N.map (newCl nc g op)) M) {n : Txt} {R : List Txt} (hR : RowF N nc g (fnC N M) n R) (hend : ∀ y ∈ N, y ≠ nc → g y ≠ fnC N M n)
    {n' : Txt} {R' : List Txt} (p : PathL N nc g op n' R') (hf : FreeN N nc g op n') (hmin : ∀ n'' R'', PathL N nc g op n'' R'' → FreeN N nc g op n'' → R'.length ≤ R''.length) :
    R.length = R'.length ∧ keptT (N.map (newCl nc g op)) M = N.filter fun x => !decide (x ∈ R) := by
  have hl : M.length = N.length := by rw [hM.cod.len, List.length_map]
  have eM := fnC_map h.nd hl
  obtain ⟨c1, c2⟩ := cod_fn.mp (show Cod (N.map (newCl nc g op)) (N.map (fnC N M)) by rw [eM]; exact hM.cod)
  have hi : ∀ x ∈ N, ∀ y ∈ N, fnC N M x = fnC N M y → x = y := fun x hx y hy e => by
    obtain ⟨i, hi⟩ := List.getElem?_of_mem hx
    obtain ⟨j, hj⟩ := List.getElem?_of_mem hy
    have e1 : (N.map (fnC N M))[i]? = some (fnC N M x) := by rw [List.getElem?_map, hi]; rfl
    have e2 : (N.map (fnC N M))[j]? = some (fnC N M x) := by rw [List.getElem?_map, hj, e]; rfl
    have hij : i = j := (List.getElem?_inj (List.getElem?_eq_some_iff.mp e1).1 c2).mp (e1.trans e2.symm)
    subst hij
    rw [hi] at hj
    exact Option.some.inj hj
  obtain ⟨nd, hm⟩ := hR.nodup h.hn hi
  obtain ⟨pR, nN⟩ := hR.path h.hn c1
  have le1 := hmin n R pR ⟨fnC N M n, c1 n nN, hend⟩
  have nd' : R'.Nodup := p.nodup fun R'' p'' => hmin n' R'' p'' hf
  obtain ⟨f', hc', hk'⟩ := h.aug p nd' hf
  have hm' := p.mem h.hn
  have bk := best_keeps hM hc'
  have kf : keptT (N.map (newCl nc g op)) (N.map f') = N.filter fun t => decide (f' t ∈ (newCl nc g op t).held) := kept_eq (fun _ => rfl) N
  have kM : keptT (N.map (newCl nc g op)) M = N.filter fun t => decide (fnC N M t ∈ (newCl nc g op t).held) := by
    conv => lhs; rw [← eM]
    exact kept_eq (fun _ => rfl) N
  have hncR : nc ∈ R := by
    obtain ⟨_, _, r, e, _⟩ := pR.ch
    rw [e]; exact List.mem_cons_self
  have hncR' : nc ∈ R' := by
    obtain ⟨_, _, r, e, _⟩ := p.ch
    rw [e]; exact List.mem_cons_self
  have sub1 : ∀ x ∈ N, decide (fnC N M x ∈ (newCl nc g op x).held) = true → (!decide (x ∈ R)) = true := fun x hx hd => by
    have hd := of_decide_eq_true hd
    unfold newCl at hd
    by_cases e : x = nc
    · simp [e] at hd
    · simp only [e, if_false] at hd
      have := List.mem_singleton.mp hd
      simp only [Bool.not_eq_true', decide_eq_false_iff_not]
      exact fun hxR => hR.moved hi h.hn x hxR e this
  have sub2 : (N.filter fun x => !decide (x ∈ R')).length ≤ (N.filter fun t => decide (f' t ∈ (newCl nc g op t).held)).length := by
    rw [← List.countP_eq_length_filter, ← List.countP_eq_length_filter]
    refine List.countP_mono_left fun x hx hd => ?_
    have hd : x ∉ R' := by simpa using hd
    have e : x ≠ nc := fun e => hd (e ▸ hncR')
    refine decide_eq_true ?_
    unfold newCl
    simp only [e, if_false]
    rw [hk' x hx hd]; simp
  have n1 := not_in_len h.nd nd hm
  have n2 := not_in_len h.nd nd' hm'
  rw [kf, kM] at bk
  have le2 : (N.filter fun t => decide (fnC N M t ∈ (newCl nc g op t).held)).length ≤ (N.filter fun x => !decide (x ∈ R)).length := by
    rw [← List.countP_eq_length_filter, ← List.countP_eq_length_filter]
    exact List.countP_mono_left sub1
  have eL : R.length = R'.length := by omega
  refine ⟨eL, ?_⟩
  rw [kM]
  exact filter_eq_of sub1 (by omega)
/-- a shortest row gives a coding -/
theorem NewC.cod (h : NewC N nc g op) {n : Txt} {R : List Txt} (p : PathL N nc g op n R) (hf : FreeN N nc g op n) (hmin : ∀ R'', PathL N nc g op n R'' → R.length ≤ R''.length) : ∃ M, Cod (N.map (newCl nc g op)) M := by
  obtain ⟨f, hc, _⟩ := h.aug p (p.nodup hmin) hf
  exact ⟨_, hc⟩
end
end L2.DL
/-! QJ: rows found round by round. -/
namespace L2.DL
open PySem PySem.Spec PyProof.Rows L2.AS
section
variable {N : List Txt} {nc : Txt} {g : Txt → Txt} {op : Txt → List Txt}
/-- after k rounds: the last names, those seen -/
structure Rnd (N : List Txt) (nc : Txt) (g : Txt → Txt) (op : Txt → List Txt) (L : List Txt) (k : Nat) (Sn : List Txt) : Prop where
  a : ∀ x ∈ L, ∃ R, PathL N nc g op x R ∧ R.length = k
  b : ∀ n R, PathL N nc g op n R → R.length ≤ k → n ∈ Sn
  c : ∀ n ∈ Sn, n ∉ L → ¬ FreeN N nc g op n ∧ ∀ m, EdgeN N nc g op n m → m ∈ Sn
  d : ∀ x ∈ L, ∀ R, PathL N nc g op x R → k ≤ R.length
  nd : Sn.Nodup
  sub : ∀ x ∈ Sn, x ∈ N
  ls : ∀ x ∈ L, x ∈ Sn
  k1 : 1 ≤ k
theorem PathL.pos {n : Txt} {R : List Txt} (h : PathL N nc g op n R) : 1 ≤ R.length := by
  cases h <;> simp
theorem PathL.one_len {n : Txt} {R : List Txt} (h : PathL N nc g op n R) (hl : R.length ≤ 1) : n = nc := by
  cases h with
  | one => rfl
  | step p e => have := p.pos; rw [List.length_append] at hl; simp only [List.length_singleton] at hl; omega
theorem Rnd.start (hn : nc ∈ N) : Rnd N nc g op [nc] 1 [nc] where
  a := fun x hx => ⟨[nc], by rw [List.mem_singleton.mp hx]; exact .one, rfl⟩
  b := fun n R h hl => by rw [h.one_len hl]; simp
  c := fun n h1 h2 => absurd h1 h2
  d := fun x hx R h => h.pos
  nd := by simp
  sub := fun x hx => by rw [List.mem_singleton.mp hx]; exact hn
  ls := fun x hx => hx
  k1 := Nat.le_refl _
theorem Rnd.out {k : Nat} {Sn : List Txt} (h : Rnd N nc g op [] k Sn) : ∀ n R, PathL N nc g op n R → ¬ FreeN N nc g op n := fun n R p => by
  have : n ∈ Sn := by
    induction p with
    | one => exact h.b _ _ .one (by simpa using h.k1)
    | step p e ih => exact (h.c _ ih (by simp)).2 _ e
  exact (h.c n this (by simp)).1
theorem Rnd.go {L : List Txt} {k : Nat} {Sn : List Txt} (h : Rnd N nc g op L k Sn) (no : ∀ x ∈ L, ¬ FreeN N nc g op x) {L' : List Txt} (nd' : L'.Nodup) (hL : ∀ y, y ∈ L' ↔ (y ∈ N ∧ y ≠ nc ∧ (∃ x ∈ L, g y ∈ op x) ∧ y ∉ Sn)) :
    Rnd N nc g op L' (k + 1) (Sn ++ L') where
  a := fun y hy => by
    obtain ⟨h1, h2, ⟨x, hx, h3⟩, h4⟩ := (hL y).mp hy
    obtain ⟨R, p, e⟩ := h.a x hx
    exact ⟨R ++ [y], .step p ⟨h1, h2, h3⟩, by simp [e]⟩
  b := fun n R p hl => by
    cases p with
    | one => exact List.mem_append_left _ (h.b _ _ .one (by simpa using h.k1))
    | @step n' _ R' p e =>
      have hs := h.b _ _ p (by simp at hl; omega)
      by_cases hl' : n' ∈ L
      · by_cases hm : n ∈ Sn
        · exact List.mem_append_left _ hm
        · exact List.mem_append_right _ ((hL n).mpr ⟨e.1, e.2.1, ⟨n', hl', e.2.2⟩, hm⟩)
      · exact List.mem_append_left _ ((h.c _ hs hl').2 _ e)
  c := fun n hn hnl => by
    have hs := (List.mem_append.mp hn).resolve_right hnl
    by_cases hl' : n ∈ L
    · refine ⟨no n hl', fun m e => ?_⟩
      by_cases hm : m ∈ Sn
      · exact List.mem_append_left _ hm
      · exact List.mem_append_right _ ((hL m).mpr ⟨e.1, e.2.1, ⟨n, hl', e.2.2⟩, hm⟩)
    · exact ⟨(h.c n hs hl').1, fun m e => List.mem_append_left _ ((h.c n hs hl').2 m e)⟩
  d := fun y hy R p => by
    rcases Nat.lt_or_ge R.length (k + 1) with hl | hl
    · exact absurd (h.b y R p (by omega)) ((hL y).mp hy).2.2.2
    · exact hl
  nd := List.nodup_append.mpr ⟨h.nd, nd', fun a ha b hb e => ((hL b).mp hb).2.2.2 (e ▸ ha)⟩
  sub := fun x hx => (List.mem_append.mp hx).elim (h.sub x) fun hx => ((hL x).mp hx).1
  ls := fun x hx => List.mem_append_right _ hx
  k1 := by omega
end
theorem cod_inj {N M : List Txt} {c : Txt → Cl} (nd : N.Nodup) (hM : Cod (N.map c) M) : ∀ x ∈ N, ∀ y ∈ N, fnC N M x = fnC N M y → x = y := fun x hx y hy e => by
  have hl : M.length = N.length := by rw [hM.len, List.length_map]
  have eM := fnC_map nd hl
  have c2 : (N.map (fnC N M)).Nodup := by rw [eM]; exact hM.nd
  obtain ⟨i, hi⟩ := List.getElem?_of_mem hx
  obtain ⟨j, hj⟩ := List.getElem?_of_mem hy
  have e1 : (N.map (fnC N M))[i]? = some (fnC N M x) := by rw [List.getElem?_map, hi]; rfl
  have e2 : (N.map (fnC N M))[j]? = some (fnC N M x) := by rw [List.getElem?_map, hj, e]; rfl
  have hij : i = j := (List.getElem?_inj (List.getElem?_eq_some_iff.mp e1).1 c2).mp (e1.trans e2.symm)
  subst hij
  rw [hi] at hj
  exact Option.some.inj hj
end L2.DL
/-! QM: two situations as one. -/
namespace L2.DL
open PySem PySem.Spec PyProof.Rows L2.AS
/-- no code in common -/
def Apart (S T : List Cl) : Prop := ∀ c ∈ S, ∀ d ∈ T, ∀ x ∈ c.opts, x ∉ d.opts
theorem Apart.symm {S T : List Cl} (h : Apart S T) : Apart T S := fun d hd c hc x hx hy => h c hc d hd x hy hx
/-- two situations in one: where each one's claims stand -/
structure TwoS (S1 S2 T : List Cl) (e1 e2 : Nat → Nat) : Prop where
  m1 : ∀ i j, i < j → e1 i < e1 j
  m2 : ∀ i j, i < j → e2 i < e2 j
  a1 : ∀ i, i < S1.length → T[e1 i]? = S1[i]?
  a2 : ∀ i, i < S2.length → T[e2 i]? = S2[i]?
  all : ∀ p, p < T.length → (∃ i, i < S1.length ∧ e1 i = p) ∨ ∃ j, j < S2.length ∧ e2 j = p
  ap : ∀ i j, i < S1.length → j < S2.length → e1 i ≠ e2 j
theorem TwoS.swap {S1 S2 T : List Cl} {e1 e2 : Nat → Nat} (h : TwoS S1 S2 T e1 e2) : TwoS S2 S1 T e2 e1 := ⟨h.m2, h.m1, h.a2, h.a1, fun p hp => (h.all p hp).symm, fun i j hi hj e => h.ap j i hj hi e.symm⟩
def shS (e : Nat → Nat) : Nat → Nat
  | 0 => 0
  | i + 1 => e i + 1
theorem sub_filter : ∀ {l L : List Txt}, l.Sublist L → L.Nodup → L.filter (fun x => decide (x ∈ l)) = l := by
  intro l L h
  induction h with
  | slnil => intro _; rfl
  | @cons l L a h ih =>
    intro nd
    rw [List.nodup_cons] at nd
    rw [List.filter_cons, if_neg (by simpa using fun z => nd.1 (h.subset z))]
    exact ih nd.2
  | @cons_cons l L a h ih =>
    intro nd
    rw [List.nodup_cons] at nd
    rw [List.filter_cons, if_pos (by simp)]
    congr 1
    conv => rhs; rw [← ih nd.2]
    refine List.filter_congr fun x hx => decide_eq_decide.mpr ⟨fun z => (List.mem_cons.mp z).resolve_left fun e => nd.1 (e ▸ hx), fun z => List.mem_cons_of_mem _ z⟩
theorem sub_eq {l l' L : List Txt} (h : l.Sublist L) (h' : l'.Sublist L) (nd : L.Nodup) (m : ∀ x, x ∈ l ↔ x ∈ l') : l = l' := by
  rw [← sub_filter h nd, ← sub_filter h' nd]
  exact List.filter_congr fun x _ => decide_eq_decide.mpr (m x)
section
variable {S1 S2 T : List Cl} {e1 e2 : Nat → Nat}
theorem TwoS.inj (h : TwoS S1 S2 T e1 e2) {i j : Nat} (e : e1 i = e1 j) : i = j := by
  rcases Nat.lt_trichotomy i j with q | q | q
  · have := h.m1 i j q; omega
  · exact q
  · have := h.m1 j i q; omega
theorem TwoS.op (h : TwoS S1 S2 T e1 e2) {i : Nat} (hi : i < S1.length) : opS T (e1 i) = opS S1 i := by
  rw [opS_some (List.getElem?_eq_getElem hi)]
  exact opS_some (by rw [h.a1 i hi, List.getElem?_eq_getElem hi])
theorem TwoS.lt (h : TwoS S1 S2 T e1 e2) {i : Nat} (hi : i < S1.length) : e1 i < T.length := by
  have := h.a1 i hi
  rw [List.getElem?_eq_getElem hi] at this
  exact (List.getElem?_eq_some_iff.mp this).1
theorem TwoS.names (h : TwoS S1 S2 T e1 e2) (nd : (T.map (·.nm)).Nodup) (sb : (S1.map (·.nm)).Sublist (T.map (·.nm))) {pl pl1 : List Nat} (sd : ∀ q ∈ pl, ∃ k, k < S1.length ∧ e1 k = q) (hpl : ∀ k, k ∈ pl1 ↔ k < S1.length ∧ e1 k ∈ pl) : crowdT 0 T pl = crowdT 0 S1 pl1 := by
  refine sub_eq (crowdT_sub pl 0 T) ((crowdT_sub pl1 0 S1).trans sb) nd fun t => ?_
  rw [crowdT_mem, crowdT_mem]
  constructor
  · rintro ⟨p, c, h1, h2, h3⟩
    rw [Nat.zero_add] at h2
    obtain ⟨k, hk, rfl⟩ := sd p h2
    exact ⟨k, c, by rw [← h.a1 k hk]; exact h1, by rw [Nat.zero_add]; exact (hpl k).mpr ⟨hk, h2⟩, h3⟩
  · rintro ⟨k, c, h1, h2, h3⟩
    rw [Nat.zero_add] at h2
    obtain ⟨hk, hp⟩ := (hpl k).mp h2
    exact ⟨e1 k, c, by rw [h.a1 k hk]; exact h1, by rw [Nat.zero_add]; exact hp, h3⟩
end
end L2.DL
/-! SG: chains of changed names, where the second coding keeps as many names as it can. -/
namespace L2.DL
open PySem PySem.Spec PyProof.Rows L2.AS
/-- a first coding f of some names, a second one s of all; no names could go back to their first codes -/
structure Chn (N : List Txt) (f : Txt → Option Txt) (s : Txt → Txt) : Prop where
  nd : N.Nodup
  si : ∀ x ∈ N, ∀ y ∈ N, s x = s y → x = y
  fi : ∀ x ∈ N, ∀ y ∈ N, f x ≠ none → f x = f y → x = y
  cl : ∀ S : Txt → Prop, (∀ x, S x → x ∈ N ∧ f x ≠ none ∧ f x ≠ some (s x)) → (∀ o, S o → ∀ m ∈ N, f o = some (s m) → S m) → ∀ x, ¬ S x
def chgW (N : List Txt) (f : Txt → Option Txt) (s : Txt → Txt) : List Txt := N.filter fun n => decide (f n ≠ some (s n))
def nxW (N : List Txt) (f : Txt → Option Txt) (s : Txt → Txt) (n : Txt) : Option Txt := (chgW N f s).find? fun m => decide (f m = some (s n))
/-- a row up to its end -/
def RowT (nx : Txt → Option Txt) (R : List Txt) : Prop := ∀ (i : Nat) a, R[i]? = some a → nx a = R[i + 1]?
def rowF (nx : Txt → Option Txt) : Nat → Txt → List Txt
  | 0, x => [x]
  | k + 1, x => match nx x with
    | none => [x]
    | some y => x :: rowF nx k y
theorem rowF_head (nx : Txt → Option Txt) : ∀ (k : Nat) (x : Txt), (rowF nx k x)[0]? = some x
  | 0, x => rfl
  | k + 1, x => by unfold rowF; cases nx x <;> rfl
theorem rowF_cut (nx : Txt → Option Txt) : ∀ (k : Nat) (x : Txt) (i : Nat) (a b : Txt), (rowF nx k x)[i]? = some a → (rowF nx k x)[i + 1]? = some b → nx a = some b
  | 0, x, i, a, b, _, h => by simp [rowF] at h
  | k + 1, x, i, a, b, h1, h2 => by
    unfold rowF at h1 h2
    cases e : nx x with
    | none => rw [e] at h2; simp at h2
    | some y =>
      rw [e] at h1 h2
      cases i with
      | zero =>
        have e1 : x = a := by simpa using h1
        have e2 : (rowF nx k y)[0]? = some b := by simpa using h2
        rw [rowF_head] at e2
        rw [← e1, e, Option.some.inj e2]
      | succ i => exact rowF_cut nx k y i a b (by simpa using h1) (by simpa using h2)
theorem rowF_end (nx : Txt → Option Txt) : ∀ (k : Nat) (x : Txt), RowT nx (rowF nx k x) ∨ (rowF nx k x).length = k + 1
  | 0, x => .inr rfl
  | k + 1, x => by
    unfold rowF
    cases e : nx x with
    | none =>
      refine .inl fun i a h => ?_
      cases i with
      | zero => have : x = a := by simpa using h
                rw [← this, e]; rfl
      | succ i => simp at h
    | some y =>
      rcases rowF_end nx k y with h | h
      · refine .inl fun i a ha => ?_
        cases i with
        | zero =>
          have e1 : x = a := by simpa using ha
          rw [← e1, e]
          show some y = (x :: rowF nx k y)[1]?
          rw [List.getElem?_cons_succ, rowF_head]
        | succ i => exact h i a (by simpa using ha)
      · exact .inr (by simp [h])
section
variable {N : List Txt} {f : Txt → Option Txt} {s : Txt → Txt}
theorem mem_chgW {n : Txt} : n ∈ chgW N f s ↔ n ∈ N ∧ f n ≠ some (s n) := by unfold chgW; rw [List.mem_filter]; simp
theorem nxW_some (h : Chn N f s) {n m : Txt} : nxW N f s n = some m ↔ m ∈ chgW N f s ∧ f m = some (s n) := by
  unfold nxW
  constructor
  · intro e
    exact ⟨List.mem_of_find?_eq_some e, by simpa using List.find?_some e⟩
  · rintro ⟨h1, h2⟩
    cases e : (chgW N f s).find? fun m => decide (f m = some (s n)) with
    | none => exact absurd h2 (by simpa using List.find?_eq_none.mp e m h1)
    | some m' =>
      have a1 := List.mem_of_find?_eq_some e
      have a2 : f m' = some (s n) := by simpa using List.find?_some e
      rw [h.fi m' (mem_chgW.mp a1).1 m (mem_chgW.mp h1).1 (by rw [a2]; simp) (a2.trans h2.symm)]
theorem nxW_inj (h : Chn N f s) {n n' m : Txt} (hn : n ∈ N) (hn' : n' ∈ N) (e : nxW N f s n = some m) (e' : nxW N f s n' = some m) : n = n' := by
  have a := ((nxW_some h).mp e).2
  have b := ((nxW_some h).mp e').2
  rw [a] at b
  exact h.si n hn n' hn' (Option.some.inj b)
/-- who is followed by o in the second coding changes, too -/
theorem prev_chg (h : Chn N f s) {o m : Txt} (ho : o ∈ chgW N f s) (hm : m ∈ N) (e : f o = some (s m)) : m ∈ chgW N f s ∧ nxW N f s m = some o := by
  refine ⟨mem_chgW.mpr ⟨hm, fun z => ?_⟩, (nxW_some h).mpr ⟨ho, e⟩⟩
  have e2 := h.fi o (mem_chgW.mp ho).1 m hm (by rw [e]; simp) (e.trans z.symm)
  subst e2
  exact (mem_chgW.mp ho).2 e
/-- the row of a newcomer -/
def rowN (N : List Txt) (f : Txt → Option Txt) (s : Txt → Txt) (x : Txt) : List Txt := rowF (nxW N f s) (chgW N f s).length x
theorem row_mem (h : Chn N f s) {k : Nat} {x : Txt} (hx : x ∈ chgW N f s) : ∀ (i : Nat) y, (rowF (nxW N f s) k x)[i]? = some y → y ∈ chgW N f s
  | 0, y, e => by rw [rowF_head] at e; cases e; exact hx
  | i + 1, y, e => by
    have hl := (List.getElem?_eq_some_iff.mp e).1
    have ea : (rowF (nxW N f s) k x)[i]? = some ((rowF (nxW N f s) k x)[i]'(by omega)) := List.getElem?_eq_getElem (by omega)
    exact ((nxW_some h).mp (rowF_cut _ _ _ _ _ _ ea e)).1
theorem row_apart (h : Chn N f s) {k k' : Nat} {x x' : Txt} (hx : x ∈ chgW N f s) (hx' : x' ∈ chgW N f s) (h0 : f x = none) (h0' : f x' = none) : ∀ (i j : Nat) y, (rowF (nxW N f s) k x)[i]? = some y → (rowF (nxW N f s) k' x')[j]? = some y → x = x' ∧ i = j
  | 0, 0, y, e, e' => by rw [rowF_head] at e e'; cases e; cases e'; exact ⟨rfl, rfl⟩
  | 0, j + 1, y, e, e' => by
    rw [rowF_head] at e
    cases e
    have hl := (List.getElem?_eq_some_iff.mp e').1
    have ea : (rowF (nxW N f s) k' x')[j]? = some ((rowF (nxW N f s) k' x')[j]'(by omega)) := List.getElem?_eq_getElem (by omega)
    have := ((nxW_some h).mp (rowF_cut _ _ _ _ _ _ ea e')).2
    rw [h0] at this; cases this
  | i + 1, 0, y, e, e' => by
    rw [rowF_head] at e'
    cases e'
    have hl := (List.getElem?_eq_some_iff.mp e).1
    have ea : (rowF (nxW N f s) k x)[i]? = some ((rowF (nxW N f s) k x)[i]'(by omega)) := List.getElem?_eq_getElem (by omega)
    have := ((nxW_some h).mp (rowF_cut _ _ _ _ _ _ ea e)).2
    rw [h0'] at this; cases this
  | i + 1, j + 1, y, e, e' => by
    have hl := (List.getElem?_eq_some_iff.mp e).1
    have hl' := (List.getElem?_eq_some_iff.mp e').1
    have ea : (rowF (nxW N f s) k x)[i]? = some ((rowF (nxW N f s) k x)[i]'(by omega)) := List.getElem?_eq_getElem (by omega)
    have ea' : (rowF (nxW N f s) k' x')[j]? = some ((rowF (nxW N f s) k' x')[j]'(by omega)) := List.getElem?_eq_getElem (by omega)
    have z := nxW_inj h (mem_chgW.mp (row_mem h hx i _ ea)).1 (mem_chgW.mp (row_mem h hx' j _ ea')).1 (rowF_cut _ _ _ _ _ _ ea e) (rowF_cut _ _ _ _ _ _ ea' e')
    rw [← z] at ea'
    obtain ⟨a, b⟩ := row_apart h hx hx' h0 h0' i j _ ea ea'
    exact ⟨a, by omega⟩
theorem row_nodup (h : Chn N f s) {k : Nat} {x : Txt} (hx : x ∈ chgW N f s) (h0 : f x = none) : (rowF (nxW N f s) k x).Nodup := by
  refine List.pairwise_iff_getElem.mpr fun i j hi hj hij e => ?_
  have := (row_apart h hx hx h0 h0 i j _ (List.getElem?_eq_getElem hi) (by rw [e]; exact List.getElem?_eq_getElem hj)).2
  omega
structure RowOk (N : List Txt) (f : Txt → Option Txt) (s : Txt → Txt) (x : Txt) (R : List Txt) : Prop where
  hd : R[0]? = some x
  en : RowT (nxW N f s) R
  nd : R.Nodup
  sub : ∀ y ∈ R, y ∈ chgW N f s
theorem rowN_ok (h : Chn N f s) {x : Txt} (hx : x ∈ chgW N f s) (h0 : f x = none) : RowOk N f s x (rowN N f s x) := by
  have sub : ∀ y ∈ rowN N f s x, y ∈ chgW N f s := fun y hy => by
    obtain ⟨i, hi⟩ := List.getElem?_of_mem hy
    exact row_mem h hx i y hi
  have nd := row_nodup h (k := (chgW N f s).length) hx h0
  refine ⟨rowF_head _ _ _, ?_, nd, sub⟩
  rcases rowF_end (nxW N f s) (chgW N f s).length x with z | z
  · exact z
  · have := nd_le nd sub
    omega
/-- every changed name is on the row of a newcomer -/
theorem rows_cover (h : Chn N f s) : ∀ y ∈ chgW N f s, ∃ x ∈ chgW N f s, f x = none ∧ y ∈ rowN N f s x := by
  intro y hy
  refine Classical.byContradiction fun no => ?_
  refine h.cl (fun o => o ∈ chgW N f s ∧ ∀ x ∈ chgW N f s, f x = none → o ∉ rowN N f s x) (fun o ⟨h1, h2⟩ => ⟨(mem_chgW.mp h1).1, fun z => ?_, (mem_chgW.mp h1).2⟩) (fun o ⟨h1, h2⟩ m hm e => ?_) y ⟨hy, fun x hx h0 z => no ⟨x, hx, h0, z⟩⟩
  · exact h2 o h1 z (List.mem_of_getElem? (rowN_ok h h1 z).hd)
  · obtain ⟨a, b⟩ := prev_chg h h1 hm e
    refine ⟨a, fun x hx h0 z => h2 x hx h0 ?_⟩
    obtain ⟨i, hi⟩ := List.getElem?_of_mem z
    have := (rowN_ok h hx h0).en i m hi
    rw [b] at this
    exact List.mem_of_getElem? this.symm
end
/-! ### reaches -/
inductive Rch (op : Txt → List Txt) (own : Txt → Option Txt) : Txt → Nat → Prop
  | one {n o : Txt} : o ∈ op n → own o = none → Rch op own n 1
  | step {n o m : Txt} {k : Nat} : o ∈ op n → own o = some m → Rch op own m k → Rch op own n (k + 1)
def IsD (op : Txt → List Txt) (own : Txt → Option Txt) (n : Txt) (k : Nat) : Prop := Rch op own n k ∧ ∀ j, Rch op own n j → k ≤ j
section
variable {op : Txt → List Txt} {own : Txt → Option Txt}
theorem Rch.pos {n : Txt} {k : Nat} (h : Rch op own n k) : 1 ≤ k := by cases h <;> omega
theorem Rch.isD {n : Txt} : ∀ {k : Nat}, Rch op own n k → ∃ j, j ≤ k ∧ IsD op own n j := fun {k} => by
  induction k using Nat.strongRecOn with
  | ind k ih =>
    intro h
    by_cases hm : ∃ j, j < k ∧ Rch op own n j
    · obtain ⟨j, hj, hr⟩ := hm
      obtain ⟨i, hi, hd⟩ := ih j hj hr
      exact ⟨i, by omega, hd⟩
    · exact ⟨k, Nat.le_refl _, h, fun j hj => Nat.le_of_not_lt fun z => hm ⟨j, z, hj⟩⟩
theorem IsD.uniq {n : Txt} {j k : Nat} (h : IsD op own n j) (h' : IsD op own n k) : j = k := Nat.le_antisymm (h.2 k h'.1) (h'.2 j h.1)
/-- a step down -/
theorem IsD.down {n : Txt} {k : Nat} (h : IsD op own n (k + 1)) (hk : 1 ≤ k) : ∃ o m, o ∈ op n ∧ own o = some m ∧ IsD op own m k := by
  obtain ⟨hr, hm⟩ := h
  cases hr with
  | one => omega
  | @step _ o m _ h1 h2 h3 =>
    obtain ⟨j, hj, hd⟩ := h3.isD
    have := hm (j + 1) (.step h1 h2 hd.1)
    have e : j = k := by omega
    exact ⟨o, m, h1, h2, e ▸ hd⟩
end
end L2.DL
/-! SI: the best coding of names that hold their codes: its chains. -/
namespace L2.DL
open PySem PySem.Spec PyProof.Rows L2.AS
/-- a claim that holds the first code, if there is one -/
def hCl (f : Txt → Option Txt) (op : Txt → List Txt) (x : Txt) : Cl := ⟨x, (f x).toList, op x⟩
theorem chn_of_best {N : List Txt} {f : Txt → Option Txt} {op : Txt → List Txt} {M : List Txt} (nd : N.Nodup) (fi : ∀ x ∈ N, ∀ y ∈ N, f x ≠ none → f x = f y → x = y) (fo : ∀ x ∈ N, ∀ c, f x = some c → c ∈ op x)
    (hM : Best (N.map (hCl f op)) M) : Chn N f (fnC N M) := by
  have hl : M.length = N.length := by rw [hM.cod.len, List.length_map]
  have eM := fnC_map nd hl
  obtain ⟨c1, c2⟩ := cod_fn.mp (show Cod (N.map (hCl f op)) (N.map (fnC N M)) by rw [eM]; exact hM.cod)
  have si : ∀ x ∈ N, ∀ y ∈ N, fnC N M x = fnC N M y → x = y := cod_inj nd hM.cod
  refine ⟨nd, si, fi, fun S h1 h2 x0 hx0 => ?_⟩
  classical
  -- those of S go back to their first codes
  let s' : Txt → Txt := fun x => if S x then (f x).getD [] else fnC N M x
  have fS : ∀ x, S x → f x = some (s' x) := fun x hx => by
    show f x = some (if S x then (f x).getD [] else fnC N M x)
    rw [if_pos hx]
    cases e : f x with
    | none => exact absurd e (h1 x hx).2.1
    | some c => rfl
  have nS : ∀ x, ¬ S x → s' x = fnC N M x := fun x hx => if_neg hx
  have hC : Cod (N.map (hCl f op)) (N.map s') := by
    refine cod_fn.mpr ⟨fun t ht => ?_, ?_⟩
    · by_cases h : S t
      · exact fo t ht _ (fS t h)
      · rw [nS t h]; exact c1 t ht
    · refine nd_map nd fun a b ha hb e => ?_
      by_cases hA : S a <;> by_cases hB : S b
      · exact fi a ha b hb (by rw [fS a hA]; simp) (by rw [fS a hA, fS b hB, e])
      · rw [nS b hB] at e
        exact absurd (h2 a hA b hb (by rw [fS a hA, e])) hB
      · rw [nS a hA] at e
        exact absurd (h2 b hB a ha (by rw [fS b hB, ← e])) hA
      · rw [nS a hA, nS b hB] at e
        exact si a ha b hb e
  have k := best_keeps hM hC
  have e0 : keptT (N.map (hCl f op)) M = keptT (N.map (hCl f op)) (N.map (fnC N M)) := by rw [eM]
  rw [e0, kept_eq (fun _ => rfl), kept_eq (fun _ => rfl)] at k
  have e := filter_eq_of (l := N) (p := fun t => decide (fnC N M t ∈ (hCl f op t).held)) (q := fun t => decide (s' t ∈ (hCl f op t).held)) (fun t ht hp => by
    have hp := of_decide_eq_true hp
    have : f t = some (fnC N M t) := by
      cases e : f t with
      | none => simp [hCl, e] at hp
      | some c => simp [hCl, e] at hp; rw [hp]
    have hn : ¬ S t := fun z => (h1 t z).2.2 this
    refine decide_eq_true ?_
    rw [nS t hn]; exact hp) k
  have hx : x0 ∈ N.filter fun t => decide (s' t ∈ (hCl f op t).held) := List.mem_filter.mpr ⟨(h1 x0 hx0).1, decide_eq_true (by simp [hCl, fS x0 hx0])⟩
  rw [← e] at hx
  have hx := of_decide_eq_true (List.mem_filter.mp hx).2
  have hf := fS x0 hx0
  simp [hCl, hf] at hx
  exact (h1 x0 hx0).2.2 (by rw [hf, hx])
/-- a shortest row of a newcomer, and how far it reaches -/
theorem PathL.rch {N : List Txt} {nc : Txt} {g : Txt → Txt} {op : Txt → List Txt} {own : Txt → Option Txt} (ho : ∀ o m, own o = some m ↔ m ∈ N ∧ m ≠ nc ∧ g m = o) {n : Txt} {R : List Txt} (p : PathL N nc g op n R) : ∀ {k : Nat}, Rch op own n k → Rch op own nc (R.length + k - 1) := by
  induction p with
  | one => intro k h; simpa using h
  | @step n m R p e ih =>
    intro k h
    have := ih (.step e.2.2 ((ho _ _).mpr ⟨e.1, e.2.1, rfl⟩) h)
    rw [List.length_append, List.length_singleton]
    have hk := h.pos
    rwa [show R.length + 1 + k - 1 = R.length + (k + 1) - 1 from by omega]
theorem rch_path {N : List Txt} {nc : Txt} {g : Txt → Txt} {op : Txt → List Txt} {own : Txt → Option Txt} (ho : ∀ o m, own o = some m ↔ m ∈ N ∧ m ≠ nc ∧ g m = o) : ∀ {k : Nat} {n : Txt} {R : List Txt}, PathL N nc g op n R → Rch op own n k → ∃ n' R', PathL N nc g op n' R' ∧ FreeN N nc g op n' ∧ R'.length = R.length + k - 1
  | 0, n, R, p, h => by have := h.pos; omega
  | k + 1, n, R, p, h => by
    cases h with
    | @one _ o h1 h2 =>
      refine ⟨n, R, p, ⟨o, h1, fun y hy hn e => ?_⟩, by omega⟩
      have := (ho o y).mpr ⟨hy, hn, e⟩
      rw [h2] at this; cases this
    | @step _ o m _ h1 h2 h3 =>
      obtain ⟨a, b, c⟩ := (ho o m).mp h2
      have hk := h3.pos
      obtain ⟨n', R', p', f', l'⟩ := rch_path ho (.step p ⟨a, b, c ▸ h1⟩) h3
      exact ⟨n', R', p', f', by rw [l', List.length_append, List.length_singleton]; omega⟩
theorem free_rch {N : List Txt} {nc : Txt} {g : Txt → Txt} {op : Txt → List Txt} {own : Txt → Option Txt} (ho : ∀ o m, own o = some m ↔ m ∈ N ∧ m ≠ nc ∧ g m = o) {n : Txt} (h : FreeN N nc g op n) : Rch op own n 1 := by
  obtain ⟨o, h1, h2⟩ := h
  refine .one h1 ?_
  cases e : own o with
  | none => rfl
  | some m =>
    obtain ⟨a, b, c⟩ := (ho o m).mp e
    exact absurd c (h2 m a b)
/-- the reach of the newcomer is the length of the shortest rows -/
theorem reach_nc {N : List Txt} {nc : Txt} {g : Txt → Txt} {op : Txt → List Txt} {own : Txt → Option Txt} (ho : ∀ o m, own o = some m ↔ m ∈ N ∧ m ≠ nc ∧ g m = o) {k : Nat} :
    IsD op own nc k ↔ ∃ n R, PathL N nc g op n R ∧ FreeN N nc g op n ∧ R.length = k ∧ ∀ n' R', PathL N nc g op n' R' → FreeN N nc g op n' → k ≤ R'.length := by
  constructor
  · rintro ⟨h1, h2⟩
    obtain ⟨n, R, p, f, l⟩ := rch_path ho .one h1
    have hk := h1.pos
    refine ⟨n, R, p, f, by rw [l]; simp, fun n' R' p' f' => ?_⟩
    have := h2 _ (p'.rch ho (free_rch ho f'))
    omega
  · rintro ⟨n, R, p, f, l, hm⟩
    have hpos := p.pos
    have := p.rch ho (free_rch ho f)
    rw [Nat.add_sub_cancel] at this
    rw [l] at this
    refine ⟨this, fun j hj => ?_⟩
    obtain ⟨n', R', p', f', l'⟩ := rch_path ho .one hj
    have hjp := hj.pos
    have := hm n' R' p' f'
    rw [l'] at this
    simpa using this
end L2.DL
/-! SJ: registers without rest: many names entered at once or one by one; changes that change nothing. -/
namespace L2.DL
open PySem PySem.Spec PyProof.Rows L2.AS
theorem restIn0 {t1 : Nat} {M : List Txt} : ∀ (rows : List Row) (slp : Tb Txt (Txt × Nat)), restIn 0 t1 M slp rows = slp
  | [], _ => rfl
  | r :: rows, slp => by
    have e : restF 0 t1 M slp r = slp := by
      unfold restF
      cases r.cd with
      | none => rfl
      | some c => simp
    show restIn 0 t1 M (restF 0 t1 M slp r) rows = slp
    rw [e]; exact restIn0 rows slp
/-- registers without rest, of at most K names, whose codes are options -/
structure P0 (K : Nat) (r : Reg) : Prop where
  p : r.pause = 0
  slp : ∀ s ∈ r.sts, s.slp = []
  o : ∀ s ∈ r.sts, OwnC r.span s
  len : ∀ s ∈ r.sts, s.rows.length ≤ K
theorem chg_slp {s : RSt} {nx : Nat} {bar : List Txt} {rows : List Row} {M : List Txt} (h : s.slp = []) : (chgR 0 s nx bar rows M).slp = [] := by
  show restIn 0 _ M (slpCut _ M s.slp) s.rows = []
  rw [restIn0, h]; rfl
theorem P0.push {K L nx : Nat} {r : Reg} {s : RSt} {bar : List Txt} {rows : List Row} {M : List Txt} (h : P0 K r) (hs : r.sts[r.spot]? = some s) (hM : Cod (sitR r.span bar s.slp rows) M) (hl : rows.length ≤ L) (kl : K ≤ L) :
    P0 L (r.push (chgR r.pause s nx bar rows M)) := by
  have hm := List.mem_of_getElem? hs
  have ml : M.length = rows.length := by rw [hM.len, List.length_map]
  refine ⟨h.p, fun x hx => ?_, fun x hx => ?_, fun x hx => ?_⟩ <;> rcases List.mem_append.mp hx with hx | hx
  · exact h.slp x (List.mem_of_mem_take hx)
  · rw [List.mem_singleton.mp hx, h.p]; exact chg_slp (h.slp s hm)
  · exact h.o x (List.mem_of_mem_take hx)
  · rw [List.mem_singleton.mp hx]
    exact OwnC.chg (by rw [h.slp s hm]; exact List.nodup_nil) hM
  · exact Nat.le_trans (h.len x (List.mem_of_mem_take hx)) kl
  · rw [List.mem_singleton.mp hx]
    show (setCd rows M).length ≤ L
    rw [setCd_len ml]; exact hl
theorem P0.mono {K L : Nat} {r : Reg} (h : P0 K r) (kl : K ≤ L) : P0 L r := ⟨h.p, h.slp, h.o, fun s hs => Nat.le_trans (h.len s hs) kl⟩
theorem P0.new {K span : Nat} : P0 K ⟨span, 0, [⟨0, 1, [], [], []⟩], 0⟩ :=
  ⟨rfl, fun s hs => by rw [List.mem_singleton.mp hs], fun s hs => by rw [List.mem_singleton.mp hs]; exact ⟨List.nodup_nil, fun r hr => by cases hr⟩, fun s hs => by rw [List.mem_singleton.mp hs]; exact Nat.zero_le _⟩
/-! ### names and their codes -/
/-- some coding with these options -/
def AccN (op : Txt → List Txt) (N : List Txt) : Prop := ∃ g : Txt → Txt, (∀ t ∈ N, g t ∈ op t) ∧ (N.map g).Nodup
theorem AccN.no {op : Txt → List Txt} {N : List Txt} {f : Txt → Option Txt} {m : Nat} {pl : List Nat} (h : AccN op N) (cr : L2.AS.Crowd (prb (N.map (hCl f op))) m pl) : False := by
  obtain ⟨g, h1, h2⟩ := h
  exact crowd_no cr (N.map g) (cod_fn.mpr ⟨h1, h2⟩)
theorem AccN.fst {op : Txt → List Txt} {A B : List Txt} (h : AccN op (A ++ B)) : AccN op A := by
  obtain ⟨g, h1, h2⟩ := h
  refine ⟨g, fun t ht => h1 t (List.mem_append.mpr (.inl ht)), ?_⟩
  rw [List.map_append] at h2
  exact (List.nodup_append.mp h2).1
theorem AccN.perm {op : Txt → List Txt} {A B : List Txt} (p : A.Perm B) (h : AccN op A) : AccN op B := by
  obtain ⟨g, h1, h2⟩ := h
  exact ⟨g, fun t ht => h1 t (p.mem_iff.mpr ht), (p.map g).nodup_iff.mp h2⟩
/-! ### changes that change nothing -/
/-! ### the codes of a state as a table -/
/-! ### a deed -/
end L2.DL
/-! SK: d.pop(e) of an own table, as a statement. -/
namespace L2.DL
open PySem PySem.Spec PyProof.Rows
section
variable {X : Cx} {e : Expr} {m : Nat} {apos cpos pos : Pos}
def sPopD (m : Nat) (me : EM D) : SM := fun E dE env C => (∃ kvs0, env[m]? = some (.own (.dct kvs0))) ∧ me E env C fun k env1 C1 =>
  ∃ kvs key x, env1[m]? = some (.own (.dct kvs)) ∧ dkOf k = some key ∧ look key kvs = some x ∧ dE.nx (env1.set m (.own (.dct (dropD kvs key)))) C1
theorem ds_popD {o : Expr} {me : EM D} (ho : PE X o (tVar m)) (he : DE X RShr e me) (hm : M1 X o "pop" apos e cpos)
    (hs : swapsWith (.Call (.Attribute o "pop" apos) [e] [] cpos) none pos.line X.env = pure false) :
    DS X (.Expr (.Call (.Attribute o "pop" apos) [e] [] cpos) pos) (sPopD m me) := fun Z E hE => ⟨fun pins s σ H D I ⟨Hs, env, C, dE, sr, ok, ⟨kvs0, f0⟩, q⟩ => by
  refine (ps_expr (pe_dpop1 ho (he Z E hE) hm) hs).run pins s σ H D I ?_
  obtain ⟨p1, u1, x1, h1, ⟨ws1, rfl, r1⟩, _⟩ := sr.slt.own m _ f0
  refine ⟨_, x1, _, rfl, .inl ⟨_, .inl h1⟩, Hs, env, C, _, sr, q, fun d env1 C1 v Hs1 H1 q1 t1 s1 rd => ?_⟩
  obtain ⟨kvs, key, x, ey, ek, ex, q1⟩ := q1
  have hv := dk_rep rd ek
  subst hv
  obtain ⟨p1', u1', x1', h1', ⟨ws, rfl, rk⟩, _⟩ := s1.slt.own m _ ey
  rw [x1] at x1'
  cases x1'
  obtain ⟨z, ez, rz⟩ := (look_rep rk).1 x ex
  have s2 := s1.wrO ey x1 (c' := .dct (dropD kvs key)) (o' := .dK (dropK ws (kOf key))) ⟨_, rfl, rk.drop⟩
  refine ⟨ws, kOf key, z, h1', rfl, ez, ?_⟩
  exact ok.1 _ _ _ _ _ s2 q1⟩
end
section
variable {E : EX} {env : DL.Env} {C : Cs} {m : Nat} {me : EM D} {kvs : List (DK × D)} {nx bk ct : DL.Env → Cs → Prop} {rt : Ret → Cs → Prop}
def PopD (m : Nat) (nx : DL.Env → Cs → Prop) (k : D) (env1 : DL.Env) (C1 : Cs) : Prop := ∃ kvs key x, env1[m]? = some (.own (.dct kvs)) ∧ dkOf k = some key ∧ look key kvs = some x ∧ nx (env1.set m (.own (.dct (dropD kvs key)))) C1
theorem j_popD (h2 : env[m]? = some (.own (.dct kvs))) (q : me E env C fun k env1 C1 => PopD m nx k env1 C1) : sPopD m me E ⟨nx, rt, bk, ct⟩ env C := ⟨⟨kvs, h2⟩, q⟩
end
/-! ### rows in another sequence -/
theorem perm_of_map {α β : Type} (f : α → β) {ys xs : List β} (p : ys.Perm xs) : ∀ l : List α, xs = l.map f → ∃ zs : List α, ys = zs.map f ∧ zs.Perm l := by
  induction p with
  | nil =>
    intro l h
    have : l = [] := List.map_eq_nil_iff.mp h.symm
    exact ⟨[], rfl, by rw [this]⟩
  | cons x _ ih =>
    intro l h
    match l, h with
    | a :: l, h =>
      injection h with h1 h2
      obtain ⟨zs, e, p⟩ := ih l h2
      exact ⟨a :: zs, by rw [h1, e]; rfl, p.cons a⟩
  | swap x y l' =>
    intro l h
    match l, h with
    | a :: b :: l, h =>
      injection h with h1 h2
      injection h2 with h2 h3
      exact ⟨b :: a :: l, by rw [h1, h2, h3]; rfl, List.Perm.swap a b l⟩
  | trans _ _ ih1 ih2 =>
    intro l h
    obtain ⟨zs, e, p⟩ := ih2 l h
    obtain ⟨us, e2, p2⟩ := ih1 zs e
    exact ⟨us, e2, p2.trans p⟩
theorem perm_txs {ys : List D} {l : List Txt} (p : ys.Perm (txs l)) : ∃ zs : List Txt, ys = txs zs ∧ zs.Perm l := perm_of_map D.str p l rfl
end L2.DL
/-! SL: one newcomer: the best coding has one row, of the newcomer's reach. -/
namespace L2.DL
open PySem PySem.Spec PyProof.Rows L2.AS
/-- a coding of the names but one, as a table -/
structure CdN (N : List Txt) (nc : Txt) (g : Txt → Txt) (cd : Tb Txt Txt) : Prop where
  n1 : (cd.map (·.1)).Nodup
  n2 : (cd.map (·.2)).Nodup
  lk : ∀ x c, L2.AS.lk x cd = some c ↔ x ∈ N ∧ x ≠ nc ∧ g x = c
theorem mem_lk {cd : Tb Txt Txt} (n1 : (cd.map (·.1)).Nodup) {x c : Txt} : (x, c) ∈ cd ↔ lk x cd = some c := ⟨fun h => lk_of n1 h, lk_mem⟩
theorem CdN.own {N : List Txt} {nc : Txt} {g : Txt → Txt} {cd : Tb Txt Txt} (h : CdN N nc g cd) (o m : Txt) : L2.AS.lk o (cd.map fun e => (e.2, e.1)) = some m ↔ m ∈ N ∧ m ≠ nc ∧ g m = o := by
  have n2' : (ks (cd.map fun e => (e.2, e.1))).Nodup := by
    have : ks (cd.map fun e => (e.2, e.1)) = cd.map (·.2) := by unfold ks; rw [List.map_map]; rfl
    rw [this]; exact h.n2
  rw [← h.lk, ← mem_lk h.n1]
  constructor
  · intro z
    obtain ⟨e, he, ee⟩ := List.mem_map.mp (lk_mem z)
    injection ee with e1 e2
    rw [← e1, ← e2]; exact he
  · intro z
    exact lk_of n2' (List.mem_map.mpr ⟨(m, o), z, rfl⟩)
theorem CdN.cl {N : List Txt} {nc : Txt} {g : Txt → Txt} {op : Txt → List Txt} {cd : Tb Txt Txt} (h : CdN N nc g cd) : N.map (newCl nc g op) = N.map (hCl (fun x => L2.AS.lk x cd) op) := by
  refine List.map_congr_left fun x hx => ?_
  show (⟨x, if x = nc then [] else [g x], op x⟩ : Cl) = ⟨x, (L2.AS.lk x cd).toList, op x⟩
  by_cases e : x = nc
  · rw [if_pos e]
    cases hl : L2.AS.lk x cd with
    | none => rfl
    | some c => exact absurd e ((h.lk x c).mp hl).2.1
  · rw [if_neg e, (h.lk x (g x)).mpr ⟨hx, e, rfl⟩]; rfl
theorem CdN.no {N : List Txt} {nc : Txt} {g : Txt → Txt} {cd : Tb Txt Txt} (h : CdN N nc g cd) {x : Txt} (hx : x ∈ N) : L2.AS.lk x cd = none ↔ x = nc := by
  constructor
  · intro z
    refine Classical.byContradiction fun e => ?_
    rw [(h.lk x (g x)).mpr ⟨hx, e, rfl⟩] at z; cases z
  · intro e
    cases hl : L2.AS.lk x cd with
    | none => rfl
    | some c => exact absurd e ((h.lk x c).mp hl).2.1
section
variable {N : List Txt} {nc : Txt} {g : Txt → Txt} {op : Txt → List Txt} {cd : Tb Txt Txt}
theorem NewC.chn (h : NewC N nc g op) (c : CdN N nc g cd) {M : List Txt} (hM : Best (N.map (newCl nc g op)) M) : Chn N (fun x => lk x cd) (fnC N M) := by
  rw [c.cl] at hM
  refine chn_of_best h.nd (fun x _ y _ n e => ?_) (fun x hx o e => ?_) hM
  · cases hl : lk x cd with
    | none => exact absurd hl n
    | some o =>
      have h1 := (c.lk x o).mp hl
      have h2 := (c.lk y o).mp (by rw [← show lk x cd = lk y cd from e]; exact hl)
      exact h.inj x h1.1 y h2.1 h1.2.1 h2.2.1 (h1.2.2.trans h2.2.2.symm)
  · have h1 := (c.lk x o).mp e
    rw [← h1.2.2]
    exact h.ok x h1.1 h1.2.1
/-- the row of the newcomer -/
theorem NewC.row (h : NewC N nc g op) (c : CdN N nc g cd) {M : List Txt} (hM : Best (N.map (newCl nc g op)) M) {k : Nat} (hk : IsD op (fun o => lk o (cd.map fun e => (e.2, e.1))) nc k) :
    nc ∈ chgW N (fun x => lk x cd) (fnC N M) ∧ (chgW N (fun x => lk x cd) (fnC N M)).filter (fun n => decide (lk n cd = none)) = [nc] ∧ (rowN N (fun x => lk x cd) (fnC N M) nc).length = k ∧ (chgW N (fun x => lk x cd) (fnC N M)).length = k := by
  have chn := h.chn c hM
  have f0 : lk nc cd = none := (c.no h.hn).mpr rfl
  have hnc : nc ∈ chgW N (fun x => lk x cd) (fnC N M) := mem_chgW.mpr ⟨h.hn, by show lk nc cd ≠ _; rw [f0]; simp⟩
  have ro := rowN_ok chn hnc f0
  have ndc : (chgW N (fun x => lk x cd) (fnC N M)).Nodup := h.nd.filter _
  have l1 : (chgW N (fun x => lk x cd) (fnC N M)).length = (rowN N (fun x => lk x cd) (fnC N M) nc).length := by
    refine Nat.le_antisymm (nd_le ndc fun y hy => ?_) (nd_le ro.nd ro.sub)
    obtain ⟨x, hx, hx0, hy'⟩ := rows_cover chn y hy
    have : x = nc := (c.no (mem_chgW.mp hx).1).mp hx0
    rw [← this]; exact hy'
  have only : (chgW N (fun x => lk x cd) (fnC N M)).filter (fun n => decide (lk n cd = none)) = [nc] := by
    have e : (chgW N (fun x => lk x cd) (fnC N M)).filter (fun n => decide (lk n cd = none)) = (chgW N (fun x => lk x cd) (fnC N M)).filter (fun n => n == nc) := List.filter_congr fun x hx => by
      rw [Bool.eq_iff_iff]
      simp only [decide_eq_true_eq, beq_iff_eq]
      exact c.no (mem_chgW.mp hx).1
    rw [e, List.filter_beq]
    rw [ndc.count, if_pos hnc]; rfl
  refine ⟨hnc, only, ?_, ?_⟩
  all_goals try rw [l1]
  all_goals
    -- the row leads from the newcomer to a name whose code was nobody's
    generalize hR : rowN N (fun x => lk x cd) (fnC N M) nc = R at *
    have step : ∀ (i : Nat) (y : Txt), R[i]? = some y → RowF N nc g (fnC N M) y (R.take (i + 1)) := by
      intro i
      induction i with
      | zero =>
        intro y hy
        have := ro.hd.symm.trans hy
        have e : nc = y := Option.some.inj this
        subst e
        rw [List.take_add_one, hy]
        exact .one
      | succ i ih =>
        intro y hy
        have hi : i < R.length := by have := (List.getElem?_eq_some_iff.mp hy).1; omega
        obtain ⟨z, hz⟩ : ∃ z, R[i]? = some z := ⟨_, List.getElem?_eq_getElem hi⟩
        have hn := ro.en i z hz
        rw [hy] at hn
        obtain ⟨a, b⟩ := (nxW_some chn).mp hn
        obtain ⟨b1, b2, b3⟩ := (c.lk y _).mp b
        rw [List.take_add_one, hy]
        exact .step (ih z hz) b1 b2 b3
    have hpos : 0 < R.length := (List.getElem?_eq_some_iff.mp ro.hd).1
    obtain ⟨z, hz⟩ : ∃ z, R[R.length - 1]? = some z := ⟨_, List.getElem?_eq_getElem (by omega)⟩
    have rf := step _ z hz
    rw [show R.length - 1 + 1 = R.length by omega, List.take_length] at rf
    have hend : ∀ y ∈ N, y ≠ nc → g y ≠ fnC N M z := fun y hy hn e => by
      have fy := (c.lk y (g y)).mpr ⟨hy, hn, rfl⟩
      have zc := ro.sub z (List.mem_of_getElem? hz)
      have last := ro.en _ z hz
      rw [List.getElem?_eq_none (by omega)] at last
      by_cases hc : y ∈ chgW N (fun x => lk x cd) (fnC N M)
      · have := (nxW_some chn (n := z) (m := y)).mpr ⟨hc, by show lk y cd = _; rw [fy, e]⟩
        rw [this] at last; cases last
      · have : lk y cd = some (fnC N M y) := Classical.byContradiction fun q => hc (mem_chgW.mpr ⟨hy, q⟩)
        rw [fy] at this
        have e2 : y = z := chn.si y hy z (mem_chgW.mp zc).1 ((Option.some.inj this).symm.trans e)
        exact hc (e2 ▸ zc)
    obtain ⟨n', R', p, hf, hl, hmin⟩ := (reach_nc c.own).mp hk
    exact ((h.best hM rf hend p hf fun n'' R'' p' f' => by rw [hl]; exact hmin n'' R'' p' f').1).trans hl
theorem NewC.back (h : NewC N nc g op) (c : CdN N nc g cd) {k : Nat} (hk : IsD op (fun o => lk o (cd.map fun e => (e.2, e.1))) nc k) : ∃ M, Cod (N.map (newCl nc g op)) M := by
  obtain ⟨n', R', p, hf, hl, hmin⟩ := (reach_nc c.own).mp hk
  exact h.cod p hf fun R'' p' => by rw [hl]; exact hmin n' R'' p' hf
end
end L2.DL
/-! SN: a situation in two halves: names O that hold codes, names W that hold none. -/
namespace L2.DL
open PySem PySem.Spec PyProof.Rows L2.AS
/-- the halves -/
structure Hlv (O W : List Txt) (kv : Tb Txt Txt) (op : Txt → List Txt) : Prop where
  nd : (O ++ W).Nodup
  n1 : (kv.map (·.1)).Nodup
  n2 : (kv.map (·.2)).Nodup
  k : ∀ x, (∃ c, lk x kv = some c) ↔ x ∈ O
  ok : ∀ x c, lk x kv = some c → c ∈ op x
  len : O.length + W.length ≤ 60
  ol : ∀ x, (op x).length ≤ 1000
  nm : ∀ x ∈ O ++ W, nameOk x
abbrev oldC (kv : Tb Txt Txt) (op : Txt → List Txt) (x : Txt) : Cl := hCl (fun x => lk x kv) op x
abbrev newCC (op : Txt → List Txt) (x : Txt) : Cl := ⟨x, [], op x⟩
section
variable {O W : List Txt} {kv : Tb Txt Txt} {op : Txt → List Txt}
theorem Hlv.no (h : Hlv O W kv op) {x : Txt} (hx : x ∈ W) : lk x kv = none := by
  cases e : lk x kv with
  | none => rfl
  | some c =>
    have := (h.k x).mp ⟨c, e⟩
    exact absurd rfl ((List.nodup_append.mp h.nd).2.2 x this x hx)
theorem Hlv.inj (h : Hlv O W kv op) {x y : Txt} (hx : lk x kv ≠ none) (e : lk x kv = lk y kv) : x = y := by
  cases ex : lk x kv with
  | none => exact absurd ex hx
  | some c =>
    have m1 := lk_mem ex
    have m2 := lk_mem (show lk y kv = some c by rw [← e, ex])
    obtain ⟨i, hi⟩ := List.getElem?_of_mem m1
    obtain ⟨j, hj⟩ := List.getElem?_of_mem m2
    have := (List.getElem?_inj (i := i) (j := j) (by rw [List.length_map]; exact (List.getElem?_eq_some_iff.mp hi).1) h.n2).mp (by rw [List.getElem?_map, List.getElem?_map, hi, hj]; rfl)
    subst this
    rw [hi] at hj
    have := Option.some.inj hj
    injection this
/-- with some of the others -/
theorem Hlv.cls (h : Hlv O W kv op) {V : List Txt} (hV : ∀ x ∈ V, x ∈ W) : O.map (fun x => clD (oldC kv op x)) ++ V.map (fun x => clD (newCC op x)) = ((O ++ V).map (oldC kv op)).map clD := by
  rw [List.map_append, List.map_append, List.map_map, List.map_map]
  congr 1
  refine List.map_congr_left fun x hx => ?_
  show clD ⟨x, [], op x⟩ = clD ⟨x, (lk x kv).toList, op x⟩
  rw [h.no (hV x hx)]; rfl
theorem Hlv.ndV (h : Hlv O W kv op) (n : Nat) : (O ++ W.take n).Nodup := h.nd.sublist (List.Sublist.append_left (List.take_sublist _ _) _)
theorem Hlv.sg (h : Hlv O W kv op) (n : Nat) : SGd ((O ++ W.take n).map (oldC kv op)) ∧ ((O ++ W.take n).map (oldC kv op)).map (·.nm) = O ++ W.take n := by
  have e : ((O ++ W.take n).map (oldC kv op)).map (·.nm) = O ++ W.take n := by rw [List.map_map]; exact List.map_id' _
  refine ⟨⟨?_, fun c hc => ?_, by rw [e]; exact h.ndV n⟩, e⟩
  · have := h.len
    rw [List.length_map, List.length_append, List.length_take]
    omega
  · obtain ⟨x, _, rfl⟩ := List.mem_map.mp hc
    exact h.ol x
theorem Hlv.chn (h : Hlv O W kv op) {n : Nat} {M : List Txt} (hM : Best ((O ++ W.take n).map (oldC kv op)) M) : Chn (O ++ W.take n) (fun x => lk x kv) (fnC (O ++ W.take n) M) :=
  chn_of_best (h.ndV n) (fun x _ y _ a e => h.inj a e) (fun x _ c e => h.ok x c e) hM
end
end L2.DL
/-! SV: letters of registers; some letters turned into others. -/
namespace L2.DL
open PySem PySem.Spec PyProof.Rows L2.AS
/-- letters of a kind -/
abbrev ofL (G : Nat → Prop) (t : Txt) : Prop := ∀ c ∈ t, G c
structure StL (G : Nat → Prop) (s : RSt) : Prop where
  nm : ∀ r ∈ s.rows, ofL G r.nm
  cd : ∀ r ∈ s.rows, ∀ c, r.cd = some c → ofL G c
  bar : ∀ c ∈ s.bar, ofL G c
  slp : ∀ e ∈ s.slp, ofL G e.1 ∧ ofL G e.2.1
section
variable {G : Nat → Prop}
theorem opts_ofL {span : Nat} {bar : List Txt} {slp : Tb Txt (Txt × Nat)} {nm t : Txt} (h : ofL G nm) (ht : t ∈ optsR span bar slp nm) : ofL G t := fun c hc => h c ((spellS_mem (List.mem_filter.mp ht).1).2 c hc)
theorem cod_ofL {span : Nat} {bar : List Txt} {slp : Tb Txt (Txt × Nat)} {rows : List Row} (h : ∀ r ∈ rows, ofL G r.nm) {M : List Txt} (hM : Cod (sitR span bar slp rows) M) : ∀ t ∈ M, ofL G t := fun t ht => by
  obtain ⟨i, hi⟩ := List.getElem?_of_mem ht
  have h1 := hM.opt i t hi
  unfold opS at h1
  rw [List.getElem?_map] at h1
  cases hr : rows[i]? with
  | none => rw [hr] at h1; cases h1
  | some r => rw [hr] at h1; exact opts_ofL (h r (List.mem_of_getElem? hr)) h1
theorem StL.chg {s : RSt} (h : StL G s) {span pause nx : Nat} {bar : List Txt} {rows : List Row} (hb : ∀ c ∈ bar, ofL G c) (hr : ∀ r ∈ rows, ofL G r.nm) {M : List Txt} (hM : Cod (sitR span bar s.slp rows) M) : StL G (chgR pause s nx bar rows M) where
  nm := fun x hx => by
    obtain ⟨i, r, t, h1, h2, rfl⟩ := setCd_mem hx
    exact hr r (List.mem_of_getElem? h1)
  cd := fun x hx c hc => by
    obtain ⟨i, r, t, h1, h2, rfl⟩ := setCd_mem hx
    cases hc
    exact cod_ofL hr hM _ (List.mem_of_getElem? h2)
  bar := hb
  slp := by
    have go : ∀ (rows : List Row) (slp : Tb Txt (Txt × Nat)), (∀ r ∈ rows, ofL G r.nm ∧ ∀ c, r.cd = some c → ofL G c) → (∀ e ∈ slp, ofL G e.1 ∧ ofL G e.2.1) → ∀ e ∈ restIn pause (s.tk + 1) M slp rows, ofL G e.1 ∧ ofL G e.2.1 := by
      intro rows
      induction rows with
      | nil => intro slp _ hs; exact hs
      | cons r rows ih =>
        intro slp h1 hs
        refine ih _ (fun x hx => h1 x (List.mem_cons_of_mem _ hx)) fun e he => ?_
        rcases restF_mem he with z | ⟨c, hc, rfl⟩
        · exact hs e z
        · exact ⟨(h1 r List.mem_cons_self).2 c hc, (h1 r List.mem_cons_self).1⟩
    exact go s.rows _ (fun r hr => ⟨h.nm r hr, h.cd r hr⟩) fun e he => h.slp e (List.mem_filter.mp he).1
/-- all states of a register -/
def RgL (G : Nat → Prop) (r : Reg) : Prop := ∀ s ∈ r.sts, StL G s
theorem RgL.push {r : Reg} {s : RSt} {nx : Nat} {bar : List Txt} {rows : List Row} {M : List Txt} (h : RgL G r) (hs : r.sts[r.spot]? = some s) (hb : ∀ c ∈ bar, ofL G c) (hr : ∀ r ∈ rows, ofL G r.nm) (hM : Cod (sitR r.span bar s.slp rows) M) :
    RgL G (r.push (chgR r.pause s nx bar rows M)) := fun x hx => by
  rcases List.mem_append.mp hx with hx | hx
  · exact h x (List.mem_of_mem_take hx)
  · rw [List.mem_singleton.mp hx]; exact (h s (List.mem_of_getElem? hs)).chg hb hr hM
theorem RgL.new {span pause : Nat} : RgL G ⟨span, pause, [⟨0, 1, [], [], []⟩], 0⟩ := fun s hs => by
  rw [List.mem_singleton.mp hs]
  exact ⟨fun r hr => (by cases hr), fun r hr => (by cases hr), fun c hc => (by cases hc), fun e he => (by cases he)⟩
end
/-! ### some letters told, the others somehow -/
end L2.DL
/-! SW: what is told, with letters turned. -/
namespace L2.DL
open PySem PySem.Spec PyProof.Rows L2.AS
/-- a row that is told -/
structure Tld where
  nm : Txt
  o : Option Txt
  c : Txt
abbrev Tld.d (x : Tld) : D := .tup [.str x.nm, optD x.o, .str x.c]
end L2.DL
/-! SX: two registers asked alike, the second one with letters turned. -/
namespace L2.DL
open PySem PySem.Spec PyProof.Rows L2.AS
def tNoth : Txt := [110, 111, 116, 104, 105, 110, 103]
def tOther : Txt := [111, 116, 104, 101, 114]
def tUnkn : Txt := [117, 110, 107, 110, 111, 119, 110]
def tTaken : Txt := [116, 97, 107, 101, 110]
def tCode : Txt := [99, 111, 100, 101]
end L2.DL
/-! TA: sorted(list of tuples) whose first items (ints, texts) differ. -/
namespace L2.DL
open PySem PySem.Spec PyProof.Rows
abbrev KI := Sum Int Txt
def kiV : KI → V
  | .inl i => .int i
  | .inr t => .str (sV t)
def kLt (a b : List KI) : Bool := lexLt itemOrd a b
theorem kLt_swo {α : Type} (k : α → List KI) : SrtO.Swo fun x y => kLt (k x) (k y) := by
  refine ⟨fun x y h => ?_, fun x y z h1 h2 => ?_⟩
  · cases h' : kLt (k y) (k x) with
    | false => rfl
    | true =>
      have := lex_trans (O := itemOrd) _ _ _ h h'
      rw [lex_irrefl] at this
      cases this
  · cases h' : kLt (k z) (k x) with
    | false => rfl
    | true =>
      rcases lex_negTrans (O := itemOrd) (k z) (k y) (k x) h' with h | h
      · have : kLt (k z) (k y) = true := h
        rw [this] at h2; cases h2
      · have : kLt (k y) (k x) = true := h
        rw [this] at h1; cases h1
/-- a tuple of the heap, its first items told -/
def IsKey (h : Heap) (v : Value) (ks : List KI) : Prop := ∃ a o us us2 n, v = .ref a ∧ h.get? a = some o ∧ o.cls = .type "tuple" ∧ o.data = .seq (us ++ us2).toArray n ∧ Vals (ks.map kiV) us
theorem IsKey.keeps {h h' : Heap} {v : Value} {ks : List KI} (p : IsKey h v ks) (k : ∀ b o, h.get? b = some o → o.cls = .type "tuple" → h'.get? b = some o) : IsKey h' v ks := by
  obtain ⟨a, o, us, us2, n, e, ho, hc, hd, r⟩ := p
  exact ⟨a, o, us, us2, n, e, k _ _ ho hc, hc, hd, r⟩
/-- two sorted rows of the same things are one -/
theorem srt_uniq {α : Type} {R : α → α → Prop} (as : ∀ x y, R x y → ¬ R y x) : ∀ {l m : List α}, l.Perm m → l.Pairwise R → m.Pairwise R → l = m
  | [], m, p, _, _ => (List.Perm.eq_nil p.symm).symm
  | x :: l, [], p, _, _ => absurd p.length_eq (by simp)
  | x :: l, y :: m, p, h1, h2 => by
    rw [List.pairwise_cons] at h1 h2
    have e : x = y := by
      rcases List.mem_cons.mp (p.mem_iff.mp (List.mem_cons_self (a := x) (l := l))) with e | hx
      · exact e
      · rcases List.mem_cons.mp (p.mem_iff.mpr (List.mem_cons_self (a := y) (l := m))) with e | hy
        · exact e.symm
        · exact absurd (h2.1 x hx) (as _ _ (h1.1 y hy))
    subst e
    rw [srt_uniq as p.cons_inv h1.2 h2.2]
theorem kLt_asym (a b : List KI) (h : kLt a b = true) : ¬ kLt b a = true := fun z => by
  have := (kLt_swo (fun x : List KI => x)).asym a b h
  rw [this] at z; cases z
end L2.DL
/-! TB: d.setdefault(e, f) of an own table, as a statement. -/
namespace L2.DL
open PySem PySem.Spec PyProof.Rows
end L2.DL
/-! TC: what a recorder holds; the entries of its pages. -/
namespace L2.DL
open PySem PySem.Spec PyProof.Rows L2.AS
abbrev pgD (s : RSt) : D := .tup [.int s.tk, .dct (nmKV s.rows), .dct (bKV s.rows)]
abbrev recC (cV a : Addr) (ps : List RSt) (un : Nat) : Cell := .obj cV [("book", .cell a), ("pages", .lst (ps.map pgD)), ("undone", .int un)]
/-- the code of a name on a page -/
def cdP (ps : List RSt) (i : Nat) (w : Txt) : Option Txt := (ps[i]?).bind fun s => cdR s w
def tkP (ps : List RSt) (i : Nat) : Nat := ((ps[i]?).map (·.tk)).getD 0
/-- pages as they are -/
structure PgOk (ps : List RSt) : Prop where
  len : ps.length ≤ 101
  st : ∀ s ∈ ps, ∃ n span, StOk n span s
  asc : ∀ i j, i < ps.length → j < ps.length → tkP ps i = tkP ps j → i = j
structure En where
  f : Nat
  w : Txt
  c : Txt
  l : Option Nat
abbrev enK (e : En) : List KI := [.inl e.f, .inr e.w]
abbrev enLt (e e' : En) : Prop := kLt (enK e) (enK e') = true
def RunTo (ps : List RSt) (w c : Txt) (i j : Nat) : Prop := i ≤ j ∧ (∀ k, i ≤ k → k ≤ j → cdP ps k w = some c) ∧ (i = 0 ∨ cdP ps (i - 1) w ≠ some c)
def isEn (ps : List RSt) (e : En) : Prop := ∃ i j, RunTo ps e.w e.c i j ∧ e.f = tkP ps i ∧ ((j + 1 = ps.length ∧ e.l = none) ∨ (j + 1 < ps.length ∧ cdP ps (j + 1) e.w ≠ some e.c ∧ e.l = some (tkP ps (j + 1))))
structure Ent (ps : List RSt) (E : List En) : Prop where
  so : E.Pairwise enLt
  mem : ∀ e, e ∈ E ↔ isEn ps e
theorem Ent.nd {ps : List RSt} {E : List En} (h : Ent ps E) : E.Nodup := h.so.imp fun {a b} q z => by
  subst z
  have : kLt (enK a) (enK a) = false := lex_irrefl (O := itemOrd) _
  rw [q] at this; cases this
theorem perm_nd {α : Type} [DecidableEq α] : ∀ {l m : List α}, l.Nodup → m.Nodup → (∀ x, x ∈ l ↔ x ∈ m) → l.Perm m := fun {l m} h1 h2 h => (List.perm_ext_iff_of_nodup h1 h2).mpr h
open Classical in
theorem Ent.only {ps : List RSt} {E E' : List En} (h : Ent ps E) (h' : Ent ps E') : E = E' :=
  srt_uniq (fun x y => kLt_asym _ _) (perm_nd h.nd h'.nd fun e => (h.mem e).trans (h'.mem e).symm) h.so h'.so
/-! ### page by page -/
theorem RunTo.up {ps : List RSt} {w c : Txt} {i j : Nat} (h : RunTo ps w c i j) (q : cdP ps (j + 1) w = some c) : RunTo ps w c i (j + 1) := ⟨Nat.le_trans h.1 (by omega), fun k h1 h2 => by
  by_cases e : k = j + 1
  · rw [e]; exact q
  · exact h.2.1 k h1 (by omega), h.2.2⟩
theorem RunTo.down {ps : List RSt} {w c : Txt} {i j : Nat} (h : RunTo ps w c i (j + 1)) (q : i ≠ j + 1) : RunTo ps w c i j := ⟨by have := h.1; omega, fun k h1 h2 => h.2.1 k h1 (by omega), h.2.2⟩
theorem RunTo.at0 {ps : List RSt} {w c : Txt} {i j : Nat} (h : RunTo ps w c i j) : cdP ps j w = some c := h.2.1 j h.1 (Nat.le_refl _)
theorem RunTo.only {ps : List RSt} {w c : Txt} {i i' j : Nat} (h : RunTo ps w c i j) (h' : RunTo ps w c i' j) : i = i' := by
  rcases Nat.lt_trichotomy i i' with q | q | q
  · rcases h'.2.2 with z | z
    · omega
    · exact absurd (h.2.1 (i' - 1) (by omega) (by have := h'.1; omega)) z
  · exact q
  · rcases h.2.2 with z | z
    · omega
    · exact absurd (h'.2.1 (i - 1) (by omega) (by have := h.1; omega)) z
/-- set where there is none -/
def dfl {α : Type} (T : Tb Txt α) (w : Txt) (x : α) : Tb Txt α := match lk w T with
  | some _ => T
  | none => T ++ [(w, x)]
end L2.DL
namespace L2.DL
open PySem PySem.Spec PyProof.Rows L2.AS
end L2.DL
/-! TD: a recorder at hand; how its deeds end. -/
namespace L2.DL
open PySem PySem.Spec PyProof.Rows L2.AS
/-- the pages of a register from its state b on -/
def pgs (r : Reg) (b : Nat) : List RSt := (r.sts.take (r.spot + 1)).drop b
structure VAt (cV cR cS v a : Addr) (r : Reg) (b un n : Nat) (s : RSt) (C : Cs) : Prop where
  A : RAt cR cS a r n s C
  hv : C v = some (recC cV a (pgs r b) un)
  ne : v ≠ a
  b : b ≤ r.spot
  un : un + r.spot < r.sts.length
def Deed.errV (r : Reg) (b un : Nat) (s : RSt) : Deed → Option Er
  | .undo => if r.spot = b then some (.nothing wUndo) else none
  | .redo => if un = 0 then some (.nothing wRedo) else none
  | d => d.err r s
def Deed.un (un : Nat) : Deed → Nat
  | .undo => un + 1
  | .redo => un - 1
  | _ => 0
theorem errV_none {cV cR cS v a : Addr} {r : Reg} {b un n : Nat} {s : RSt} {C : Cs} {d : Deed} (h : VAt cV cR cS v a r b un n s C) (e : d.errV r b un s = none) : d.err r s = none := by
  have h1 := h.b
  have h2 := h.un
  cases d with
  | undo =>
    have e : (if r.spot = b then some (Er.nothing wUndo) else none) = none := e
    show (if r.spot = 0 then some (Er.nothing wUndo) else none) = none
    split at e
    · cases e
    · rename_i q; rw [if_neg (by omega)]
  | redo =>
    have e : (if un = 0 then some (Er.nothing wRedo) else none) = none := e
    show (if r.spot + 1 = r.sts.length then some (Er.nothing wRedo) else none) = none
    split at e
    · cases e
    · rename_i q; rw [if_neg (by omega)]
  | _ => exact e
end L2.DL
namespace L2.DL
open PySem PySem.Spec PyProof.Rows L2.AS
end L2.DL
namespace L2.DL
open PySem PySem.Spec PyProof.Rows L2.AS
/-- what a recorder answers to a deed -/
def AnswV (cV cR cS v a : Addr) (r : Reg) (b un n : Nat) (s : RSt) (d : Deed) (C : Cs) (PR : Ret → Cs → Prop) : Prop := match d.errV r b un s with
  | some (.taken t) => PR (.shr (.tup [.str tTaken, .str t])) C
  | some (.unknown t) => PR (.shr (.tup [.str tUnkn, .str t])) C
  | some (.code t) => nameOk t ∧ ∀ x : Txt, PR (.shr (.tup [.str tCode, .str x])) C
  | some (.nothing w) => PR (.shr (.tup [.str tNoth, .str w])) C
  | none => DeedOut r n s d (fun _ => PR (.shr (.tup [.str tOther, .int 0])) C) fun r' x => PR (.shr x) (cput (cput C a (regC cR cS r')) v (recC cV a (pgs r' b) (d.un un)))
end L2.DL
/-! TE: what a deed makes of a register's states; what the entries tell. -/
namespace L2.DL
open PySem PySem.Spec PyProof.Rows L2.AS
/-- the register behind a deed, and its state -/
inductive Gone (b : Nat) (r : Reg) (s : RSt) (d : Deed) : Reg → RSt → Prop
  | chg (M : List Txt) : d ≠ .undo → d ≠ .redo → DeedOk r s d → Best (sitR r.span (d.bar s) s.slp (d.rows s)) M → Gone b r s d (r.push (chgR r.pause s (d.nx s) (d.bar s) (d.rows s) M)) (chgR r.pause s (d.nx s) (d.bar s) (d.rows s) M)
  | undo (sn : RSt) : d = .undo → b < r.spot → r.sts[r.spot - 1]? = some sn → Gone b r s d { r with spot := r.spot - 1 } sn
  | redo (sn : RSt) : d = .redo → r.sts[r.spot + 1]? = some sn → Gone b r s d { r with spot := r.spot + 1 } sn
theorem push_at {r : Reg} {s : RSt} (h : r.spot < r.sts.length) : (r.push s).sts[(r.push s).spot]? = some s := by
  show (r.sts.take (r.spot + 1) ++ [s])[r.spot + 1]? = some s
  rw [List.getElem?_append_right (by rw [List.length_take]; omega), List.length_take, Nat.min_eq_left (by omega), Nat.sub_self]; rfl
theorem push_mem {r : Reg} {s x : RSt} (h : x ∈ (r.push s).sts) : x ∈ r.sts ∨ x = s := by
  rcases List.mem_append.mp (show x ∈ r.sts.take (r.spot + 1) ++ [s] from h) with h | h
  · exact .inl (List.mem_of_mem_take h)
  · exact .inr (List.mem_singleton.mp h)
section
variable {cV cR cS v a : Addr} {r : Reg} {b un n : Nat} {s : RSt} {d : Deed} {C : Cs} {PR : Ret → Cs → Prop}
/-- where a recorder stands behind a deed that is done -/
structure Went (b un n : Nat) (r : Reg) (s : RSt) (d : Deed) (r' : Reg) (s' : RSt) (un' : Nat) : Prop where
  g : Gone b r s d r' s'
  ok : ROk (n + 1) r'
  s : r'.sts[r'.spot]? = some s'
  b : b ≤ r'.spot
  un : un' + r'.spot < r'.sts.length
theorem AnswV.of (V : VAt cV cR cS v a r b un n s C) (fit : DeedFit s d) (k1 : ∀ (t : Txt) (u : D), PR (.shr (.tup [.str t, u])) C)
    (k2 : ∀ (r' : Reg) (s' : RSt), Went b un n r s d r' s' (d.un un) → d.errV r b un s = none → PR (.shr (toldD s.rows s'.rows)) (cput (cput C a (regC cR cS r')) v (recC cV a (pgs r' b) (d.un un)))) : AnswV cV cR cS v a r b un n s d C PR := by
  have A := V.A
  have hsp := A.ok.spot
  have hb := V.b
  have hu := V.un
  have hn := A.n1
  unfold AnswV
  cases he : d.errV r b un s with
  | some x =>
    cases x with
    | taken t => exact k1 _ _
    | unknown t => exact k1 _ _
    | nothing t => exact k1 _ _
    | code t =>
      refine ⟨?_, fun x => k1 _ _⟩
      have := he
      cases d with
      | undo => exact absurd he (by simp only [Deed.errV]; split <;> simp)
      | redo => exact absurd he (by simp only [Deed.errV]; split <;> simp)
      | add ts => exact absurd he (by simp [Deed.errV, Deed.err])
      | drop ts => exact absurd he (by simp [Deed.errV, Deed.err])
      | ren o m => exact absurd he (by simp only [Deed.errV, Deed.err]; (repeat' split) <;> simp)
      | ban ts =>
        have he : (fstBad r.span ts).map Er.code = some (.code t) := he
        obtain ⟨u, hu, eu⟩ := Option.map_eq_some_iff.mp he
        cases eu
        exact fit.1 t (List.mem_of_find?_eq_some hu)
      | alw ts =>
        have he : (fstBad r.span ts).map Er.code = some (.code t) := he
        obtain ⟨u, hu, eu⟩ := Option.map_eq_some_iff.mp he
        cases eu
        exact fit.1 t (List.mem_of_find?_eq_some hu)
  | none =>
    have dok := Deed.fine A.ok A.st fit (errV_none V he)
    have chg : ∀ (h1 : d ≠ .undo) (h2 : d ≠ .redo), (∀ (m : Nat) (pl : List Nat), L2.AS.Crowd (prb (sitR r.span (d.bar s) s.slp (d.rows s))) m pl → PR (.shr (.tup [.str tOther, .int 0])) C) ∧
        (∀ (M : List Txt), Best (sitR r.span (d.bar s) s.slp (d.rows s)) M → ROk (n + 1) (r.push (chgR r.pause s (d.nx s) (d.bar s) (d.rows s) M)) → PR (.shr (toldD s.rows (setCd (d.rows s) M))) (cput (cput C a (regC cR cS (r.push (chgR r.pause s (d.nx s) (d.bar s) (d.rows s) M)))) v (recC cV a (pgs (r.push (chgR r.pause s (d.nx s) (d.bar s) (d.rows s) M)) b) (d.un un)))) := fun h1 h2 =>
      ⟨fun m pl c => k1 _ _, fun M hM ok' => k2 _ _ ⟨.chg M h1 h2 dok hM, ok', push_at hsp, by show b ≤ r.spot + 1; omega, by
        have e0 : d.un un = 0 := by cases d <;> first | rfl | exact absurd rfl h1 | exact absurd rfl h2
        rw [e0]; exact (by have := ok'.spot; omega)⟩ he⟩
    cases d with
    | undo =>
      have hne : r.spot ≠ b := fun z => by
        have he : (if r.spot = b then some (Er.nothing wUndo) else none) = none := he
        rw [if_pos z] at he; cases he
      exact fun sn hsn => k2 _ sn ⟨.undo sn rfl (by omega) hsn, (A.ok.go (by omega)).mono (by omega) (by omega), hsn, by show b ≤ r.spot - 1; omega, by show un + 1 + (r.spot - 1) < r.sts.length; omega⟩ he
    | redo =>
      have hne : un ≠ 0 := fun z => by
        have he : (if un = 0 then some (Er.nothing wRedo) else none) = none := he
        rw [if_pos z] at he; cases he
      exact fun sn hsn => k2 _ sn ⟨.redo sn rfl hsn, (A.ok.go (by omega)).mono (by omega) (by omega), hsn, by show b ≤ r.spot + 1; omega, by show un - 1 + (r.spot + 1) < r.sts.length; omega⟩ he
    | add ts => exact chg (by simp) (by simp)
    | drop ts => exact chg (by simp) (by simp)
    | ren o m => exact chg (by simp) (by simp)
    | ban ts => exact chg (by simp) (by simp)
    | alw ts => exact chg (by simp) (by simp)
/-- a property of all states goes on -/
theorem Gone.all {Q : RSt → Prop} {r' : Reg} {s' : RSt} (g : Gone b r s d r' s') (h : ∀ x ∈ r.sts, Q x) (hn : ∀ M, d ≠ .undo → d ≠ .redo → DeedOk r s d → Best (sitR r.span (d.bar s) s.slp (d.rows s)) M → Q (chgR r.pause s (d.nx s) (d.bar s) (d.rows s) M)) : ∀ x ∈ r'.sts, Q x := by
  cases g with
  | chg M h1 h2 h3 h4 =>
    intro x hx
    rcases push_mem hx with hx | rfl
    · exact h x hx
    · exact hn M h1 h2 h3 h4
  | undo sn => exact h
  | redo sn => exact h
end
/-- states by their clocks -/
def TkId (r : Reg) : Prop := ∀ (i : Nat) (s : RSt), r.sts[i]? = some s → s.tk = i
theorem Gone.tk {b : Nat} {r : Reg} {s : RSt} {d : Deed} {r' : Reg} {s' : RSt} (g : Gone b r s d r' s') (hs : r.sts[r.spot]? = some s) (h : TkId r) : TkId r' := by
  have hl := (List.getElem?_eq_some_iff.mp hs).1
  cases g with
  | chg M h1 h2 h3 h4 =>
    intro i x hx
    have hx : (r.sts.take (r.spot + 1) ++ [_])[i]? = some x := hx
    by_cases hi : i < r.spot + 1
    · rw [List.getElem?_append_left (by rw [List.length_take]; omega), List.getElem?_take_of_lt hi] at hx
      exact h i x hx
    · rw [List.getElem?_append_right (by rw [List.length_take]; omega), List.length_take, Nat.min_eq_left (by omega)] at hx
      have hi2 : i = r.spot + 1 := by
        have := (List.getElem?_eq_some_iff.mp hx).1
        simp only [List.length_cons, List.length_nil] at this
        omega
      subst hi2
      rw [Nat.sub_self] at hx
      cases hx
      show s.tk + 1 = r.spot + 1
      rw [h _ _ hs]
  | undo sn => exact h
  | redo sn => exact h
/-- no code is had twice -/
def CdNd (s : RSt) : Prop := (s.rows.map (·.cd)).Nodup
/-! ### pages of a register with told clocks -/
/-- pages with ascending clocks, no code twice -/
structure PgA (ps : List RSt) : Prop where
  ok : PgOk ps
  lt : ∀ i j, i < j → j < ps.length → tkP ps i < tkP ps j
  nd : ∀ s ∈ ps, CdNd s
theorem PgA.le {ps : List RSt} (h : PgA ps) {i j : Nat} (hi : i < ps.length) (hj : j < ps.length) : tkP ps i ≤ tkP ps j ↔ i ≤ j := by
  rcases Nat.lt_trichotomy i j with q | q | q
  · have := h.lt i j q hj; omega
  · subst q; omega
  · have := h.lt j i q hi; omega
theorem RunTo.cut {ps : List RSt} {w c : Txt} {i j k : Nat} (r : RunTo ps w c i j) (h1 : i ≤ k) (h2 : k ≤ j) : RunTo ps w c i k := ⟨h1, fun m a b => r.2.1 m a (by omega), r.2.2⟩
end L2.DL
/-! TF: a recorder behind any deed; entries shown and compared. -/
namespace L2.DL
open PySem PySem.Spec PyProof.Rows L2.AS
section
variable {cV cR cS v a : Addr} {r : Reg} {b un n : Nat} {s : RSt} {d : Deed} {C : Cs} {PR : Ret → Cs → Prop}
/-- where a recorder stands behind a deed, done or refused -/
structure Aft (cV cR cS v a : Addr) (b un n : Nat) (r : Reg) (s : RSt) (d : Deed) (C : Cs) (x : D) (r' : Reg) (s' : RSt) (un' : Nat) (C2 : Cs) : Prop where
  oth : ∀ z, z ≠ a → z ≠ v → C2 z = C z
  ca : C2 a = some (regC cR cS r')
  cv : C2 v = some (recC cV a (pgs r' b) un')
  ok : ROk (n + 1) r'
  hs : r'.sts[r'.spot]? = some s'
  hb : b ≤ r'.spot
  hun : un' + r'.spot < r'.sts.length
  how : (r' = r ∧ s' = s ∧ un' = un ∧ ∃ (t : Txt) (u : D), x = .tup [.str t, u]) ∨ (Gone b r s d r' s' ∧ d.errV r b un s = none ∧ un' = d.un un ∧ x = toldD s.rows s'.rows)
theorem AnswV.any (V : VAt cV cR cS v a r b un n s C) (fit : DeedFit s d) (k : ∀ x r' s' un' C2, Aft cV cR cS v a b un n r s d C x r' s' un' C2 → PR (.shr x) C2) : AnswV cV cR cS v a r b un n s d C PR := by
  refine AnswV.of V fit (fun t u => ?_) fun r' s' w he => ?_
  · exact k _ r s un C ⟨fun _ _ _ => rfl, V.A.c, V.hv, V.A.ok.mono (by omega) V.A.n1, V.A.s, V.b, V.un, .inl ⟨rfl, rfl, rfl, t, u, rfl⟩⟩
  · exact k _ r' s' (d.un un) _ ⟨fun z h1 h2 => by rw [cput_ne h2, cput_ne h1], by rw [cput_ne (Ne.symm V.ne)]; exact cput_same, cput_same, w.ok, w.s, w.b, w.un, .inr ⟨w.g, he, rfl, rfl⟩⟩
theorem Aft.any {Q : RSt → Prop} {x : D} {r' : Reg} {s' : RSt} {un' : Nat} {C2 : Cs} (h : Aft cV cR cS v a b un n r s d C x r' s' un' C2) (h0 : ∀ x ∈ r.sts, Q x) (hn : ∀ M, d ≠ .undo → d ≠ .redo → DeedOk r s d → Best (sitR r.span (d.bar s) s.slp (d.rows s)) M → Q (chgR r.pause s (d.nx s) (d.bar s) (d.rows s) M)) : ∀ x ∈ r'.sts, Q x := by
  rcases h.how with ⟨e, _⟩ | ⟨g, _⟩
  · rw [e]; exact h0
  · exact g.all h0 hn
end
/-! ### what entries hold -/
theorem small_all : ((List.range 128).all fun n => shwB 0 8 (.int (n : Int))) = true := by decide +kernel
theorem shw_small {n : Nat} (h : n < 128) : Shw 0 8 (.int n) := Shw.of (List.all_eq_true.mp small_all n (List.mem_range.mpr h))
end L2.DL
/-! TG: target = d.pop(e) of an own table. -/
namespace L2.DL
open PySem PySem.Spec PyProof.Rows
end L2.DL
namespace L2.DL
open PySem PySem.Spec PyProof.Rows
/-- two ways that meet again -/
theorem i_join {k : Bool} {m1 m2 : SM} {E : EX} {nx bk ct : DL.Env → Cs → Prop} {rt : Ret → Cs → Prop} {env : DL.Env} {C : Cs} (I : DL.Env → Cs → Prop)
    (h : ∀ env' C', I env' C' → nx env' C')
    (h1 : k = true → ∀ nx' : DL.Env → Cs → Prop, (∀ env' C', I env' C' → nx' env' C') → m1 E ⟨nx', rt, bk, ct⟩ env C)
    (h2 : k = false → ∀ nx' : DL.Env → Cs → Prop, (∀ env' C', I env' C' → nx' env' C') → m2 E ⟨nx', rt, bk, ct⟩ env C) : if k = true then m1 E ⟨nx, rt, bk, ct⟩ env C else m2 E ⟨nx, rt, bk, ct⟩ env C := by
  cases k with
  | true => exact h1 rfl nx h
  | false => exact h2 rfl nx h
end L2.DL
namespace L2.DL
open PySem PySem.Spec PyProof.Rows
end L2.DL
/-! UD: chains and circles of changed names, told as functions. -/
namespace L2.DL
open PySem PySem.Spec PyProof.Rows L2.AS
/-- two codings of different codes: of some names, of all -/
structure Chg (N : List Txt) (f : Txt → Option Txt) (s : Txt → Txt) : Prop where
  nd : N.Nodup
  si : ∀ x ∈ N, ∀ y ∈ N, s x = s y → x = y
  fi : ∀ x ∈ N, ∀ y ∈ N, f x ≠ none → f x = f y → x = y
/-- a row from x on, up to its end or to x again -/
structure RowC (nx : Txt → Option Txt) (x : Txt) (R : List Txt) : Prop where
  hd : R[0]? = some x
  st : ∀ (i : Nat) a b, R[i]? = some a → R[i + 1]? = some b → nx a = some b ∧ b ≠ x
  en : ∀ (i : Nat) a, R[i]? = some a → R[i + 1]? = none → nx a = none ∨ nx a = some x
section
variable {nx : Txt → Option Txt} {x : Txt}
theorem RowC.nodup {R : List Txt} (h : RowC nx x R) (inj : ∀ a ∈ R, ∀ b ∈ R, nx a ≠ none → nx a = nx b → a = b) : R.Nodup := by
  have key : ∀ (i j : Nat) a, R[i]? = some a → R[j]? = some a → i = j := by
    intro i
    induction i with
    | zero =>
      intro j a ha hb
      cases j with
      | zero => rfl
      | succ j =>
        rw [h.hd] at ha
        have hl := (List.getElem?_eq_some_iff.mp hb).1
        exact absurd (Option.some.inj ha).symm (h.st j _ a (List.getElem?_eq_getElem (by omega)) hb).2
    | succ i ih =>
      intro j a ha hb
      have hl := (List.getElem?_eq_some_iff.mp ha).1
      have ea : R[i]? = some (R[i]'(by omega)) := List.getElem?_eq_getElem (by omega)
      have s1 := h.st i _ a ea ha
      cases j with
      | zero =>
        rw [h.hd] at hb
        exact absurd (Option.some.inj hb).symm s1.2
      | succ j =>
        have hl2 := (List.getElem?_eq_some_iff.mp hb).1
        have eb : R[j]? = some (R[j]'(by omega)) := List.getElem?_eq_getElem (by omega)
        have s2 := h.st j _ a eb hb
        have := inj _ (List.mem_of_getElem? ea) _ (List.mem_of_getElem? eb) (by rw [s1.1]; simp) (s1.1.trans s2.1.symm)
        rw [← this] at eb
        rw [ih j _ ea eb]
  refine List.pairwise_iff_getElem.mpr fun i j hi hj hij e => ?_
  have := key i j _ (List.getElem?_eq_getElem hi) (by rw [e]; exact List.getElem?_eq_getElem hj)
  omega
end
section
variable {N : List Txt} {f : Txt → Option Txt} {s : Txt → Txt}
theorem Chn.chg (h : Chn N f s) : Chg N f s := ⟨h.nd, h.si, h.fi⟩
end
end L2.DL
/-! VC: what a planner does, as a relation between its states. -/
namespace L2.DL
open PySem PySem.Spec PyProof.Rows L2.AS
/-- the codes, the circles that wait, the steps so far -/
structure PlS where
  cur : Tb Txt Txt
  wt : List (List Txt)
  st : List (Txt × Txt)
def PlS.put (s : PlS) (x c : Txt) : PlS := ⟨pt s.cur x c, s.wt, s.st ++ [(x, c)]⟩
def PlS.out (s : PlS) (R : List Txt) : PlS := ⟨s.cur, s.wt.filter fun R' => !decide (R' = R), s.st⟩
/-- the oldest name of a circle that has a free option, and the option -/
def spareF (S : List Cl) (cur : Tb Txt Txt) (R : List Txt) : Option (Txt × Txt) := S.findSome? fun c => if c.nm ∈ R then ((c.opts.filter fun o => !decide (o ∈ cur.map (·.2))).head?).map fun o => (c.nm, o) else none
def fstC (S : List Cl) (s : PlS) : Option (List Txt × (Txt × Txt)) := s.wt.findSome? fun R => (spareF S s.cur R).map fun p => (R, p)
def plL (R : List Txt) (x : Txt) : Nat := (fstIx x R).getD 0
def turnL (R : List Txt) (x : Txt) : List Txt := R.drop (plL R x) ++ R.take (plL R x)
/-- gives of a circle, the spare code first -/
def circG (g : Txt → Txt) (R : List Txt) (p : Txt × Txt) : List (Txt × Txt) := p :: (turnL R p.1).reverse.map fun y => (y, g y)
inductive RunR (S : List Cl) (g : Txt → Txt) : Option (List (Txt × Txt)) → PlS → PlS → Prop
  | stop {s : PlS} : fstC S s = none → RunR S g none s s
  | turn {s s1 s2 : PlS} {R : List Txt} {p : Txt × Txt} : fstC S s = some (R, p) → RunR S g (some (circG g R p)) (s.out R) s1 → RunR S g none s1 s2 → RunR S g none s s2
  | nil {s : PlS} : RunR S g (some []) s s
  | cons {s s1 s2 : PlS} {x c : Txt} {l : List (Txt × Txt)} : RunR S g none (s.put x c) s1 → RunR S g (some l) s1 s2 → RunR S g (some ((x, c) :: l)) s s2
section
variable {S : List Cl} {g : Txt → Txt}
theorem RunR.append {l m : List (Txt × Txt)} {s s1 s2 : PlS} (h : RunR S g (some l) s s1) (h2 : RunR S g (some m) s1 s2) : RunR S g (some (l ++ m)) s s2 := by
  generalize ho : some l = o at h
  induction h generalizing l with
  | stop _ => cases ho
  | turn _ _ _ _ _ => cases ho
  | nil => cases ho; exact h2
  | cons h3 h4 _ ih => cases ho; exact .cons h3 (ih h2 rfl)
theorem RunR.one {x c : Txt} {s s1 : PlS} (h : RunR S g none (s.put x c) s1) : RunR S g (some [(x, c)]) s s1 := .cons h .nil
theorem RunR.snoc {l : List (Txt × Txt)} {x c : Txt} {s s1 s2 : PlS} (h : RunR S g (some l) s s1) (h2 : RunR S g none (s1.put x c) s2) : RunR S g (some (l ++ [(x, c)])) s s2 := h.append h2.one
/-! ### how much is to come -/
def potW (l : List (List Txt)) : Nat := (l.map fun R => R.length + 1).sum
def PlS.pot (s : PlS) : Nat := s.st.length + potW s.wt
def runL : Option (List (Txt × Txt)) → Nat
  | none => 0
  | some l => l.length
theorem potW_out {R : List Txt} : ∀ {l : List (List Txt)}, R ∈ l → potW (l.filter fun R' => !decide (R' = R)) + (R.length + 1) ≤ potW l := by
  have le : ∀ l : List (List Txt), potW (l.filter fun R' => !decide (R' = R)) ≤ potW l := fun l => by
    induction l with
    | nil => exact Nat.le_refl _
    | cons x l ih =>
      unfold potW at *
      by_cases e : x = R
      · rw [List.filter_cons_of_neg (by simp [e]), List.map_cons, List.sum_cons]; omega
      · rw [List.filter_cons_of_pos (by simp [e]), List.map_cons, List.map_cons, List.sum_cons, List.sum_cons]; omega
  intro l
  induction l with
  | nil => intro h; cases h
  | cons x l ih =>
    intro h
    have l1 := le l
    unfold potW at *
    by_cases e : x = R
    · rw [List.filter_cons_of_neg (by simp [e]), List.map_cons, List.sum_cons, e]; omega
    · rw [List.filter_cons_of_pos (by simp [e]), List.map_cons, List.map_cons, List.sum_cons, List.sum_cons]
      have := ih ((List.mem_cons.mp h).resolve_left fun z => e z.symm)
      omega
theorem fstC_mem {s : PlS} {R : List Txt} {p : Txt × Txt} (h : fstC S s = some (R, p)) : R ∈ s.wt ∧ spareF S s.cur R = some p := by
  obtain ⟨R', hR, e⟩ := List.exists_of_findSome?_eq_some h
  obtain ⟨q, h1, h2⟩ := Option.map_eq_some_iff.mp e
  cases h2
  exact ⟨hR, h1⟩
theorem turnL_len {R : List Txt} {x : Txt} : (turnL R x).length = R.length := by
  unfold turnL
  rw [List.length_append, List.length_drop, List.length_take]; omega
theorem circG_len {R : List Txt} {p : Txt × Txt} : (circG g R p).length = R.length + 1 := by
  unfold circG
  rw [List.length_cons, List.length_map, List.length_reverse, turnL_len]
/-- waiting circles become fewer; steps and codes are bounded -/
theorem RunR.bound {o : Option (List (Txt × Txt))} {s a : PlS} (h : RunR S g o s a) : a.pot ≤ s.pot + runL o ∧ a.wt.length ≤ s.wt.length ∧ (∀ R ∈ a.wt, R ∈ s.wt) ∧ a.cur.length + s.st.length ≤ s.cur.length + a.st.length ∧ s.st.length ≤ a.st.length := by
  induction h with
  | stop e => exact ⟨Nat.le_refl _, Nat.le_refl _, fun _ h => h, Nat.le_refl _, Nat.le_refl _⟩
  | @turn s s1 s2 R p e h1 h2 ih1 ih2 =>
    obtain ⟨a1, a2, a3, a4, a5⟩ := ih1
    obtain ⟨b1, b2, b3, b4, b5⟩ := ih2
    have hm := (fstC_mem e).1
    have hp := potW_out hm
    have hl : (s.out R).wt.length ≤ s.wt.length := List.length_filter_le _ _
    have e1 : (s.out R).pot + (R.length + 1) ≤ s.pot := by
      show s.st.length + potW (s.wt.filter _) + _ ≤ s.st.length + potW s.wt
      omega
    have e2 : runL (some (circG g R p)) = R.length + 1 := circG_len
    have e3 : (s.out R).cur.length = s.cur.length := rfl
    have e4 : (s.out R).st.length = s.st.length := rfl
    have e5 : runL none = 0 := rfl
    rw [e5] at b1 ⊢
    rw [e2] at a1
    exact ⟨by omega, by omega, fun X hX => (List.mem_filter.mp (a3 X (b3 X hX))).1, by omega, by omega⟩
  | nil => exact ⟨Nat.le_refl _, Nat.le_refl _, fun _ h => h, Nat.le_refl _, Nat.le_refl _⟩
  | @cons s s1 s2 x c l h1 h2 ih1 ih2 =>
    obtain ⟨a1, a2, a3, a4, a5⟩ := ih1
    obtain ⟨b1, b2, b3, b4, b5⟩ := ih2
    have e1 : (s.put x c).pot = s.pot + 1 := by
      show (s.st ++ [(x, c)]).length + _ = s.st.length + _ + 1
      rw [List.length_append]
      show s.st.length + 1 + potW s.wt = _
      omega
    have e2 : (s.put x c).wt = s.wt := rfl
    have e3 : (s.put x c).st.length = s.st.length + 1 := List.length_append
    have e4 : (s.put x c).cur.length ≤ s.cur.length + 1 := pt_len
    have e5 : runL none = 0 := rfl
    have e6 : runL (some ((x, c) :: l)) = l.length + 1 := rfl
    have e7 : runL (some l) = l.length := rfl
    rw [e2] at a2 a3
    rw [e7] at b1
    exact ⟨by omega, by omega, fun X hX => a3 X (b3 X hX), by omega, by omega⟩
/-! ### the same as a function -/
end
/-! ### a planner at hand -/
/-- what a planner works with -/
structure PlOk (S : List Cl) (sl : Tb Txt Txt) (g : Txt → Txt) (s : PlS) : Prop where
  sg : SGd S
  go : ∀ R ∈ s.wt, ∀ n ∈ R, lk n sl = some (g n)
  wl : ∀ R ∈ s.wt, R.length ≤ 1000
  wa : ∀ R ∈ s.wt, ∀ n ∈ R, asc n
  wn : s.wt.length ≤ 1000
  p : s.pot ≤ 100000
  c : s.cur.length ≤ 100000 + s.st.length
/-- all other cells stay -/
def Oth (v b1 b2 : Addr) (C C' : Cs) : Prop := ∀ x, x ≠ v → x ≠ b1 → x ≠ b2 → C' x = C x
theorem Oth.refl {v b1 b2 : Addr} {C : Cs} : Oth v b1 b2 C C := fun _ _ _ _ => rfl
theorem Oth.trans {v b1 b2 : Addr} {C C1 C2 : Cs} (h : Oth v b1 b2 C C1) (h' : Oth v b1 b2 C1 C2) : Oth v b1 b2 C C2 := fun x a b c => (h' x a b c).trans (h x a b c)
theorem PlOk.run {S : List Cl} {sl : Tb Txt Txt} {g : Txt → Txt} {s a : PlS} {o : Option (List (Txt × Txt))} (k : PlOk S sl g s) (h : RunR S g o s a) (hp : s.pot + runL o ≤ 100000) : PlOk S sl g a := by
  obtain ⟨a1, a2, a3, a4, a5⟩ := h.bound
  have := k.c
  have := k.wn
  exact ⟨k.sg, fun R hR => k.go R (a3 R hR), fun R hR => k.wl R (a3 R hR), fun R hR => k.wa R (a3 R hR), by omega, by omega, by omega⟩
theorem PlOk.out {S : List Cl} {sl : Tb Txt Txt} {g : Txt → Txt} {s : PlS} {R : List Txt} (k : PlOk S sl g s) (hR : R ∈ s.wt) : PlOk S sl g (s.out R) ∧ (s.out R).pot + (R.length + 1) ≤ s.pot ∧ (s.out R).wt.length + 1 ≤ s.wt.length := by
  have hp := potW_out hR
  have e1 : (s.out R).pot + (R.length + 1) ≤ s.pot := by
    show s.st.length + potW (s.wt.filter _) + _ ≤ s.st.length + potW s.wt
    omega
  have hl : (s.out R).wt.length + 1 ≤ s.wt.length := by
    show (s.wt.filter fun R' => !decide (R' = R)).length + 1 ≤ _
    have : ∀ l : List (List Txt), R ∈ l → (l.filter fun R' => !decide (R' = R)).length + 1 ≤ l.length := fun l => by
      induction l with
      | nil => intro h; cases h
      | cons x l ih =>
        intro h
        by_cases e : x = R
        · rw [List.filter_cons_of_neg (by simp [e]), List.length_cons]
          have := List.length_filter_le (fun R' => !decide (R' = R)) l
          omega
        · rw [List.filter_cons_of_pos (by simp [e]), List.length_cons, List.length_cons]
          have := ih ((List.mem_cons.mp h).resolve_left fun z => e z.symm)
          omega
    exact this _ hR
  have hw := k.wn
  have hp0 := k.p
  exact ⟨⟨k.sg, fun X hX => k.go X (List.mem_filter.mp hX).1, fun X hX => k.wl X (List.mem_filter.mp hX).1, fun X hX => k.wa X (List.mem_filter.mp hX).1, by omega, by omega, k.c⟩, e1, hl⟩
end L2.DL
/-! VD: the circles of two codings. -/
namespace L2.DL
open PySem PySem.Spec PyProof.Rows L2.AS
/-- a circle -/
structure CirR (nx : Txt → Option Txt) (R : List Txt) : Prop where
  ne : R ≠ []
  nd : R.Nodup
  st : ∀ (i : Nat) a b, R[i]? = some a → R[i + 1]? = some b → nx a = some b
  la : ∀ (i : Nat) a, R[i]? = some a → R[i + 1]? = none → nx a = R[0]?
section
variable {N : List Txt} {f : Txt → Option Txt} {s : Txt → Txt}
theorem CirR.next {nx : Txt → Option Txt} {R : List Txt} (c : CirR nx R) {y z : Txt} (hy : y ∈ R) (e : nx y = some z) : z ∈ R := by
  obtain ⟨i, hi⟩ := List.getElem?_of_mem hy
  cases hb : R[i + 1]? with
  | none =>
    have := c.la i y hi hb
    rw [e] at this
    exact List.mem_of_getElem? this.symm
  | some b =>
    have := c.st i y b hi hb
    rw [e] at this; cases this
    exact List.mem_of_getElem? hb
theorem CirR.sub {nx : Txt → Option Txt} {R R' : List Txt} (c : CirR nx R) (c' : CirR nx R') {m : Txt} (h1 : m ∈ R) (h2 : m ∈ R') : ∀ y ∈ R, y ∈ R' := by
  obtain ⟨i, hi⟩ := List.getElem?_of_mem h1
  have up : ∀ k y, R[i + k]? = some y → y ∈ R' := fun k => by
    induction k with
    | zero => intro y e; rw [Nat.add_zero, hi] at e; cases e; exact h2
    | succ k ih =>
      intro y e
      have hl := (List.getElem?_eq_some_iff.mp e).1
      have hy : R[i + k]? = some (R[i + k]'(by omega)) := List.getElem?_eq_getElem _
      exact c'.next (ih _ hy) (c.st (i + k) _ _ hy e)
  have hl := (List.getElem?_eq_some_iff.mp hi).1
  have la : R[i + (R.length - 1 - i)]? = some (R[R.length - 1]'(by omega)) := by rw [show i + (R.length - 1 - i) = R.length - 1 by omega]; exact List.getElem?_eq_getElem _
  have hd : ∀ y, R[0]? = some y → y ∈ R' := fun y e => by
    have h1 := up _ _ la
    have h2 := c.la (R.length - 1) _ (List.getElem?_eq_getElem (by omega)) (by rw [show R.length - 1 + 1 = R.length by omega]; exact List.getElem?_eq_none (Nat.le_refl _))
    rw [e] at h2
    exact c'.next h1 h2
  have all : ∀ (k : Nat) y, R[k]? = some y → y ∈ R' := fun k => by
    induction k with
    | zero => exact hd
    | succ k ih =>
      intro y e
      have hl := (List.getElem?_eq_some_iff.mp e).1
      have hy : R[k]? = some (R[k]'(by omega)) := List.getElem?_eq_getElem _
      exact c'.next (ih _ hy) (c.st k _ _ hy e)
  intro y hy
  obtain ⟨k, hk⟩ := List.getElem?_of_mem hy
  exact all k y hk
end
def opO (S : List Cl) (n : Txt) : List Txt := ((S.find? fun c => decide (c.nm = n)).map (·.opts)).getD []
/-! ### circles for which no code is free -/
/-- all options of the circles of W are had by names that never move -/
def ClosW (S : List Cl) (fl : Tb Txt Txt) (rm : List Txt) (cs W : List (List Txt)) : Prop := ∀ R ∈ W, ∀ n ∈ R, ∀ c ∈ S, c.nm = n → ∀ o ∈ c.opts, ∃ m, (m, o) ∈ fl ∧ m ∉ rm ∧ ∀ R' ∈ cs, m ∈ R' → R' ∈ W
/-- the stuck circles -/
structure IsStk (S : List Cl) (fl : Tb Txt Txt) (rm : List Txt) (cs W : List (List Txt)) : Prop where
  fi : ∃ p : List Txt → Bool, W = cs.filter p
  cl : ClosW S fl rm cs W
  mx : ∀ W' : List (List Txt), (∀ R ∈ W', R ∈ cs) → ClosW S fl rm cs W' → ∀ R ∈ W', R ∈ W
theorem IsStk.only {S : List Cl} {fl : Tb Txt Txt} {rm : List Txt} {cs W W' : List (List Txt)} (h : IsStk S fl rm cs W) (h' : IsStk S fl rm cs W') : W = W' := by
  have a := h.mx W' (fun R hR => by obtain ⟨p, e⟩ := h'.fi; rw [e] at hR; exact (List.mem_filter.mp hR).1) h'.cl
  have b := h'.mx W (fun R hR => by obtain ⟨p, e⟩ := h.fi; rw [e] at hR; exact (List.mem_filter.mp hR).1) h.cl
  obtain ⟨p, e⟩ := h.fi
  obtain ⟨p', e'⟩ := h'.fi
  rw [e] at a b ⊢
  rw [e'] at a b ⊢
  refine List.filter_congr fun R hR => ?_
  have h1 : p R = true → p' R = true := fun z => (List.mem_filter.mp (b R (List.mem_filter.mpr ⟨hR, z⟩))).2
  have h2 : p' R = true → p R = true := fun z => (List.mem_filter.mp (a R (List.mem_filter.mpr ⟨hR, z⟩))).2
  cases q : p R <;> cases q' : p' R <;> simp_all
end L2.DL
/-! VF: what a planner's run leaves as it is. -/
namespace L2.DL
open PySem PySem.Spec PyProof.Rows L2.AS
abbrev occ (c : Tb Txt Txt) (o : Txt) : Prop := ∃ m, lk m c = some o
def putsT (c : Tb Txt Txt) (l : List (Txt × Txt)) : Tb Txt Txt := l.foldl (fun c p => pt c p.1 p.2) c
def InjT (c : Tb Txt Txt) : Prop := ∀ m m' o, lk m c = some o → lk m' c = some o → m = m'
/-- steps that can be done -/
def pathF (S : List Cl) : Tb Txt Txt → List (Txt × Txt) → Option (Tb Txt Txt)
  | c, [] => some c
  | c, (y, x) :: l => if x ∈ opO S y ∧ x ∉ c.map (·.2) then pathF S (pt c y x) l else none
theorem put_inj {c : Tb Txt Txt} {y x : Txt} (i : InjT c) (fr : ¬ occ c x) : InjT (pt c y x) := fun m m' o h h' => by
  rw [lk_pt] at h h'
  by_cases e : m = y
  · by_cases e' : m' = y
    · rw [e, e']
    · rw [if_pos e] at h
      rw [if_neg e'] at h'
      cases h
      exact absurd ⟨m', h'⟩ fr
  · rw [if_neg e] at h
    by_cases e' : m' = y
    · rw [if_pos e'] at h'
      cases h'
      exact absurd ⟨m, h⟩ fr
    · rw [if_neg e'] at h'
      exact i m m' o h h'
/-- a circle by the codes that are had -/
structure CirC (S : List Cl) (g : Txt → Txt) (c : Tb Txt Txt) (R : List Txt) : Prop where
  ne : R ≠ []
  nd : R.Nodup
  st : ∀ (i : Nat) a b, R[i]? = some a → R[i + 1]? = some b → lk b c = some (g a)
  la : ∀ (i : Nat) a b, R[i]? = some a → R[i + 1]? = none → R[0]? = some b → lk b c = some (g a)
  op : ∀ n ∈ R, g n ∈ opO S n
section
variable {S : List Cl} {g : Txt → Txt}
theorem CirC.congr {c d : Tb Txt Txt} {R : List Txt} (h : CirC S g c R) (e : ∀ n ∈ R, lk n c = lk n d) : CirC S g d R :=
  ⟨h.ne, h.nd, fun i a b h1 h2 => by rw [← e b (List.mem_of_getElem? h2)]; exact h.st i a b h1 h2, fun i a b h1 h2 h3 => by rw [← e b (List.mem_of_getElem? h3)]; exact h.la i a b h1 h2 h3, h.op⟩
end
end L2.DL
/-! VG: a planner's run as a whole. -/
namespace L2.DL
open PySem PySem.Spec PyProof.Rows L2.AS
structure GdP (S : List Cl) (g : Txt → Txt) (s : PlS) : Prop where
  nd : (ks s.cur).Nodup
  inj : InjT s.cur
  cir : ∀ R ∈ s.wt, CirC S g s.cur R
  pw : s.wt.Pairwise fun R R' => ∀ y ∈ R, y ∉ R'
/-- the options of some circles are had by those who had them at the beginning -/
def JW (S : List Cl) (B : Tb Txt Txt) (W : List (List Txt)) (c : Tb Txt Txt) : Prop := ∀ R ∈ W, ∀ n ∈ R, ∀ o ∈ opO S n, ∃ m, lk m B = some o ∧ lk m c = some o
structure PostP (S : List Cl) (g : Txt → Txt) (B : Tb Txt Txt) (s : PlS) (l : List (Txt × Txt)) (h h' : Option Txt) (a : PlS) : Prop where
  p1 : ∀ n, (∀ R ∈ s.wt, n ∉ R) → lk n a.cur = lk n (putsT s.cur l)
  p2 : ∃ p : List Txt → Bool, a.wt = s.wt.filter p
  p3 : ∀ R ∈ s.wt, R ∉ a.wt → ∀ n ∈ R, lk n a.cur = some (g n)
  p4 : ∀ R ∈ a.wt, ∀ n ∈ R, lk n a.cur = lk n s.cur
  p5 : ∀ o, occ a.cur o ↔ (occ s.cur o ∨ h = some o) ∧ h' ≠ some o
  p6 : GdP S g a
  p7 : ∃ m, a.st = s.st ++ m ∧ pathF S s.cur m = some a.cur ∧ m.length + potW a.wt = potW s.wt + l.length
  p8 : ∀ n, n ∈ ks a.cur ↔ n ∈ ks (putsT s.cur l)
  p9 : ∀ W, (∀ R ∈ W, R ∈ a.wt) → JW S B W s.cur → JW S B W a.cur
section
variable {S : List Cl} {g : Txt → Txt} {B : Tb Txt Txt}
theorem pw_flt {l : List (List Txt)} {p : List Txt → Bool} (h : l.Pairwise fun R R' => ∀ y ∈ R, y ∉ R') : (l.filter p).Pairwise fun R R' => ∀ y ∈ R, y ∉ R' := h.sublist List.filter_sublist
theorem GdP.out {s : PlS} {R : List Txt} (k : GdP S g s) : GdP S g (s.out R) := ⟨k.nd, k.inj, fun X hX => k.cir X (List.mem_filter.mp hX).1, pw_flt k.pw⟩
theorem GdP.put {s : PlS} {y x : Txt} (k : GdP S g s) (fr : ¬ occ s.cur x) (hy : ∀ R ∈ s.wt, y ∉ R) : GdP S g (s.put y x) :=
  ⟨pt_nd k.nd, put_inj k.inj fr, fun X hX => (k.cir X hX).congr fun n hn => by
    show lk n s.cur = lk n (pt s.cur y x)
    rw [lk_pt, if_neg fun z : n = y => hy X hX (z ▸ hn)], k.pw⟩
/-- one run behind the other -/
theorem PostP.nil {s : PlS} (k : GdP S g s) (h : Option Txt) (fr : ∀ o, h = some o → ¬ occ s.cur o) : PostP S g B s [] h h s where
  p1 := fun n _ => rfl
  p2 := ⟨fun _ => true, (List.filter_eq_self.mpr fun _ _ => rfl).symm⟩
  p3 := fun R hR hn => absurd hR hn
  p4 := fun R hR n hn => rfl
  p5 := fun o => ⟨fun q => ⟨.inl q, fun z => fr o z q⟩, fun ⟨q, n⟩ => q.resolve_right n⟩
  p6 := k
  p7 := ⟨[], (List.append_nil _).symm, rfl, by show 0 + _ = _ + 0; omega⟩
  p8 := fun n => Iff.rfl
  p9 := fun W _ j => j
end
end L2.DL
/-! VH: a plan leads from one coding to the other one; its length. -/
namespace L2.DL
open PySem PySem.Spec PyProof.Rows L2.AS
end L2.DL
/-! VI: what a plan is. -/
namespace L2.DL
open PySem PySem.Spec PyProof.Rows L2.AS
end L2.DL
/-! VK: what a register's change makes of the codes: chains, and circles only behind a rename. -/
namespace L2.DL
open PySem PySem.Spec PyProof.Rows L2.AS
end L2.DL
/-! VL: what a plan is to a register's change. -/
namespace L2.DL
open PySem PySem.Spec PyProof.Rows L2.AS
section
variable {S : List Cl} {g : Txt → Txt} {fl : Tb Txt Txt}
/-- no circle waits: nothing is done beside what is given -/
theorem RunR.stay {s a : PlS} (h : RunR S g none s a) (w : s.wt = []) : a = s := by
  cases h with
  | stop e => rfl
  | turn e _ _ => have := (fstC_mem e).1; rw [w] at this; cases this
theorem RunR.no {l : List (Txt × Txt)} : ∀ {s a : PlS}, RunR S g (some l) s a → s.wt = [] → a.st = s.st ++ l := by
  induction l with
  | nil => intro s a h _; cases h; rw [List.append_nil]
  | cons p l ih =>
    intro s a h w
    obtain ⟨y, x⟩ := p
    cases h with
    | cons h1 h2 =>
      have e := h1.stay w
      subst e
      rw [ih h2 w]
      show (s.st ++ [(y, x)]) ++ l = _
      rw [List.append_assoc]; rfl
end
end L2.DL
/-! VM: codings of claims as tables. -/
namespace L2.DL
open PySem PySem.Spec PyProof.Rows L2.AS
/-- a coding of some of the names -/
structure Cdg (S : List Cl) (kv : Tb Txt Txt) : Prop where
  k : (ks kv).Nodup
  v : ∀ p q c, lk p kv = some c → lk q kv = some c → p = q
  o : ∀ p c, lk p kv = some c → ∃ cl ∈ S, cl.nm = p ∧ c ∈ cl.opts
theorem Cdg.of {S : List Cl} {kv : Tb Txt Txt} (n1 : (kv.map (·.1)).Nodup) (n2 : (kv.map (·.2)).Nodup) (h : ∀ e ∈ kv, ∃ c ∈ S, c.nm = e.1 ∧ e.2 ∈ c.opts) : Cdg S kv where
  k := n1
  v := fun p q c h1 h2 => by
    obtain ⟨i, hi⟩ := List.getElem?_of_mem (lk_mem h1)
    obtain ⟨j, hj⟩ := List.getElem?_of_mem (lk_mem h2)
    have := (List.getElem?_inj (i := i) (j := j) (by rw [List.length_map]; exact (List.getElem?_eq_some_iff.mp hi).1) n2).mp (by rw [List.getElem?_map, List.getElem?_map, hi, hj]; rfl)
    rw [this, hj] at hi
    exact (congrArg Prod.fst (Option.some.inj hi)).symm
  o := fun p c h1 => h _ (lk_mem h1)
theorem Cdg.ok {S : List Cl} {kv : Tb Txt Txt} (h : Cdg S kv) {e : Txt × Txt} (he : e ∈ kv) : ∃ c ∈ S, c.nm = e.1 ∧ e.2 ∈ c.opts := h.o e.1 e.2 (lk_of h.k he)
theorem Cdg.nm {S : List Cl} {kv : Tb Txt Txt} (h : Cdg S kv) {n : Txt} (hn : n ∈ ks kv) : ∃ c ∈ S, c.nm = n := by
  obtain ⟨e, he, rfl⟩ := List.mem_map.mp hn
  obtain ⟨c, h1, h2, _⟩ := h.ok he
  exact ⟨c, h1, h2⟩
theorem Cdg.len {S : List Cl} {kv : Tb Txt Txt} (h : Cdg S kv) : kv.length ≤ S.length := by
  have := nd_le h.k (r := S.map (·.nm)) fun x hx => by
    obtain ⟨c, h1, h2⟩ := h.nm hx
    exact List.mem_map.mpr ⟨c, h1, h2⟩
  unfold ks at this
  rw [List.length_map, List.length_map] at this
  exact this
theorem Cdg.put {S : List Cl} {kv : Tb Txt Txt} (h : Cdg S kv) {c : Cl} {o : Txt} (hc : c ∈ S) (ho : o ∈ c.opts) (hf : o ∉ (kv.filter fun e => decide (e.1 ≠ c.nm)).map (·.2)) : Cdg S (pt kv c.nm o) where
  k := pt_nd h.k
  v := fun p q x h1 h2 => by
    have no : ∀ n, n ≠ c.nm → lk n kv ≠ some o := fun n hn e => hf (List.mem_map.mpr ⟨(n, o), List.mem_filter.mpr ⟨lk_mem e, decide_eq_true hn⟩, rfl⟩)
    rw [lk_pt] at h1 h2
    by_cases e1 : p = c.nm
    · rw [if_pos e1] at h1
      cases h1
      by_cases e2 : q = c.nm
      · rw [e1, e2]
      · rw [if_neg e2] at h2
        exact absurd h2 (no q e2)
    · rw [if_neg e1] at h1
      by_cases e2 : q = c.nm
      · rw [if_pos e2] at h2
        cases h2
        exact absurd h1 (no p e1)
      · rw [if_neg e2] at h2
        exact h.v p q x h1 h2
  o := fun p x h1 => by
    rw [lk_pt] at h1
    by_cases e1 : p = c.nm
    · rw [if_pos e1] at h1
      cases h1
      exact ⟨c, hc, e1.symm, ho⟩
    · rw [if_neg e1] at h1
      exact h.o p x h1
/-- two codings, the first one of some names of the second one -/
theorem Cdg.chg {S : List Cl} {fl sl : Tb Txt Txt} (h : Cdg S fl) (h' : Cdg S sl) {N : List Txt} (nd : N.Nodup) (hN : ∀ n ∈ N, n ∈ ks sl) : Chg N (fun n => lk n fl) (fun n => (lk n sl).getD []) := by
  have e : ∀ n ∈ N, lk n sl = some ((lk n sl).getD []) := fun n hn => by
    cases e : lk n sl with
    | none => exact absurd (hN n hn) (lk_none.mp e)
    | some x => rfl
  refine ⟨nd, fun x hx y hy q => h'.v x y _ (e x hx) (by rw [q]; exact e y hy), fun x hx y hy h0 q => ?_⟩
  cases e1 : lk x fl with
  | none => exact absurd e1 h0
  | some c => exact h.v x y c e1 (by rw [← (show lk x fl = lk y fl from q)]; exact e1)
end L2.DL
/-! VN: a cell that is laid where it is handed back. -/
namespace L2.DL
open PySem PySem.Spec PyProof.Rows L2.AS
end L2.DL
namespace L2.DL
open PySem PySem.Spec PyProof.Rows L2.AS
/-- a comprehension over a table that is a cell -/
theorem compXG_of {α : Type} {G : Cs → Prop} {uC : Cs → Cs} {vs : List Nat} {g : GM} {mc : EM Bool} {me : EM D} {QQ : List D → Cs → Prop} {env : DL.Env} {C : Cs} (hG : G C) (l : List α) (enc f : α → D) (keep : α → Bool) (hl : l.length ≤ sizeLine)
    (step : ∀ a ∈ l, ∀ (acc : List D) (nxt : List D → Cs → Prop), acc.length < sizeLine → (keep a = true → nxt (acc ++ [f a]) C) → (keep a = false → nxt acc C) → g (enc a) (fun env1 C1 => wipeE env1 vs = env ∧ mc E0 env1 C1 fun b env2 C2 => env2 = env1 ∧ if b = true then me E0 env1 C2 fun y env3 C3 => env3 = env1 ∧ acc.length < sizeLine ∧ putL acc y fun acc' => nxt acc' C3 else nxt acc C2) env C)
    (fin : QQ ((l.filter keep).map f) (uC C)) : compX G uC vs g mc me putL QQ (l.map enc) [] env C := by
  refine compX_inv (fun k acc C' => C' = C ∧ acc = ((l.take k).filter keep).map f) ⟨rfl, by simp⟩ (fun _ _ _ h => by rw [h.1]; exact hG) ?_ ?_
  · rintro k d acc C' nxt hd ⟨rfl, rfl⟩ hx
    rw [List.getElem?_map] at hd
    obtain ⟨a, ha, rfl⟩ := Option.map_eq_some_iff.mp hd
    have hk := (List.getElem?_eq_some_iff.mp ha).1
    have hlen : (((l.take k).filter keep).map f).length < sizeLine := by
      rw [List.length_map]
      have := List.length_filter_le keep (l.take k)
      rw [List.length_take] at this; omega
    refine step a (List.mem_of_getElem? ha) _ nxt hlen (fun h => hx _ _ ⟨rfl, ?_⟩) fun h => hx _ _ ⟨rfl, ?_⟩
    · rw [List.take_add_one, ha, List.filter_append, List.map_append]
      simp [h]
    · rw [List.take_add_one, ha, List.filter_append, List.map_append]
      simp [h]
  · rintro acc C' ⟨rfl, rfl⟩
    rw [List.length_map, List.take_length]
    exact fin
end L2.DL
/-! WY (k30): a table one key of which is None. -/
namespace L2.DL
open PySem PySem.Spec PyProof.Rows
def keyN : Option Txt → V | none => .non | some t => .str (sV t)
def numN : Option Nat → V | none => .non | some k => .int k
/-- such a table's object: its keys texts or None, its values numbers or None -/
def NoneOb (o : Obj) (kx : List (Option Txt × Option Nat)) : Prop := kx.length ≤ sizeLine ∧ o.ExactDict ∧ ∃ es ep, o.data = .dict es ep ∧ Vals (kx.map fun e => keyN e.1) (es.toList.map (·.key)) ∧ Vals (kx.map fun e => numN e.2) (es.toList.map (·.val))
def noneO (a : Addr) (o : Obj) (kx : List (Option Txt × Option Nat)) : HO := .ext fun h => (a == sysModules) = false ∧ h.get? a = some o ∧ NoneOb o kx
def noneC (a : Addr) (o : Obj) (kx : List (Option Txt × Option Nat)) : Cell := .ext fun _ _ u => u = noneO a o kx
def leafOf : Key → Leaf | .inl i => .num i | .inr x => .text x
theorem leaf_is {k : Key} {v : Value} (h : keyIs k v = true) : Leaf.isOf (leafOf k) v = true := by
  rcases keyIs_shape h with ⟨i, t, rfl, rfl⟩ | ⟨x, t, rfl, rfl⟩
  · exact decide_eq_true rfl
  · exact h
theorem leafOf_inj {a b : Key} (h : leafOf a = leafOf b) : a = b := by
  cases a <;> cases b <;> first | (injection h with h; rw [h]; done) | (exact nomatch h)
theorem leaf_pairs {P : Program} {w : World} : ∀ {es : List DictEntry} {vs : List (Key × Value)}, Pairs (mixKind P w) es vs → Pairs (leafKind P w) es (vs.map fun e => (leafOf e.1, e.2))
  | _, _, .nil => .nil
  | _, _, .cons h e r => .cons (leaf_is h) e (leaf_pairs r)
theorem leaf_dict {P : Program} {w : World} {h : Heap} {a : Addr} {vs : List (Key × Value)} (d : h.DictOf (mixKind P w) a vs) : h.DictOf (leafKind P w) a (vs.map fun e => (leafOf e.1, e.2)) := by
  obtain ⟨o, es, ep, ho, hx, hd, hk, hp, hn⟩ := d
  refine ⟨o, es, ep, ho, hx, hd, fun e he => ?_, leaf_pairs hp, ?_⟩
  · obtain ⟨k, h1, h2⟩ := hk e he
    refine ⟨leafOf k, leaf_is h1, ?_⟩
    rw [h2]
    cases k <;> rfl
  · rw [List.map_map]
    rw [show ((fun e : Leaf × Value => e.1) ∘ fun e : Key × Value => (leafOf e.1, e.2)) = leafOf ∘ (·.1) from rfl, ← List.map_map]
    exact L2.AS.nd_map hn fun a b _ _ z => leafOf_inj z
end L2.DL
namespace L2.DL
open PySem PySem.Spec PyProof.Rows
def leafN : Option Txt → Leaf | none => .none | some t => .text (sV t)
theorem key_of_leaf : ∀ {x : Option Txt} {v : Value}, Leaf.isOf (leafN x) v = true → RelV (keyN x) v
  | none, v, h => by cases v <;> first | rfl | (cases h; done)
  | some t, v, h => Value.isStrOf_shape h
theorem none_vals {P : Program} {w : World} : ∀ {es : List DictEntry} {kx : List (Option Txt × Option Nat)} {kvs : List (Leaf × Value)}, Pairs (leafKind P w) es kvs → Paired (fun (e : Option Txt × Option Nat) (q : Leaf × Value) => q.1 = leafN e.1 ∧ RelV (numN e.2) q.2) kx kvs →
    Vals (kx.map fun e => keyN e.1) (es.map (·.key)) ∧ Vals (kx.map fun e => numN e.2) (es.map (·.val))
  | _, _, _, .nil, h => by cases h; exact ⟨.nil, .nil⟩
  | _, _, _, .cons h e r, q => by
    cases q with
    | cons q1 q2 =>
      obtain ⟨i1, i2⟩ := none_vals r q2
      refine ⟨.cons (key_of_leaf ?_) i1, .cons ?_ i2⟩
      · rw [← q1.1]; exact h
      · have q := q1.2
        rw [← e] at q
        exact q
theorem none_kv : ∀ {l : List (Txt × Option Nat)} {vs : List (Key × Value)}, KV (l.map fun e => ((Sum.inr (sV e.1) : Key), numN e.2)) vs →
    Paired (fun (e : Option Txt × Option Nat) (q : Leaf × Value) => q.1 = leafN e.1 ∧ RelV (numN e.2) q.2) (l.map fun e => (some e.1, e.2)) (vs.map fun e => (leafOf e.1, e.2))
  | [], _, h => by cases h; exact .nil
  | e :: l, _, h => by
    cases h with
    | cons h1 h2 => exact .cons ⟨by show leafOf _ = _; rw [← h1.1]; rfl, h1.2⟩ (none_kv h2)
theorem paired_snoc {α β : Type} {F : α → β → Prop} : ∀ {xs : List α} {ys : List β} {a : α} {b : β}, Paired F xs ys → F a b → Paired F (xs ++ [a]) (ys ++ [b])
  | _, _, _, _, .nil, h => .cons h .nil
  | _, _, _, _, .cons r t, h => .cons r (paired_snoc t h)
theorem set_none {X : Cx} {pins : List (Addr × Obj)} {σ : St} {H : Hp} {s : Shared} {a : Addr} {l : List (Txt × Option Nat)} {x : Option Nat} {u r : Value} {Q : Unit → Shared → Prop} {E : Value → Shared → Prop} (I : Inv X pins σ H s) (hD : H a = some (.dK (l.map fun e => ((Sum.inr (sV e.1) : Key), numN e.2)))) (hl : l.length < sizeLine)
    (hu : RelV .non u) (rv : RelV (numN x) r) (h : ∀ o s', Inv X pins σ (upd H a (noneO a o (l.map (fun e => (some e.1, e.2)) ++ [(none, x)]))) s' → Q () s') : wpAny (model X.prog X.w) X.A (setItem (.ref a) u r) Q E s := by
  obtain ⟨z, hd, vs, rel, dd⟩ := dk_of I.hok hD
  have dd := leaf_dict dd
  have hz : (vs.map fun e => (leafOf e.1, e.2)).length ≤ sizeLine := by rw [List.length_map, ← rel.length]; exact z
  have hu : u = .none := hu
  subst hu
  refine wpAny_setItem_pairs (hsz := hz) (k := Leaf.none) rfl dd fun h' dd' hs => ?_
  obtain ⟨o, es, ep, ho, hx, hdt, hk, hp, hn⟩ := dd'
  refine h o _ (d_write I (by rw [hD]; exact True.intro) hs ⟨o, ho⟩ ⟨⟨hd, ho, ?_⟩, ⟨o, ho⟩, fun h1 h2 q k => ⟨q.1, k _ q.2.1, q.2.2⟩⟩)
  have e1 : stored (vs.map fun e => (leafOf e.1, e.2)) Leaf.none r = (vs.map fun e => (leafOf e.1, e.2)) ++ [(Leaf.none, r)] := by
    unfold stored
    rw [if_neg]
    rw [List.any_eq_true]
    rintro ⟨kv, hkv, e⟩
    obtain ⟨⟨k, v⟩, _, rfl⟩ := List.mem_map.mp hkv
    have e := of_decide_eq_true e
    cases k <;> cases e
  rw [e1] at hp
  obtain ⟨v1, v2⟩ := none_vals hp (paired_snoc (none_kv rel) (a := ((none : Option Txt), x)) (b := (Leaf.none, r)) ⟨rfl, rv⟩)
  exact ⟨by rw [List.length_append, List.length_map]; exact hl, hx, es, ep, hdt, v1, v2⟩
theorem SR.ownCell {K : PySem.W.Frag} {Z : Z0} {σ : St} {Hs H : Hp} {env : DL.Env} {C : Cs} {i : Nat} {c : Cont} {p : Addr} {o : HO} {cl : Cell} (sr : SR K Z σ Hs H env C) (hc : env[i]? = some (.own c)) (e1 : σ[i]? = some (some (V.ref p))) (e2 : H p = some o) (n1 : Hs p = none) (n2 : C p = none) (n3 : Z.H p = none) (rc : RepC K Hs cl o) :
    SR K Z σ Hs H (env.set i (.shr (.cell p))) (cput C p cl) := by
  have back : ∀ {j : Nat} {sl : Slot}, sl ≠ .non → (env.set i .non)[j]? = some sl → i ≠ j ∧ env[j]? = some sl := fun {j sl} hn hj => by
    by_cases e : i = j
    · subst e
      rw [List.getElem?_set] at hj
      split at hj
      · split at hj
        · cases hj; exact absurd rfl hn
        · cases hj
      · rename_i n; exact absurd rfl n
    · exact ⟨e, by rw [List.getElem?_set_ne e] at hj; exact hj⟩
  have sr' : SR K Z σ Hs H (env.set i .non) C := ⟨sr.fit, sr.bas, ⟨by rw [List.length_set]; exact sr.slt.len, fun j d hj => sr.slt.shr j d (back (by simp) hj).2, fun j c' hj => sr.slt.own j c' (back (by simp) hj).2, fun j l c' c'' x hjl hj hl => sr.slt.sep j l c' c'' x hjl (back (by simp) hj).2 (back (by simp) hl).2⟩⟩
  have s3 := (sr'.mkCell e2 n1 n2 n3 rc fun j c' hj => sr.slt.sep i j c c' p (back (by simp) hj).1 hc (back (by simp) hj).2 e1).setS (i := i) (d := .cell p) (v := .ref p) (.cell p)
  rw [List.set_set] at s3
  have es : σ.set i (some (V.ref p)) = σ := by
    refine List.ext_getElem? fun j => ?_
    by_cases e : i = j
    · subst e
      rw [e1, List.getElem?_set_self (List.getElem?_eq_some_iff.mp e1).1]
    · rw [List.getElem?_set_ne e]
  rw [es] at s3
  exact s3
end L2.DL
namespace L2.DL
open PySem PySem.Spec PyProof.Rows
theorem noneC_at {K : PySem.W.Frag} {Hs H : Hp} {C : Cs} (f : Fits K Hs H C) {p : Addr} {o : Obj} {kx : List (Option Txt × Option Nat)} (h : C p = some (noneC p o kx)) : H p = some (noneO p o kx) := by
  obtain ⟨_, u, h2, _, _, rfl⟩ := f.cel p _ h
  exact h2
theorem noneO_at {P : Program} {w : World} {H : Hp} {h : Heap} {p : Addr} {o : Obj} {kx : List (Option Txt × Option Nat)} (I : HOk P w H h) (e : H p = some (noneO p o kx)) : (p == sysModules) = false ∧ h.get? p = some o ∧ NoneOb o kx := (I p _ e).1
def nonD : Option Nat → D
  | none => .non
  | some k => .int k
theorem nonD_rep {K : PySem.W.Frag} {Hs : Hp} {x : Option Nat} {v : V} (h : Rep K Hs (nonD x) v) : v = numN x := by
  cases x with
  | none => cases h; rfl
  | some k => cases h; rfl
theorem nonKV_rep {K : PySem.W.Frag} {Hs : Hp} : ∀ {l : List (Txt × Option Nat)} {ws : List (Key × V)}, RepKV K Hs (l.map fun e => ((Sum.inr e.1 : DK), nonD e.2)) ws → ws = l.map fun e => ((Sum.inr (sV e.1) : Key), numN e.2)
  | [], _, h => by cases h; rfl
  | e :: l, _, h => by
    cases h with
    | cons h1 h2 => rw [nonD_rep h1, nonKV_rep h2]; rfl
def rSetN : L2.TSet := fun a i v H Q => ∃ (p : Addr) (l : List (Txt × Option Nat)) (x : Option Nat), a = .ref p ∧ i = .non ∧ H p = some (.dK (l.map fun e => ((Sum.inr (sV e.1) : Key), numN e.2))) ∧ v = numN x ∧ l.length < sizeLine ∧ ∀ o, Q (upd H p (noneO p o (l.map (fun e => (some e.1, e.2)) ++ [(none, x)])))
theorem set_noneP {X : Cx} : PSet X rSetN := by
  intro pins s σ H a i v ov iv u Q I ro ri rv h
  obtain ⟨p, l, x, rfl, rfl, hp, rfl, hl, q⟩ := h
  cases (show ov = Value.ref p from ro)
  exact set_none I hp hl ri rv fun o s' I' => ⟨_, I', q o⟩
/-- d[k] = v, d a name that owns it; with the key None the table becomes a cell -/
def gPutN (n : Nat) (mi : EM D) : GM := fun d P env C => (∃ c, env[n]? = some (.own c)) ∧ mi E0 env C fun i env1 C1 => (i ≠ .non → PutO n i d P env1 C1) ∧ (i = .non → ∃ (l : List (Txt × Option Nat)) (x : Option Nat), env1[n]? = some (.own (.dct (l.map fun e => ((Sum.inr e.1 : DK), nonD e.2)))) ∧ d = nonD x ∧ l.length < sizeLine ∧
  ∀ p o, C1 p = none → P (env1.set n (.shr (.cell p))) (cput C1 p (noneC p o (l.map (fun e => (some e.1, e.2)) ++ [(none, x)]))))
theorem dg_putN {X : Cx} {o i : Expr} {pos : Pos} {n : Nat} {mi : EM D} (hu : X.A.units + 1 < cLine) (ho : PE X o (tVar n)) (hi : DE X RShr i mi)
    (ha : ∀ v, assign (.Subscript o i pos) X.env v = (do
      let ov ← holding [v] (eval o X.env)
      let iv ← holding [v, ov] (eval i X.env)
      standAt pos
      holding [v, ov, iv] (setItem ov iv v)
      release [v, ov, iv] [])) : DG X (.Subscript o i pos) (gPutN n mi) := fun Z => by
  refine ⟨fun pins s σ H v u Q I r ⟨Hs, env, C, d, P, sr, rd, q, k⟩ => (pg_sub ho (hi Z E0 dx0) (PSet.or (PSet.or set_list (set_dict hu)) set_noneP) ha).run pins s σ H v u Q I r ?_⟩
  obtain ⟨⟨c0, e0⟩, q⟩ := q
  obtain ⟨p0, o0, x0, _⟩ := sr.slt.own n c0 e0
  refine ⟨_, x0, Hs, env, C, _, sr, q, fun d2 env2 C2 v2 Hs2 H2 q2 t2 s2 r2 => ?_⟩
  have rd2 := rd.same t2.fr
  by_cases hd : d2 = .non
  · obtain ⟨l, x, e2, rfl, hl, q3⟩ := q2.2 hd
    subst hd
    cases r2
    obtain ⟨p1, o1, x1, hb, ⟨ws, rfl, rl⟩, n1, n2, n3⟩ := s2.slt.own n _ e2
    rw [x0] at x1
    cases x1
    have ew := nonKV_rep rl
    have ev := nonD_rep rd2
    subst ew ev
    refine .inr ⟨p0, l, x, rfl, rfl, hb, rfl, hl, fun o => ?_⟩
    have s3 := s2.ownCell e2 x0 hb n1 n2 n3 (cl := .dct (l.map fun e => ((Sum.inr e.1 : DK), nonD e.2))) ⟨_, rfl, rl⟩
    have s4 := s3.wrC (a := p0) cput_same (cl' := noneC p0 o (l.map (fun e => (some e.1, e.2)) ++ [(none, x)])) (o' := noneO p0 o (l.map (fun e => (some e.1, e.2)) ++ [(none, x)])) ⟨Hs2, Le.of (Same.refl _), rfl⟩
    rw [cput_cput] at s4
    exact k _ _ _ _ _ s4 (q3 p0 o n2)
  · have q2 := q2.1 hd
    unfold PutO at q2
    refine .inl ?_
    split at q2
    · rename_i xs e2
      obtain ⟨kk, j, rfl, hj, p⟩ := q2
      obtain ⟨p1, o1, x1, hb, ⟨vs, rfl, rl⟩, _⟩ := s2.slt.own n _ e2
      rw [x0] at x1
      cases x1
      cases r2
      exact .inl ⟨_, vs, kk, j, rfl, rfl, hb, by rw [← rl.length]; exact hj, k _ _ _ _ _ (s2.wrO e2 x0 (c' := .lst (xs.set j d)) ⟨_, rfl, rl.set j rd2⟩) p⟩
    · rename_i kvs e2
      obtain ⟨kk, e, hl, p⟩ := q2
      obtain ⟨p1, o1, x1, hb, ⟨ws, rfl, rl⟩, _⟩ := s2.slt.own n _ e2
      rw [x0] at x1
      cases x1
      have hv := dk_rep r2 e
      subst hv
      exact .inr ⟨_, _, rfl, DPut.k hb (by rw [← rl.length]; exact hl), k _ _ _ _ _ (s2.wrO e2 x0 (c' := .dct (putD kvs kk d)) ⟨_, rfl, rl.put rd2⟩) p⟩
    · exact q2.elim
end L2.DL
namespace L2.DL
open PySem PySem.Spec PyProof.Rows
theorem len_body_raw {prog : Program} {w : World} {A : Around} {E : Value → Shared → Prop} {s : Shared} {d : Addr} {es : Array DictEntry} {ep : Nat} {Q : Value → Shared → Prop} (hd : (d == sysModules) = false) (hm : s.heap.DictRaw d es ep) (hfit : (es.size : Int) < 2 ^ 63)
    (h : Q (.int es.size (s.toks + 1)) { s with toks := s.toks + 1 + 1 }) : wpAny (model prog w) A (Builtin.«len» ⟨[.ref d], []⟩) (fun fin s' => ∃ r, fin = .done (.ret r) ∧ Q r s') E s := by
  unfold Builtin.«len»
  refine wpAny_bind (m := oneArg "len" _) (wpAny_pure ?_)
  refine wpAny_bind (m := callSpecial? (.ref d) (Str.ofString "__len__")) (wpAny_callSpecial?_slot (name := Str.ofString "__len__") hm.typeIs PySem.F.slot_dict_len
    (call_meetsIn PySem.F.slot_dict_len hm.typeIs PySem.F.entry_dict_len (PySem.F.args_dict_len_1 _) (meets_dict_len_raw d hd) ⟨es, ep, hm, ?_⟩))
  show wpAny _ _ _ _ _ { s with toks := s.toks + 1 }
  refine wpAny_bind (wpAny_holding (wpAny_pure ?_))
  refine wpAny_bind (wpAny_letGo ?_)
  show wpAny _ _ (if ((es.size : Nat) : Int) < 0 then _ else _) _ _ _
  rw [if_neg (by omega)]
  show wpAny _ _ (if ((es.size : Nat) : Int) ≥ 2 ^ 63 then _ else _) _ _ _
  rw [if_neg (by omega)]
  exact wpAny_bind (wpAny_mkInt (wpAny_pure ⟨_, rfl, h⟩))
theorem call_len_rawD {prog : Program} {w : World} {A : Around} {E : Value → Shared → Prop} {s : Shared} {d : Addr} {es : Array DictEntry} {ep : Nat} {Q : Value → Shared → Prop} (hd : (d == sysModules) = false) (hm : s.heap.DictRaw d es ep) (hfit : (es.size : Int) < 2 ^ 63)
    (h : Q (.int es.size (s.toks + 1)) { s with toks := s.toks + 1 + 1 }) : wpAny (model prog w) A (call (.builtin "len") [.ref d]) Q E s :=
  Calls.call_function_entry kind_len plain_len entry_len (args_len1 _) (len_body_raw hd hm hfit h)
/-! ### calls that read a table by its cell -/
structure CallC (X : Cx) (f : Value) (g : Cs → List D → (D → Prop) → Prop) : Prop where
  ex : ∃ r, CallR X f r ∧ ∀ Z σ Hs H env C ds vs (P : D → Prop) Q, SR X.K Z σ Hs H env C → RNs X.K Hs H ds vs → g C ds P →
    (∀ a w Hs' H', P a → Tr Hs H C Hs' H' C → SR X.K Z σ Hs' H' env C → RShr X.K Z σ Hs' H' env C a w → Q w H') → r vs H Q
def mCallC (g : Cs → List D → (D → Prop) → Prop) (ms : EM (List D)) : EM D := fun E env C Q => ms E env C fun ds env1 C1 => g C1 (ds.map (dr C1)) fun x => Q x env1 C1
theorem d_callC {X : Cx} {e : Expr} {es : List Expr} {pos : Pos} {id : String} {x : Str} {p : Pos} {g : Cs → List D → (D → Prop) → Prop} (c : CallC X (.builtin id) g) {ms : EM (List D)} (h : DA X RPk (e :: es) ms)
    (hg : Gl X x) (hm : X.mg x = none) (hv : bootBuiltins x = some (.builtin id)) (hn : x ≠ "__name__") (hdb : (x == ("__debug__" : Str)) = false)
    (he : starEach (e :: es) X.env = (false, eval e X.env) :: starEach es X.env) (hpl : (backTo pos (starEach es X.env)).any (·.1) = false) : DE X RShr (.Call (.Name x p) (e :: es) [] pos) (mCallC g ms) := fun Z E hE => by
  obtain ⟨r, hr, hc⟩ := c.ex
  refine ⟨fun pins s σ H Q I ⟨Hs, env, C, P, sr, q, k⟩ => (pe_callB hr hg hm hv (h Z E hE) hn hdb he hpl).run pins s σ H Q I ⟨Hs, env, C, _, sr, q, fun ds env1 C1 vs Hs1 H1 q1 t1 s1 r1 => ?_⟩⟩
  exact hc Z σ Hs1 H1 env1 C1 _ vs _ Q s1 (r1.now s1.fit) q1 fun x w Hs' H' p t s rr => k _ _ _ w Hs' H' p (t1.trans t) s rr
theorem CallC.or {X : Cx} {f : Value} {g : List D → (D → Prop) → Prop} {g' : Cs → List D → (D → Prop) → Prop} (c : CallD X f RShr g) (c' : CallC X f g') : CallC X f fun C ds P => g' C ds P ∨ g ds P := by
  obtain ⟨r, hr, h⟩ := c.ex
  obtain ⟨r', hr', h'⟩ := c'.ex
  exact ⟨⟨_, hr'.or hr, fun Z σ Hs H env C ds vs P Q sr n q k => q.elim (fun q => .inl (h' Z σ Hs H env C ds vs P Q sr n q k)) fun q => .inr (h Z σ Hs H env C ds vs P Q sr n q k)⟩⟩
def gLenN (C : Cs) (ds : List D) (P : D → Prop) : Prop := ∃ p o kx, ds = [.cell p] ∧ C p = some (noneC p o kx) ∧ P (.int kx.length)
def gIsiN (C : Cs) (ds : List D) (P : D → Prop) : Prop := ∃ p o kx n b, ds = [.cell p, .ty n] ∧ C p = some (noneC p o kx) ∧ kitB "dict" n = some b ∧ P (.bl b)
section
variable {X : Cx}
theorem vals_len : ∀ {xs : List V} {us : List Value}, Vals xs us → us.length = xs.length
  | _, _, .nil => rfl
  | _, _, .cons _ r => by simp [vals_len r]
theorem callc_len : CallC X (.builtin "len") gLenN := by
  refine ⟨⟨fun xs H Q => ∃ p o kx, xs = [V.ref p] ∧ H p = some (noneO p o kx) ∧ Q (.int (kx.length : Nat)) H, fun pins s σ H xs us Q I r h => ?_, fun Z σ Hs H env C ds vs P Q sr n g k => ?_⟩⟩
  · obtain ⟨p, o, kx, rfl, hp, q⟩ := h
    obtain ⟨u, rfl, rx⟩ := vals1 r
    cases (show u = Value.ref p from rx)
    obtain ⟨hs, ho, hl, hx, es, ep, hd, v1, v2⟩ := noneO_at I.hok hp
    have e1 : es.size = kx.length := by
      have := vals_len v1
      simpa using this
    refine call_len_rawD hs ⟨o, ho, hx, hd⟩ (by rw [e1]; rw [sizeLine_eq] at hl; omega) ⟨.int (kx.length : Nat), H, I.tok _, ?_, q⟩
    rw [e1]
    exact ⟨_, rfl⟩
  · obtain ⟨p, o, kx, rfl, hp, q⟩ := g
    cases n with
    | cons n1 n2 =>
      cases n2
      cases n1
      exact ⟨p, o, kx, rfl, noneC_at sr.fit hp, k _ _ Hs H q Tr.refl sr (.int _)⟩
theorem callc_isi : CallC X (.builtin "isinstance") gIsiN := by
  refine ⟨⟨fun xs H Q => ∃ p o kx n b, xs = [V.ref p, V.ty n] ∧ H p = some (noneO p o kx) ∧ PySem.W.kitOne X.K (.type "dict") (.type n) = some b ∧ Q (.bl b) H, fun pins s σ H xs us Q I r h => ?_, fun Z σ Hs H env C ds vs P Q sr n g k => ?_⟩⟩
  · obtain ⟨p, o, kx, n, b, rfl, hp, e, q⟩ := h
    obtain ⟨u1, u2, rfl, r1, r2⟩ := vals2 r
    cases (show u1 = Value.ref p from r1)
    cases (show u2 = Value.type n from r2)
    obtain ⟨hs, ho, hl, hx, es, ep, hd, v1, v2⟩ := noneO_at I.hok hp
    exact PySem.W.kia_one PySem.W.kitx_dict I.kIn ⟨o, ho, hx.1⟩ e (fun z => nomatch z) fun tk => ⟨.bl b, H, I.tok tk, rfl, q⟩
  · obtain ⟨p, o, kx, nm, b, rfl, hp, hk, q⟩ := g
    cases n with
    | cons n1 n2 =>
      cases n2 with
      | cons n2 n3 =>
        cases n3
        cases n1
        cases n2
        exact ⟨p, o, kx, nm, b, rfl, noneC_at sr.fit hp, kit_ty hk, k _ _ Hs H q Tr.refl sr (.bl b)⟩
end
end L2.DL
namespace L2.DL
open PySem PySem.Spec PyProof.Rows
/-! ### repr of a tuple whose last item is such a table -/
def keyPN : Option Txt → PyData
  | none => .none
  | some t => .str (sV t)
def numPN : Option Nat → PyData
  | none => .none
  | some k => .int k
def toPN (x y : D) (kx : List (Option Txt × Option Nat)) : PyData := .tuple [toP x, toP y, .dict (kx.map fun e => (keyPN e.1, numPN e.2))]
def okPN (p : PyData) : Prop := p.showable = true ∧ p.depth ≤ 40 ∧ p.shown.length ≤ sizeLine
@[irreducible] def shPN (p : PyData) : Txt := p.shown.cps.toList
def gReprN (C : Cs) (ds : List D) (P : D → Prop) : Prop := ∃ p o kx x y, ds = [.tup [x, y, .cell p]] ∧ C p = some (noneC p o kx) ∧ isR x = true ∧ isR y = true ∧ okPN (toPN x y kx) ∧ P (.str (shPN (toPN x y kx)))
theorem reads_keyN {h : Heap} : ∀ {xs : List (Option Txt × Option Nat)} {us : List Value}, Vals (xs.map fun e => keyN e.1) us → ReadsAll h us (xs.map fun e => keyPN e.1) []
  | [], _, .nil => .nil
  | (none, _) :: r, _, .cons e q => by
    cases (show _ = Value.none from e)
    exact ReadsAll.cons Reads.none (reads_keyN q)
  | (some t, _) :: r, _, .cons ⟨k, e⟩ q => by
    subst e
    exact ReadsAll.cons (Reads.str _ k) (reads_keyN q)
theorem reads_numN {h : Heap} : ∀ {xs : List (Option Txt × Option Nat)} {us : List Value}, Vals (xs.map fun e => numN e.2) us → ReadsAll h us (xs.map fun e => numPN e.2) []
  | [], _, .nil => .nil
  | (_, none) :: r, _, .cons e q => by
    cases (show _ = Value.none from e)
    exact ReadsAll.cons Reads.none (reads_numN q)
  | (_, some t) :: r, _, .cons ⟨k, e⟩ q => by
    subst e
    exact ReadsAll.cons (Reads.int _ k) (reads_numN q)
theorem callc_repr {X : Cx} (gd : Gd X.A) (hu : X.A.units + 60 < cLine) (hb : ∃ o, X.base.get? sysModules = some o) : CallC X (.builtin "repr") gReprN := by
  refine ⟨⟨fun xs H Q => ∃ (v : V) (d : PyData), xs = [v] ∧ (∀ (pins : List (Addr × Obj)) (σ : St) (s : Shared) (u : Value), Inv X pins σ H s → RelV v u → ∃ a as, u = .ref a ∧ Reads s.heap u d as ∧ ∀ b ∈ as, H b ≠ none) ∧ okPN d ∧ Q (.str (sV (shPN d))) H, fun pins s σ H xs us Q I r h => ?_, fun Z σ Hs H env C ds vs P Q sr n g k => ?_⟩⟩
  · obtain ⟨v, d, rfl, rd, ok, q⟩ := h
    obtain ⟨u, rfl, ru⟩ := vals1 r
    obtain ⟨a, as, rfl, r1, r2⟩ := rd pins σ s u I ru
    obtain ⟨o2, o3, o4⟩ := ok
    refine repr_of_reads' r1 o2 (fun _ => noMods I hb r2) gd (by omega) (fun _ _ e => e) (fun h' t tk kk => ?_) o4
    exact ⟨.str (sV (shPN d)), H, I.kept kk, ⟨t, by unfold shPN; rw [sV_of]⟩, q⟩
  · obtain ⟨p, o, kx, x, y, rfl, hp, hx, hy, ok, q⟩ := g
    cases n with
    | cons n1 n2 =>
      cases n2
      cases n1 with
      | tup h r =>
        have hp' := noneC_at sr.fit hp
        refine ⟨_, toPN x y kx, rfl, fun pins σ' s u I ru => ?_, ok, k _ _ Hs H q Tr.refl sr (.str _)⟩
        cases r with
        | cons rx r => cases r with
          | cons ry r => cases r with
            | cons rz r =>
              cases r
              cases rz
              cases ru
              obtain ⟨its, rv, ⟨ob, ho, hc, n, hd⟩, _⟩ := I.tuple (TupA.sq (K := X.K) sr.fit.sub h)
              cases rv with
              | cons v1 rv => cases rv with
                | cons v2 rv => cases rv with
                  | cons v3 rv =>
                    cases rv
                    cases v3
                    obtain ⟨as1, a1, b1⟩ := Rep.reads I sr.fit.sub rx v1 hx
                    obtain ⟨as2, a2, b2⟩ := Rep.reads I sr.fit.sub ry v2 hy
                    obtain ⟨hs, ho3, hl, hx3, es, ep, hd3, w1, w2⟩ := noneO_at I.hok hp'
                    have a3 : Reads s.heap (.ref p) (.dict (kx.map fun e => (keyPN e.1, numPN e.2))) (p :: [] ++ []) := Reads.dict ho3 hx3.1 hd3 (by rw [List.map_map]; exact reads_keyN w1) (by rw [List.map_map]; exact reads_numN w2)
                    refine ⟨_, _, rfl, Reads.tuple ho hc hd (ReadsAll.cons a1 (ReadsAll.cons a2 (ReadsAll.cons a3 ReadsAll.nil))), fun b hb => ?_⟩
                    rcases List.mem_append.mp hb with hb | hb
                    · exact b1 b hb
                    · rcases List.mem_append.mp hb with hb | hb
                      · exact b2 b hb
                      · simp at hb
                        rw [hb, hp']
                        intro z
                        cases z
end L2.DL
namespace L2.DL
open PySem PySem.Spec PyProof.Rows
/-! ### its keys, one after the other -/
def Itn (d : Addr) (o : Obj) (kx : List (Option Txt × Option Nat)) : It :=
  ⟨fun i H => H d = some (noneO d o kx) ∧ i < kx.length, fun i H x H' => H' = H ∧ ∃ e, kx[i]? = some e ∧ x = keyN e.1, fun i H => H d = some (noneO d o kx) ∧ kx.length ≤ i⟩
theorem turn_none {P : Program} {w : World} {K : PySem.W.Frag} {tg : Expr} {d : Addr} {o : Obj} {kx : List (Option Txt × Option Nat)} {es : Array DictEntry} {ep : Nat} (it : Addr) (hod : o.data = .dict es ep) : L2.Turn P w K tg (Itn d o kx) [it] it (fun i h => h.IsKeyIter it d i kx.length ep) where
  mem := by simp
  obj := fun i h st b hb => by
    have e : b = it := by simpa using hb
    subst e
    obtain ⟨oi, e, c, dd⟩ := st
    exact ⟨oi, e, fun v z => by rw [dd] at z; cases z⟩
  keep := fun i h h' st k => st.at fun oi e => k it (by simp) oi e
  item := by
    intro X hP hw hK hc i pins s σ H E I hf st hg
    subst hP hw hK
    obtain ⟨hd, hi⟩ := hg
    obtain ⟨f0, f1, f2, f3, f4, f5⟩ := hf it (by simp)
    obtain ⟨hs, hgd, hl, hx, es', ep', hdt, v1, v2⟩ := noneO_at I.hok hd
    obtain ⟨rfl, rfl⟩ := dict_ep hod hdt
    have hsz : es'.size = kx.length := by
      have := vals_len v1
      simpa using this
    obtain ⟨u, hu, ru⟩ := v1.get (i := i) (x := keyN kx[i].1) (by rw [List.getElem?_map, List.getElem?_eq_getElem hi]; rfl)
    rw [List.getElem?_map] at hu
    obtain ⟨en, hen, rfl⟩ := Option.map_eq_some_iff.mp hu
    refine next_key_item st hgd hdt hsz (by simpa using hen) fun h' st' sb => ?_
    have I1 : Inv X pins σ H { s with heap := h' } := I.turned (t' := s.toks) (fun b ob hb e => (sb.2 b hb).trans e) f0 f1 f3 f4 f5
    obtain ⟨oi, e, c, dd⟩ := id st'
    exact ⟨en.key, rfl, go_of (s := { s with heap := h' }) e c dd (by decide) ⟨keyN kx[i].1, H, I1, ru, ⟨rfl, kx[i], List.getElem?_eq_getElem hi, rfl⟩, st', fun b hb => (hf b hb).1⟩⟩
  done := by
    intro X hP hw hK hc i pins s σ H E I hf st hg
    subst hP hw hK
    obtain ⟨hd, hi⟩ := hg
    obtain ⟨f0, f1, f2, f3, f4, f5⟩ := hf it (by simp)
    obtain ⟨hs, hgd, hl, hx, es', ep', hdt, v1, v2⟩ := noneO_at I.hok hd
    obtain ⟨rfl, rfl⟩ := dict_ep hod hdt
    have hsz : es'.size = kx.length := by
      have := vals_len v1
      simpa using this
    exact next_key_end (I.ok.hd hc) st hgd hdt hsz hi fun h' eb => ⟨rfl, I.turned (t' := s.toks) (fun b ob hb e => eb b ob hb e) f0 f1 f3 f4 f5⟩
  self := fun A i s Q E st h => wpAny_pyIter_keyiter st h
/-- what is walked: a table, or such a one -/
def tLkN (X : Cx) (t : TE) : TE := fun σ H Q => t σ H fun v H1 => ∃ a, v = .ref a ∧ ((∃ ws, (∃ o, H1 a = some (.frz o (.dK ws)) ∧ Q v H1) ∨ (H1 a = some (.dK ws) ∧ ∀ o, NF X a → Q v (upd H1 a (.frz o (.dK ws))))) ∨ ∃ o kx, H1 a = some (noneO a o kx) ∧ Q v H1)
theorem pe_lkN {X : Cx} {e : Expr} {te : TE} (h : PE X e te) : PE X e (tLkN X te) := ⟨fun pins s σ H Q I hw => by
  refine thn (h.run pins s σ H _ I hw) fun u s1 hq => ?_
  obtain ⟨v, H1, I1, r, a, ev, hq⟩ := hq
  rcases hq with ⟨ws, ⟨o, e1, q⟩ | ⟨e1, q⟩⟩ | ⟨o, kx, e1, q⟩
  · exact ⟨v, H1, I1, r, q⟩
  · obtain ⟨o, I2⟩ := I1.lock e1 trivial
    exact ⟨v, _, I2, r, q o (I1.nofrz e1 trivial)⟩
  · exact ⟨v, H1, I1, r, q⟩⟩
def iKeysN (td : TE) : TI := fun σ H R => td σ H fun x H1 => ∃ d o, x = .ref d ∧ ((∃ kvs, H1 d = some (.frz o (.dK kvs)) ∧ R (Itk d o kvs) H1) ∨ ∃ kx, H1 d = some (noneO d o kx) ∧ R (Itn d o kx) H1)
theorem pi_keysN {X : Cx} {tg e : Expr} {td : TE} (he : PE X e td) : PI X tg e (iKeysN td) := by
  refine ⟨fun pins s σ H R I h => ?_⟩
  refine thn (he.run pins s σ H _ I h) fun u s1 ⟨x, H1, I1, rx, d, o, ex, q⟩ => ?_
  subst ex
  obtain rfl : u = Value.ref d := rx
  rcases q with ⟨kvs, hd, q⟩ | ⟨kx, hd, q⟩
  · obtain ⟨hs, hgd, hx, es, ep, vs, hdt, hsz, kv, hm⟩ := I1.frzK hd
    refine iter_keys hs hgd hx hdt (pi_one (tk := s1.toks) I1 _ (turn_keys _ hdt) ⟨_, Heap.get?_push_size _ rfl, rfl, ?_⟩ q)
    rw [hsz] <;> rfl
  · obtain ⟨hs, hgd, hl, hx, es, ep, hdt, v1, v2⟩ := noneO_at I1.hok hd
    have hsz : es.size = kx.length := by
      have := vals_len v1
      simpa using this
    refine iter_keys hs hgd hx hdt (pi_one (tk := s1.toks) I1 _ (turn_none _ hdt) ⟨_, Heap.get?_push_size _ rfl, rfl, ?_⟩ q)
    rw [hsz] <;> rfl
end L2.DL
namespace L2.DL
open PySem PySem.Spec PyProof.Rows
def keyND : Option Txt → D
  | none => .non
  | some t => .str t
theorem keyND_rep {K : PySem.W.Frag} {Hs : Hp} (x : Option Txt) : Rep K Hs (keyND x) (keyN x) := by
  cases x with
  | none => exact .non
  | some t => exact .str t
def KwN (d : D) (Q : List D → (Cs → Prop) → (Cs → Cs) → DL.Env → Cs → Prop) (env : DL.Env) (C : Cs) : Prop :=
  (∃ p o kx, d = .cell p ∧ C p = some (noneC p o kx) ∧ Q (kx.map fun e => keyND e.1) (fun C2 => C2 p = some (noneC p o kx)) id env C) ∨ ∃ kvs, d = .dct kvs ∧ Q (walkD .keys kvs) (fun _ => True) id env C
def mKwN (mo : EM D) : WM := fun E env C Q => mo E env C fun d env1 C1 => KwN d Q env1 C1
theorem walksN {K : PySem.W.Frag} {a : Addr} {o : Obj} {kx : List (Option Txt × Option Nat)} {F : Hp} : WalksX K (Itn a o kx) (kx.map fun e => keyND e.1) F (fun C => C a = some (noneC a o kx)) where
  go := fun i d Hs H C e s f g => ⟨noneC_at f g, by have := (List.getElem?_eq_some_iff.mp e).1; simpa using this⟩
  yld := fun i d Hs H C x H' e s f g y => by
    obtain ⟨rfl, en, e2, rfl⟩ := y
    rw [List.getElem?_map, e2] at e
    cases e
    exact ⟨Hs, keyND_rep en.1, fun _ _ z => z, fun Z σ env r => ⟨r, .refl⟩⟩
  stop := fun Hs H C s f g => ⟨noneC_at f g, by simp⟩
theorem dix_keysN {X : Cx} {tg e : Expr} {mo : EM D} (he : DE X RShr e mo) : DIx X tg e (mKwN mo) := fun Z E hE => pi_weak (pi_keysN (pe_lkN (he Z E hE))) fun σ H R ⟨Hs, env, C, P, sr, q, k⟩ => by
  refine ⟨Hs, env, C, _, sr, q, fun d env1 C1 v Hs1 H1 p t s1 r => ?_⟩
  rcases p with ⟨a, o, kx, rfl, hc, p⟩ | ⟨kvs, rfl, p⟩
  · cases r
    have hH := noneC_at s1.fit hc
    exact ⟨a, rfl, .inr ⟨o, kx, hH, a, o, rfl, .inr ⟨kx, hH, k _ _ _ _ _ _ _ _ _ _ _ _ _ _ p t s1 (Lkd.noG s1.bas hc) (fun Hs2 H2 C2 P _ _ _ p => .inl p) walksN⟩⟩⟩
  · cases r with
    | @dct _ a ws h r =>
    rcases h with h | ⟨o, h⟩
    · have hH := s1.fit.sub _ _ h
      refine ⟨a, rfl, .inl ⟨ws, .inr ⟨hH, fun o nf => ⟨a, o, rfl, .inl ⟨ws, upd_same, ?_⟩⟩⟩⟩⟩
      exact k _ _ _ _ _ _ _ _ _ _ _ _ _ _ p t s1 (Lkd.shr s1.fit s1.bas h o) (fun Hs2 H2 C2 P s f _ p => .inr ⟨a, o, _, nf, f.sub _ _ (s _ _ upd_same), p⟩)
        (walksD .keys fun Hs2 H2 C2 s f _ => ⟨f.sub _ _ (s _ _ upd_same), (r.le (Le.lock h)).same s⟩)
    · have hH := s1.fit.sub _ _ h
      refine ⟨a, rfl, .inl ⟨ws, .inl ⟨o, hH, a, o, rfl, .inl ⟨ws, hH, ?_⟩⟩⟩⟩
      exact k _ _ _ _ _ _ _ _ _ _ _ _ _ _ p t s1 (Lkd.no s1.bas) (fun Hs2 H2 C2 P _ _ _ p => .inl p)
        (walksD .keys fun Hs2 H2 C2 s f _ => ⟨f.sub _ _ (s _ _ h), r.same s⟩)
end L2.DL
namespace L2.DL
open PySem PySem.Spec PyProof.Rows
section
variable {E : EX} {env : DL.Env} {C : Cs} {Q : D → DL.Env → Cs → Prop} {ms : EM (List D)} {mo mi : EM D} {g : Cs → List D → (D → Prop) → Prop}
theorem i_callC (q : ms E env C fun ds env1 C1 => g C1 (ds.map (dr C1)) fun x => Q x env1 C1) : mCallC g ms E env C Q := q
theorem i_kwN {Q : List D → (Cs → Prop) → (Cs → Cs) → DL.Env → Cs → Prop} (q : mo E env C fun d env1 C1 => KwN d Q env1 C1) : mKwN mo E env C Q := q
theorem k_dct {kvs : List (DK × D)} {Q : List D → (Cs → Prop) → (Cs → Cs) → DL.Env → Cs → Prop} (q : Q (walkD .keys kvs) (fun _ => True) id env C) : KwN (.dct kvs) Q env C := .inr ⟨kvs, rfl, q⟩
def PutN (n : Nat) (i d : D) (P : DL.Env → Cs → Prop) (env1 : DL.Env) (C1 : Cs) : Prop := (i ≠ .non → PutO n i d P env1 C1) ∧ (i = .non → ∃ (l : List (Txt × Option Nat)) (x : Option Nat), env1[n]? = some (.own (.dct (l.map fun e => ((Sum.inr e.1 : DK), nonD e.2)))) ∧ d = nonD x ∧ l.length < sizeLine ∧
  ∀ p o, C1 p = none → P (env1.set n (.shr (.cell p))) (cput C1 p (noneC p o (l.map (fun e => (some e.1, e.2)) ++ [(none, x)]))))
theorem j_putN {n : Nat} {c : Cont} {d : D} {P : DL.Env → Cs → Prop} (h : env[n]? = some (.own c)) (q : mi E0 env C fun i env1 C1 => PutN n i d P env1 C1) : gPutN n mi d P env C := ⟨⟨c, h⟩, q⟩
end
end L2.DL
namespace L2.DL
open PySem PySem.Spec PyProof.Rows
/-- a or b, as values (as in WB) -/
def mOrN (m m' : EM D) : EM D := fun E env C Q => m E env C fun x env1 C1 => Tru (dr C1 x) fun k => if k = true then Q x env1 C1 else m' E env1 C1 Q
theorem d_orN {X : Cx} {a b : Expr} {rest : List Expr} {pos : Pos} {ma mb : EM D} (ha : DE X RShr a ma) (hb : DE X RShr (.BoolOp .Or (b :: rest) pos) mb) : DE X RShr (.BoolOp .Or (a :: b :: rest) pos) (mOrN ma mb) := fun Z E hE => by
  refine ⟨fun pins s σ H Q I ⟨Hs, env, C, P, sr, q, k⟩ => (pe_orT (ha Z E hE) (hb Z E hE)).run pins s σ H Q I ?_⟩
  refine ⟨Hs, env, C, _, sr, q, fun d env1 C1 v Hs1 H1 q1 t1 s1 r1 => ?_⟩
  have n := RPk.now (Z := Z) (σ := σ) (env := env1) s1.fit (.inl r1)
  unfold Tru at q1
  cases e : truD (dr C1 d) with
  | none => simp only [e] at q1
  | some c =>
    simp only [e] at q1
    refine ⟨c, tru_now s1.fit.sub n e, ?_⟩
    cases c with
    | true =>
      rw [if_pos rfl] at q1 ⊢
      exact k _ _ _ _ _ _ q1 t1 s1 r1
    | false =>
      rw [if_neg Bool.false_ne_true] at q1 ⊢
      exact ⟨Hs1, env1, C1, P, s1, q1, fun d env2 C2 v Hs2 H2 q2 t2 s2 r2 => k _ _ _ _ _ _ q2 (t1.trans t2) s2 r2⟩
theorem i_orN {E : EX} {env : DL.Env} {C : Cs} {ma mb : EM D} {Q : D → DL.Env → Cs → Prop} (q : ma E env C fun x env1 C1 => Tru (dr C1 x) fun k => if k = true then Q x env1 C1 else mb E env1 C1 Q) : mOrN ma mb E env C Q := q
end L2.DL
/-! WZ (k30): tables of reaches judged. -/
namespace L2.DL
open PySem PySem.Spec PyProof.Rows L2.AS
theorem eqv_nonD (x y : Option Nat) : eqv (nonD x) (nonD y) = decide (x = y) := by
  cases x with
  | none => cases y <;> simp [nonD, eqv, toP, PyData.eqv]
  | some a => cases y with
    | none => simp [nonD, eqv, toP, PyData.eqv]
    | some b =>
      simp only [nonD, eqv, toP, PyData.eqv]
      by_cases e : a = b
      · subst e; simp
      · have : ¬ (a : Int) = b := fun z => e (Int.ofNat.inj z)
        simp [e, this]
theorem hits_tab {m : Tb Txt (Option Nat)} : ∀ l : Tb Txt (Option Nat), hitsB (tD nonD m) (tD nonD l) = true ↔ ∀ e ∈ l, lk e.1 m = some e.2
  | [] => ⟨fun _ e h => (by cases h), fun _ => rfl⟩
  | (k, v) :: l => by
    have ih := hits_tab (m := m) l
    show (match look (.inr k) (tD nonD m) with
    | none => false
    | some w => eqv (nonD v) w && hitsB (tD nonD m) (tD nonD l)) = true ↔ _
    rw [look_tD]
    cases e : lk k m with
    | none => exact ⟨fun h => (by cases h), fun h => (by have := h (k, v) List.mem_cons_self; rw [e] at this; cases this)⟩
    | some w =>
      show (eqv (nonD v) (nonD w) && hitsB (tD nonD m) (tD nonD l)) = true ↔ _
      rw [eqv_nonD, Bool.and_eq_true_iff, decide_eq_true_iff, ih]
      constructor
      · rintro ⟨rfl, h⟩ x hx
        rcases List.mem_cons.mp hx with rfl | hx
        · exact e
        · exact h x hx
      · intro h
        have h1 := h (k, v) List.mem_cons_self
        rw [e] at h1
        exact ⟨(Option.some.inj h1).symm, fun x hx => h x (List.mem_cons_of_mem _ hx)⟩
/-- the table of N by F -/
def tbF (N : List Txt) (F : Txt → Option Nat) : Tb Txt (Option Nat) := N.map fun n => (n, F n)
theorem tbF_ks (N : List Txt) (F : Txt → Option Nat) : ks (tbF N F) = N := by unfold ks tbF; rw [List.map_map]; exact List.map_id N
theorem lk_tbF {N : List Txt} {F : Txt → Option Nat} {n : Txt} (h : n ∈ N) : lk n (tbF N F) = some (F n) := by
  unfold tbF
  induction N with
  | nil => cases h
  | cons a N ih =>
    rw [List.map_cons]
    unfold lk
    by_cases e : a = n
    · rw [if_pos e, e]
    · rw [if_neg e]
      exact ih ((List.mem_cons.mp h).resolve_left fun z => e z.symm)
/-- a table that says what F says -/
def IsTab (N : List Txt) (F : Txt → Option Nat) (l : Tb Txt (Option Nat)) : Prop := l.length = N.length ∧ ∀ n ∈ N, lk n l = some (F n)
theorem all_in {α : Type} [DecidableEq α] {l N : List α} (nl : l.Nodup) (h : ∀ x ∈ l, x ∈ N) (e : N.length ≤ l.length) : ∀ n ∈ N, n ∈ l := fun n hn => by
  refine Classical.byContradiction fun q => ?_
  have := nd_le (l := n :: l) (r := N) (List.nodup_cons.mpr ⟨q, nl⟩) fun x hx => by
    rcases List.mem_cons.mp hx with rfl | hx
    · exact hn
    · exact h x hx
  rw [List.length_cons] at this
  omega
theorem eq_tab {N : List Txt} {F : Txt → Option Nat} {l : Tb Txt (Option Nat)} (nN : N.Nodup) (nl : (ks l).Nodup) : eqKV (tD nonD l) (tD nonD (tbF N F)) = true ↔ IsTab N F l := by
  unfold eqKV
  rw [Bool.and_eq_true_iff, hits_tab, beq_iff_eq]
  have l1 : (tD nonD l).length = l.length := by unfold tD; rw [List.length_map]
  have l2 : (tD nonD (tbF N F)).length = N.length := by unfold tD tbF; rw [List.length_map, List.length_map]
  have lks : (ks l).length = l.length := by unfold ks; rw [List.length_map]
  rw [l1, l2]
  constructor
  · rintro ⟨h1, h2⟩
    have hk : ∀ x ∈ ks l, x ∈ N := fun x hx => by
      obtain ⟨e, he, rfl⟩ := List.mem_map.mp hx
      have := mem_ks (lk_mem (h2 e he))
      rw [tbF_ks] at this
      exact this
    have hN := all_in nl hk (by rw [lks]; omega)
    refine ⟨h1, fun n hn => ?_⟩
    obtain ⟨e, he, rfl⟩ := List.mem_map.mp (hN n hn)
    have q := h2 e he
    rw [lk_tbF hn] at q
    rw [lk_of nl (show (e.1, e.2) ∈ l from he), ← Option.some.inj q]
  · rintro ⟨h1, h2⟩
    refine ⟨h1, fun e he => ?_⟩
    have hN : ∀ n ∈ N, n ∈ ks l := fun n hn => mem_ks (lk_mem (h2 n hn))
    have hk := all_in nN hN (by rw [lks]; omega)
    have he1 := hk e.1 (List.mem_map.mpr ⟨e, he, rfl⟩)
    rw [lk_tbF he1]
    have q := h2 e.1 he1
    rw [lk_of nl (show (e.1, e.2) ∈ l from he)] at q
    exact q.symm
/-! ### step by step -/
/-- what a table G says is due at n -/
def Due (op : Txt → List Txt) (own : Txt → Option Txt) (G : Txt → Option Nat) (n : Txt) (r : Option Nat) : Prop :=
  ((∃ o ∈ op n, own o = none) → r = some 1) ∧ ((∀ o ∈ op n, own o ≠ none) → (r = none → ∀ o ∈ op n, ∀ m, own o = some m → G m = none) ∧
    ∀ k, r = some k → (∃ o ∈ op n, ∃ m j, own o = some m ∧ G m = some j ∧ k = j + 1) ∧ ∀ o ∈ op n, ∀ m j, own o = some m → G m = some j → k ≤ j + 1)
section
variable {op : Txt → List Txt} {own : Txt → Option Txt} {N : List Txt} {F G : Txt → Option Nat}
theorem due_up (hown : ∀ o m, own o = some m → m ∈ N) (h : ∀ n ∈ N, Due op own G n (G n)) {n : Txt} {j : Nat} (r : Rch op own n j) : n ∈ N → ∃ k, k ≤ j ∧ G n = some k := by
  induction r with
  | @one n o h1 h2 => exact fun hn => ⟨1, Nat.le_refl _, (h n hn).1 ⟨o, h1, h2⟩⟩
  | @step n o m k h1 h2 h3 ih =>
    intro hn
    obtain ⟨i, hi, e⟩ := ih (hown o m h2)
    by_cases q : ∃ o ∈ op n, own o = none
    · exact ⟨1, by omega, (h n hn).1 q⟩
    · obtain ⟨a, b⟩ := (h n hn).2 fun o ho z => q ⟨o, ho, z⟩
      cases g : G n with
      | none =>
        have := a g o h1 m h2
        rw [e] at this; cases this
      | some z => exact ⟨z, by have := (b z g).2 o h1 m i h2 e; omega, rfl⟩
theorem due_down (hown : ∀ o m, own o = some m → m ∈ N) (h : ∀ n ∈ N, Due op own G n (G n)) : ∀ (k : Nat) (n : Txt), n ∈ N → G n = some k → Rch op own n k := by
  intro k
  induction k using Nat.strongRecOn with
  | ind k ih =>
    intro n hn e
    by_cases q : ∃ o ∈ op n, own o = none
    · have := (h n hn).1 q
      rw [e] at this
      cases this
      obtain ⟨o, h1, h2⟩ := q
      exact .one h1 h2
    · obtain ⟨a, b⟩ := (h n hn).2 fun o ho z => q ⟨o, ho, z⟩
      obtain ⟨⟨o, h1, m, j, h2, h3, rfl⟩, _⟩ := b k e
      exact .step h1 h2 (ih j (by omega) m (hown o m h2) h3)
theorem due_iff (hown : ∀ o m, own o = some m → m ∈ N) (hF : ∀ n ∈ N, ∀ k, F n = some k ↔ IsD op own n k) : (∀ n ∈ N, Due op own G n (G n)) ↔ ∀ n ∈ N, G n = F n := by
  constructor
  · intro h n hn
    cases e : G n with
    | some k =>
      have r := due_down hown h k n hn e
      refine ((hF n hn k).mpr ⟨r, fun j hj => ?_⟩).symm
      obtain ⟨i, hi, e2⟩ := due_up hown h hj hn
      rw [e] at e2
      cases e2
      exact hi
    | none =>
      cases e2 : F n with
      | none => rfl
      | some k =>
        obtain ⟨i, _, e3⟩ := due_up hown h ((hF n hn k).mp e2).1 hn
        rw [e] at e3; cases e3
  · intro h n hn
    rw [h n hn]
    refine ⟨fun ⟨o, h1, h2⟩ => (hF n hn 1).mpr ⟨.one h1 h2, fun j hj => hj.pos⟩, fun nf => ⟨fun e o ho m hm => ?_, fun k e => ⟨?_, fun o ho m j hm g => ?_⟩⟩⟩
    · have hmN := hown o m hm
      rw [h m hmN]
      cases g : F m with
      | none => rfl
      | some j =>
        obtain ⟨i, _, hi⟩ := (Rch.step ho hm ((hF m hmN j).mp g).1).isD
        rw [(hF n hn i).mpr hi] at e; cases e
    · have hd := (hF n hn k).mp e
      cases k with
      | zero => exact absurd hd.1.pos (by omega)
      | succ k =>
        by_cases hk : 1 ≤ k
        · obtain ⟨o, m, h1, h2, h3⟩ := hd.down hk
          have hmN := hown o m h2
          exact ⟨o, h1, m, k, h2, by rw [h m hmN]; exact (hF m hmN k).mpr h3, rfl⟩
        · have : k = 0 := by omega
          subst this
          have r := hd.1
          cases r with
          | one h1 h2 => exact absurd h2 (nf _ h1)
          | step _ _ h3 => exact absurd h3.pos (by omega)
    · have hmN := hown o m hm
      rw [h m hmN] at g
      exact ((hF n hn k).mp e).2 _ (.step ho hm ((hF m hmN j).mp g).1)
end
end L2.DL
namespace L2.DL
open PySem PySem.Spec PyProof.Rows L2.AS
/-- a value of a table that is judged -/
def ValN (d : D) : Prop := (∃ v, d = nonD v ∧ ∀ k, v = some k → k < 128) ∨ d = .bl true ∨ d = .str [49] ∨ d = .lst [.int 1] ∨ d = .dct []
/-- what is judged -/
inductive TryN (m : Nat) (C : Cs) : D → Prop
  | odd {T : D} (t : String) : tyD T = some t → (t = "NoneType" ∨ t = "int" ∨ t = "list") → dr C T = T → Shw 2 800 T → TryN m C T
  | cell {p : Addr} {o : Obj} {kx : List (Option Txt × Option Nat)} : C p = some (noneC p o kx) → (∃ e ∈ kx, e.1 = none) → kx.length = m + 1 → (∀ e ∈ kx, (∀ t, e.1 = some t → t.length ≤ 12 ∧ ∀ c ∈ t, c < 128) ∧ ∀ k, e.2 = some k → k < 128) → TryN m C (.cell p)
  | tab {kvs : List (DK × D)} : (kvs.map (·.1)).Nodup → kvs.length ≤ 100 → (∀ e ∈ kvs, ValN e.2) → Shw 2 800 (.dct kvs) → TryN m C (.dct kvs)
/-- the right table -/
def IsRt (N : List Txt) (F : Txt → Option Nat) (T : D) : Prop := ∃ l, T = .dct (tD nonD l) ∧ (ks l).Nodup ∧ IsTab N F l
theorem odd_kit {t : String} (h : t = "NoneType" ∨ t = "int" ∨ t = "list") : kitB t "dict" = some false := by
  rcases h with rfl | rfl | rfl <;> decide +kernel
theorem isRt_no {N : List Txt} {F : Txt → Option Nat} {T : D} (h : ∀ kvs, T ≠ .dct kvs) : ¬ IsRt N F T := fun ⟨l, e, _⟩ => h _ e
/-- its keys are texts -/
def txK : DK → Bool
  | .inr _ => true
  | .inl _ => false
/-- None or a number -/
def numB : D → Bool
  | .non => true
  | .int _ => true
  | _ => false
theorem nonD_num (x : Option Nat) : numB (nonD x) = true := by cases x <;> rfl
theorem tab_of : ∀ {kvs : List (DK × D)}, (∀ e ∈ kvs, ValN e.2) → (∀ e ∈ kvs, txK e.1 = true) → (∀ e ∈ kvs, numB e.2 = true) → ∃ l, kvs = tD nonD l
  | [], _, _, _ => ⟨[], rfl⟩
  | (k, d) :: kvs, h1, h2, h3 => by
    obtain ⟨l, rfl⟩ := tab_of (fun e he => h1 e (List.mem_cons_of_mem _ he)) (fun e he => h2 e (List.mem_cons_of_mem _ he)) fun e he => h3 e (List.mem_cons_of_mem _ he)
    have k1 := h2 (k, d) List.mem_cons_self
    have v1 := h3 (k, d) List.mem_cons_self
    cases k with
    | inl i => cases k1
    | inr t =>
      rcases h1 (.inr t, d) List.mem_cons_self with ⟨v, e, _⟩ | e | e | e | e
      · have e : d = nonD v := e
        exact ⟨(t, v) :: l, by rw [e]; rfl⟩
      all_goals (have e : d = _ := e; subst e; cases v1)
theorem tab_keys {l : Tb Txt (Option Nat)} (h : ((tD nonD l).map (·.1)).Nodup) : (ks l).Nodup := by
  have e : (tD nonD l).map (·.1) = (ks l).map Sum.inr := by unfold tD ks; rw [List.map_map, List.map_map]; rfl
  rw [e] at h
  exact List.Pairwise.of_map Sum.inr (fun a b n z => n (by rw [z])) h
theorem nonD_inj : ∀ {x y : Option Nat}, nonD x = nonD y → x = y
  | none, none, _ => rfl
  | none, some _, h => nomatch h
  | some _, none, h => nomatch h
  | some a, some b, h => congrArg some (Int.ofNat.inj (D.int.inj h))
theorem tD_inj : ∀ {l l' : Tb Txt (Option Nat)}, tD nonD l = tD nonD l' → l = l'
  | [], [], _ => rfl
  | [], _ :: _, h => nomatch h
  | _ :: _, [], h => nomatch h
  | a :: l, b :: l', h => by
    have h : (Sum.inr a.1, nonD a.2) :: tD nonD l = (Sum.inr b.1, nonD b.2) :: tD nonD l' := h
    obtain ⟨e1, e2⟩ := List.cons.inj h
    rw [tD_inj e2, Prod.ext (Sum.inr.inj (congrArg Prod.fst e1)) (nonD_inj (congrArg Prod.snd e1))]
theorem tab_isRt {N : List Txt} {F : Txt → Option Nat} {l : Tb Txt (Option Nat)} (h : (ks l).Nodup) : IsRt N F (.dct (tD nonD l)) ↔ IsTab N F l := by
  constructor
  · rintro ⟨l', e, _, h'⟩
    rw [tD_inj (D.dct.inj e)]
    exact h'
  · exact fun h' => ⟨l, rfl, h, h'⟩
theorem rt_num {N : List Txt} {F : Txt → Option Nat} {kvs : List (DK × D)} (h : IsRt N F (.dct kvs)) : (∀ e ∈ kvs, txK e.1 = true) ∧ ∀ e ∈ kvs, numB e.2 = true := by
  obtain ⟨l, e, _⟩ := h
  cases D.dct.inj e
  refine ⟨fun e he => ?_, fun e he => ?_⟩ <;> (unfold tD at he; obtain ⟨x, _, rfl⟩ := List.mem_map.mp he)
  · rfl
  · exact nonD_num _
theorem nonD_ok (x : Option Nat) : okD (nonD x) = true := by
  cases x with
  | none => rfl
  | some k =>
    unfold okD nonD
    rw [Bool.and_eq_true_iff]
    refine ⟨rfl, ?_⟩
    simp [toP, SeqAt.shaped, PyData.canLay0, PyData.depth]
end L2.DL
namespace L2.DL
open PySem PySem.Spec PyProof.Rows
theorem dr_none {C : Cs} {p : Addr} {o : Obj} {kx : List (Option Txt × Option Nat)} (h : C p = some (noneC p o kx)) : dr C (.cell p) = .cell p := by
  rw [dr_cell, h]
  rfl
end L2.DL
namespace L2.DL
open PySem PySem.Spec PyProof.Rows L2.AS
theorem due_uniq {op : Txt → List Txt} {own : Txt → Option Txt} {G : Txt → Option Nat} {n : Txt} {r r' : Option Nat} (h : Due op own G n r) (h' : Due op own G n r') : r = r' := by
  by_cases q : ∃ o ∈ op n, own o = none
  · rw [h.1 q, h'.1 q]
  · have nf : ∀ o ∈ op n, own o ≠ none := fun o ho z => q ⟨o, ho, z⟩
    obtain ⟨a, b⟩ := h.2 nf
    obtain ⟨a', b'⟩ := h'.2 nf
    cases r with
    | none =>
      cases r' with
      | none => rfl
      | some k =>
        obtain ⟨⟨o, ho, m, j, h1, h2, _⟩, _⟩ := b' k rfl
        rw [a rfl o ho m h1] at h2; cases h2
    | some k =>
      obtain ⟨⟨o, ho, m, j, h1, h2, e⟩, l⟩ := b k rfl
      cases r' with
      | none => rw [a' rfl o ho m h1] at h2; cases h2
      | some k' =>
        obtain ⟨⟨o', ho', m', j', h1', h2', e'⟩, l'⟩ := b' k' rfl
        have := l o' ho' m' j' h1' h2'
        have := l' o ho m j h1 h2
        exact congrArg some (by omega)
theorem inD_optD (l : List Txt) (own : Txt → Option Txt) : inD .non (l.map fun o => optD (own o)) = l.any fun o => (own o).isNone := by
  unfold inD
  rw [List.any_map]
  congr 1
  funext o
  show eqv (optD (own o)) .non = _
  cases own o <;> simp [optD, eqv, toP, PyData.eqv]
theorem flD_optD (l : List Txt) (own : Txt → Option Txt) : (l.map fun o => optD (own o)).all flD = true := by
  rw [List.all_map, List.all_eq_true]
  intro o _
  show flD (optD (own o)) = true
  cases own o <;> rfl
end L2.DL
namespace L2.DL
open PySem PySem.Spec PyProof.Rows L2.AS
theorem g_inO {C : Cs} {neg : Bool} {l : List Txt} {own : Txt → Option Txt} {P : D → Prop} (q : P (.bl (if neg then !(l.any fun o => (own o).isNone) else l.any fun o => (own o).isNone))) : gIn neg (dr C .non) (dr C (.lst (l.map fun o => optD (own o)))) P := by
  refine ⟨.inl ⟨rfl, flD_optD _ _⟩, ?_⟩
  rw [show dr C .non = D.non from rfl, inD_optD]
  exact q
end L2.DL
namespace L2.DL
open PySem PySem.Spec PyProof.Rows L2.AS
theorem keyP_D : ∀ k : DK, keyP k = toP (keyD k)
  | .inl _ => rfl
  | .inr _ => rfl
theorem shws_kv {k w : Nat} : ∀ {kvs : List (DK × D)}, (∀ e ∈ kvs, Shw 0 12 (keyD e.1) ∧ Shw k w e.2) → isRkv kvs = true ∧ PyData.showableKv (toPkv kvs) = true ∧ PyData.leavesShortKv 103 (toPkv kvs) = true ∧ PyData.depthKv (toPkv kvs) ≤ k ∧ PyData.weightKv (toPkv kvs) ≤ (w + 14) * kvs.length
  | [], _ => ⟨rfl, rfl, rfl, Nat.zero_le _, by simp [toPkv, PyData.weightKv]⟩
  | (a, b) :: kvs, h => by
    obtain ⟨h1, h2, h3, h4, h5⟩ := shws_kv (kvs := kvs) fun e he => h e (List.mem_cons_of_mem _ he)
    obtain ⟨sa, sb⟩ := h (a, b) List.mem_cons_self
    have sa : Shw 0 12 (keyD a) := sa
    have sb : Shw k w b := sb
    have da := sa.dp
    have db := sb.dp
    have wa := sa.wt
    have wb := sb.wt
    have la := sa.l
    have lb := sb.l
    have ssa := sa.s
    have ssb := sb.s
    have rb := sb.r
    simp only [isRkv, toPkv, PyData.showableKv, PyData.leavesShortKv, PyData.depthKv, PyData.weightKv, keyP_D]
    refine ⟨by rw [rb, h1]; rfl, by rw [ssa, ssb, h2]; rfl, by rw [la, lb, h3]; rfl, by omega, ?_⟩
    rw [List.length_cons, Nat.mul_succ]
    omega
theorem shw_kv {k w n : Nat} {kvs : List (DK × D)} (h : ∀ e ∈ kvs, Shw 0 12 (keyD e.1) ∧ Shw k w e.2) (hl : kvs.length ≤ n) : Shw (k + 1) ((w + 14) * n) (.dct kvs) := by
  obtain ⟨h1, h2, h3, h4, h5⟩ := shws_kv h
  refine ⟨h1, ?_, ?_, ?_, ?_⟩
  · simp only [toP, PyData.showable, h2]
  · simp only [toP, PyData.leavesShort, h3]
  · simp only [toP, PyData.depth]; omega
  · simp only [toP, PyData.weight]
    exact Nat.le_trans h5 (Nat.mul_le_mul_left _ hl)
theorem shw_nonD {x : Option Nat} (h : ∀ k, x = some k → k < 128) : Shw 1 40 (nonD x) := by
  cases x with
  | none => exact (shw_non (k := 1)).mono (Nat.le_refl _) (by decide)
  | some k => exact (shw_small (h k rfl)).mono (by decide) (by decide)
theorem ValN.sh {d : D} (h : ValN d) : Shw 1 40 d := by
  rcases h with ⟨v, rfl, h⟩ | rfl | rfl | rfl | rfl
  · exact shw_nonD h
  · exact (shw_bl (k := 1) true).mono (Nat.le_refl _) (by decide)
  · exact (shw_str (k := 1) (w := 1) (t := [49]) (by decide) (by decide)).mono (Nat.le_refl _) (by decide)
  · exact Shw.of (by decide +kernel)
  · exact Shw.of (by decide +kernel)
/-- a table that is judged -/
theorem TryN.of {m : Nat} {C : Cs} {kvs : List (DK × D)} (nd : (kvs.map (·.1)).Nodup) (hl : kvs.length ≤ 10) (hk : ∀ e ∈ kvs, Shw 0 12 (keyD e.1)) (hv : ∀ e ∈ kvs, ValN e.2) : TryN m C (.dct kvs) :=
  .tab nd (by omega) hv ((shw_kv (k := 1) (w := 40) (n := 10) (fun e he => ⟨hk e he, (hv e he).sh⟩) hl).mono (by decide) (by decide))
theorem shw_key {t : Txt} (h : t.length ≤ 12) (h' : ∀ c ∈ t, c < 128) : Shw 0 12 (keyD (.inr t)) := shw_str h h'
theorem tD_nd {l : Tb Txt (Option Nat)} (h : (ks l).Nodup) : ((tD nonD l).map (·.1)).Nodup := by
  have e : (tD nonD l).map (·.1) = (ks l).map Sum.inr := by unfold tD ks; rw [List.map_map, List.map_map]; rfl
  rw [e]
  exact nd_map h fun a b _ _ z => by injection z
end L2.DL
namespace L2.DL
open PySem PySem.Spec PyProof.Rows
/-- the number that decimal digits spell -/
def dvalN (t : Txt) : Nat := t.foldl (fun a c => 10 * a + (c - 48)) 0
theorem shT_ints : ((List.range 128).all fun k => decide (48 ≤ (shT (.int (k : Nat))).headD 0 ∧ (shT (.int (k : Nat))).headD 0 ≤ 57 ∧ dvalN (shT (.int (k : Nat))) = k)) = true := by
  unfold shT; decide +kernel
theorem shT_int {k : Nat} (h : k < 128) : 48 ≤ (shT (.int k)).headD 0 ∧ (shT (.int k)).headD 0 ≤ 57 ∧ dvalN (shT (.int k)) = k :=
  of_decide_eq_true (List.all_eq_true.mp shT_ints k (List.mem_range.mpr h))
theorem shT_heads : (shT .non).headD 0 = 78 ∧ (shT (.bl true)).headD 0 = 84 ∧ (shT (.str [49])).headD 0 = 39 ∧ (shT (.lst [.int 1])).headD 0 = 91 ∧ (shT (.dct [])).headD 0 = 123 := by
  unfold shT; decide +kernel
theorem shT_num {d : D} {x : Option Nat} (hd : ValN d) (hx : ∀ k, x = some k → k < 128) (h : shT d = shT (nonD x)) : d = nonD x := by
  obtain ⟨h1, h2, h3, h4, h5⟩ := shT_heads
  have hh : (shT d).headD 0 = (shT (nonD x)).headD 0 := by rw [h]
  cases x with
  | none =>
    have e : shT (nonD none) = shT .non := rfl
    rw [e, h1] at hh
    rcases hd with ⟨v, rfl, hv⟩ | rfl | rfl | rfl | rfl
    · cases v with
      | none => rfl
      | some k =>
        have q := shT_int (hv k rfl)
        have e : shT (nonD (some k)) = shT (.int k) := rfl
        rw [e] at hh
        omega
    · rw [h2] at hh; cases hh
    · rw [h3] at hh; cases hh
    · rw [h4] at hh; cases hh
    · rw [h5] at hh; cases hh
  | some j =>
    have q' := shT_int (hx j rfl)
    have e : shT (nonD (some j)) = shT (.int j) := rfl
    rw [e] at hh
    rcases hd with ⟨v, rfl, hv⟩ | rfl | rfl | rfl | rfl
    · cases v with
      | none =>
        have e : shT (nonD none) = shT .non := rfl
        rw [e] at hh
        omega
      | some k =>
        have q := shT_int (hv k rfl)
        have h : shT (.int k) = shT (.int j) := h
        have := q.2.2
        rw [h, q'.2.2] at this
        rw [this]
    · omega
    · omega
    · omega
    · omega
end L2.DL
namespace L2.DL
open PySem PySem.Spec PyProof.Rows
abbrev top (i : Nat) : Stmt := PySem.Challenge.pw_ownletters_k30_reaches_judged.main.body.getD i (.Pass ⟨0, 0, 0, 0⟩)
class Cad where
  no : Unit
section
variable [Cad]
def sp__law_stream : DSp := spPurse false
def sp__law_draw : DSp := spDraw false
def sp__law_choose : DSp := spChoose false
def sp__law_word : DSp := fun ds C PR _ => ∃ a s n, ds = [.cell a, .str s, .int n] ∧ C a = some (.pur false) ∧ s ≠ [] ∧ s.length ≤ 1000 ∧ 0 < n ∧ n ≤ 1000 ∧ ∀ t : Txt, 0 < t.length → (t.length : Int) ≤ n → (∀ c ∈ t, c ∈ s) → PR (.shr (.str t)) C
def sp__law_shuffled : DSp := fun ds C PR _ => ∃ (st : Addr) (xs : List D), ds = [.cell st, .lst xs] ∧ C st = some (.pur false) ∧ xs.length ≤ 100000 ∧ ∀ ys : List D, ys.Perm xs → PR (.frs (.lst ys)) C
def sp__law_words : DSp := fun ds C PR _ => ∃ (st : Addr) (am n : Nat) (s : Txt), ds = [.cell st, .int am, .str s, .int n] ∧ C st = some (.pur false) ∧ am ≤ 60 ∧ s ≠ [] ∧ s.length ≤ 26 ∧ 0 < n ∧ n ≤ 12 ∧ (∀ c ∈ s, 97 ≤ c ∧ c ≤ 122) ∧
  ∀ ws : List Txt, ws.Nodup → ws.length ≤ am → (∀ t ∈ ws, nameOk t ∧ t.length ≤ n) → (∀ t ∈ ws, ∀ c ∈ t, c ∈ s) → PR (.shr (.lst (txs ws))) C
def sp__law_spellings : DSp := fun ds C PR _ => ∃ (w : Txt) (n : Nat), ds = [.str w, .int n] ∧ w.length ≤ 5 ∧ n ≤ 3 ∧ ∀ ts : List Txt, ts.Nodup → ts.length ≤ 200 → (∀ t ∈ ts, t.length = n ∧ ∀ c ∈ t, c ∈ w) → PR (.frs (.lst (txs ts))) C
/-- a claim without held codes -/
structure ClN (c : Cl) : Prop where
  n : nameOk c.nm
  h : c.held = []
  l : c.opts.length ≤ 200
  o : ∀ o ∈ c.opts, o.length ≤ 3 ∧ ∀ x ∈ o, 97 ≤ x ∧ x ≤ 122
structure ClU (c : Cl) : Prop extends ClN c where
  u : c.opts.Nodup
def sp__law_claims : DSp := fun ds C PR _ => ∃ (st : Addr) (am : Nat), ds = [.cell st, .int am] ∧ C st = some (.pur false) ∧ am ≤ 60 ∧
  ∀ S : List Cl, (S.map (·.nm)).Nodup → S.length ≤ am → (∀ c ∈ S, ClU c) → (∀ c ∈ S, c.nm ≠ [122, 122]) → PR (.frs (.lst (S.map clD))) C
def sp__law_coding : DSp := fun ds C PR _ => ∃ (st : Addr) (S : List Cl) (m : Nat), ds = [.cell st, .lst (S.map clD), .int m] ∧ C st = some (.pur false) ∧ S.length ≤ 60 ∧ (S.map (·.nm)).Nodup ∧ (∀ c ∈ S, ClN c) ∧
  ∀ kv : List (Txt × Txt), (kv.map (·.1)).Nodup → (kv.map (·.2)).Nodup → (∀ e ∈ kv, ∃ c ∈ S, c.nm = e.1 ∧ e.2 ∈ c.opts) → PR (.frs (.dct (tD D.str kv))) C
theorem drOT {C : Cs} (x : Option Txt) : dr C (optD x) = optD x := by cases x <;> rfl
theorem g_isO {C : Cs} {x : Option Txt} {P : D → Prop} (q : P (.bl x.isNone)) : gIs false (dr C (optD x)) (dr C .non) P := g_is (drOT x) (by cases x <;> exact q)
theorem g_isntO {C : Cs} {x : Option Txt} {P : D → Prop} (q : P (.bl x.isSome)) : gIs true (dr C (optD x)) (dr C .non) P := g_is (drOT x) (by cases x <;> exact q)
def sp__law_owner : DSp := fun ds C PR _ => ∃ (cd : List (Txt × Txt)) (o : Txt), ds = [.dct (tD D.str cd), .str o] ∧ cd.length ≤ 1000 ∧ (cd.map (·.1)).Nodup ∧ PR (.shr (optD (L2.AS.lk o (cd.map fun e => (e.2, e.1))))) C
/-- the names below, one for each reach -/
theorem reach_le {N : List Txt} {op : Txt → List Txt} {own : Txt → Option Txt} {F : Txt → Option Nat} (hF : ∀ n ∈ N, ∀ k, F n = some k ↔ IsD op own n k) (hown : ∀ o m, own o = some m → m ∈ N) : ∀ {k : Nat} {n : Txt}, n ∈ N → F n = some k → ∃ L : List Txt, L.length = k ∧ L.Nodup ∧ ∀ y ∈ L, y ∈ N ∧ ∃ j, j ≤ k ∧ F y = some j
  | 0, n, hn, h => by have := ((hF n hn 0).mp h).1.pos; omega
  | 1, n, hn, h => ⟨[n], rfl, by simp, fun y hy => by rw [List.mem_singleton.mp hy]; exact ⟨hn, 1, Nat.le_refl _, h⟩⟩
  | k + 2, n, hn, h => by
    obtain ⟨o, m, _, h2, h3⟩ := ((hF n hn _).mp h).down (by omega)
    have hm := hown o m h2
    obtain ⟨L, l1, l2, l3⟩ := reach_le hF hown hm ((hF m hm _).mpr h3)
    refine ⟨n :: L, by rw [List.length_cons, l1], List.nodup_cons.mpr ⟨fun z => ?_, l2⟩, fun y hy => ?_⟩
    · obtain ⟨_, j, hj, e⟩ := l3 n z
      rw [h] at e
      have := Option.some.inj e
      omega
    · rcases List.mem_cons.mp hy with rfl | hy
      · exact ⟨hn, _, Nat.le_refl _, h⟩
      · obtain ⟨h1, j, hj, e⟩ := l3 y hy
        exact ⟨h1, j, by omega, e⟩
def sp__law_reaches : DSp := fun ds C PR _ => ∃ (S : List Cl) (cd : List (Txt × Txt)) (op : Txt → List Txt), ds = [sitD S, .dct (tD D.str cd)] ∧ S.length ≤ 60 ∧ (S.map (·.nm)).Nodup ∧ (∀ c ∈ S, c.opts = op c.nm) ∧ (∀ c ∈ S, c.opts.length ≤ 1000) ∧ cd.length ≤ 1000 ∧ (cd.map (·.1)).Nodup ∧ (cd.map (·.2)).Nodup ∧ (∀ e ∈ cd, e.1 ∈ S.map (·.nm)) ∧
  ∀ F : Txt → Option Nat, (∀ n ∈ S.map (·.nm), ∀ k, F n = some k ↔ IsD op (fun o => L2.AS.lk o (cd.map fun e => (e.2, e.1))) n k) → PR (.frs (.dct ((S.map (·.nm)).map fun n => (Sum.inr n, match F n with | none => .non | some k => .int k)))) C
def sp_owners_of : DSp := fun ds C PR _ => ∃ (cd : List (Txt × Txt)), ds = [.dct (tD D.str cd)] ∧ cd.length ≤ 1000 ∧ (cd.map (·.2)).Nodup ∧ PR (.frs (.dct (tD D.str (cd.map fun e => (e.2, e.1))))) C
def natO : Option Nat → D
  | none => .non
  | some k => .int k
def sp_reaches : DSp := fun ds C PR _ => ∃ (S : List Cl) (cd : List (Txt × Txt)) (op : Txt → List Txt), ds = [sitD S, .dct (tD D.str cd)] ∧ S.length ≤ 1000 ∧ (S.map (·.nm)).Nodup ∧ (∀ c ∈ S, c.opts = op c.nm) ∧ (∀ c ∈ S, c.opts.length ≤ 1000) ∧ cd.length ≤ 1000 ∧ (cd.map (·.2)).Nodup ∧ (∀ e ∈ cd, e.1 ∈ S.map (·.nm)) ∧
  ∀ F : Txt → Option Nat, (∀ n ∈ S.map (·.nm), ∀ k, F n = some k ↔ IsD op (fun o => L2.AS.lk o (cd.map fun e => (e.2, e.1))) n k) → PR (.frs (.dct ((S.map (·.nm)).map fun n => (Sum.inr n, natO (F n))))) C
def sp_is_reaches : DSp := fun ds C PR _ => ∃ (S : List Cl) (cd : List (Txt × Txt)) (op : Txt → List Txt) (F : Txt → Option Nat) (T : D), ds = [sitD S, .dct (tD D.str cd), T] ∧ S.length ≤ 1000 ∧ (S.map (·.nm)).Nodup ∧ (∀ c ∈ S, c.opts = op c.nm) ∧ (∀ c ∈ S, c.opts.length ≤ 1000) ∧ cd.length ≤ 1000 ∧ (cd.map (·.2)).Nodup ∧ (∀ e ∈ cd, e.1 ∈ S.map (·.nm)) ∧
  (∀ n ∈ S.map (·.nm), ∀ k, F n = some k ↔ IsD op (fun o => L2.AS.lk o (cd.map fun e => (e.2, e.1))) n k) ∧ (∃ m, m ≤ 100 ∧ TryN m C T) ∧ ∀ b : Bool, (b = true ↔ IsRt (S.map (·.nm)) F T) → PR (.shr (.bl b)) C
def sp__law_by_steps : DSp := fun ds C PR _ => ∃ (S : List Cl) (cd : List (Txt × Txt)) (op : Txt → List Txt) (F : Txt → Option Nat) (l : L2.AS.Tb Txt (Option Nat)), ds = [sitD S, .dct (tD D.str cd), .dct (tD nonD l)] ∧ S.length ≤ 60 ∧ (S.map (·.nm)).Nodup ∧ (∀ c ∈ S, c.opts = op c.nm) ∧ (∀ c ∈ S, c.opts.length ≤ 1000) ∧ cd.length ≤ 1000 ∧ (cd.map (·.1)).Nodup ∧ (cd.map (·.2)).Nodup ∧ (∀ e ∈ cd, e.1 ∈ S.map (·.nm)) ∧
  (∀ n ∈ S.map (·.nm), ∀ k, F n = some k ↔ IsD op (fun o => L2.AS.lk o (cd.map fun e => (e.2, e.1))) n k) ∧ (∀ n ∈ S.map (·.nm), (L2.AS.lk n l).isSome = true) ∧ ∀ b : Bool, (b = true ↔ ∀ n ∈ S.map (·.nm), L2.AS.lk n l = some (F n)) → PR (.shr (.bl b)) C
def sp__law_bent : DSp := fun ds C PR _ => ∃ (st : Addr) (N : List Txt) (F : Txt → Option Nat), ds = [.cell st, .dct (tD nonD (tbF N F))] ∧ C st = some (.pur false) ∧ N.length ≤ 8 ∧ N.Nodup ∧ (∀ n ∈ N, n.length ≤ 12 ∧ (∀ c ∈ n, c < 128) ∧ n ≠ [122, 122]) ∧ (∀ n ∈ N, ∀ k, F n = some k → k ≤ 60) ∧
  ∀ r C', TryN N.length C' r.tree → C' st = some (.pur false) → PR r C'
def sp__law_has_names : DSp := fun ds C PR _ => ∃ (N : List Txt) (F : Txt → Option Nat) (T : D), ds = [T, .dct (tD nonD (tbF N F))] ∧ N.length ≤ 100 ∧ TryN N.length C T ∧ ∀ b : Bool, (b = true ↔ ∃ kvs, T = .dct kvs ∧ kvs.length = N.length ∧ ∀ n ∈ N, (look (.inr n) kvs).isSome = true) → PR (.shr (.bl b)) C
def sp__law_all_numbers : DSp := fun ds C PR _ => ∃ (kvs : List (DK × D)), ds = [.dct kvs] ∧ kvs.length ≤ 100 ∧ (kvs.map (·.1)).Nodup ∧ (∀ e ∈ kvs, ValN e.2) ∧ ∀ b : Bool, (b = true ↔ ∀ e ∈ kvs, numB e.2 = true ∧ e.2 ≠ .int 0) → PR (.shr (.bl b)) C
def spLaw : DSp := fun ds C PR _ => ∃ (ns : List Int), ds = [.scr ns] ∧ ns.length ≤ 63 ∧ (∀ n ∈ ns, Builtin.Int.intBits n ≤ 1048576) ∧ ∀ C', PR (.shr (.bl true)) C'
/-- what the text's globals and classes are -/
structure Gls [Cad] (K : PySem.W.Frag) (mg : Str → Option Value) : Prop where
  n_all : mg "all" = none
  n_any : mg "any" = none
  n_bool : mg "bool" = none
  n_dict : mg "dict" = none
  n_int : mg "int" = none
  n_isinstance : mg "isinstance" = none
  n_len : mg "len" = none
  n_list : mg "list" = none
  n_max : mg "max" = none
  n_min : mg "min" = none
  n_range : mg "range" = none
  n_repr : mg "repr" = none
  n_sorted : mg "sorted" = none
  n_str : mg "str" = none
  n_tuple : mg "tuple" = none
/-! ### _law_stream -/
abbrev st__law_stream : Stmt := top 5
theorem sc__law_stream : FnScope ["_law_script", "_law_start", "_law_seed", "_law_entry", "_law_digits"] ["_law_script", "_law_start"] (defScope st__law_stream) := ⟨rfl, rfl, rfl, by decide +kernel, rfl, by decide +kernel, by decide +kernel⟩
def m__law_stream : SM :=
  (sSeq (sSet 2 (mOp gAdd (mC (.int 37)) (mPeek 1)))
    (sSeq (sFor (gN 3) (mIter (mVar 0)) (sSet 2 (mOp gAdd (mOp (gI (fun _ j => 0 < j) fun i j => i % j) (mOp (gI PowOk fun i j => i ^ j.toNat) (mOp gAdd (mOp gMul (mPeek 2) (mC (.int 40127))) (mPeek 3)) (mC (.int 3))) (mC (.int 2147483629))) (mC (.int 1)))))
    (sSeq (sSet 4 (mC (.int 0)))
    (sSeq (sIf (mAndT (mTst (mOp (gOrd (fun i j => decide (i < j)) fun s t => decide (s < t)) (mPeek 1) (mCallB gLen (mCons (mPeek 0) mNil)))) (mTst (mOp (gOrd (fun i j => decide (j ≤ i)) fun s t => !decide (s < t)) (mOp gIx (mPeek 0) (mPeek 1)) (mOp (gI PowOk fun i j => i ^ j.toNat) (mC (.int 10)) (mC (.int 18)))))) (sSet 4 (mOp (gI0 fun i j => i - j) (mOp gIx (mPeek 0) (mPeek 1)) (mOp (gI PowOk fun i j => i ^ j.toNat) (mC (.int 10)) (mC (.int 18))))) sNext)
    (sRetF (mLst (mCons (mVar 4) (mCons (mVar 2) mNil))))))))
/-! ### _law_draw -/
abbrev st__law_draw : Stmt := top 6
theorem sc__law_draw : FnScope ["_law_stream_here", "_law_size", "_law_found"] ["_law_stream_here", "_law_size"] (defScope st__law_draw) := ⟨rfl, rfl, rfl, by decide +kernel, rfl, by decide +kernel, by decide +kernel⟩
def m__law_draw : SM :=
  (sSeq (sIf (mTst (mOp (gOrd (fun i j => decide (j ≤ i)) fun s t => !decide (s < t)) (mOp gIx (mPeek 0) (mC (.int 0))) (mPeek 1))) (sSeq (sSet 2 (mOp (gI (fun _ j => 0 < j) fun i j => i % j) (mOp gIx (mPeek 0) (mC (.int 0))) (mPeek 1)))
    (sSeq (sAsg (gPutC (mVar 0) (mC (.int 0))) (mOp (gI DivOk fun i j => i / j) (mOp gIx (mPeek 0) (mC (.int 0))) (mPeek 1)))
    (sRetO 2))) sNext)
    (sSeq (sAsg (gPutC (mVar 0) (mC (.int 1))) (mOp (gI (fun _ j => 0 < j) fun i j => i % j) (mOp gAdd (mOp gMul (mOp gIx (mPeek 0) (mC (.int 1))) (mC (.int 48271))) (mC (.int 12345))) (mC (.int 2147483647))))
    (sRet (mOp (gI (fun _ j => 0 < j) fun i j => i % j) (mOp (gI DivOk fun i j => i / j) (mOp (gI (fun _ j => 0 < j) fun i j => i % j) (mOp (gI PowOk fun i j => i ^ j.toNat) (mOp (gI (fun _ j => 0 < j) fun i j => i % j) (mOp (gI PowOk fun i j => i ^ j.toNat) (mOp gIx (mPeek 0) (mC (.int 1))) (mC (.int 3))) (mC (.int 2147483629))) (mC (.int 5))) (mC (.int 1000000007))) (mC (.int 7))) (mPeek 1)))))
/-! ### _law_choose -/
abbrev st__law_choose : Stmt := top 7
theorem sc__law_choose : FnScope ["_law_stream_here", "_law_rows"] ["_law_stream_here", "_law_rows"] (defScope st__law_choose) := ⟨rfl, rfl, rfl, by decide +kernel, rfl, by decide +kernel, by decide +kernel⟩
def m__law_choose : SM :=
  (sRet (mOp gIx (mPeek 1) (mCall sp__law_draw [] (mCons (mVar 0) (mCons (mCallB gLen (mCons (mPeek 1) mNil)) mNil)))))
/-! ### _law_word -/
abbrev st__law_word : Stmt := top 9
theorem sc__law_word : FnScope ["_law_stream_here", "_law_letters", "_law_most", "_law_turn"] ["_law_stream_here", "_law_letters", "_law_most"] (defScope st__law_word) := ⟨rfl, rfl, rfl, by decide +kernel, rfl, by decide +kernel, by decide +kernel⟩
def m__law_word : SM :=
  (sRet (mTx1 gJoin (mC (.str [])) (mMap Cont.d (mComp [3] (gN 3) (mRng1 (mCons (mOp gAdd (mC (.int 1)) (mCall sp__law_draw [] (mCons (mVar 0) (mCons (mVar 2) mNil)))) mNil)) (mC true) (mCall sp__law_choose [] (mCons (mVar 0) (mCons (mVar 1) mNil)))))))
/-! ### _law_shuffled -/
abbrev st__law_shuffled : Stmt := top 8
theorem sc__law_shuffled : FnScope ["_law_stream_here", "_law_rows", "_law_left", "_law_found"] ["_law_stream_here", "_law_rows"] (defScope st__law_shuffled) := ⟨rfl, rfl, rfl, by decide +kernel, rfl, by decide +kernel, by decide +kernel⟩
def m__law_shuffled : SM :=
  (sSeq (sParOO 2 3 (mCallB gList (mCons (mPeek 1) mNil)))
    (sSeq (sWhile (mTst (mOp (gEqN true) (mPeek 2) (mMap Cont.d (mLst mNil)))) (sAppPop 3 2 (mCall sp__law_draw [] (mCons (mVar 0) (mCons (mCallB gLen (mCons (mPeek 2) mNil)) mNil)))))
    (sRetO 3)))
/-! ### _law_words -/
abbrev st__law_words : Stmt := top 10
theorem sc__law_words : FnScope ["_law_stream_here", "_law_amount", "_law_letters", "_law_most", "_law_found", "_law_turn"] ["_law_stream_here", "_law_amount", "_law_letters", "_law_most"] (defScope st__law_words) := ⟨rfl, rfl, rfl, by decide +kernel, rfl, by decide +kernel, by decide +kernel⟩
def m__law_words : SM :=
  (sSeq (sSetO 4 (mC (.dct [])))
    (sSeq (sFor (gN 5) (mRng1 (mCons (mVar 1) mNil)) (sAsg (gPutO 4 (mCall sp__law_word [] (mCons (mVar 0) (mCons (mVar 2) (mCons (mVar 3) mNil))))) (mC (.bl true))))
    (sRet (mCall sp__law_shuffled [] (mCons (mVar 0) (mCons (mMap Cont.d (mCallB gSortDT (mCons (mPeek 4) mNil))) mNil))))))
/-! ### _law_spellings -/
abbrev st__law_spellings : Stmt := top 11
theorem sc__law_spellings : FnScope ["_law_word_here", "_law_size", "_law_rows", "_law_turn", "_law_longer", "_law_text", "_law_begun", "_law_at", "_law_found"] ["_law_word_here", "_law_size"] (defScope st__law_spellings) := ⟨rfl, rfl, rfl, by decide +kernel, rfl, by decide +kernel, by decide +kernel⟩
def m__law_spellings : SM :=
  (sSeq (sSet 2 (mMap Cont.d (mLst (mCons (mTup (mCons (mC (.str [])) (mCons (mC (.int 0)) mNil))) mNil))))
    (sSeq (sFor (gN 3) (mRng1 (mCons (mVar 1) mNil)) (sSeq (sSetO 4 (mLst mNil))
    (sSeq (sFor (gTupD 2 (gsCons (gN 5) (gsCons (gN 6) gsNil))) (mIter (mVar 2)) (sFor (gN 7) (mRng2 (mCons (mVar 6) (mCons (mCallB gLen (mCons (mPeek 0) mNil)) mNil))) (sApp 4 (mTup (mCons (mOp gAdd (mPeek 5) (mOp gIx (mPeek 0) (mPeek 7))) (mCons (mOp gAdd (mPeek 7) (mC (.int 1))) mNil))))))
    (sSet 2 (mVar 4)))))
    (sSeq (sSetO 8 (mLst mNil))
    (sSeq (sFor (gTupD 2 (gsCons (gN 5) (gsCons (gN 6) gsNil))) (mIter (mVar 2)) (sIf (mTst (mOp (gIn true) (mPeek 5) (mPeek 8))) (sApp 8 (mVar 5)) sNext))
    (sRetO 8)))))
/-! ### _law_claims -/
abbrev st__law_claims : Stmt := top 12
theorem sc__law_claims : FnScope ["_law_stream_here", "_law_amount", "_law_letters", "_law_size", "_law_found", "_law_word_here", "_law_rows", "_law_code"] ["_law_stream_here", "_law_amount"] (defScope st__law_claims) := ⟨rfl, rfl, rfl, by decide +kernel, rfl, by decide +kernel, by decide +kernel⟩
def m__law_claims : SM :=
  (sSeq (sSet 2 (mCall sp__law_choose [] (mCons (mVar 0) (mCons (mMap Cont.d (mLst (mCons (mC (.str [97, 98])) (mCons (mC (.str [97, 98, 99])) (mCons (mC (.str [97, 98, 99, 100])) (mCons (mC (.str [97, 98, 99, 100, 101, 102, 103])) mNil)))))) mNil))))
    (sSeq (sSet 3 (mOp gAdd (mC (.int 1)) (mCall sp__law_draw [] (mCons (mVar 0) (mCons (mC (.int 3)) mNil)))))
    (sSeq (sSetO 4 (mLst mNil))
    (sSeq (sFor (gN 5) (mIter (mCall sp__law_words [] (mCons (mVar 0) (mCons (mVar 1) (mCons (mVar 2) (mCons (mC (.int 5)) mNil)))))) (sSeq (sSet 6 (mMap Cont.d (mComp [7] (gN 7) (mIter (mCall sp__law_spellings [] (mCons (mVar 5) (mCons (mVar 3) mNil)))) (mTst (mOp (gOrd (fun i j => decide (j < i)) fun s t => decide (t < s)) (mCall sp__law_draw [] (mCons (mVar 0) (mCons (mC (.int 6)) mNil))) (mC (.int 0)))) (mVar 7))))
    (sApp 4 (mTup (mCons (mVar 5) (mCons (mTupX mNil) (mCons (mCallB gTupleX (mCons (mPeek 6) mNil)) mNil)))))))
    (sRetO 4)))))
/-! ### _law_coding -/
abbrev st__law_coding : Stmt := top 13
theorem sc__law_coding : FnScope ["_law_stream_here", "_law_claims_here", "_law_most", "_law_found", "_law_word_here", "_law_held", "_law_options", "_law_free", "_law_code"] ["_law_stream_here", "_law_claims_here", "_law_most"] (defScope st__law_coding) := ⟨rfl, rfl, rfl, by decide +kernel, rfl, by decide +kernel, by decide +kernel⟩
def m__law_coding : SM :=
  (sSeq (sSetO 3 (mC (.dct [])))
    (sSeq (sFor (gTupD 3 (gsCons (gN 4) (gsCons (gN 5) (gsCons (gN 6) gsNil)))) (mIter (mCall sp__law_shuffled [] (mCons (mVar 0) (mCons (mVar 1) mNil)))) (sSeq (sSet 7 (mMap Cont.d (mComp [8] (gN 8) (mIter (mVar 6)) (mInV true (mPeek 8) (mPeek 3)) (mVar 8))))
    (sIf (mAndT (mTst (mOp (gEqN true) (mPeek 7) (mMap Cont.d (mLst mNil)))) (mTst (mOp (gOrd (fun i j => decide (i < j)) fun s t => decide (s < t)) (mCallB gLen (mCons (mPeek 3) mNil)) (mPeek 2)))) (sAsg (gPutO 3 (mVar 4)) (mCall sp__law_choose [] (mCons (mVar 0) (mCons (mVar 7) mNil)))) sNext)))
    (sRetO 3)))
/-! ### _law_owner -/
abbrev st__law_owner : Stmt := top 14
theorem sc__law_owner : FnScope ["_law_coding_here", "_law_code", "_law_rows", "_law_word_here"] ["_law_coding_here", "_law_code"] (defScope st__law_owner) := ⟨rfl, rfl, rfl, by decide +kernel, rfl, by decide +kernel, by decide +kernel⟩
def m__law_owner : SM :=
  (sSeq (sSet 2 (mMap Cont.d (mCompX [3] (gN 3) (mDw .keys (mVar 0)) (mTst (mOp (gEq false) (mOp gIx (mPeek 0) (mPeek 3)) (mPeek 1))) (mVar 3))))
    (sRet (mIf (mTst (mOp (gEqN true) (mPeek 2) (mMap Cont.d (mLst mNil)))) (mOp gIx (mPeek 2) (mC (.int 0))) (mC .non))))
/-! ### _law_reaches -/
abbrev st__law_reaches : Stmt := top 15
theorem sc__law_reaches : FnScope ["_law_claims_here", "_law_coding_here", "_law_found", "_law_word_here", "_law_held", "_law_options", "_law_code", "_law_turn", "_law_seen", "_law_rows", "_law_row"] ["_law_claims_here", "_law_coding_here"] (defScope st__law_reaches) := ⟨rfl, rfl, rfl, by decide +kernel, rfl, by decide +kernel, by decide +kernel⟩
def m__law_reaches : SM :=
  (sSeq (sSetO 2 (mC (.dct [])))
    (sSeq (sFor (gTupD 3 (gsCons (gN 3) (gsCons (gN 4) (gsCons (gN 5) gsNil)))) (mIter (mVar 0)) (sSeq (sAsg (gPutO 2 (mVar 3)) (mC .non))
    (sIf (mTst (mOp (gEqN true) (mMap Cont.d (mComp [6] (gN 6) (mIter (mVar 5)) (mTst (mOp (gIs false) (mCall sp__law_owner [] (mCons (mVar 1) (mCons (mVar 6) mNil))) (mC .non))) (mVar 6))) (mMap Cont.d (mLst mNil)))) (sAsg (gPutO 2 (mVar 3)) (mC (.int 1))) sNext)))
    (sSeq (sFor (gN 7) (mRng1 (mCons (mCallB gLen (mCons (mPeek 0) mNil)) mNil)) (sSeq (sSet 8 (mMap Cont.d (mCallB gDictD (mCons (mPeek 2) mNil))))
    (sFor (gTupD 3 (gsCons (gN 3) (gsCons (gN 4) (gsCons (gN 5) gsNil)))) (mIter (mVar 0)) (sSeq (sSet 9 (mMap Cont.d (mComp [6] (gN 6) (mIter (mVar 5)) (mTst (mOp (gIs true) (mCall sp__law_owner [] (mCons (mVar 1) (mCons (mVar 6) mNil))) (mC .non))) (mOp gIx (mPeek 8) (mCall sp__law_owner [] (mCons (mVar 1) (mCons (mVar 6) mNil)))))))
    (sSeq (sSet 9 (mMap Cont.d (mComp [10] (gN 10) (mIter (mVar 9)) (mTst (mOp (gIs true) (mPeek 10) (mC .non))) (mVar 10))))
    (sIf (mAndT (mTst (mOp (gIs false) (mOp gIx (mPeek 2) (mPeek 3)) (mC .non))) (mTst (mOp (gEqN true) (mPeek 9) (mMap Cont.d (mLst mNil))))) (sAsg (gPutO 2 (mVar 3)) (mOp gAdd (mC (.int 1)) (mCallB gMinL (mCons (mPeek 9) mNil)))) sNext))))))
    (sRetO 2))))
/-! ### owners_of -/
abbrev st_owners_of : Stmt := top 1
theorem sc_owners_of : FnScope ["coding", "name", "code"] ["coding"] (defScope st_owners_of) := ⟨rfl, rfl, rfl, by decide +kernel, rfl, by decide +kernel, by decide +kernel⟩
def m_owners_of : SM :=
  (sRetF (mCompD [1, 2] (gTupD 2 (gsCons (gN 1) (gsCons (gN 2) gsNil))) (mDw .items (mVar 0)) (mC true) (mVar 2) (mVar 1)))
/-! ### reaches -/
abbrev st_reaches : Stmt := top 2
theorem sc_reaches : FnScope ["situation", "coding", "owners", "found", "name", "held", "options", "option", "level"] ["situation", "coding"] (defScope st_reaches) := ⟨rfl, rfl, rfl, by decide +kernel, rfl, by decide +kernel, by decide +kernel⟩
def m_reaches : SM :=
  (sSeq (sSet 2 (mCall sp_owners_of [] (mCons (mVar 1) mNil)))
    (sSeq (sSetO 3 (mC (.dct [])))
    (sSeq (sFor (gTupD 3 (gsCons (gN 4) (gsCons (gN 5) (gsCons (gN 6) gsNil)))) (mIter (mVar 0)) (sAsg (gPutO 3 (mVar 4)) (mIf (mTru (mCallB (gBls fun bs => bs.any id) (mCons (mMap Cont.d (mComp [7] (gN 7) (mIter (mVar 6)) (mC true) (mOp (gIn true) (mPeek 7) (mPeek 2)))) mNil))) (mC (.int 1)) (mC .non))))
    (sSeq (sSet 8 (mC (.int 1)))
    (sSeq (sWhile (mInV false (mPeek 8) (mPeek 3)) (sSeq (sFor (gTupD 3 (gsCons (gN 4) (gsCons (gN 5) (gsCons (gN 6) gsNil)))) (mIter (mVar 0)) (sIf (mAndT (mTst (mOp (gIs false) (mOp gIx (mPeek 3) (mPeek 4)) (mC .non))) (mTru (mCallB (gBls fun bs => bs.any id) (mCons (mMap Cont.d (mComp [7] (gN 7) (mIter (mVar 6)) (mC true) (mOp (gEq false) (mOp gIx (mPeek 3) (mOp gIx (mPeek 2) (mPeek 7))) (mPeek 8)))) mNil)))) (sAsg (gPutO 3 (mVar 4)) (mOp gAdd (mPeek 8) (mC (.int 1)))) sNext))
    (sAug (fun i j => i + j) 8 (mC (.int 1)))))
    (sRetO 3))))))
/-! ### is_reaches -/
abbrev st_is_reaches : Stmt := top 3
theorem sc_is_reaches : FnScope ["situation", "coding", "value", "name", "numbers", "number"] ["situation", "coding", "value"] (defScope st_is_reaches) := ⟨rfl, rfl, rfl, by decide +kernel, rfl, by decide +kernel, by decide +kernel⟩
def m_is_reaches : SM :=
  (sSeq (sIf (mOrT (mNotT (mTru (mCallC (fun C ds P => gIsiN C ds P ∨ gIsi ds P) (mCons (mPeek 2) (mCons (mC (.ty "dict")) mNil))))) (mNotT (mTru (mCallB (gBls fun bs => bs.all id) (mCons (mMap Cont.d (mCompX [3] (gN 3) (mKwN (mVar 2)) (mC true) (mCallB gIsi (mCons (mPeek 3) (mCons (mC (.ty "str")) mNil))))) mNil))))) (sRet (mC (.bl false))) sNext)
    (sSeq (sSet 4 (mMap Cont.d (mTab (mPeek 2) fun kvs K => K (.lst (valsL kvs)))))
    (sSeq (sIf (mNotT (mTru (mCallB (gBls fun bs => bs.all id) (mCons (mMap Cont.d (mComp [5] (gN 5) (mIter (mVar 4)) (mC true) (mOrV (mOp (gIs false) (mPeek 5) (mC .non)) (mAndV (mCallB gIsi (mCons (mPeek 5) (mCons (mC (.ty "int")) mNil))) (mNotV (mCallB gIsi (mCons (mPeek 5) (mCons (mC (.ty "bool")) mNil)))))))) mNil)))) (sRet (mC (.bl false))) sNext)
    (sRet (mOp (gEqK false) (mPeek 2) (mCall sp_reaches [] (mCons (mVar 0) (mCons (mVar 1) mNil))))))))
/-! ### _law_by_steps -/
abbrev st__law_by_steps : Stmt := top 16
theorem sc__law_by_steps : FnScope ["_law_claims_here", "_law_coding_here", "_law_tried", "_law_word_here", "_law_held", "_law_options", "_law_owners", "_law_code", "_law_numbers", "_law_owner_here", "_law_due"] ["_law_claims_here", "_law_coding_here", "_law_tried"] (defScope st__law_by_steps) := ⟨rfl, rfl, rfl, by decide +kernel, rfl, by decide +kernel, by decide +kernel⟩
def m__law_by_steps : SM :=
  (sSeq (sFor (gTupD 3 (gsCons (gN 3) (gsCons (gN 4) (gsCons (gN 5) gsNil)))) (mIter (mVar 0)) (sSeq (sSet 6 (mMap Cont.d (mComp [7] (gN 7) (mIter (mVar 5)) (mC true) (mCall sp__law_owner [] (mCons (mVar 1) (mCons (mVar 7) mNil))))))
    (sSeq (sSet 8 (mMap Cont.d (mComp [9] (gN 9) (mIter (mVar 6)) (mAndT (mTst (mOp (gIs true) (mPeek 9) (mC .non))) (mTst (mOp (gIs true) (mOp gIx (mPeek 2) (mPeek 9)) (mC .non)))) (mOp gIx (mPeek 2) (mPeek 9)))))
    (sSeq (sSet 10 (mIf (mTst (mOp (gIn false) (mC .non) (mPeek 6))) (mC (.int 1)) (mC .non)))
    (sSeq (sIf (mAndT (mTst (mOp (gIn true) (mC .non) (mPeek 6))) (mTst (mOp (gEqN true) (mPeek 8) (mMap Cont.d (mLst mNil))))) (sSet 10 (mOp gAdd (mC (.int 1)) (mCallB gMinL (mCons (mPeek 8) mNil)))) sNext)
    (sIf (mTst (mOp (gEq true) (mOp gIx (mPeek 2) (mPeek 3)) (mPeek 10))) (sRet (mC (.bl false))) sNext))))))
    (sRet (mC (.bl true))))
/-! ### _law_bent -/
abbrev st__law_bent : Stmt := top 17
theorem sc__law_bent : FnScope ["_law_stream_here", "_law_right", "_law_found", "_law_kind", "_law_longer", "_law_word_here"] ["_law_stream_here", "_law_right"] (defScope st__law_bent) := ⟨rfl, rfl, rfl, by decide +kernel, rfl, by decide +kernel, by decide +kernel⟩
def m__law_bent : SM :=
  (sSeq (sPar2 2 3 (mMap Ret.frs (mCallB gDictD (mCons (mPeek 1) mNil))) (mMap Ret.shr (mCall sp__law_draw [] (mCons (mVar 0) (mCons (mC (.int 5)) mNil)))))
    (sSeq (sIf (mOrT (mTst (mOp (gEq false) (mPeek 3) (mC (.int 0)))) (mTst (mOp (gEqK false) (mPeek 2) (mMap Cont.d (mC (.dct [])))))) (sSeq (sSetO 4 (mCallB gDictD (mCons (mPeek 2) mNil)))
    (sSeq (sAsg (gPutN 4 (mCall sp__law_choose [] (mCons (mVar 0) (mCons (mMap Cont.d (mLst (mCons (mC (.str [122, 122])) (mCons (mC (.str [122, 122])) (mCons (mC (.int 5)) (mCons (mC .non) mNil)))))) mNil)))) (mCall sp__law_choose [] (mCons (mVar 0) (mCons (mMap Cont.d (mLst (mCons (mC (.int 1)) (mCons (mC .non) mNil)))) mNil))))
    (sRet (mCall sp__law_choose [] (mCons (mVar 0) (mCons (mMap Cont.d (mLst (mCons (mC .non) (mCons (mMap Cont.d (mLst mNil)) (mCons (mMap Cont.d (mCallB gSortDT (mCons (mPeek 2) mNil))) (mCons (mC (.int 5)) (mCons (mMap Cont.d (mDct (mPCons (mC (.str [122, 122])) (mC (.int 1)) mPNil))) (mCons (mVar 4) (mCons (mMap Cont.d (mDct (mPCons (mC (.int 1)) (mC (.int 1)) mPNil))) mNil))))))))) mNil)))))) sNext)
    (sSeq (sSet 5 (mCall sp__law_choose [] (mCons (mVar 0) (mCons (mMap Cont.d (mCallB gSortDT (mCons (mPeek 2) mNil))) mNil))))
    (sSeq (sIf (mTst (mOp (gEq false) (mPeek 3) (mC (.int 1)))) (sPopD 2 (mVar 5)) (sIf (mTst (mOp (gEq false) (mPeek 3) (mC (.int 2)))) (sAsg (gPutO 2 (mVar 5)) (mCall sp__law_choose [] (mCons (mVar 0) (mCons (mMap Cont.d (mLst (mCons (mC .non) (mCons (mC (.bl true)) (mCons (mC (.str [49])) (mCons (mC (.int 0)) (mCons (mMap Cont.d (mLst (mCons (mC (.int 1)) mNil))) (mCons (mMap Cont.d (mC (.dct []))) mNil)))))))) mNil)))) (sAsg (gPutO 2 (mVar 5)) (mCall sp__law_choose [] (mCons (mVar 0) (mCons (mMap Cont.d (mLst (mCons (mC .non) (mCons (mC (.int 1)) (mCons (mC (.int 2)) (mCons (mC (.int 3)) (mCons (mOp gAdd (mOrN (mOp gIx (mPeek 2) (mPeek 5)) (mC (.int 0))) (mC (.int 1))) mNil))))))) mNil))))))
    (sRetO 2)))))
/-! ### _law_has_names -/
abbrev st__law_has_names : Stmt := top 18
theorem sc__law_has_names : FnScope ["_law_tried", "_law_right", "_law_word_here"] ["_law_tried", "_law_right"] (defScope st__law_has_names) := ⟨rfl, rfl, rfl, by decide +kernel, rfl, by decide +kernel, by decide +kernel⟩
def m__law_has_names : SM :=
  (sSeq (sIf (mOrT (mNotT (mTru (mCallC (fun C ds P => gIsiN C ds P ∨ gIsi ds P) (mCons (mPeek 0) (mCons (mC (.ty "dict")) mNil))))) (mTst (mOp (gEq true) (mCallC (fun C ds P => gLenN C ds P ∨ gLen ds P) (mCons (mPeek 0) mNil)) (mCallB gLen (mCons (mPeek 1) mNil))))) (sRet (mC (.bl false))) sNext)
    (sRet (mOp (gEqN false) (mMap Cont.d (mCompX [2] (gN 2) (mDw .keys (mVar 1)) (mTst (mOp (gIn true) (mPeek 2) (mPeek 0))) (mVar 2))) (mMap Cont.d (mLst mNil)))))
/-! ### _law_all_numbers -/
abbrev st__law_all_numbers : Stmt := top 19
theorem sc__law_all_numbers : FnScope ["_law_tried", "_law_word_here", "_law_thing"] ["_law_tried"] (defScope st__law_all_numbers) := ⟨rfl, rfl, rfl, by decide +kernel, rfl, by decide +kernel, by decide +kernel⟩
def m__law_all_numbers : SM :=
  (sSeq (sForX (gN 1) (mDw .keys (mVar 0)) (sSeq (sSet 2 (mOp gIx (mPeek 0) (mPeek 1)))
    (sIf (mAndT (mTst (mOp (gIs true) (mPeek 2) (mC .non))) (mOrT (mNotT (mTru (mCallB gIsi (mCons (mPeek 2) (mCons (mC (.ty "int")) mNil))))) (mOrT (mTru (mCallB gIsi (mCons (mPeek 2) (mCons (mC (.ty "bool")) mNil)))) (mTst (mOp (gOrd (fun i j => decide (i < j)) fun s t => decide (s < t)) (mPeek 2) (mC (.int 1))))))) (sRet (mC (.bl false))) sNext)))
    (sRet (mC (.bl true))))
/-! ### law -/
abbrev st_law : Stmt := top 20
theorem sc_law : FnScope ["_law_script", "_law_start", "_law_stream_here", "_law_turn", "_law_claims_here", "_law_coding_here", "_law_right", "_law_turned", "_law_look", "_law_tried", "_law_seen", "_law_due", "_law_word_here"] ["_law_script"] (defScope st_law) := ⟨rfl, rfl, rfl, by decide +kernel, rfl, by decide +kernel, by decide +kernel⟩
def m_law : SM :=
  (sSeq (sFor (gN 1) (mRng1 (mCons (mCallB (g2I fun i j => if j > i then j else i) (mCons (mC (.int 1)) (mCons (mCallB (g2I fun i j => if j < i then j else i) (mCons (mC (.int 3)) (mCons (mCallB gLen (mCons (mPeek 0) mNil)) mNil))) mNil))) mNil)) (sSeq (sSetPur 2 (mCallF sp__law_stream [] (mCons (mVar 0) (mCons (mVar 1) mNil))))
    (sFor (gN 3) (mRng1 (mCons (mC (.int 4)) mNil)) (sSeq (sSet 4 (mCall sp__law_claims [] (mCons (mVar 2) (mCons (mC (.int 8)) mNil))))
    (sSeq (sSet 5 (mCall sp__law_coding [] (mCons (mVar 2) (mCons (mVar 4) (mCons (mCall sp__law_choose [] (mCons (mVar 2) (mCons (mMap Cont.d (mLst (mCons (mC (.int 9)) (mCons (mC (.int 9)) (mCons (mCall sp__law_draw [] (mCons (mVar 2) (mCons (mC (.int 9)) mNil))) mNil))))) mNil))) mNil)))))
    (sSeq (sSet 6 (mCall sp__law_reaches [] (mCons (mVar 4) (mCons (mVar 5) mNil))))
    (sSeq (sSet 7 (mMap Cont.d (mCallB gDictP (mCons (mStepL (mMap Cont.d (mTab (mPeek 6) fun kvs K => K (.lst (itemsL kvs)))) (mUn gNeg (mC (.int 1)))) mNil))))
    (sSeq (sIf (mOrT (mTst (mOp (gIsB true) (mCall sp_is_reaches [] (mCons (mVar 4) (mCons (mVar 5) (mCons (mVar 6) mNil)))) (mC (.bl true)))) (mTst (mOp (gIsB true) (mCall sp_is_reaches [] (mCons (mVar 4) (mCons (mVar 5) (mCons (mVar 7) mNil)))) (mC (.bl true))))) (sRet (mC (.bl false))) sNext)
    (sSeq (sIf (mOrT (mNotT (mTru (mCall sp__law_by_steps [] (mCons (mVar 4) (mCons (mVar 5) (mCons (mVar 6) mNil)))))) (mTst (mOp (gIsB true) (mCall sp_is_reaches [] (mCons (mMap Cont.d (mLst mNil)) (mCons (mMap Cont.d (mC (.dct []))) (mCons (mMap Cont.d (mC (.dct []))) mNil)))) (mC (.bl true))))) (sRet (mC (.bl false))) sNext)
    (sFor (gN 8) (mRng1 (mCons (mC (.int 6)) mNil)) (sSeq (sSet 9 (mCall sp__law_bent [] (mCons (mVar 2) (mCons (mVar 6) mNil))))
    (sSeq (sPar 10 11 (mCons (mCallC (fun C ds P => gReprN C ds P ∨ gRepr ds P) (mCons (mTup (mCons (mVar 4) (mCons (mVar 5) (mCons (mVar 9) mNil)))) mNil)) (mCons (mC (.bl false)) mNil)))
    (sSeq (sIf (mTru (mCall sp__law_has_names [] (mCons (mVar 9) (mCons (mVar 6) mNil)))) (sSeq (sSet 11 (mOp (gEqN false) (mMap Cont.d (mCompX [12] (gN 12) (mDw .keys (mVar 6)) (mTst (mOp (gEq true) (mCallB gRepr (mCons (mOp gIx (mPeek 9) (mPeek 12)) mNil)) (mCallB gRepr (mCons (mOp gIx (mPeek 6) (mPeek 12)) mNil)))) (mVar 12))) (mMap Cont.d (mLst mNil))))
    (sIf (mAndT (mTru (mCall sp__law_all_numbers [] (mCons (mVar 9) mNil))) (mTst (mOp (gEq true) (mCall sp__law_by_steps [] (mCons (mVar 4) (mCons (mVar 5) (mCons (mVar 9) mNil)))) (mPeek 11)))) (sRet (mC (.bl false))) sNext)) sNext)
    (sSeq (sIf (mTst (mOp (gEq true) (mCallB gRepr (mCons (mCall sp_is_reaches [] (mCons (mVar 4) (mCons (mVar 5) (mCons (mVar 9) mNil)))) mNil)) (mCallB gRepr (mCons (mPeek 11) mNil)))) (sRet (mC (.bl false))) sNext)
    (sIf (mTst (mOp (gEq true) (mCallC (fun C ds P => gReprN C ds P ∨ gRepr ds P) (mCons (mTup (mCons (mVar 4) (mCons (mVar 5) (mCons (mVar 9) mNil)))) mNil)) (mPeek 10))) (sRet (mC (.bl false))) sNext)))))))))))))))
    (sRet (mC (.bl true))))
end
end L2.DL
namespace L2.DL
open PySem PySem.Spec PyProof.Rows
section
variable [Cad]
theorem b__law_stream {P : Program} {w : World} {K : PySem.W.Frag} {mg : Str → Option Value} {base : Heap} (T : Gls K mg) (hbase : ∃ o, base.get? sysModules = some o)  {f : Addr} {cdv : Value} {A : Around} {fr : List PySem.Env} {s : Shared} {H : Hp} {E : XK} (gd : Gd A)
    (hr : Room 0 (A.deeper (envOfC "_law_stream" (defScope st__law_stream) s.heap.objs.size f cdv))) : DSs (BodyX P w K mg base ["_law_script", "_law_start", "_law_seed", "_law_entry", "_law_digits"] "_law_stream" st__law_stream f cdv A fr s H E) (defBody st__law_stream) m__law_stream :=
  (ds_cons (ds_set (d_op opd_add (DE.pk d_int) (d_peek (pv 1))) (fun h => ps_set (i := 2) sc__law_stream.nd rfl (by first | exact .inl rfl | exact .inr rfl) h))
    (ds_cons (ds_for (passes_of rfl) rfl (di_seq (d_var (pv 0))) (dg_name (pg_name (i := 3) sc__law_stream.nd rfl (by first | exact .inl rfl | exact .inr rfl))) (ds_one (ds_set (d_op opd_add (DE.pk (d_op opd_mod (DE.pk (d_op opd_pow (DE.pk (d_op opd_add (DE.pk (d_op opd_mulA (d_peek (pv 2)) (DE.pk d_int))) (d_peek (pv 3)))) (DE.pk d_int))) (DE.pk d_int))) (DE.pk d_int)) (fun h => ps_set (i := 2) sc__law_stream.nd rfl (by first | exact .inl rfl | exact .inr rfl) h))) (fun _ => rfl))
    (ds_cons (ds_set d_int (fun h => ps_set (i := 4) sc__law_stream.nd rfl (by first | exact .inl rfl | exact .inr rfl) h))
    (ds_cons (ds_if (DW.pt (dw_and (dt_cmp opd_lt (d_peek (pv 1)) (DE.pk (d_callB calld_len (da_cons lasts_pk (d_peek (pv 0)) da_nil rfl) (by rfl) T.n_len (by decide +kernel) (by decide) (by decide) rfl rfl)) (nomark _)) (dw_and1 (dt_cmp opd_ge (DE.pk (d_ix hr.u1 (d_peek (pv 0)) (d_peek (pv 1)) (fun _ _ => rfl))) (DE.pk (d_op opd_pow (DE.pk d_int) (DE.pk d_int))) (nomark _))))) (ds_one (ds_set (d_op opd_sub (DE.pk (d_ix hr.u1 (d_peek (pv 0)) (d_peek (pv 1)) (fun _ _ => rfl))) (DE.pk (d_op opd_pow (DE.pk d_int) (DE.pk d_int)))) (fun h => ps_set (i := 4) sc__law_stream.nd rfl (by first | exact .inl rfl | exact .inr rfl) h))) ds_nil)
    (ds_one (ds_retF (d_lst (da_cons lasts_shr (d_var (pv 4)) (da_cons lasts_shr (d_var (pv 2)) da_nil rfl) rfl))))))))
theorem b__law_draw {P : Program} {w : World} {K : PySem.W.Frag} {mg : Str → Option Value} {base : Heap} (T : Gls K mg) (hbase : ∃ o, base.get? sysModules = some o)  {f : Addr} {cdv : Value} {A : Around} {fr : List PySem.Env} {s : Shared} {H : Hp} {E : XK} (gd : Gd A)
    (hr : Room 0 (A.deeper (envOfC "_law_draw" (defScope st__law_draw) s.heap.objs.size f cdv))) : DSs (BodyX P w K mg base ["_law_stream_here", "_law_size", "_law_found"] "_law_draw" st__law_draw f cdv A fr s H E) (defBody st__law_draw) m__law_draw :=
  (ds_cons (ds_if (dt_cmp opd_ge (DE.pk (d_ix hr.u1 (d_peek (pv 0)) (DE.pk d_int) (fun _ _ => rfl))) (d_peek (pv 1)) (nomark _)) (ds_cons (ds_set (d_op opd_mod (DE.pk (d_ix hr.u1 (d_peek (pv 0)) (DE.pk d_int) (fun _ _ => rfl))) (d_peek (pv 1))) (fun h => ps_set (i := 2) sc__law_draw.nd rfl (by first | exact .inl rfl | exact .inr rfl) h))
    (ds_cons (ds_asg (d_op opd_div (DE.pk (d_ix hr.u1 (d_peek (pv 0)) (DE.pk d_int) (fun _ _ => rfl))) (d_peek (pv 1))) (dg_putC hr.u1 (d_var (pv 0)) d_int (fun _ => rfl)) rfl rfl rfl)
    (ds_one (ds_retO (pv 2))))) ds_nil)
    (ds_cons (ds_asg (d_op opd_mod (DE.pk (d_op opd_add (DE.pk (d_op opd_mulA (DE.pk (d_ix hr.u1 (d_peek (pv 0)) (DE.pk d_int) (fun _ _ => rfl))) (DE.pk d_int))) (DE.pk d_int))) (DE.pk d_int)) (dg_putC hr.u1 (d_var (pv 0)) d_int (fun _ => rfl)) rfl rfl rfl)
    (ds_one (ds_ret (d_op opd_mod (DE.pk (d_op opd_div (DE.pk (d_op opd_mod (DE.pk (d_op opd_pow (DE.pk (d_op opd_mod (DE.pk (d_op opd_pow (DE.pk (d_ix hr.u1 (d_peek (pv 0)) (DE.pk d_int) (fun _ _ => rfl))) (DE.pk d_int))) (DE.pk d_int))) (DE.pk d_int))) (DE.pk d_int))) (DE.pk d_int))) (d_peek (pv 1)))))))
theorem b__law_choose {P : Program} {w : World} {K : PySem.W.Frag} {mg : Str → Option Value} {base : Heap} (T : Gls K mg) (hbase : ∃ o, base.get? sysModules = some o) (c__law_draw : Cle P w K mg base 1 "_law_draw" sp__law_draw) {f : Addr} {cdv : Value} {A : Around} {fr : List PySem.Env} {s : Shared} {H : Hp} {E : XK} (gd : Gd A)
    (hr : Room 1 (A.deeper (envOfC "_law_choose" (defScope st__law_choose) s.heap.objs.size f cdv))) : DSs (BodyX P w K mg base ["_law_stream_here", "_law_rows"] "_law_choose" st__law_choose f cdv A fr s H E) (defBody st__law_choose) m__law_choose :=
  (ds_one (ds_ret (d_ix hr.u1 (d_peek (pv 1)) (DE.pk (d_call (c__law_draw.to hr (by decide)) gd (by rfl) (da_cons lasts_shr (d_var (pv 0)) (da_cons lasts_shr (d_callB calld_len (da_cons lasts_pk (d_peek (pv 1)) da_nil rfl) (by rfl) T.n_len (by decide +kernel) (by decide) (by decide) rfl rfl) da_nil rfl) rfl) (by decide) rfl rfl)) (fun _ _ => rfl))))
theorem b__law_word {P : Program} {w : World} {K : PySem.W.Frag} {mg : Str → Option Value} {base : Heap} (T : Gls K mg) (hbase : ∃ o, base.get? sysModules = some o) (c__law_draw : Cle P w K mg base 1 "_law_draw" sp__law_draw) (c__law_choose : Cle P w K mg base 2 "_law_choose" sp__law_choose) {f : Addr} {cdv : Value} {A : Around} {fr : List PySem.Env} {s : Shared} {H : Hp} {E : XK} (gd : Gd A)
    (hr : Room 2 (A.deeper (envOfC "_law_word" (defScope st__law_word) s.heap.objs.size f cdv))) : DSs (BodyX P w K mg base ["_law_stream_here", "_law_letters", "_law_most", "_law_turn"] "_law_word" st__law_word f cdv A fr s H E) (defBody st__law_word) m__law_word :=
  (ds_one (ds_ret (d_join (DE.pk (d_strc (by decide +kernel))) (DE.frP (d_comp (own := [("_law_turn", 3)]) rfl sc__law_word.nd (di_rng1 (by rfl) T.n_range (da_cons lasts_shr (d_op opd_add (DE.pk d_int) (DE.pk (d_call (c__law_draw.to hr (by decide)) gd (by rfl) (da_cons lasts_shr (d_var (pv 0)) (da_cons lasts_shr (d_var (pv 2)) da_nil rfl) rfl) (by decide) rfl rfl))) da_nil rfl) rfl) (blkOk_by (N := ["_law_stream_here", "_law_letters", "_law_most", "_law_turn"]) (sc := defScope st__law_word) (own := [("_law_turn", 3)]) (by decide +kernel)) (fun _ _ _ _ _ => (dgw_name (pg_name (i := 3) sc__law_word.nd rfl (by first | exact .inl rfl | exact .inr rfl)) (by simp))) (fun _ _ _ _ _ => dts_nil) (fun _ _ _ _ _ => (d_call (c__law_choose.to hr (by decide)) gd (by rfl) (da_cons lasts_shr (d_var (pv 0)) (da_cons lasts_shr (d_var (pv 1)) da_nil rfl) rfl) (by decide) rfl rfl)) (fun _ => rfl))) rfl rfl rfl)))
theorem b__law_shuffled {P : Program} {w : World} {K : PySem.W.Frag} {mg : Str → Option Value} {base : Heap} (T : Gls K mg) (hbase : ∃ o, base.get? sysModules = some o) (c__law_draw : Cle P w K mg base 1 "_law_draw" sp__law_draw) {f : Addr} {cdv : Value} {A : Around} {fr : List PySem.Env} {s : Shared} {H : Hp} {E : XK} (gd : Gd A)
    (hr : Room 1 (A.deeper (envOfC "_law_shuffled" (defScope st__law_shuffled) s.heap.objs.size f cdv))) : DSs (BodyX P w K mg base ["_law_stream_here", "_law_rows", "_law_left", "_law_found"] "_law_shuffled" st__law_shuffled f cdv A fr s H E) (defBody st__law_shuffled) m__law_shuffled :=
  (ds_cons (ds_parOO (d_callTy (calld_list rfl) (da_cons lasts_pk (d_peek (pv 1)) da_nil rfl) (by rfl) T.n_list (by decide +kernel) (by decide) (by decide) rfl rfl) (fun h => ps_par (i := 2) (j := 3) rfl sc__law_shuffled.nd rfl rfl (by decide) rfl rfl h rfl) rfl)
    (ds_cons (ds_while (passes_of rfl) (dt_cmp (opd_neN hr.u0) (d_peek (pv 2)) (DE.frP (d_lst da_nil)) (nomark _)) (ds_one (ds_appPop (by decide) (pv 3) (pv 2) (d_call (c__law_draw.to hr (by decide)) gd (by rfl) (da_cons lasts_shr (d_var (pv 0)) (da_cons lasts_shr (d_callB calld_len (da_cons lasts_pk (d_peek (pv 2)) da_nil rfl) (by rfl) T.n_len (by decide +kernel) (by decide) (by decide) rfl rfl) da_nil rfl) rfl) (by decide) rfl rfl) rfl rfl rfl rfl rfl rfl rfl rfl rfl)))
    (ds_one (ds_retO (pv 3)))))
theorem b__law_words {P : Program} {w : World} {K : PySem.W.Frag} {mg : Str → Option Value} {base : Heap} (T : Gls K mg) (hbase : ∃ o, base.get? sysModules = some o) (c__law_word : Cle P w K mg base 3 "_law_word" sp__law_word) (c__law_shuffled : Cle P w K mg base 2 "_law_shuffled" sp__law_shuffled) {f : Addr} {cdv : Value} {A : Around} {fr : List PySem.Env} {s : Shared} {H : Hp} {E : XK} (gd : Gd A)
    (hr : Room 3 (A.deeper (envOfC "_law_words" (defScope st__law_words) s.heap.objs.size f cdv))) : DSs (BodyX P w K mg base ["_law_stream_here", "_law_amount", "_law_letters", "_law_most", "_law_found", "_law_turn"] "_law_words" st__law_words f cdv A fr s H E) (defBody st__law_words) m__law_words :=
  (ds_cons (ds_setO d_dct0 (fun h => ps_set (i := 4) sc__law_words.nd rfl (by first | exact .inl rfl | exact .inr rfl) h))
    (ds_cons (ds_for (passes_of rfl) rfl (di_rng1 (by rfl) T.n_range (da_cons lasts_shr (d_var (pv 1)) da_nil rfl) rfl) (dg_name (pg_name (i := 5) sc__law_words.nd rfl (by first | exact .inl rfl | exact .inr rfl))) (ds_one (ds_asg d_bl (dg_putO hr.u1 (pv 4) (d_call (c__law_word.to hr (by decide)) gd (by rfl) (da_cons lasts_shr (d_var (pv 0)) (da_cons lasts_shr (d_var (pv 2)) (da_cons lasts_shr (d_var (pv 3)) da_nil rfl) rfl) rfl) (by decide) rfl rfl) (fun _ => rfl)) rfl rfl rfl)) (fun _ => rfl))
    (ds_one (ds_ret (d_call (c__law_shuffled.to hr (by decide)) gd (by rfl) (da_cons lasts_shr (d_var (pv 0)) (da_cons lasts_shr (DE.frz (d_callB (calld_sortDT rfl) (da_cons lasts_pk (d_peek (pv 4)) da_nil rfl) (by rfl) T.n_sorted (by decide +kernel) (by decide) (by decide) rfl rfl)) da_nil rfl) rfl) (by decide) rfl rfl)))))
theorem b__law_spellings {P : Program} {w : World} {K : PySem.W.Frag} {mg : Str → Option Value} {base : Heap} (T : Gls K mg) (hbase : ∃ o, base.get? sysModules = some o)  {f : Addr} {cdv : Value} {A : Around} {fr : List PySem.Env} {s : Shared} {H : Hp} {E : XK} (gd : Gd A)
    (hr : Room 0 (A.deeper (envOfC "_law_spellings" (defScope st__law_spellings) s.heap.objs.size f cdv))) : DSs (BodyX P w K mg base ["_law_word_here", "_law_size", "_law_rows", "_law_turn", "_law_longer", "_law_text", "_law_begun", "_law_at", "_law_found"] "_law_spellings" st__law_spellings f cdv A fr s H E) (defBody st__law_spellings) m__law_spellings :=
  (ds_cons (ds_set (DE.frz (d_lst (da_cons lasts_shr (d_tup (da_cons lasts_shr (d_strc (by decide +kernel)) (da_cons lasts_shr d_int da_nil rfl) rfl)) da_nil rfl))) (fun h => ps_set (i := 2) sc__law_spellings.nd rfl (by first | exact .inl rfl | exact .inr rfl) h))
    (ds_cons (ds_for (passes_of rfl) rfl (di_rng1 (by rfl) T.n_range (da_cons lasts_shr (d_var (pv 1)) da_nil rfl) rfl) (dg_name (pg_name (i := 3) sc__law_spellings.nd rfl (by first | exact .inl rfl | exact .inr rfl))) (ds_cons (ds_setO (d_lst da_nil) (fun h => ps_set (i := 4) sc__law_spellings.nd rfl (by first | exact .inl rfl | exact .inr rfl) h))
    (ds_cons (ds_for (passes_of rfl) rfl (di_seq (d_var (pv 2))) (dg_tup rfl (dgs_cons (pg_name (i := 5) sc__law_spellings.nd rfl (by first | exact .inl rfl | exact .inr rfl)) (dgs_cons (pg_name (i := 6) sc__law_spellings.nd rfl (by first | exact .inl rfl | exact .inr rfl)) dgs_nil rfl) rfl) rfl rfl) (ds_one (ds_for (passes_of rfl) rfl (di_rng2 (by rfl) T.n_range (da_cons lasts_shr (d_var (pv 6)) (da_cons lasts_shr (d_callB calld_len (da_cons lasts_pk (d_peek (pv 0)) da_nil rfl) (by rfl) T.n_len (by decide +kernel) (by decide) (by decide) rfl rfl) da_nil rfl) rfl) rfl rfl) (dg_name (pg_name (i := 7) sc__law_spellings.nd rfl (by first | exact .inl rfl | exact .inr rfl))) (ds_one (ds_app (pv 4) (d_tup (da_cons lasts_shr (d_op opd_add (d_peek (pv 5)) (DE.pk (d_ix hr.u1 (d_peek (pv 0)) (d_peek (pv 7)) (fun _ _ => rfl)))) (da_cons lasts_shr (d_op opd_add (d_peek (pv 7)) (DE.pk d_int)) da_nil rfl) rfl)) rfl rfl rfl rfl rfl)) (fun _ => rfl))) (fun _ => rfl))
    (ds_one (ds_set (d_var (pv 4)) (fun h => ps_set (i := 2) sc__law_spellings.nd rfl (by first | exact .inl rfl | exact .inr rfl) h))))) (fun _ => rfl))
    (ds_cons (ds_setO (d_lst da_nil) (fun h => ps_set (i := 8) sc__law_spellings.nd rfl (by first | exact .inl rfl | exact .inr rfl) h))
    (ds_cons (ds_for (passes_of rfl) rfl (di_seq (d_var (pv 2))) (dg_tup rfl (dgs_cons (pg_name (i := 5) sc__law_spellings.nd rfl (by first | exact .inl rfl | exact .inr rfl)) (dgs_cons (pg_name (i := 6) sc__law_spellings.nd rfl (by first | exact .inl rfl | exact .inr rfl)) dgs_nil rfl) rfl) rfl rfl) (ds_one (ds_if (dt_cmp (opd_notin hr.u65) (d_peek (pv 5)) (d_peek (pv 8)) rfl) (ds_one (ds_app (pv 8) (d_var (pv 5)) rfl rfl rfl rfl rfl)) ds_nil)) (fun _ => rfl))
    (ds_one (ds_retO (pv 8)))))))
theorem b__law_claims {P : Program} {w : World} {K : PySem.W.Frag} {mg : Str → Option Value} {base : Heap} (T : Gls K mg) (hbase : ∃ o, base.get? sysModules = some o) (c__law_choose : Cle P w K mg base 2 "_law_choose" sp__law_choose) (c__law_draw : Cle P w K mg base 1 "_law_draw" sp__law_draw) (c__law_words : Cle P w K mg base 4 "_law_words" sp__law_words) (c__law_spellings : Cle P w K mg base 1 "_law_spellings" sp__law_spellings) {f : Addr} {cdv : Value} {A : Around} {fr : List PySem.Env} {s : Shared} {H : Hp} {E : XK} (gd : Gd A)
    (hr : Room 4 (A.deeper (envOfC "_law_claims" (defScope st__law_claims) s.heap.objs.size f cdv))) : DSs (BodyX P w K mg base ["_law_stream_here", "_law_amount", "_law_letters", "_law_size", "_law_found", "_law_word_here", "_law_rows", "_law_code"] "_law_claims" st__law_claims f cdv A fr s H E) (defBody st__law_claims) m__law_claims :=
  (ds_cons (ds_set (d_call (c__law_choose.to hr (by decide)) gd (by rfl) (da_cons lasts_shr (d_var (pv 0)) (da_cons lasts_shr (DE.frz (d_lst (da_cons lasts_shr (d_strc (by decide +kernel)) (da_cons lasts_shr (d_strc (by decide +kernel)) (da_cons lasts_shr (d_strc (by decide +kernel)) (da_cons lasts_shr (d_strc (by decide +kernel)) da_nil rfl) rfl) rfl) rfl))) da_nil rfl) rfl) (by decide) rfl rfl) (fun h => ps_set (i := 2) sc__law_claims.nd rfl (by first | exact .inl rfl | exact .inr rfl) h))
    (ds_cons (ds_set (d_op opd_add (DE.pk d_int) (DE.pk (d_call (c__law_draw.to hr (by decide)) gd (by rfl) (da_cons lasts_shr (d_var (pv 0)) (da_cons lasts_shr d_int da_nil rfl) rfl) (by decide) rfl rfl))) (fun h => ps_set (i := 3) sc__law_claims.nd rfl (by first | exact .inl rfl | exact .inr rfl) h))
    (ds_cons (ds_setO (d_lst da_nil) (fun h => ps_set (i := 4) sc__law_claims.nd rfl (by first | exact .inl rfl | exact .inr rfl) h))
    (ds_cons (ds_for (passes_of rfl) rfl (di_seq (d_call (c__law_words.to hr (by decide)) gd (by rfl) (da_cons lasts_shr (d_var (pv 0)) (da_cons lasts_shr (d_var (pv 1)) (da_cons lasts_shr (d_var (pv 2)) (da_cons lasts_shr d_int da_nil rfl) rfl) rfl) rfl) (by decide) rfl rfl)) (dg_name (pg_name (i := 5) sc__law_claims.nd rfl (by first | exact .inl rfl | exact .inr rfl))) (ds_cons (ds_compS fun _ _ hE => ps_comp (i := 6) (own := [("_law_code", 7)]) rfl sc__law_claims.nd rfl rfl rfl (di_seq (d_call (c__law_spellings.to hr (by decide)) gd (by rfl) (da_cons lasts_shr (d_var (pv 5)) (da_cons lasts_shr (d_var (pv 3)) da_nil rfl) rfl) (by decide) rfl rfl)) (blkOk_by (N := ["_law_stream_here", "_law_amount", "_law_letters", "_law_size", "_law_found", "_law_word_here", "_law_rows", "_law_code"]) (sc := defScope st__law_claims) (own := [("_law_code", 7)]) (by decide +kernel)) (fun _ _ _ _ _ => (dgw_name (pg_name (i := 7) sc__law_claims.nd rfl (by first | exact .inl rfl | exact .inr rfl)) (by simp))) (fun _ _ _ _ _ => (dts_one (dt_cmp opd_gt (DE.pk (d_call (c__law_draw.to hr (by decide)) gd (by rfl) (da_cons lasts_shr (d_var (pv 0)) (da_cons lasts_shr d_int da_nil rfl) rfl) (by decide) rfl rfl)) (DE.pk d_int) (nomark _)))) (fun _ _ _ _ _ => (d_var (pv 7))) (fun _ => rfl) hE)
    (ds_one (ds_app (pv 4) (d_tup (da_cons lasts_shr (d_var (pv 5)) (da_cons lasts_shr (d_tupX da_nil) (da_cons lasts_shr (d_callTy calld_tupleX (da_cons lasts_pk (d_peek (pv 6)) da_nil rfl) (by rfl) T.n_tuple (by decide +kernel) (by decide) (by decide) rfl rfl) da_nil rfl) rfl) rfl)) rfl rfl rfl rfl rfl))) (fun _ => rfl))
    (ds_one (ds_retO (pv 4)))))))
theorem b__law_coding {P : Program} {w : World} {K : PySem.W.Frag} {mg : Str → Option Value} {base : Heap} (T : Gls K mg) (hbase : ∃ o, base.get? sysModules = some o) (c__law_shuffled : Cle P w K mg base 2 "_law_shuffled" sp__law_shuffled) (c__law_choose : Cle P w K mg base 2 "_law_choose" sp__law_choose) {f : Addr} {cdv : Value} {A : Around} {fr : List PySem.Env} {s : Shared} {H : Hp} {E : XK} (gd : Gd A)
    (hr : Room 2 (A.deeper (envOfC "_law_coding" (defScope st__law_coding) s.heap.objs.size f cdv))) : DSs (BodyX P w K mg base ["_law_stream_here", "_law_claims_here", "_law_most", "_law_found", "_law_word_here", "_law_held", "_law_options", "_law_free", "_law_code"] "_law_coding" st__law_coding f cdv A fr s H E) (defBody st__law_coding) m__law_coding :=
  (ds_cons (ds_setO d_dct0 (fun h => ps_set (i := 3) sc__law_coding.nd rfl (by first | exact .inl rfl | exact .inr rfl) h))
    (ds_cons (ds_for (passes_of rfl) rfl (di_seq (d_call (c__law_shuffled.to hr (by decide)) gd (by rfl) (da_cons lasts_shr (d_var (pv 0)) (da_cons lasts_shr (d_var (pv 1)) da_nil rfl) rfl) (by decide) rfl rfl)) (dg_tup rfl (dgs_cons (pg_name (i := 4) sc__law_coding.nd rfl (by first | exact .inl rfl | exact .inr rfl)) (dgs_cons (pg_name (i := 5) sc__law_coding.nd rfl (by first | exact .inl rfl | exact .inr rfl)) (dgs_cons (pg_name (i := 6) sc__law_coding.nd rfl (by first | exact .inl rfl | exact .inr rfl)) dgs_nil rfl) rfl) rfl) rfl rfl) (ds_cons (ds_compS fun _ _ hE => ps_comp (i := 7) (own := [("_law_code", 8)]) rfl sc__law_coding.nd rfl rfl rfl (di_seq (d_var (pv 6))) (blkOk_by (N := ["_law_stream_here", "_law_claims_here", "_law_most", "_law_found", "_law_word_here", "_law_held", "_law_options", "_law_free", "_law_code"]) (sc := defScope st__law_coding) (own := [("_law_code", 8)]) (by decide +kernel)) (fun _ _ _ _ _ => (dgw_name (pg_name (i := 8) sc__law_coding.nd rfl (by first | exact .inl rfl | exact .inr rfl)) (by simp))) (fun _ _ _ _ _ => (dts_one (dt_inV (neg := true) rfl (d_peek (pv 8)) (d_peek (pv 3)) rfl rfl rfl))) (fun _ _ _ _ _ => (d_var (pv 8))) (fun _ => rfl) hE)
    (ds_one (ds_if (DW.pt (dw_and (dt_cmp (opd_neN hr.u0) (d_peek (pv 7)) (DE.frP (d_lst da_nil)) (nomark _)) (dw_and1 (dt_cmp opd_lt (DE.pk (d_callB calld_len (da_cons lasts_pk (d_peek (pv 3)) da_nil rfl) (by rfl) T.n_len (by decide +kernel) (by decide) (by decide) rfl rfl)) (d_peek (pv 2)) (nomark _))))) (ds_one (ds_asg (d_call (c__law_choose.to hr (by decide)) gd (by rfl) (da_cons lasts_shr (d_var (pv 0)) (da_cons lasts_shr (d_var (pv 7)) da_nil rfl) rfl) (by decide) rfl rfl) (dg_putO hr.u1 (pv 3) (d_var (pv 4)) (fun _ => rfl)) rfl rfl rfl)) ds_nil))) (fun _ => rfl))
    (ds_one (ds_retO (pv 3)))))
theorem b__law_owner {P : Program} {w : World} {K : PySem.W.Frag} {mg : Str → Option Value} {base : Heap} (T : Gls K mg) (hbase : ∃ o, base.get? sysModules = some o)  {f : Addr} {cdv : Value} {A : Around} {fr : List PySem.Env} {s : Shared} {H : Hp} {E : XK} (gd : Gd A)
    (hr : Room 0 (A.deeper (envOfC "_law_owner" (defScope st__law_owner) s.heap.objs.size f cdv))) : DSs (BodyX P w K mg base ["_law_coding_here", "_law_code", "_law_rows", "_law_word_here"] "_law_owner" st__law_owner f cdv A fr s H E) (defBody st__law_owner) m__law_owner :=
  (ds_cons (ds_compS fun _ _ hE => ps_compX (i := 2) (own := [("_law_word_here", 3)]) rfl sc__law_owner.nd rfl rfl rfl (dix_keys (d_var (pv 0))) (blkOk_by (N := ["_law_coding_here", "_law_code", "_law_rows", "_law_word_here"]) (sc := defScope st__law_owner) (own := [("_law_word_here", 3)]) (by decide +kernel)) (fun _ _ _ _ _ => (dgw_name (pg_name (i := 3) sc__law_owner.nd rfl (by first | exact .inl rfl | exact .inr rfl)) (by simp))) (fun _ _ _ _ _ => (dts_one (dt_cmp (opd_eq hr.u64) (DE.pk (d_ix hr.u1 (d_peek (pv 0)) (d_peek (pv 3)) (fun _ _ => rfl))) (d_peek (pv 1)) (nomark _)))) (fun _ _ _ _ _ => (d_var (pv 3))) (fun _ => rfl) hE)
    (ds_one (ds_ret (d_if (dt_cmp (opd_neN hr.u0) (d_peek (pv 2)) (DE.frP (d_lst da_nil)) (nomark _)) (d_ix hr.u1 (d_peek (pv 2)) (DE.pk d_int) (fun _ _ => rfl)) d_non))))
theorem b__law_reaches {P : Program} {w : World} {K : PySem.W.Frag} {mg : Str → Option Value} {base : Heap} (T : Gls K mg) (hbase : ∃ o, base.get? sysModules = some o) (c__law_owner : Cle P w K mg base 1 "_law_owner" sp__law_owner) {f : Addr} {cdv : Value} {A : Around} {fr : List PySem.Env} {s : Shared} {H : Hp} {E : XK} (gd : Gd A)
    (hr : Room 1 (A.deeper (envOfC "_law_reaches" (defScope st__law_reaches) s.heap.objs.size f cdv))) : DSs (BodyX P w K mg base ["_law_claims_here", "_law_coding_here", "_law_found", "_law_word_here", "_law_held", "_law_options", "_law_code", "_law_turn", "_law_seen", "_law_rows", "_law_row"] "_law_reaches" st__law_reaches f cdv A fr s H E) (defBody st__law_reaches) m__law_reaches :=
  (ds_cons (ds_setO d_dct0 (fun h => ps_set (i := 2) sc__law_reaches.nd rfl (by first | exact .inl rfl | exact .inr rfl) h))
    (ds_cons (ds_for (passes_of rfl) rfl (di_seq (d_var (pv 0))) (dg_tup rfl (dgs_cons (pg_name (i := 3) sc__law_reaches.nd rfl (by first | exact .inl rfl | exact .inr rfl)) (dgs_cons (pg_name (i := 4) sc__law_reaches.nd rfl (by first | exact .inl rfl | exact .inr rfl)) (dgs_cons (pg_name (i := 5) sc__law_reaches.nd rfl (by first | exact .inl rfl | exact .inr rfl)) dgs_nil rfl) rfl) rfl) rfl rfl) (ds_cons (ds_asg d_non (dg_putO hr.u1 (pv 2) (d_var (pv 3)) (fun _ => rfl)) rfl rfl rfl)
    (ds_one (ds_if (dt_cmp (opd_neN hr.u0) (DE.frP (d_comp (own := [("_law_code", 6)]) rfl sc__law_reaches.nd (di_seq (d_var (pv 5))) (blkOk_by (N := ["_law_claims_here", "_law_coding_here", "_law_found", "_law_word_here", "_law_held", "_law_options", "_law_code", "_law_turn", "_law_seen", "_law_rows", "_law_row"]) (sc := defScope st__law_reaches) (own := [("_law_code", 6)]) (by decide +kernel)) (fun _ _ _ _ _ => (dgw_name (pg_name (i := 6) sc__law_reaches.nd rfl (by first | exact .inl rfl | exact .inr rfl)) (by simp))) (fun _ _ _ _ _ => (dts_one (dt_cmp opd_is (DE.pk (d_call (c__law_owner.to hr (by decide)) gd (by rfl) (da_cons lasts_shr (d_var (pv 1)) (da_cons lasts_shr (d_var (pv 6)) da_nil rfl) rfl) (by decide) rfl rfl)) (DE.pk d_non) (nomark _)))) (fun _ _ _ _ _ => (d_var (pv 6))) (fun _ => rfl))) (DE.frP (d_lst da_nil)) (nomark _)) (ds_one (ds_asg d_int (dg_putO hr.u1 (pv 2) (d_var (pv 3)) (fun _ => rfl)) rfl rfl rfl)) ds_nil))) (fun _ => rfl))
    (ds_cons (ds_for (passes_of rfl) rfl (di_rng1 (by rfl) T.n_range (da_cons lasts_shr (d_callB calld_len (da_cons lasts_pk (d_peek (pv 0)) da_nil rfl) (by rfl) T.n_len (by decide +kernel) (by decide) (by decide) rfl rfl) da_nil rfl) rfl) (dg_name (pg_name (i := 7) sc__law_reaches.nd rfl (by first | exact .inl rfl | exact .inr rfl))) (ds_cons (ds_set (DE.frz (d_callTy calld_dictD (da_cons lasts_pk (d_peek (pv 2)) da_nil rfl) (by rfl) T.n_dict (by decide +kernel) (by decide) (by decide) rfl rfl)) (fun h => ps_set (i := 8) sc__law_reaches.nd rfl (by first | exact .inl rfl | exact .inr rfl) h))
    (ds_one (ds_for (passes_of rfl) rfl (di_seq (d_var (pv 0))) (dg_tup rfl (dgs_cons (pg_name (i := 3) sc__law_reaches.nd rfl (by first | exact .inl rfl | exact .inr rfl)) (dgs_cons (pg_name (i := 4) sc__law_reaches.nd rfl (by first | exact .inl rfl | exact .inr rfl)) (dgs_cons (pg_name (i := 5) sc__law_reaches.nd rfl (by first | exact .inl rfl | exact .inr rfl)) dgs_nil rfl) rfl) rfl) rfl rfl) (ds_cons (ds_compS fun _ _ hE => ps_comp (i := 9) (own := [("_law_code", 6)]) rfl sc__law_reaches.nd rfl rfl rfl (di_seq (d_var (pv 5))) (blkOk_by (N := ["_law_claims_here", "_law_coding_here", "_law_found", "_law_word_here", "_law_held", "_law_options", "_law_code", "_law_turn", "_law_seen", "_law_rows", "_law_row"]) (sc := defScope st__law_reaches) (own := [("_law_code", 6)]) (by decide +kernel)) (fun _ _ _ _ _ => (dgw_name (pg_name (i := 6) sc__law_reaches.nd rfl (by first | exact .inl rfl | exact .inr rfl)) (by simp))) (fun _ _ _ _ _ => (dts_one (dt_cmp opd_isnot (DE.pk (d_call (c__law_owner.to hr (by decide)) gd (by rfl) (da_cons lasts_shr (d_var (pv 1)) (da_cons lasts_shr (d_var (pv 6)) da_nil rfl) rfl) (by decide) rfl rfl)) (DE.pk d_non) (nomark _)))) (fun _ _ _ _ _ => (d_ix hr.u1 (d_peek (pv 8)) (DE.pk (d_call (c__law_owner.to hr (by decide)) gd (by rfl) (da_cons lasts_shr (d_var (pv 1)) (da_cons lasts_shr (d_var (pv 6)) da_nil rfl) rfl) (by decide) rfl rfl)) (fun _ _ => rfl))) (fun _ => rfl) hE)
    (ds_cons (ds_compS fun _ _ hE => ps_comp (i := 9) (own := [("_law_row", 10)]) rfl sc__law_reaches.nd rfl rfl rfl (di_seq (d_var (pv 9))) (blkOk_by (N := ["_law_claims_here", "_law_coding_here", "_law_found", "_law_word_here", "_law_held", "_law_options", "_law_code", "_law_turn", "_law_seen", "_law_rows", "_law_row"]) (sc := defScope st__law_reaches) (own := [("_law_row", 10)]) (by decide +kernel)) (fun _ _ _ _ _ => (dgw_name (pg_name (i := 10) sc__law_reaches.nd rfl (by first | exact .inl rfl | exact .inr rfl)) (by simp))) (fun _ _ _ _ _ => (dts_one (dt_cmp opd_isnot (d_peek (pv 10)) (DE.pk d_non) (nomark _)))) (fun _ _ _ _ _ => (d_var (pv 10))) (fun _ => rfl) hE)
    (ds_one (ds_if (DW.pt (dw_and (dt_cmp opd_is (DE.pk (d_ix hr.u1 (d_peek (pv 2)) (d_peek (pv 3)) (fun _ _ => rfl))) (DE.pk d_non) (nomark _)) (dw_and1 (dt_cmp (opd_neN hr.u0) (d_peek (pv 9)) (DE.frP (d_lst da_nil)) (nomark _))))) (ds_one (ds_asg (d_op opd_add (DE.pk d_int) (DE.pk (d_callB (calld_minL rfl) (da_cons lasts_pk (d_peek (pv 9)) da_nil rfl) (by rfl) T.n_min (by decide +kernel) (by decide) (by decide) rfl rfl))) (dg_putO hr.u1 (pv 2) (d_var (pv 3)) (fun _ => rfl)) rfl rfl rfl)) ds_nil)))) (fun _ => rfl)))) (fun _ => rfl))
    (ds_one (ds_retO (pv 2))))))
theorem b_owners_of {P : Program} {w : World} {K : PySem.W.Frag} {mg : Str → Option Value} {base : Heap} (T : Gls K mg) (hbase : ∃ o, base.get? sysModules = some o)  {f : Addr} {cdv : Value} {A : Around} {fr : List PySem.Env} {s : Shared} {H : Hp} {E : XK} (gd : Gd A)
    (hr : Room 0 (A.deeper (envOfC "owners_of" (defScope st_owners_of) s.heap.objs.size f cdv))) : DSs (BodyX P w K mg base ["coding", "name", "code"] "owners_of" st_owners_of f cdv A fr s H E) (defBody st_owners_of) m_owners_of :=
  (ds_one (ds_retF (d_compD (own := [("name", 1), ("code", 2)]) rfl sc_owners_of.nd (dix_items (d_var (pv 0)) rfl rfl) (blkOk_by (N := ["coding", "name", "code"]) (sc := defScope st_owners_of) (own := [("name", 1), ("code", 2)]) (by decide +kernel)) (fun _ _ _ _ _ => (dgw_tup rfl (dgsw_cons (pg_name (i := 1) sc_owners_of.nd rfl (by first | exact .inl rfl | exact .inr rfl)) (by simp) (dgsw_cons (pg_name (i := 2) sc_owners_of.nd rfl (by first | exact .inl rfl | exact .inr rfl)) (by simp) dgsw_nil rfl) rfl) rfl rfl)) (fun _ _ _ _ _ => dts_nil) (fun _ _ _ _ _ => (d_var (pv 2))) (fun _ _ _ _ _ => (d_var (pv 1))) (fun _ => rfl))))
theorem b_reaches {P : Program} {w : World} {K : PySem.W.Frag} {mg : Str → Option Value} {base : Heap} (T : Gls K mg) (hbase : ∃ o, base.get? sysModules = some o) (c_owners_of : Cle P w K mg base 1 "owners_of" sp_owners_of) {f : Addr} {cdv : Value} {A : Around} {fr : List PySem.Env} {s : Shared} {H : Hp} {E : XK} (gd : Gd A)
    (hr : Room 1 (A.deeper (envOfC "reaches" (defScope st_reaches) s.heap.objs.size f cdv))) : DSs (BodyX P w K mg base ["situation", "coding", "owners", "found", "name", "held", "options", "option", "level"] "reaches" st_reaches f cdv A fr s H E) (defBody st_reaches) m_reaches :=
  (ds_cons (ds_set (d_call (c_owners_of.to hr (by decide)) gd (by rfl) (da_cons lasts_shr (d_var (pv 1)) da_nil rfl) (by decide) rfl rfl) (fun h => ps_set (i := 2) sc_reaches.nd rfl (by first | exact .inl rfl | exact .inr rfl) h))
    (ds_cons (ds_setO d_dct0 (fun h => ps_set (i := 3) sc_reaches.nd rfl (by first | exact .inl rfl | exact .inr rfl) h))
    (ds_cons (ds_for (passes_of rfl) rfl (di_seq (d_var (pv 0))) (dg_tup rfl (dgs_cons (pg_name (i := 4) sc_reaches.nd rfl (by first | exact .inl rfl | exact .inr rfl)) (dgs_cons (pg_name (i := 5) sc_reaches.nd rfl (by first | exact .inl rfl | exact .inr rfl)) (dgs_cons (pg_name (i := 6) sc_reaches.nd rfl (by first | exact .inl rfl | exact .inr rfl)) dgs_nil rfl) rfl) rfl) rfl rfl) (ds_one (ds_asg (d_if (dt_tru (DE.pk (d_callB (calld_any rfl) (da_cons lasts_pk (DE.frP (d_comp (own := [("option", 7)]) rfl sc_reaches.nd (di_seq (d_var (pv 6))) (blkOk_by (N := ["situation", "coding", "owners", "found", "name", "held", "options", "option", "level"]) (sc := defScope st_reaches) (own := [("option", 7)]) (by decide +kernel)) (fun _ _ _ _ _ => (dgw_name (pg_name (i := 7) sc_reaches.nd rfl (by first | exact .inl rfl | exact .inr rfl)) (by simp))) (fun _ _ _ _ _ => dts_nil) (fun _ _ _ _ _ => (d_cmp (opd_notin hr.u65) (d_peek (pv 7)) (d_peek (pv 2)) rfl)) (fun _ => rfl))) da_nil rfl) (by rfl) T.n_any (by decide +kernel) (by decide) (by decide) rfl rfl)) (fun _ => rfl)) d_int d_non) (dg_putO hr.u1 (pv 3) (d_var (pv 4)) (fun _ => rfl)) rfl rfl rfl)) (fun _ => rfl))
    (ds_cons (ds_set d_int (fun h => ps_set (i := 8) sc_reaches.nd rfl (by first | exact .inl rfl | exact .inr rfl) h))
    (ds_cons (ds_while (passes_of rfl) (dt_inV (neg := false) rfl (d_peek (pv 8)) (d_peek (pv 3)) rfl rfl rfl) (ds_cons (ds_for (passes_of rfl) rfl (di_seq (d_var (pv 0))) (dg_tup rfl (dgs_cons (pg_name (i := 4) sc_reaches.nd rfl (by first | exact .inl rfl | exact .inr rfl)) (dgs_cons (pg_name (i := 5) sc_reaches.nd rfl (by first | exact .inl rfl | exact .inr rfl)) (dgs_cons (pg_name (i := 6) sc_reaches.nd rfl (by first | exact .inl rfl | exact .inr rfl)) dgs_nil rfl) rfl) rfl) rfl rfl) (ds_one (ds_if (DW.pt (dw_and (dt_cmp opd_is (DE.pk (d_ix hr.u1 (d_peek (pv 3)) (d_peek (pv 4)) (fun _ _ => rfl))) (DE.pk d_non) (nomark _)) (dw_and1 (dt_tru (DE.pk (d_callB (calld_any rfl) (da_cons lasts_pk (DE.frP (d_comp (own := [("option", 7)]) rfl sc_reaches.nd (di_seq (d_var (pv 6))) (blkOk_by (N := ["situation", "coding", "owners", "found", "name", "held", "options", "option", "level"]) (sc := defScope st_reaches) (own := [("option", 7)]) (by decide +kernel)) (fun _ _ _ _ _ => (dgw_name (pg_name (i := 7) sc_reaches.nd rfl (by first | exact .inl rfl | exact .inr rfl)) (by simp))) (fun _ _ _ _ _ => dts_nil) (fun _ _ _ _ _ => (d_cmp (opd_eq hr.u64) (DE.pk (d_ix hr.u1 (d_peek (pv 3)) (DE.pk (d_ix hr.u1 (d_peek (pv 2)) (d_peek (pv 7)) (fun _ _ => rfl))) (fun _ _ => rfl))) (d_peek (pv 8)) (nomark _))) (fun _ => rfl))) da_nil rfl) (by rfl) T.n_any (by decide +kernel) (by decide) (by decide) rfl rfl)) (fun _ => rfl))))) (ds_one (ds_asg (d_op opd_add (d_peek (pv 8)) (DE.pk d_int)) (dg_putO hr.u1 (pv 3) (d_var (pv 4)) (fun _ => rfl)) rfl rfl rfl)) ds_nil)) (fun _ => rfl))
    (ds_one (ds_aug (DE.pk d_int) (fun h => ps_aug (i := 8) sc_reaches.nd rfl (by first | exact .inl rfl | exact .inr rfl) h ip_add)))))
    (ds_one (ds_retO (pv 3))))))))
theorem b_is_reaches {P : Program} {w : World} {K : PySem.W.Frag} {mg : Str → Option Value} {base : Heap} (T : Gls K mg) (hbase : ∃ o, base.get? sysModules = some o) (c_reaches : Cle P w K mg base 2 "reaches" sp_reaches) {f : Addr} {cdv : Value} {A : Around} {fr : List PySem.Env} {s : Shared} {H : Hp} {E : XK} (gd : Gd A)
    (hr : Room 2 (A.deeper (envOfC "is_reaches" (defScope st_is_reaches) s.heap.objs.size f cdv))) : DSs (BodyX P w K mg base ["situation", "coding", "value", "name", "numbers", "number"] "is_reaches" st_is_reaches f cdv A fr s H E) (defBody st_is_reaches) m_is_reaches :=
  (ds_cons (ds_if (DW.pt (dw_or (dt_not (dt_tru (DE.pk (d_callC (CallC.or calld_isi callc_isi) (da_cons lasts_pk (d_peek (pv 2)) (da_cons lasts_pk (DE.pk (d_type (n := "dict") (by rfl) T.n_dict (by decide +kernel) (by decide) (by decide))) da_nil rfl) rfl) (by rfl) T.n_isinstance (by decide +kernel) (by decide) (by decide) rfl rfl)) (fun _ => rfl))) (dw_or1 (dt_not (dt_tru (DE.pk (d_callB (calld_all rfl) (da_cons lasts_pk (DE.frP (d_compX (own := [("name", 3)]) rfl sc_is_reaches.nd (dix_keysN (d_var (pv 2))) (blkOk_by (N := ["situation", "coding", "value", "name", "numbers", "number"]) (sc := defScope st_is_reaches) (own := [("name", 3)]) (by decide +kernel)) (fun _ _ _ _ _ => (dgw_name (pg_name (i := 3) sc_is_reaches.nd rfl (by first | exact .inl rfl | exact .inr rfl)) (by simp))) (fun _ _ _ _ _ => dts_nil) (fun _ _ _ _ _ => (d_callB calld_isi (da_cons lasts_pk (d_peek (pv 3)) (da_cons lasts_pk (DE.pk (d_type (n := "str") (by rfl) T.n_str (by decide +kernel) (by decide) (by decide))) da_nil rfl) rfl) (by rfl) T.n_isinstance (by decide +kernel) (by decide) (by decide) rfl rfl)) (fun _ => rfl))) da_nil rfl) (by rfl) T.n_all (by decide +kernel) (by decide) (by decide) rfl rfl)) (fun _ => rfl)))))) (ds_one (ds_ret d_bl)) ds_nil)
    (ds_cons (ds_set (DE.frz (d_listVals rfl (d_peek (pv 2)) (by rfl) T.n_list (by decide +kernel) rfl rfl rfl)) (fun h => ps_set (i := 4) sc_is_reaches.nd rfl (by first | exact .inl rfl | exact .inr rfl) h))
    (ds_cons (ds_if (dt_not (dt_tru (DE.pk (d_callB (calld_all rfl) (da_cons lasts_pk (DE.frP (d_comp (own := [("number", 5)]) rfl sc_is_reaches.nd (di_seq (d_var (pv 4))) (blkOk_by (N := ["situation", "coding", "value", "name", "numbers", "number"]) (sc := defScope st_is_reaches) (own := [("number", 5)]) (by decide +kernel)) (fun _ _ _ _ _ => (dgw_name (pg_name (i := 5) sc_is_reaches.nd rfl (by first | exact .inl rfl | exact .inr rfl)) (by simp))) (fun _ _ _ _ _ => dts_nil) (fun _ _ _ _ _ => (d_or (d_cmp opd_is (d_peek (pv 5)) (DE.pk d_non) (nomark _)) (d_one (d_and (d_callB calld_isi (da_cons lasts_pk (d_peek (pv 5)) (da_cons lasts_pk (DE.pk (d_type (n := "int") (by rfl) T.n_int (by decide +kernel) (by decide) (by decide))) da_nil rfl) rfl) (by rfl) T.n_isinstance (by decide +kernel) (by decide) (by decide) rfl rfl) (d_one (d_not (d_callB calld_isi (da_cons lasts_pk (d_peek (pv 5)) (da_cons lasts_pk (DE.pk (d_type (n := "bool") (by rfl) T.n_bool (by decide +kernel) (by decide) (by decide))) da_nil rfl) rfl) (by rfl) T.n_isinstance (by decide +kernel) (by decide) (by decide) rfl rfl))))))) (fun _ => rfl))) da_nil rfl) (by rfl) T.n_all (by decide +kernel) (by decide) (by decide) rfl rfl)) (fun _ => rfl))) (ds_one (ds_ret d_bl)) ds_nil)
    (ds_one (ds_ret (d_cmp (opd_eqK hr.u65) (d_peek (pv 2)) (DE.pk (d_call (c_reaches.to hr (by decide)) gd (by rfl) (da_cons lasts_shr (d_var (pv 0)) (da_cons lasts_shr (d_var (pv 1)) da_nil rfl) rfl) (by decide) rfl rfl)) (nomark _)))))))
theorem b__law_by_steps {P : Program} {w : World} {K : PySem.W.Frag} {mg : Str → Option Value} {base : Heap} (T : Gls K mg) (hbase : ∃ o, base.get? sysModules = some o) (c__law_owner : Cle P w K mg base 1 "_law_owner" sp__law_owner) {f : Addr} {cdv : Value} {A : Around} {fr : List PySem.Env} {s : Shared} {H : Hp} {E : XK} (gd : Gd A)
    (hr : Room 1 (A.deeper (envOfC "_law_by_steps" (defScope st__law_by_steps) s.heap.objs.size f cdv))) : DSs (BodyX P w K mg base ["_law_claims_here", "_law_coding_here", "_law_tried", "_law_word_here", "_law_held", "_law_options", "_law_owners", "_law_code", "_law_numbers", "_law_owner_here", "_law_due"] "_law_by_steps" st__law_by_steps f cdv A fr s H E) (defBody st__law_by_steps) m__law_by_steps :=
  (ds_cons (ds_for (passes_of rfl) rfl (di_seq (d_var (pv 0))) (dg_tup rfl (dgs_cons (pg_name (i := 3) sc__law_by_steps.nd rfl (by first | exact .inl rfl | exact .inr rfl)) (dgs_cons (pg_name (i := 4) sc__law_by_steps.nd rfl (by first | exact .inl rfl | exact .inr rfl)) (dgs_cons (pg_name (i := 5) sc__law_by_steps.nd rfl (by first | exact .inl rfl | exact .inr rfl)) dgs_nil rfl) rfl) rfl) rfl rfl) (ds_cons (ds_compS fun _ _ hE => ps_comp (i := 6) (own := [("_law_code", 7)]) rfl sc__law_by_steps.nd rfl rfl rfl (di_seq (d_var (pv 5))) (blkOk_by (N := ["_law_claims_here", "_law_coding_here", "_law_tried", "_law_word_here", "_law_held", "_law_options", "_law_owners", "_law_code", "_law_numbers", "_law_owner_here", "_law_due"]) (sc := defScope st__law_by_steps) (own := [("_law_code", 7)]) (by decide +kernel)) (fun _ _ _ _ _ => (dgw_name (pg_name (i := 7) sc__law_by_steps.nd rfl (by first | exact .inl rfl | exact .inr rfl)) (by simp))) (fun _ _ _ _ _ => dts_nil) (fun _ _ _ _ _ => (d_call (c__law_owner.to hr (by decide)) gd (by rfl) (da_cons lasts_shr (d_var (pv 1)) (da_cons lasts_shr (d_var (pv 7)) da_nil rfl) rfl) (by decide) rfl rfl)) (fun _ => rfl) hE)
    (ds_cons (ds_compS fun _ _ hE => ps_comp (i := 8) (own := [("_law_owner_here", 9)]) rfl sc__law_by_steps.nd rfl rfl rfl (di_seq (d_var (pv 6))) (blkOk_by (N := ["_law_claims_here", "_law_coding_here", "_law_tried", "_law_word_here", "_law_held", "_law_options", "_law_owners", "_law_code", "_law_numbers", "_law_owner_here", "_law_due"]) (sc := defScope st__law_by_steps) (own := [("_law_owner_here", 9)]) (by decide +kernel)) (fun _ _ _ _ _ => (dgw_name (pg_name (i := 9) sc__law_by_steps.nd rfl (by first | exact .inl rfl | exact .inr rfl)) (by simp))) (fun _ _ _ _ _ => (dts_one (DW.pt (dw_and (dt_cmp opd_isnot (d_peek (pv 9)) (DE.pk d_non) (nomark _)) (dw_and1 (dt_cmp opd_isnot (DE.pk (d_ix hr.u1 (d_peek (pv 2)) (d_peek (pv 9)) (fun _ _ => rfl))) (DE.pk d_non) (nomark _))))))) (fun _ _ _ _ _ => (d_ix hr.u1 (d_peek (pv 2)) (d_peek (pv 9)) (fun _ _ => rfl))) (fun _ => rfl) hE)
    (ds_cons (ds_set (d_if (dt_cmp (opd_in hr.u65) (DE.pk d_non) (d_peek (pv 6)) rfl) d_int d_non) (fun h => ps_set (i := 10) sc__law_by_steps.nd rfl (by first | exact .inl rfl | exact .inr rfl) h))
    (ds_cons (ds_if (DW.pt (dw_and (dt_cmp (opd_notin hr.u65) (DE.pk d_non) (d_peek (pv 6)) rfl) (dw_and1 (dt_cmp (opd_neN hr.u0) (d_peek (pv 8)) (DE.frP (d_lst da_nil)) (nomark _))))) (ds_one (ds_set (d_op opd_add (DE.pk d_int) (DE.pk (d_callB (calld_minL rfl) (da_cons lasts_pk (d_peek (pv 8)) da_nil rfl) (by rfl) T.n_min (by decide +kernel) (by decide) (by decide) rfl rfl))) (fun h => ps_set (i := 10) sc__law_by_steps.nd rfl (by first | exact .inl rfl | exact .inr rfl) h))) ds_nil)
    (ds_one (ds_if (dt_cmp (opd_ne hr.u64) (DE.pk (d_ix hr.u1 (d_peek (pv 2)) (d_peek (pv 3)) (fun _ _ => rfl))) (d_peek (pv 10)) (nomark _)) (ds_one (ds_ret d_bl)) ds_nil)))))) (fun _ => rfl))
    (ds_one (ds_ret d_bl)))
theorem b__law_bent {P : Program} {w : World} {K : PySem.W.Frag} {mg : Str → Option Value} {base : Heap} (T : Gls K mg) (hbase : ∃ o, base.get? sysModules = some o) (c__law_draw : Cle P w K mg base 1 "_law_draw" sp__law_draw) (c__law_choose : Cle P w K mg base 2 "_law_choose" sp__law_choose) {f : Addr} {cdv : Value} {A : Around} {fr : List PySem.Env} {s : Shared} {H : Hp} {E : XK} (gd : Gd A)
    (hr : Room 2 (A.deeper (envOfC "_law_bent" (defScope st__law_bent) s.heap.objs.size f cdv))) : DSs (BodyX P w K mg base ["_law_stream_here", "_law_right", "_law_found", "_law_kind", "_law_longer", "_law_word_here"] "_law_bent" st__law_bent f cdv A fr s H E) (defBody st__law_bent) m__law_bent :=
  (ds_cons (ds_par2 (DE.rtf (d_callTy calld_dictD (da_cons lasts_pk (d_peek (pv 1)) da_nil rfl) (by rfl) T.n_dict (by decide +kernel) (by decide) (by decide) rfl rfl)) (DE.rts (d_call (c__law_draw.to hr (by decide)) gd (by rfl) (da_cons lasts_shr (d_var (pv 0)) (da_cons lasts_shr d_int da_nil rfl) rfl) (by decide) rfl rfl)) (fun h => ps_par (i := 2) (j := 3) rfl sc__law_bent.nd rfl rfl (by decide) rfl rfl h rfl) rfl rfl)
    (ds_cons (ds_if (DW.pt (dw_or (dt_cmp (opd_eq hr.u64) (d_peek (pv 3)) (DE.pk d_int) (nomark _)) (dw_or1 (dt_cmp (opd_eqK hr.u65) (d_peek (pv 2)) (DE.frP d_dct0) (nomark _))))) (ds_cons (ds_setO (d_callTy calld_dictD (da_cons lasts_pk (d_peek (pv 2)) da_nil rfl) (by rfl) T.n_dict (by decide +kernel) (by decide) (by decide) rfl rfl) (fun h => ps_set (i := 4) sc__law_bent.nd rfl (by first | exact .inl rfl | exact .inr rfl) h))
    (ds_cons (ds_asg (d_call (c__law_choose.to hr (by decide)) gd (by rfl) (da_cons lasts_shr (d_var (pv 0)) (da_cons lasts_shr (DE.frz (d_lst (da_cons lasts_shr d_int (da_cons lasts_shr d_non da_nil rfl) rfl))) da_nil rfl) rfl) (by decide) rfl rfl) (dg_putN hr.u1 (pv 4) (d_call (c__law_choose.to hr (by decide)) gd (by rfl) (da_cons lasts_shr (d_var (pv 0)) (da_cons lasts_shr (DE.frz (d_lst (da_cons lasts_shr (d_strc (by decide +kernel)) (da_cons lasts_shr (d_strc (by decide +kernel)) (da_cons lasts_shr d_int (da_cons lasts_shr d_non da_nil rfl) rfl) rfl) rfl))) da_nil rfl) rfl) (by decide) rfl rfl) (fun _ => rfl)) rfl rfl rfl)
    (ds_one (ds_ret (d_call (c__law_choose.to hr (by decide)) gd (by rfl) (da_cons lasts_shr (d_var (pv 0)) (da_cons lasts_shr (DE.frz (d_lst (da_cons lasts_shr d_non (da_cons lasts_shr (DE.frz (d_lst da_nil)) (da_cons lasts_shr (DE.frz (d_callB (calld_sortDT rfl) (da_cons lasts_pk (d_peek (pv 2)) da_nil rfl) (by rfl) T.n_sorted (by decide +kernel) (by decide) (by decide) rfl rfl)) (da_cons lasts_shr d_int (da_cons lasts_shr (DE.frz (d_dct (dps_cons (d_strc (by decide +kernel)) d_int dps_nil) rfl rfl (by simp) (by decide))) (da_cons lasts_shr (d_var (pv 4)) (da_cons lasts_shr (DE.frz (d_dct (dps_cons d_int d_int dps_nil) rfl rfl (by simp) (by decide))) da_nil rfl) rfl) rfl) rfl) rfl) rfl) rfl))) da_nil rfl) rfl) (by decide) rfl rfl))))) ds_nil)
    (ds_cons (ds_set (d_call (c__law_choose.to hr (by decide)) gd (by rfl) (da_cons lasts_shr (d_var (pv 0)) (da_cons lasts_shr (DE.frz (d_callB (calld_sortDT rfl) (da_cons lasts_pk (d_peek (pv 2)) da_nil rfl) (by rfl) T.n_sorted (by decide +kernel) (by decide) (by decide) rfl rfl)) da_nil rfl) rfl) (by decide) rfl rfl) (fun h => ps_set (i := 5) sc__law_bent.nd rfl (by first | exact .inl rfl | exact .inr rfl) h))
    (ds_cons (ds_if (dt_cmp (opd_eq hr.u64) (d_peek (pv 3)) (DE.pk d_int) (nomark _)) (ds_one (ds_popD (pv 2) (d_var (pv 5)) ⟨rfl, rfl, rfl, rfl⟩ rfl)) (ds_one (ds_if (dt_cmp (opd_eq hr.u64) (d_peek (pv 3)) (DE.pk d_int) (nomark _)) (ds_one (ds_asg (d_call (c__law_choose.to hr (by decide)) gd (by rfl) (da_cons lasts_shr (d_var (pv 0)) (da_cons lasts_shr (DE.frz (d_lst (da_cons lasts_shr d_non (da_cons lasts_shr d_bl (da_cons lasts_shr (d_strc (by decide +kernel)) (da_cons lasts_shr d_int (da_cons lasts_shr (DE.frz (d_lst (da_cons lasts_shr d_int da_nil rfl))) (da_cons lasts_shr (DE.frz d_dct0) da_nil rfl) rfl) rfl) rfl) rfl) rfl))) da_nil rfl) rfl) (by decide) rfl rfl) (dg_putO hr.u1 (pv 2) (d_var (pv 5)) (fun _ => rfl)) rfl rfl rfl)) (ds_one (ds_asg (d_call (c__law_choose.to hr (by decide)) gd (by rfl) (da_cons lasts_shr (d_var (pv 0)) (da_cons lasts_shr (DE.frz (d_lst (da_cons lasts_shr d_non (da_cons lasts_shr d_int (da_cons lasts_shr d_int (da_cons lasts_shr d_int (da_cons lasts_shr (d_op opd_add (DE.pk (d_orN (d_ix hr.u1 (d_peek (pv 2)) (d_peek (pv 5)) (fun _ _ => rfl)) (d_one d_int))) (DE.pk d_int)) da_nil rfl) rfl) rfl) rfl) rfl))) da_nil rfl) rfl) (by decide) rfl rfl) (dg_putO hr.u1 (pv 2) (d_var (pv 5)) (fun _ => rfl)) rfl rfl rfl)))))
    (ds_one (ds_retO (pv 2)))))))
theorem b__law_has_names {P : Program} {w : World} {K : PySem.W.Frag} {mg : Str → Option Value} {base : Heap} (T : Gls K mg) (hbase : ∃ o, base.get? sysModules = some o)  {f : Addr} {cdv : Value} {A : Around} {fr : List PySem.Env} {s : Shared} {H : Hp} {E : XK} (gd : Gd A)
    (hr : Room 0 (A.deeper (envOfC "_law_has_names" (defScope st__law_has_names) s.heap.objs.size f cdv))) : DSs (BodyX P w K mg base ["_law_tried", "_law_right", "_law_word_here"] "_law_has_names" st__law_has_names f cdv A fr s H E) (defBody st__law_has_names) m__law_has_names :=
  (ds_cons (ds_if (DW.pt (dw_or (dt_not (dt_tru (DE.pk (d_callC (CallC.or calld_isi callc_isi) (da_cons lasts_pk (d_peek (pv 0)) (da_cons lasts_pk (DE.pk (d_type (n := "dict") (by rfl) T.n_dict (by decide +kernel) (by decide) (by decide))) da_nil rfl) rfl) (by rfl) T.n_isinstance (by decide +kernel) (by decide) (by decide) rfl rfl)) (fun _ => rfl))) (dw_or1 (dt_cmp (opd_ne hr.u64) (DE.pk (d_callC (CallC.or calld_len callc_len) (da_cons lasts_pk (d_peek (pv 0)) da_nil rfl) (by rfl) T.n_len (by decide +kernel) (by decide) (by decide) rfl rfl)) (DE.pk (d_callB calld_len (da_cons lasts_pk (d_peek (pv 1)) da_nil rfl) (by rfl) T.n_len (by decide +kernel) (by decide) (by decide) rfl rfl)) (nomark _))))) (ds_one (ds_ret d_bl)) ds_nil)
    (ds_one (ds_ret (d_cmp (opd_eqN hr.u0) (DE.frP (d_compX (own := [("_law_word_here", 2)]) rfl sc__law_has_names.nd (dix_keys (d_var (pv 1))) (blkOk_by (N := ["_law_tried", "_law_right", "_law_word_here"]) (sc := defScope st__law_has_names) (own := [("_law_word_here", 2)]) (by decide +kernel)) (fun _ _ _ _ _ => (dgw_name (pg_name (i := 2) sc__law_has_names.nd rfl (by first | exact .inl rfl | exact .inr rfl)) (by simp))) (fun _ _ _ _ _ => (dts_one (dt_cmp (opd_notin hr.u65) (d_peek (pv 2)) (d_peek (pv 0)) rfl))) (fun _ _ _ _ _ => (d_var (pv 2))) (fun _ => rfl))) (DE.frP (d_lst da_nil)) (nomark _)))))
theorem b__law_all_numbers {P : Program} {w : World} {K : PySem.W.Frag} {mg : Str → Option Value} {base : Heap} (T : Gls K mg) (hbase : ∃ o, base.get? sysModules = some o)  {f : Addr} {cdv : Value} {A : Around} {fr : List PySem.Env} {s : Shared} {H : Hp} {E : XK} (gd : Gd A)
    (hr : Room 0 (A.deeper (envOfC "_law_all_numbers" (defScope st__law_all_numbers) s.heap.objs.size f cdv))) : DSs (BodyX P w K mg base ["_law_tried", "_law_word_here", "_law_thing"] "_law_all_numbers" st__law_all_numbers f cdv A fr s H E) (defBody st__law_all_numbers) m__law_all_numbers :=
  (ds_cons (ds_forX (passes_of rfl) rfl (dix_keys (d_var (pv 0))) (dg_name (pg_name (i := 1) sc__law_all_numbers.nd rfl (by first | exact .inl rfl | exact .inr rfl))) (ds_cons (ds_set (d_ix hr.u1 (d_peek (pv 0)) (d_peek (pv 1)) (fun _ _ => rfl)) (fun h => ps_set (i := 2) sc__law_all_numbers.nd rfl (by first | exact .inl rfl | exact .inr rfl) h))
    (ds_one (ds_if (DW.pt (dw_and (dt_cmp opd_isnot (d_peek (pv 2)) (DE.pk d_non) (nomark _)) (dw_and1 (DW.pt (dw_or (dt_not (dt_tru (DE.pk (d_callB calld_isi (da_cons lasts_pk (d_peek (pv 2)) (da_cons lasts_pk (DE.pk (d_type (n := "int") (by rfl) T.n_int (by decide +kernel) (by decide) (by decide))) da_nil rfl) rfl) (by rfl) T.n_isinstance (by decide +kernel) (by decide) (by decide) rfl rfl)) (fun _ => rfl))) (dw_or (dt_tru (DE.pk (d_callB calld_isi (da_cons lasts_pk (d_peek (pv 2)) (da_cons lasts_pk (DE.pk (d_type (n := "bool") (by rfl) T.n_bool (by decide +kernel) (by decide) (by decide))) da_nil rfl) rfl) (by rfl) T.n_isinstance (by decide +kernel) (by decide) (by decide) rfl rfl)) (fun _ => rfl)) (dw_or1 (dt_cmp opd_lt (d_peek (pv 2)) (DE.pk d_int) (nomark _))))))))) (ds_one (ds_ret d_bl)) ds_nil))) (fun _ => rfl))
    (ds_one (ds_ret d_bl)))
theorem b_law {P : Program} {w : World} {K : PySem.W.Frag} {mg : Str → Option Value} {base : Heap} (T : Gls K mg) (hbase : ∃ o, base.get? sysModules = some o) (c__law_stream : Cle P w K mg base 1 "_law_stream" sp__law_stream) (c__law_claims : Cle P w K mg base 5 "_law_claims" sp__law_claims) (c__law_coding : Cle P w K mg base 3 "_law_coding" sp__law_coding) (c__law_choose : Cle P w K mg base 2 "_law_choose" sp__law_choose) (c__law_draw : Cle P w K mg base 1 "_law_draw" sp__law_draw) (c__law_reaches : Cle P w K mg base 2 "_law_reaches" sp__law_reaches) (c_is_reaches : Cle P w K mg base 3 "is_reaches" sp_is_reaches) (c__law_by_steps : Cle P w K mg base 2 "_law_by_steps" sp__law_by_steps) (c__law_bent : Cle P w K mg base 3 "_law_bent" sp__law_bent) (c__law_has_names : Cle P w K mg base 1 "_law_has_names" sp__law_has_names) (c__law_all_numbers : Cle P w K mg base 1 "_law_all_numbers" sp__law_all_numbers) {f : Addr} {cdv : Value} {A : Around} {fr : List PySem.Env} {s : Shared} {H : Hp} {E : XK} (gd : Gd A)
    (hr : Room 5 (A.deeper (envOfC "law" (defScope st_law) s.heap.objs.size f cdv))) : DSs (BodyX P w K mg base ["_law_script", "_law_start", "_law_stream_here", "_law_turn", "_law_claims_here", "_law_coding_here", "_law_right", "_law_turned", "_law_look", "_law_tried", "_law_seen", "_law_due", "_law_word_here"] "law" st_law f cdv A fr s H E) (defBody st_law) m_law :=
  (ds_cons (ds_for (passes_of rfl) rfl (di_rng1 (by rfl) T.n_range (da_cons lasts_shr (d_callB (calld_max rfl) (da_cons lasts_pk (DE.pk d_int) (da_cons lasts_pk (DE.pk (d_callB (calld_min rfl) (da_cons lasts_pk (DE.pk d_int) (da_cons lasts_pk (DE.pk (d_callB calld_len (da_cons lasts_pk (d_peek (pv 0)) da_nil rfl) (by rfl) T.n_len (by decide +kernel) (by decide) (by decide) rfl rfl)) da_nil rfl) rfl) (by rfl) T.n_min (by decide +kernel) (by decide) (by decide) rfl rfl)) da_nil rfl) rfl) (by rfl) T.n_max (by decide +kernel) (by decide) (by decide) rfl rfl) da_nil rfl) rfl) (dg_name (pg_name (i := 1) sc_law.nd rfl (by first | exact .inl rfl | exact .inr rfl))) (ds_cons (ds_setPur (d_callF (c__law_stream.to hr (by decide)) gd (by rfl) (da_cons lasts_shr (d_var (pv 0)) (da_cons lasts_shr (d_var (pv 1)) da_nil rfl) rfl) (by decide) rfl rfl) (fun h => ps_set (i := 2) sc_law.nd rfl (by first | exact .inl rfl | exact .inr rfl) h))
    (ds_one (ds_for (passes_of rfl) rfl (di_rng1 (by rfl) T.n_range (da_cons lasts_shr d_int da_nil rfl) rfl) (dg_name (pg_name (i := 3) sc_law.nd rfl (by first | exact .inl rfl | exact .inr rfl))) (ds_cons (ds_set (d_call (c__law_claims.to hr (by decide)) gd (by rfl) (da_cons lasts_shr (d_var (pv 2)) (da_cons lasts_shr d_int da_nil rfl) rfl) (by decide) rfl rfl) (fun h => ps_set (i := 4) sc_law.nd rfl (by first | exact .inl rfl | exact .inr rfl) h))
    (ds_cons (ds_set (d_call (c__law_coding.to hr (by decide)) gd (by rfl) (da_cons lasts_shr (d_var (pv 2)) (da_cons lasts_shr (d_var (pv 4)) (da_cons lasts_shr (d_call (c__law_choose.to hr (by decide)) gd (by rfl) (da_cons lasts_shr (d_var (pv 2)) (da_cons lasts_shr (DE.frz (d_lst (da_cons lasts_shr d_int (da_cons lasts_shr d_int (da_cons lasts_shr (d_call (c__law_draw.to hr (by decide)) gd (by rfl) (da_cons lasts_shr (d_var (pv 2)) (da_cons lasts_shr d_int da_nil rfl) rfl) (by decide) rfl rfl) da_nil rfl) rfl) rfl))) da_nil rfl) rfl) (by decide) rfl rfl) da_nil rfl) rfl) rfl) (by decide) rfl rfl) (fun h => ps_set (i := 5) sc_law.nd rfl (by first | exact .inl rfl | exact .inr rfl) h))
    (ds_cons (ds_set (d_call (c__law_reaches.to hr (by decide)) gd (by rfl) (da_cons lasts_shr (d_var (pv 4)) (da_cons lasts_shr (d_var (pv 5)) da_nil rfl) rfl) (by decide) rfl rfl) (fun h => ps_set (i := 6) sc_law.nd rfl (by first | exact .inl rfl | exact .inr rfl) h))
    (ds_cons (ds_set (DE.frz (d_callTy (calld_dictP rfl) (da_cons lasts_pk (DE.pk (d_stepL (DE.frP (d_listItems rfl (d_peek (pv 6)) (by rfl) T.n_list (by decide +kernel) rfl rfl rfl)) (d_neg (DE.pk d_int)) (fun _ _ => rfl))) da_nil rfl) (by rfl) T.n_dict (by decide +kernel) (by decide) (by decide) rfl rfl)) (fun h => ps_set (i := 7) sc_law.nd rfl (by first | exact .inl rfl | exact .inr rfl) h))
    (ds_cons (ds_if (DW.pt (dw_or (dt_cmp opd_isnotB (DE.pk (d_call (c_is_reaches.to hr (by decide)) gd (by rfl) (da_cons lasts_shr (d_var (pv 4)) (da_cons lasts_shr (d_var (pv 5)) (da_cons lasts_shr (d_var (pv 6)) da_nil rfl) rfl) rfl) (by decide) rfl rfl)) (DE.pk d_bl) (nomark _)) (dw_or1 (dt_cmp opd_isnotB (DE.pk (d_call (c_is_reaches.to hr (by decide)) gd (by rfl) (da_cons lasts_shr (d_var (pv 4)) (da_cons lasts_shr (d_var (pv 5)) (da_cons lasts_shr (d_var (pv 7)) da_nil rfl) rfl) rfl) (by decide) rfl rfl)) (DE.pk d_bl) (nomark _))))) (ds_one (ds_ret d_bl)) ds_nil)
    (ds_cons (ds_if (DW.pt (dw_or (dt_not (dt_tru (DE.pk (d_call (c__law_by_steps.to hr (by decide)) gd (by rfl) (da_cons lasts_shr (d_var (pv 4)) (da_cons lasts_shr (d_var (pv 5)) (da_cons lasts_shr (d_var (pv 6)) da_nil rfl) rfl) rfl) (by decide) rfl rfl)) (fun _ => rfl))) (dw_or1 (dt_cmp opd_isnotB (DE.pk (d_call (c_is_reaches.to hr (by decide)) gd (by rfl) (da_cons lasts_shr (DE.frz (d_lst da_nil)) (da_cons lasts_shr (DE.frz d_dct0) (da_cons lasts_shr (DE.frz d_dct0) da_nil rfl) rfl) rfl) (by decide) rfl rfl)) (DE.pk d_bl) (nomark _))))) (ds_one (ds_ret d_bl)) ds_nil)
    (ds_one (ds_for (passes_of rfl) rfl (di_rng1 (by rfl) T.n_range (da_cons lasts_shr d_int da_nil rfl) rfl) (dg_name (pg_name (i := 8) sc_law.nd rfl (by first | exact .inl rfl | exact .inr rfl))) (ds_cons (ds_set (d_call (c__law_bent.to hr (by decide)) gd (by rfl) (da_cons lasts_shr (d_var (pv 2)) (da_cons lasts_shr (d_var (pv 6)) da_nil rfl) rfl) (by decide) rfl rfl) (fun h => ps_set (i := 9) sc_law.nd rfl (by first | exact .inl rfl | exact .inr rfl) h))
    (ds_cons (ds_par (da_cons lasts_shr (d_callC (CallC.or (calld_repr gd hr.u60 hbase) (callc_repr gd hr.u60 hbase)) (da_cons lasts_pk (DE.pk (d_tup (da_cons lasts_shr (d_var (pv 4)) (da_cons lasts_shr (d_var (pv 5)) (da_cons lasts_shr (d_var (pv 9)) da_nil rfl) rfl) rfl))) da_nil rfl) (by rfl) T.n_repr (by decide +kernel) (by decide) (by decide) rfl rfl) (da_cons lasts_shr d_bl da_nil rfl) rfl) (fun h => ps_par (i := 10) (j := 11) rfl sc_law.nd rfl rfl (by decide) rfl rfl h rfl))
    (ds_cons (ds_if (dt_tru (DE.pk (d_call (c__law_has_names.to hr (by decide)) gd (by rfl) (da_cons lasts_shr (d_var (pv 9)) (da_cons lasts_shr (d_var (pv 6)) da_nil rfl) rfl) (by decide) rfl rfl)) (fun _ => rfl)) (ds_cons (ds_set (d_cmp (opd_eqN hr.u0) (DE.frP (d_compX (own := [("_law_word_here", 12)]) rfl sc_law.nd (dix_keys (d_var (pv 6))) (blkOk_by (N := ["_law_script", "_law_start", "_law_stream_here", "_law_turn", "_law_claims_here", "_law_coding_here", "_law_right", "_law_turned", "_law_look", "_law_tried", "_law_seen", "_law_due", "_law_word_here"]) (sc := defScope st_law) (own := [("_law_word_here", 12)]) (by decide +kernel)) (fun _ _ _ _ _ => (dgw_name (pg_name (i := 12) sc_law.nd rfl (by first | exact .inl rfl | exact .inr rfl)) (by simp))) (fun _ _ _ _ _ => (dts_one (dt_cmp (opd_ne hr.u64) (DE.pk (d_callB (calld_repr gd hr.u60 hbase) (da_cons lasts_pk (DE.pk (d_ix hr.u1 (d_peek (pv 9)) (d_peek (pv 12)) (fun _ _ => rfl))) da_nil rfl) (by rfl) T.n_repr (by decide +kernel) (by decide) (by decide) rfl rfl)) (DE.pk (d_callB (calld_repr gd hr.u60 hbase) (da_cons lasts_pk (DE.pk (d_ix hr.u1 (d_peek (pv 6)) (d_peek (pv 12)) (fun _ _ => rfl))) da_nil rfl) (by rfl) T.n_repr (by decide +kernel) (by decide) (by decide) rfl rfl)) (nomark _)))) (fun _ _ _ _ _ => (d_var (pv 12))) (fun _ => rfl))) (DE.frP (d_lst da_nil)) (nomark _)) (fun h => ps_set (i := 11) sc_law.nd rfl (by first | exact .inl rfl | exact .inr rfl) h))
    (ds_one (ds_if (DW.pt (dw_and (dt_tru (DE.pk (d_call (c__law_all_numbers.to hr (by decide)) gd (by rfl) (da_cons lasts_shr (d_var (pv 9)) da_nil rfl) (by decide) rfl rfl)) (fun _ => rfl)) (dw_and1 (dt_cmp (opd_ne hr.u64) (DE.pk (d_call (c__law_by_steps.to hr (by decide)) gd (by rfl) (da_cons lasts_shr (d_var (pv 4)) (da_cons lasts_shr (d_var (pv 5)) (da_cons lasts_shr (d_var (pv 9)) da_nil rfl) rfl) rfl) (by decide) rfl rfl)) (d_peek (pv 11)) (nomark _))))) (ds_one (ds_ret d_bl)) ds_nil))) ds_nil)
    (ds_cons (ds_if (dt_cmp (opd_ne hr.u64) (DE.pk (d_callB (calld_repr gd hr.u60 hbase) (da_cons lasts_pk (DE.pk (d_call (c_is_reaches.to hr (by decide)) gd (by rfl) (da_cons lasts_shr (d_var (pv 4)) (da_cons lasts_shr (d_var (pv 5)) (da_cons lasts_shr (d_var (pv 9)) da_nil rfl) rfl) rfl) (by decide) rfl rfl)) da_nil rfl) (by rfl) T.n_repr (by decide +kernel) (by decide) (by decide) rfl rfl)) (DE.pk (d_callB (calld_repr gd hr.u60 hbase) (da_cons lasts_pk (d_peek (pv 11)) da_nil rfl) (by rfl) T.n_repr (by decide +kernel) (by decide) (by decide) rfl rfl)) (nomark _)) (ds_one (ds_ret d_bl)) ds_nil)
    (ds_one (ds_if (dt_cmp (opd_ne hr.u64) (DE.pk (d_callC (CallC.or (calld_repr gd hr.u60 hbase) (callc_repr gd hr.u60 hbase)) (da_cons lasts_pk (DE.pk (d_tup (da_cons lasts_shr (d_var (pv 4)) (da_cons lasts_shr (d_var (pv 5)) (da_cons lasts_shr (d_var (pv 9)) da_nil rfl) rfl) rfl))) da_nil rfl) (by rfl) T.n_repr (by decide +kernel) (by decide) (by decide) rfl rfl)) (d_peek (pv 10)) (nomark _)) (ds_one (ds_ret d_bl)) ds_nil)))))) (fun _ => rfl))))))))) (fun _ => rfl)))) (fun _ => rfl))
    (ds_one (ds_ret d_bl)))
end
end L2.DL
namespace L2.DL
open PySem PySem.Spec PyProof.Rows
local macro_rules | `(tactic| walk_at "ev") => `(tactic| first | refine i_var (by rfl) ?_ | refine i_peek (by rfl) ?_ | refine i_varO (by rfl) ?_ | refine i_peekO (by rfl) ?_ | refine g_fldC (by assumption) (by rfl) ?_ | refine g_fld (by rfl) ?_ | refine j_clrO (by rfl) ?_ | refine j_clrL (by rfl) ?_ | refine j_ext (by rfl) ?_ | refine j_retO (by rfl) ?_ | refine j_retOO (by rfl) ?_ | refine j_app (by rfl) ?_ | refine j_aug (by rfl) ?_ | refine i_callLF (by rfl) ?_ | refine i_callL (by rfl) ?_ | refine j_appPop (by rfl) (by rfl) ?_ | refine j_ins (by rfl) ?_ | refine j_putO (by rfl) ?_ | refine j_tupD (by rfl) ?_ | refine j_gsF (by rfl) ?_ | refine l_size (Nat.le_of_ble_eq_true (by rfl)) ?_ | dsimp only [List.set_cons_succ, List.set_cons_zero])
local macro_rules | `(tactic| walk_at "ev") => `(tactic| with_reducible first | refine j_tupD (by with_unfolding_all rfl) ?_ | refine j_gsF (by with_unfolding_all rfl) ?_ | refine l_size (Nat.le_of_ble_eq_true (by with_unfolding_all rfl)) ?_)
local macro_rules | `(tactic| walk_at "ev") => `(tactic| with_reducible first | refine g_fldC (by assumption) (by with_unfolding_all rfl) ?_ | refine g_fld (by with_unfolding_all rfl) ?_ | refine j_clrO (by with_unfolding_all rfl) ?_ | refine j_clrL (by with_unfolding_all rfl) ?_ | refine j_ext (by with_unfolding_all rfl) ?_ | refine j_retO (by with_unfolding_all rfl) ?_ | refine j_retOO (by with_unfolding_all rfl) ?_ | refine j_app (by with_unfolding_all rfl) ?_ | refine j_aug (by with_unfolding_all rfl) ?_ | refine i_callLF (by with_unfolding_all rfl) ?_ | refine i_callL (by with_unfolding_all rfl) ?_ | refine j_appPop (by with_unfolding_all rfl) (by with_unfolding_all rfl) ?_ | refine j_ins (by with_unfolding_all rfl) ?_ | refine j_putO (by with_unfolding_all rfl) ?_)
local macro_rules | `(tactic| walk_at "ev") => `(tactic| with_reducible first | refine o_str ?_ | refine o_scr ?_ | refine p_par2 ?_ | refine g_neg ?_ | refine g_ordS ?_ | refine g_inS ?_ | refine g_lenR ?_ | refine g_2I ?_ | refine g_tupT ?_ | refine g_cutT ?_ | refine i_var (by with_unfolding_all rfl) ?_ | refine i_peek (by with_unfolding_all rfl) ?_ | refine i_varO (by with_unfolding_all rfl) ?_ | refine i_peekO (by with_unfolding_all rfl) ?_)
local macro_rules | `(tactic| walk_at "ev") => `(tactic| with_reducible first | refine i_tupX ?_ | refine x_txs ?_ | refine x_nil ?_ | refine x_one ?_ | refine i_tx1 ?_ | refine i_un ?_ | refine i_rng2 ?_ | refine t_int ?_ | refine t_lst ?_ | refine t_tup ?_ | refine t_non ?_ | refine o_tup ?_ | refine o_kt ?_ | refine g_dictD ?_)
local macro_rules | `(tactic| walk_at "ev") => `(tactic| with_reducible first | refine j_par ?_ | refine j_setPur ?_ | refine j_putC ?_ | refine j_retC2 ?_ | refine j_clrD ?_ | refine i_txN ?_ | refine g_find3 ?_ | refine i_dri ?_ | refine j_callR ?_ | refine i_ist ?_ | refine i_andV ?_ | refine i_orV ?_ | refine i_notV ?_ | refine i_chain ?_)
local macro_rules | `(tactic| walk_at "ev") => `(tactic| with_reducible first | refine i_lenO ?_ | refine i_boolO ?_ | refine i_isiO ?_ | refine j_raise ?_ | refine j_tryAs ?_ | refine j_tryO ?_ | refine j_tryT ?_ | refine i_zipA ?_ | refine z_lst ?_ | refine z_tup ?_ | refine g_eqNT ?_ | refine j_fldS ?_ | refine j_fldC ?_ | refine j_setC ?_)
local macro_rules | `(tactic| walk_at "ev") => `(tactic| with_reducible first | refine i_cm ?_ | refine g_intI ?_ | refine g_intB ?_ | refine i_cntB ?_ | refine i_posK ?_ | refine i_star ?_ | refine q_tup ?_ | refine q_lst ?_ | refine i_callV ?_ | refine i_callVF ?_ | refine i_methR ?_ | refine i_methF ?_ | refine i_opE ?_ | refine i_negO ?_)
local macro_rules | `(tactic| walk_at "ev") => `(tactic| with_reducible first | refine j_appC ?_ | refine i_truO ?_ | refine i_isHd ?_ | refine g_eqNX ?_ | refine g_inX ?_ | refine g_ninX ?_ | refine g_lenX ?_ | refine o_tupX ?_ | refine g_tupX ?_ | refine i_idx ?_ | refine j_asg2 ?_ | refine j_parOO ?_ | refine j_parF ?_ | refine j_parOS ?_)
local macro_rules | `(tactic| walk_at "ev") => `(tactic| with_reducible first | refine i_compD ?_ | refine i_compD2 ?_ | refine i_kv ?_ | refine p_l ?_ | refine i_dget ?_ | refine i_dget2 ?_ | refine i_enumT ?_ | refine e_lst ?_ | refine e_tup ?_ | refine r_none ?_ | refine r_str ?_ | refine i_dpop ?_ | refine i_tab ?_ | refine j_augS ?_)
local macro_rules | `(tactic| walk_at "ev") => `(tactic| with_reducible first | refine p_par3 ?_ | refine g_listNL ?_ | refine g_listNT ?_ | refine g_setSortK ?_ | refine g_sortedL ?_ | refine j_augF ?_ | refine i_dw ?_ | refine i_lift ?_ | refine i_dl ?_ | refine l_lst ?_ | refine l_tup ?_ | refine w_dct ?_ | refine j_forX ?_ | refine i_compX ?_)
local macro_rules | `(tactic| walk_at "ev") => `(tactic| with_reducible first | refine j_gsNil ?_ | refine j_drop ?_ | refine j_retR ?_ | refine j_retF ?_ | refine i_callF ?_ | refine i_callP ?_ | refine i_rng1 ?_ | refine i_isi ?_ | refine i_isb ?_ | refine j_par2 ?_ | refine i_callR ?_ | refine i_unF ?_ | refine g_str ?_ | refine j_par3 ?_)
local macro_rules | `(tactic| walk_at "ev") => `(tactic| with_reducible first | refine i_pos ?_ | refine i_meth ?_ | refine i_prop ?_ | refine j_setO ?_ | refine i_cut ?_ | refine i_part ?_ | refine i_nop ?_ | refine g_listT ?_ | refine g_listL ?_ | refine g_tupL ?_ | refine g_cutL ?_ | refine g_lenT ?_ | refine j_gsC ?_ | refine j_gsG ?_)
local macro_rules | `(tactic| walk_at "ev") => `(tactic| with_reducible first | refine g_neI ?_ | refine g_I0 ?_ | refine g_addI ?_ | refine g_ordI ?_ | refine j_for ?_ | refine i_tru ?_ | refine t_bl ?_ | refine i_andT ?_ | refine i_orT ?_ | refine i_notT ?_ | refine j_asg ?_ | refine i_ifE ?_ | refine g_eqNL ?_ | refine g_lenL ?_)
local macro_rules | `(tactic| walk_at "ev") => `(tactic| with_reducible first | refine i_tup ?_ | refine i_lst ?_ | refine j_ret ?_ | refine j_gN ?_ | refine i_itT ?_ | refine i_itF ?_ | refine i_itNT ?_ | refine i_itNF ?_ | refine o_lst ?_ | refine i_iter ?_ | refine i_comp ?_ | refine g_eqS ?_ | refine g_eqI ?_ | refine g_neS ?_)
local macro_rules | `(tactic| walk_at "ev") => `(tactic| with_reducible first | refine j_seq ?_ | refine i_peek (by with_unfolding_all rfl) ?_ | refine i_op ?_ | refine i_c ?_ | refine i_cons ?_ | refine i_var (by with_unfolding_all rfl) ?_ | refine i_nil ?_ | refine i_tst ?_ | refine j_set ?_ | refine j_if ?_ | refine j_next ?_ | refine i_map ?_ | refine i_callB ?_ | refine i_call ?_)
local macro_rules | `(tactic| decreasing_trivial) => `(tactic| repeat walk_at "ev")
section
variable [Cad]
/-! _law_stream -/
theorem pure__law_stream : PU m__law_stream 5 2 sp__law_stream := fun ds C PR PX ⟨ns, i, e, hl, hi, hb, q⟩ => ⟨by rw [e]; rfl, by
    subst e
    change m__law_stream _ _ [.shr (.scr ns), .shr (.int i), .non, .non, .non] C
    unfold m__law_stream
    decreasing_trivial
    refine forL_inv (fun _ env C' => C' = C ∧ ∃ (m : Int) (s : Slot), 0 ≤ m ∧ m < 4294967296 ∧ env = [.shr (.scr ns), .shr (.int i), .shr (.int m), s, .non]) ?_ ?_ ?_
    · exact ⟨rfl, _, _, by omega, by omega, rfl⟩
    · rintro k d env C' nx' hd ⟨rfl, m, s, m0, m1, rfl⟩ hn
      rw [List.getElem?_map] at hd
      obtain ⟨z, hz, rfl⟩ := Option.map_eq_some_iff.mp hd
      have hz1 := lt_bits (hb z (List.mem_of_getElem? hz))
      have hm1 : m.natAbs < 2 ^ 33 := by omega
      have hp1 : (m * 40127).natAbs < 2 ^ (33 + 20) := bits_prod hm1 (by decide)
      decreasing_trivial
      refine g_mulI (mulOk_small (by omega) (by decide)) ?_
      decreasing_trivial
      have hp3 : (m * 40127 + z).natAbs < 2 ^ (1048576 + 1) := bits_sum (Nat.lt_of_lt_of_le hp1 (Nat.pow_le_pow_right (by decide) (by decide))) hz1
      refine g_I (powOk_bits (k := 3) hp3 (by decide)) ?_
      decreasing_trivial
      refine g_I (by decide) ?_
      decreasing_trivial
      exact hn _ _ ⟨rfl, _, _, by omega, by omega, rfl⟩
    · rintro env C' ⟨rfl, m, s, m0, m1, rfl⟩
      decreasing_trivial
      have fin : ∀ (x : Int) (s2 : Slot), sRetF (mLst (mCons (mVar 4) (mCons (mVar 2) mNil))) (fun x _ C => PX x C) ⟨fun _ C => PR (.shr .non) C, PR, fun _ _ => False, fun _ _ => False⟩ [.shr (.scr ns), .shr (.int i), .shr (.int m), s, .shr (.int x)] C' := fun x _ => by
        decreasing_trivial
        exact q x m m0 m1
      refine i_ite (fun h => ?_) fun h => ?_
      · have h2 : (i : Int) < ns.length := of_decide_eq_true h
        obtain ⟨z, hz, hx⟩ := atI_int (xs := ns) (i := i) (by omega) h2
        decreasing_trivial
        refine g_ixR hx ?_
        decreasing_trivial
        refine g_I (powOk_small (k := 18) (by decide) (by decide)) ?_
        decreasing_trivial
        refine i_ite (fun h3 => ?_) fun h3 => ?_
        · decreasing_trivial
          refine g_ixR hx ?_
          decreasing_trivial
          refine g_I (powOk_small (k := 18) (by decide) (by decide)) ?_
          decreasing_trivial
          exact q _ m m0 m1
        · decreasing_trivial
          exact q _ m m0 m1
      · decreasing_trivial
        exact q _ m m0 m1⟩
/-! _law_draw -/
theorem pure__law_draw : PUd m__law_draw 3 false := fun a n i j C n0 n1 j0 j1 hc => by
    have hc' : C a = some (.lst [.int i, .int j]) := hc
    change m__law_draw E0 _ [.shr (.cell a), .shr (.int n), .non] C
    unfold m__law_draw
    decreasing_trivial
    refine g_ixCL (x := .int i) hc' rfl ?_
    decreasing_trivial
    refine i_ite (fun h => ?_) fun h => ?_
    · decreasing_trivial
      refine g_ixCL (x := .int i) hc' rfl ?_
      decreasing_trivial
      refine g_I n0 ?_
      decreasing_trivial
      refine g_ixCL (x := .int i) hc' rfl ?_
      decreasing_trivial
      refine g_I (divOk_of n0 n1) ?_
      decreasing_trivial
      refine g_putCL (j := 0) hc' rfl ?_
      decreasing_trivial
      exact ⟨i % n, i / n, j, Int.emod_nonneg _ (by omega), Int.emod_lt_of_pos _ n0, j0, j1, rfl, rfl⟩
    · decreasing_trivial
      refine g_ixCL (x := .int j) hc' rfl ?_
      decreasing_trivial
      refine g_mulI (mulOk_small (by omega) (by decide)) ?_
      decreasing_trivial
      refine g_I (by decide) ?_
      decreasing_trivial
      refine g_putCL (j := 1) hc' rfl ?_
      decreasing_trivial
      generalize hj : (j * 48271 + 12345) % 2147483647 = j'
      have q0 : 0 ≤ j' := by rw [← hj]; exact Int.emod_nonneg _ (by decide)
      have q1 : j' < 2147483647 := by rw [← hj]; exact Int.emod_lt_of_pos _ (by decide)
      refine g_ixCL (x := .int j') cput_same rfl ?_
      decreasing_trivial
      refine g_I (powOk_small (k := 3) (by omega) (by decide)) ?_
      decreasing_trivial
      refine g_I (by decide) ?_
      decreasing_trivial
      generalize hx : (j' ^ Int.toNat 3) % 2147483629 = x
      have x0 : 0 ≤ x := by rw [← hx]; exact Int.emod_nonneg _ (by decide)
      have x1 : x < 2147483629 := by rw [← hx]; exact Int.emod_lt_of_pos _ (by decide)
      refine g_I (powOk_small (k := 5) (by omega) (by decide)) ?_
      decreasing_trivial
      refine g_I (by decide) ?_
      decreasing_trivial
      refine g_I (divOk_of (by decide) (by decide)) ?_
      decreasing_trivial
      refine g_I n0 ?_
      exact ⟨_, i, j', Int.emod_nonneg _ (by omega), Int.emod_lt_of_pos _ n0, q0, by omega, rfl, rfl⟩
/-! _law_choose -/
theorem pure__law_choose : PU m__law_choose 2 2 sp__law_choose := fun ds C PR PX ⟨a, x, xs, e, hc, hx, ne, hl, q⟩ => ⟨by rw [e]; rfl, by
    subst e
    have hp : 0 < xs.length := List.length_pos_iff.mpr ne
    rcases hx with rfl | rfl | ⟨s, rfl, rfl⟩
    · change m__law_choose _ _ [.shr (.cell a), .shr (.lst xs)] C
      unfold m__law_choose
      decreasing_trivial
      refine ⟨a, _, rfl, hc, by omega, by omega, fun k k0 k1 => ?_⟩
      obtain ⟨y, hy, hx⟩ := atI_int k0 k1
      refine g_ixL hx ?_
      exact q y hy
    · change m__law_choose _ _ [.shr (.cell a), .shr (.tup xs)] C
      unfold m__law_choose
      decreasing_trivial
      refine ⟨a, _, rfl, hc, by omega, by omega, fun k k0 k1 => ?_⟩
      obtain ⟨y, hy, hx⟩ := atI_int k0 k1
      refine g_ixT hx ?_
      exact q y hy
    · rw [List.length_map] at hp hl
      change m__law_choose _ _ [.shr (.cell a), .shr (.str s)] C
      unfold m__law_choose
      decreasing_trivial
      refine g_lenS hl ?_
      decreasing_trivial
      refine ⟨a, _, rfl, hc, by omega, by omega, fun k k0 k1 => ?_⟩
      obtain ⟨y, hy, hx⟩ := atI_int k0 k1
      refine g_ixS hl hx ?_
      exact q _ (List.mem_map.mpr ⟨y, hy, rfl⟩)⟩
/-! _law_word -/
theorem pure__law_word : PU m__law_word 4 3 sp__law_word := fun ds C PR PX ⟨a, s, n, e, hc, ne, hl, n0, n1, q⟩ => ⟨by rw [e]; rfl, by
    subst e
    change m__law_word _ _ [.shr (.cell a), .shr (.str s), .shr (.int n), .non] C
    unfold m__law_word
    decreasing_trivial
    refine ⟨a, _, rfl, hc, by omega, by omega, fun k k0 k1 => ?_⟩
    decreasing_trivial
    refine r_rng1 ⟨by omega, by omega⟩ ⟨rfl, ?_⟩
    refine comp_all (R := fun y => ∃ c ∈ s, y = .str [c]) _ _ rfl (by rw [intsFrom_len]; simp; have := sizeLine_eq; omega) (fun d hd Q' hq => ?_) fun ys hl' hy => ?_
    · decreasing_trivial
      refine ⟨a, .str s, s.map fun c => .str [c], rfl, hc, .inr (.inr ⟨s, rfl, rfl⟩), by simpa using ne, by simp; omega, fun d hd => ?_⟩
      obtain ⟨c, hc, rfl⟩ := List.mem_map.mp hd
      exact hq _ ⟨c, hc, rfl⟩
    · rw [intsFrom_len] at hl'
      obtain ⟨cs, h1, h2, h3⟩ := txts_signs hy
      refine g_joinL h1 (by rw [lens_signs]; simp; omega) ?_
      rw [join_signs]
      exact q cs (by omega) (by omega) h3⟩
/-! _law_shuffled -/
theorem perm_take {α : Type} : ∀ (l : List α) (k : Nat) (x : α), l[k]? = some x → l.Perm (x :: l.eraseIdx k)
  | [], k, x, h => by simp at h
  | a :: l, 0, x, h => by
    have : a = x := by simpa using h
    subst this
    exact List.Perm.refl _
  | a :: l, k + 1, x, h => by
    have ih := perm_take l k x (by simpa using h)
    show (a :: l).Perm (x :: a :: l.eraseIdx k)
    exact (ih.cons a).trans (List.Perm.swap x a _)
theorem pure__law_shuffled : PU m__law_shuffled 4 2 sp__law_shuffled := fun ds C PR PX ⟨st, xs, e, hc, hl, q⟩ => ⟨by rw [e]; rfl, by
  subst e
  change m__law_shuffled _ _ [.shr (.cell st), .shr (.lst xs), .non, .non] C
  unfold m__law_shuffled
  have hz := sizeLine_eq
  decreasing_trivial
  refine while_inv (fun w env C' => C' = C ∧ ∃ ls fs, w = ls.length ∧ (fs ++ ls).Perm xs ∧ env = [.shr (.cell st), .shr (.lst xs), .own (.lst ls), .own (.lst fs)]) ⟨_, rfl, xs, [], rfl, List.Perm.refl _, rfl⟩ ?_
  rintro w env C' ⟨rfl, ls, fs, rfl, p, rfl⟩
  have pl := p.length_eq
  rw [List.length_append] at pl
  decreasing_trivial
  refine i_ite (fun h => ?_) fun h => ?_
  · have hpos : 0 < ls.length := by
      cases ls with
      | nil => simp at h
      | cons => simp
    refine j_appPop rfl rfl ?_
    decreasing_trivial
    refine ⟨st, ls.length, rfl, hc, by omega, by omega, fun k k0 k1 => ?_⟩
    obtain ⟨j, rfl⟩ : ∃ j : Nat, k = j := ⟨k.toNat, by omega⟩
    have hj : j < ls.length := by omega
    obtain ⟨y, hy⟩ : ∃ y, ls[j]? = some y := ⟨_, List.getElem?_eq_getElem hj⟩
    refine a_appPop (y := y) (by rfl) (by rfl) hy (by omega) (by omega) ?_
    refine ⟨_, ?_, rfl, ls.eraseIdx j, fs ++ [y], rfl, ?_, rfl⟩
    · rw [List.length_eraseIdx]
      split <;> omega
    · refine List.Perm.trans ?_ p
      rw [List.append_assoc]
      exact (perm_take ls j y hy).symm.append_left fs
  · have e : ls = [] := by
      cases ls with
      | nil => rfl
      | cons => simp at h
    subst e
    rw [List.append_nil] at p
    decreasing_trivial
    exact q fs p⟩
/-! _law_words -/
theorem putD_old {κ : List (DK × D)} {k : DK} {d : D} (h : k ∈ κ.map (·.1)) : (putD κ k d).map (·.1) = κ.map (·.1) := by
  unfold putD
  rw [if_pos (by
    obtain ⟨e, he, rfl⟩ := List.mem_map.mp h
    exact List.any_eq_true.mpr ⟨e, he, by simp⟩), List.map_map]
  refine List.map_congr_left fun e _ => ?_
  show (if e.1 = k then (e.1, d) else e).1 = e.1
  split <;> rfl
theorem pure__law_words : PU m__law_words 6 4 sp__law_words := fun ds C PR PX ⟨st, am, n, s, e, hc, ha, ne, hs, n0, n12, hcs, q⟩ => ⟨by rw [e]; rfl, by
  subst e
  change m__law_words _ _ [.shr (.cell st), .shr (.int am), .shr (.str s), .shr (.int n), .non, .non] C
  unfold m__law_words
  have hz := sizeLine_eq
  decreasing_trivial
  refine r_rng1 (by omega) ?_
  refine forL_inv (fun k env C' => C' = C ∧ ∃ (kvs : List (DK × D)) (ts : List Txt) (x5 : Slot), kvs.map (·.1) = ts.map Sum.inr ∧ ts.Nodup ∧ ts.length ≤ k ∧ (∀ t ∈ ts, (nameOk t ∧ t.length ≤ n) ∧ ∀ c ∈ t, c ∈ s) ∧ env = [.shr (.cell st), .shr (.int am), .shr (.str s), .shr (.int n), .own (.dct kvs), x5])
    ⟨rfl, [], [], _, rfl, List.nodup_nil, Nat.le_refl _, fun t ht => (by cases ht), rfl⟩ ?_ ?_
  · rintro k d env C1 nx' hd ⟨rfl, kvs, ts, x5, ek, nd, hl, ht, rfl⟩ hx
    obtain ⟨rfl, hk⟩ := range_get hd
    have kl : kvs.length = ts.length := by have := congrArg List.length ek; simpa using this
    decreasing_trivial
    refine ⟨st, s, n, rfl, hc, ne, by omega, by omega, by omega, fun t t0 tn tc => ?_⟩
    refine a_putOD (k := .inr t) rfl rfl (by omega) ?_
    have tok : (nameOk t ∧ t.length ≤ n) ∧ ∀ c ∈ t, c ∈ s := ⟨⟨⟨t0, by omega, fun x hx => hcs x (tc x hx)⟩, by omega⟩, tc⟩
    by_cases hin : t ∈ ts
    · refine hx _ _ ⟨rfl, putD kvs (.inr t) (.bl true), ts, _, ?_, nd, by omega, ht, rfl⟩
      rw [putD_old (by rw [ek]; exact List.mem_map_of_mem hin), ek]
    · refine hx _ _ ⟨rfl, putD kvs (.inr t) (.bl true), ts ++ [t], _, ?_, nodup_snoc nd hin, by simp; omega, fun u hu => ?_, rfl⟩
      · rw [putD_new (by
          rw [ek]
          intro z
          obtain ⟨u, hu, e⟩ := List.mem_map.mp z
          injection e with e
          exact hin (e ▸ hu)), List.map_append, ek, List.map_append]
        rfl
      · rcases List.mem_append.mp hu with hu | hu
        · exact ht u hu
        · rw [List.mem_singleton.mp hu]; exact tok
  · rintro env C1 ⟨rfl, kvs, ts, x5, ek, nd, hl, ht, rfl⟩
    rw [intsFrom_len] at hl
    decreasing_trivial
    refine g_sortDT ek (by omega) ?_
    decreasing_trivial
    refine ⟨st, txs (sortT ts), rfl, hc, by rw [List.length_map, sortT_len]; omega, fun ys p => ?_⟩
    decreasing_trivial
    obtain ⟨zs, ez, pz⟩ : ∃ zs : List Txt, ys = txs zs ∧ zs.Perm (sortT ts) := perm_txs p
    subst ez
    have pt : zs.Perm ts := pz.trans (sortT_perm ts)
    exact q zs (pt.nodup_iff.mpr nd) (by rw [pt.length_eq]; omega) (fun t h => (ht t (pt.mem_iff.mp h)).1) fun t h => (ht t (pt.mem_iff.mp h)).2⟩
/-! _law_spellings -/
abbrev prD (x : Txt × Nat) : D := .tup [.str x.1, .int x.2]
theorem pow5 {k : Nat} (h : k ≤ 3) : 5 ^ k ≤ 125 := by
  have : k = 0 ∨ k = 1 ∨ k = 2 ∨ k = 3 := by omega
  rcases this with rfl | rfl | rfl | rfl <;> decide
theorem pure__law_spellings : PU m__law_spellings 9 2 sp__law_spellings := fun ds C PR PX ⟨w, n, e, hw, hn, q⟩ => ⟨by rw [e]; rfl, by
  subst e
  change m__law_spellings _ _ [.shr (.str w), .shr (.int n), .non, .non, .non, .non, .non, .non, .non] C
  unfold m__law_spellings
  have hz := sizeLine_eq
  decreasing_trivial
  refine r_rng1 (by omega) ?_
  refine forL_inv (fun k env C' => C' = C ∧ ∃ (rs : List (Txt × Nat)) (x3 x4 x5 x6 x7 : Slot), (∀ x ∈ rs, x.1.length = k ∧ (∀ c ∈ x.1, c ∈ w) ∧ x.2 ≤ w.length) ∧ rs.length ≤ 5 ^ k ∧ NOw x4 ∧ env = [.shr (.str w), .shr (.int n), .shr (.lst (rs.map prD)), x3, x4, x5, x6, x7, .non])
    ⟨rfl, [([], 0)], _, _, _, _, _, fun x hx => (by rw [List.mem_singleton.mp hx]; exact ⟨rfl, fun c hc => (by cases hc), Nat.zero_le _⟩), Nat.le_refl _, nOw_non, rfl⟩ ?_ ?_
  · rintro k d env C1 nx' hd ⟨rfl, rs, x3, x4, x5, x6, x7, hr, hl, n4, rfl⟩ hx
    obtain ⟨rfl, hk⟩ := range_get hd
    have h5 : 5 ^ k ≤ 125 := pow5 (by omega)
    have e5 : 5 ^ (k + 1) = 5 ^ k * 5 := Nat.pow_succ 5 k
    decreasing_trivial
    refine forL_inv (fun i env C' => C' = C1 ∧ ∃ (ls : List (Txt × Nat)) (x5 x6 x7 : Slot), (∀ x ∈ ls, x.1.length = k + 1 ∧ (∀ c ∈ x.1, c ∈ w) ∧ x.2 ≤ w.length) ∧ ls.length ≤ i * 5 ∧ env = [.shr (.str w), .shr (.int n), .shr (.lst (rs.map prD)), .shr (.int k), .own (.lst (ls.map prD)), x5, x6, x7, .non])
      ⟨rfl, [], _, _, _, fun x hx => (by cases hx), by simp, rfl⟩ ?_ ?_
    · rintro i d env C2 nx2 hd ⟨rfl, ls, x5, x6, x7, hls, hll, rfl⟩ hx2
      rw [List.getElem?_map] at hd
      obtain ⟨x, hxi, rfl⟩ := Option.map_eq_some_iff.mp hd
      have hi := (List.getElem?_eq_some_iff.mp hxi).1
      obtain ⟨r1, r2, r3⟩ := hr x (List.mem_of_getElem? hxi)
      refine j_tupD rfl ?_
      decreasing_trivial
      refine g_lenS (by omega) ?_
      decreasing_trivial
      refine r_rng2 (i := (x.2 : Int)) (j := (w.length : Int)) (by omega) ?_
      refine forL_inv (fun j env C' => C' = C2 ∧ ∃ (ls : List (Txt × Nat)) (x7 : Slot), (∀ x ∈ ls, x.1.length = k + 1 ∧ (∀ c ∈ x.1, c ∈ w) ∧ x.2 ≤ w.length) ∧ ls.length ≤ i * 5 + j ∧ env = [.shr (.str w), .shr (.int n), .shr (.lst (rs.map prD)), .shr (.int k), .own (.lst (ls.map prD)), .shr (.str x.1), .shr (.int x.2), x7, .non])
        ⟨rfl, ls, _, hls, by omega, rfl⟩ ?_ ?_
      · rintro j d env C3 nx3 hd ⟨rfl, ls, x7, hls, hll, rfl⟩ hx3
        obtain ⟨m, em, hm⟩ : ∃ m : Nat, d = .int m ∧ m < w.length := by
          rw [intsFrom_natD, List.getElem?_map] at hd
          obtain ⟨m, hm, rfl⟩ := Option.map_eq_some_iff.mp hd
          have := List.mem_range'_1.mp (List.mem_of_getElem? hm)
          exact ⟨m, rfl, by omega⟩
        have hj : j < w.length := by
          have := (List.getElem?_eq_some_iff.mp hd).1
          rw [intsFrom_len] at this
          omega
        subst em
        decreasing_trivial
        obtain ⟨c, hc⟩ : ∃ c, w[m]? = some c := ⟨_, List.getElem?_eq_getElem hm⟩
        refine g_ixS (by omega) (atI_nat hc) ?_
        decreasing_trivial
        refine g_addS (by simp; omega) ?_
        decreasing_trivial
        refine a_app rfl (by rw [List.length_map]; omega) ?_
        refine hx3 _ _ ⟨rfl, ls ++ [(x.1 ++ [c], m + 1)], .shr (.int m), fun y hy => ?_, by simp; omega, by simp⟩
        rcases List.mem_append.mp hy with hy | hy
        · exact hls y hy
        · rw [List.mem_singleton.mp hy]
          refine ⟨by simp [r1], fun z hz => ?_, by show m + 1 ≤ _; omega⟩
          rcases List.mem_append.mp hz with hz | hz
          · exact r2 z hz
          · rw [List.mem_singleton.mp hz]; exact List.mem_of_getElem? hc
      · rintro env C3 ⟨rfl, ls, x7, hls, hll, rfl⟩
        rw [intsFrom_len] at hll
        refine hx2 _ _ ⟨rfl, ls, _, _, _, hls, by omega, rfl⟩
    · rintro env C2 ⟨rfl, ls, x5, x6, x7, hls, hll, rfl⟩
      rw [List.length_map] at hll
      decreasing_trivial
      refine hx _ _ ⟨rfl, ls, _, _, _, _, _, hls, by omega, nOw_shr, rfl⟩
  · rintro env C1 ⟨rfl, rs, x3, x4, x5, x6, x7, hr, hl, n4, rfl⟩
    rw [intsFrom_len, Int.toNat_natCast] at hr hl
    have h5 := pow5 hn
    decreasing_trivial
    refine forL_inv (fun i env C' => C' = C1 ∧ ∃ (ts : List Txt) (x5 x6 : Slot), ts.Nodup ∧ (∀ t ∈ ts, t.length = n ∧ ∀ c ∈ t, c ∈ w) ∧ ts.length ≤ i ∧ env = [.shr (.str w), .shr (.int n), .shr (.lst (rs.map prD)), x3, x4, x5, x6, x7, .own (.lst (txs ts))])
      ⟨rfl, [], _, _, List.nodup_nil, fun t ht => (by cases ht), Nat.le_refl _, rfl⟩ ?_ ?_
    · rintro i d env C2 nx2 hd ⟨rfl, ts, x5, x6, nd, hts, htl, rfl⟩ hx2
      rw [List.getElem?_map] at hd
      obtain ⟨x, hxi, rfl⟩ := Option.map_eq_some_iff.mp hd
      have hi := (List.getElem?_eq_some_iff.mp hxi).1
      obtain ⟨r1, r2, r3⟩ := hr x (List.mem_of_getElem? hxi)
      refine j_tupD rfl ?_
      decreasing_trivial
      refine g_inTL ?_
      by_cases hin : x.1 ∈ ts
      · rw [decide_eq_true hin]
        refine ⟨false, rfl, i_ite (fun h => absurd h (by decide)) fun _ => ?_⟩
        exact hx2 _ _ ⟨rfl, ts, _, _, nd, hts, by omega, rfl⟩
      · rw [decide_eq_false hin]
        refine ⟨true, rfl, i_ite (fun _ => ?_) fun h => absurd h (by decide)⟩
        decreasing_trivial
        refine a_app rfl (by rw [List.length_map]; omega) ?_
        refine hx2 _ _ ⟨rfl, ts ++ [x.1], .shr (.str x.1), .shr (.int x.2), nodup_snoc nd hin, fun t ht => ?_, by simp; omega, by simp [txs]⟩
        rcases List.mem_append.mp ht with ht | ht
        · exact hts t ht
        · rw [List.mem_singleton.mp ht]; exact ⟨by omega, r2⟩
    · rintro env C2 ⟨rfl, ts, x5, x6, nd, hts, htl, rfl⟩
      rw [List.length_map] at htl
      decreasing_trivial
      exact q ts nd (by omega) hts⟩
/-! _law_claims -/
theorem pure__law_claims : PU m__law_claims 8 2 sp__law_claims := fun ds C PR PX ⟨st, am, e, hc, ha, q⟩ => ⟨by rw [e]; rfl, by
  subst e
  change m__law_claims _ _ [.shr (.cell st), .shr (.int am), .non, .non, .non, .non, .non, .non] C
  unfold m__law_claims
  have hz := sizeLine_eq
  decreasing_trivial
  refine ⟨st, .lst (txs [[97, 98], [97, 98, 99], [97, 98, 99, 100], [97, 98, 99, 100, 101, 102, 103]]), txs [[97, 98], [97, 98, 99], [97, 98, 99, 100], [97, 98, 99, 100, 101, 102, 103]], rfl, hc, .inl rfl, by simp [txs], by simp [txs], fun d hd => ?_⟩
  obtain ⟨s, hs, rfl⟩ := List.mem_map.mp hd
  have s1 : s ≠ [] ∧ s.length ≤ 26 ∧ ∀ c ∈ s, 97 ≤ c ∧ c ≤ 122 := by
    simp only [List.mem_cons, List.not_mem_nil, or_false] at hs
    rcases hs with rfl | rfl | rfl | rfl <;> refine ⟨by simp, by simp, by decide⟩
  have s2 : ∀ c ∈ s, c ≤ 103 := by
    simp only [List.mem_cons, List.not_mem_nil, or_false] at hs
    rcases hs with rfl | rfl | rfl | rfl <;> decide
  decreasing_trivial
  refine ⟨st, 3, rfl, hc, by decide, by decide, fun z z0 z3 => ?_⟩
  obtain ⟨n, en, n1, n3⟩ : ∃ n : Nat, (1 : Int) + z = n ∧ 1 ≤ n ∧ n ≤ 3 := ⟨(1 + z).toNat, by omega, by omega, by omega⟩
  decreasing_trivial
  rw [en]
  refine ⟨st, am, 5, s, rfl, hc, ha, s1.1, s1.2.1, by decide, by decide, s1.2.2, fun ws nd hl hws hws2 => ?_⟩
  decreasing_trivial
  refine forL_inv (fun i env C' => C' = C ∧ ∃ (S : List Cl) (x5 x6 : Slot), S.map (·.nm) = ws.take i ∧ ((∀ c ∈ S, ClU c) ∧ ∀ c ∈ S, c.nm ≠ [122, 122]) ∧ env = [.shr (.cell st), .shr (.int am), .shr (.str s), .shr (.int n), .own (.lst (S.map clD)), x5, x6, .non])
    ⟨rfl, [], _, _, rfl, ⟨fun c hc => (by cases hc), fun c hc => (by cases hc)⟩, rfl⟩ ?_ ?_
  · rintro i d env C1 nx' hd ⟨rfl, S, x5, x6, eS, hS, rfl⟩ hx
    rw [List.getElem?_map] at hd
    obtain ⟨t, ht, rfl⟩ := Option.map_eq_some_iff.mp hd
    have hi := (List.getElem?_eq_some_iff.mp ht).1
    obtain ⟨tok, t5⟩ := hws t (List.mem_of_getElem? ht)
    have lS : S.length = i := by
      have := congrArg List.length eS
      rw [List.length_map, List.length_take] at this
      omega
    decreasing_trivial
    refine ⟨t, n, rfl, t5, n3, fun ts tnd tl tt => ?_⟩
    decreasing_trivial
    refine ⟨rfl, compL_inv (fun k acc C2 => C2 = C1 ∧ ∃ L : List Txt, acc = txs L ∧ L.Sublist (ts.take k)) ⟨rfl, [], rfl, List.nil_sublist _⟩ ?_ ?_⟩
    · rintro k d acc C2 nxt hd ⟨rfl, L, rfl, hLs⟩ hx2
      have hL : L.length ≤ k := by have := hLs.length_le; rw [List.length_take] at this; omega
      rw [List.getElem?_map] at hd
      obtain ⟨u, hu, rfl⟩ := Option.map_eq_some_iff.mp hd
      have hk := (List.getElem?_eq_some_iff.mp hu).1
      decreasing_trivial
      refine ⟨rfl, ?_⟩
      decreasing_trivial
      refine ⟨st, 6, rfl, hc, by decide, by decide, fun j j0 j6 => ?_⟩
      decreasing_trivial
      refine ⟨rfl, i_ite (fun h => ?_) fun h => ?_⟩
      · decreasing_trivial
        refine ⟨rfl, by rw [List.length_map]; omega, hx2 _ _ ⟨rfl, L ++ [u], by simp [txs], by rw [List.take_add_one, hu]; exact hLs.append (List.Sublist.refl _)⟩⟩
      · exact hx2 _ _ ⟨rfl, L, rfl, hLs.trans (List.take_sublist_take_left (by omega))⟩
    · rintro acc C2 ⟨rfl, L, rfl, hLs⟩
      have hLs : L.Sublist ts := hLs.trans (List.take_sublist _ _)
      have hL := hLs.length_le
      have hLt : ∀ u ∈ L, u ∈ ts := fun u hu => hLs.subset hu
      decreasing_trivial
      refine a_app rfl (by rw [List.length_map]; omega) ?_
      refine hx _ _ ⟨rfl, S ++ [⟨t, [], L⟩], .shr (.str t), .shr (Cont.lst (txs L)).d, ?_, ⟨fun c hcl => ?_, fun c hcl => ?_⟩, by simp⟩
      · rw [List.map_append, eS, List.take_add_one, ht]; rfl
      · rcases List.mem_append.mp hcl with hcl | hcl
        · exact hS.1 c hcl
        · rw [List.mem_singleton.mp hcl]
          refine ⟨⟨tok, rfl, by show L.length ≤ 200; omega, fun o ho => ?_⟩, List.Nodup.sublist hLs tnd⟩
          obtain ⟨o1, o2⟩ := tt o (hLt o ho)
          exact ⟨by omega, fun x hx => tok.2.2 x (o2 x hx)⟩
      · rcases List.mem_append.mp hcl with hcl | hcl
        · exact hS.2 c hcl
        · rw [List.mem_singleton.mp hcl]
          intro z
          have z : t = [122, 122] := z
          have := s2 122 (hws2 t (List.mem_of_getElem? ht) 122 (by rw [z]; exact List.mem_cons_self))
          omega
  · rintro env C1 ⟨rfl, S, x5, x6, eS, hS, rfl⟩
    rw [List.length_map, List.take_length] at eS
    decreasing_trivial
    refine q S (by rw [eS]; exact nd) ?_ hS.1 hS.2
    have := congrArg List.length eS
    rw [List.length_map] at this
    omega⟩
/-! _law_coding -/
theorem inD_txs {t : Txt} : ∀ L : List Txt, inD (.str t) (L.map D.str) = decide (t ∈ L)
  | [] => rfl
  | x :: L => by
    have ih := inD_txs (t := t) L
    unfold inD at ih ⊢
    rw [List.map_cons, List.any_cons, ih, eqv_str]
    by_cases h1 : x = t
    · subst h1; simp
    · have h2 : ¬ t = x := fun z => h1 z.symm
      simp [h1, h2]
theorem pure__law_coding : PU m__law_coding 9 3 sp__law_coding := fun ds C PR PX ⟨st, S, m, e, hc, hl, nd, hS, q⟩ => ⟨by rw [e]; rfl, by
  subst e
  change m__law_coding _ _ [.shr (.cell st), .shr (.lst (S.map clD)), .shr (.int m), .non, .non, .non, .non, .non, .non] C
  unfold m__law_coding
  have hz := sizeLine_eq
  decreasing_trivial
  refine ⟨st, S.map clD, rfl, hc, by rw [List.length_map]; omega, fun ys p => ?_⟩
  obtain ⟨T, rfl, pT⟩ := perm_of_map clD p S rfl
  have ndT : (T.map (·.nm)).Nodup := (pT.map _).nodup_iff.mpr nd
  have lT : T.length ≤ 60 := by rw [pT.length_eq]; exact hl
  decreasing_trivial
  refine forL_inv (fun i env C' => C' = C ∧ ∃ (kv : List (Txt × Txt)) (x4 x5 x6 x7 : Slot), (kv.map (·.1)).Nodup ∧ (kv.map (·.2)).Nodup ∧ kv.length ≤ i ∧ (∀ e ∈ kv, ∃ c ∈ T.take i, c.nm = e.1 ∧ e.2 ∈ c.opts) ∧ env = [.shr (.cell st), .shr (.lst (S.map clD)), .shr (.int m), .own (.dct (tD D.str kv)), x4, x5, x6, x7, .non])
    ⟨rfl, [], _, _, _, _, List.nodup_nil, List.nodup_nil, Nat.le_refl _, fun e he => (by cases he), rfl⟩ ?_ ?_
  · rintro i d env C1 nx' hd ⟨rfl, kv, x4, x5, x6, x7, n1, n2, kl, hkv, rfl⟩ hx
    rw [List.getElem?_map] at hd
    obtain ⟨c, hci, rfl⟩ := Option.map_eq_some_iff.mp hd
    have hi := (List.getElem?_eq_some_iff.mp hci).1
    have cS : c ∈ S := pT.mem_iff.mp (List.mem_of_getElem? hci)
    have cl := hS c cS
    have up : ∀ e ∈ kv, ∃ c ∈ T.take (i + 1), c.nm = e.1 ∧ e.2 ∈ c.opts := fun e he => by
      obtain ⟨c', h1, h2⟩ := hkv e he
      rw [List.take_add_one]
      exact ⟨c', List.mem_append.mpr (.inl h1), h2⟩
    refine j_tupD rfl ?_
    decreasing_trivial
    refine ⟨rfl, compL_flt c.opts D.str D.str (fun o => !decide (o ∈ kv.map (·.2))) (by have := cl.l; omega) (fun o ho acc nxt h1 h2 h3 => ?_) ?_⟩
    · decreasing_trivial
      refine ⟨rfl, ?_⟩
      refine i_inV ?_
      decreasing_trivial
      refine ⟨rfl, _, rfl, ?_, ?_⟩
      · rw [List.all_eq_true]
        intro d hd
        obtain ⟨e, he, rfl⟩ := List.mem_map.mp hd
        obtain ⟨e', he', rfl⟩ := List.mem_map.mp (show e ∈ tD D.str kv from he)
        rfl
      rw [show valsL (tD D.str kv) = (kv.map (·.2)).map D.str from by unfold valsL tD; rw [List.map_map, List.map_map]; rfl, inD_txs]
      refine ⟨rfl, i_ite (fun h => ?_) fun h => ?_⟩
      · decreasing_trivial
        exact ⟨rfl, h1, h2 h⟩
      · exact h3 h
    generalize hF : c.opts.filter (fun o => !decide (o ∈ kv.map (·.2))) = F
    have inF : ∀ o ∈ F, o ∈ c.opts ∧ o ∉ kv.map (·.2) := fun o ho => by
      rw [← hF] at ho
      obtain ⟨a, b⟩ := List.mem_filter.mp ho
      exact ⟨a, by simpa using b⟩
    have lF : F.length ≤ 200 := by rw [← hF]; exact Nat.le_trans (List.length_filter_le _ _) cl.l
    decreasing_trivial
    refine i_ite (fun h => ?_) fun h => ?_
    · decreasing_trivial
      refine (show ∀ {P : D → Prop} {kvs : List (DK × D)}, P (.int kvs.length) → gLen ([D.dct kvs].map (dr C1)) P from fun q => q) ?_
      decreasing_trivial
      refine i_ite (fun h' => ?_) fun h' => ?_
      · decreasing_trivial
        refine ⟨st, .lst (txs F), txs F, rfl, hc, .inl rfl, fun z => by (have : F = [] := List.map_eq_nil_iff.mp z); rw [this] at h; simp at h, by rw [List.length_map]; omega, fun d hd => ?_⟩
        obtain ⟨o, ho, rfl⟩ := List.mem_map.mp hd
        obtain ⟨o1, o2⟩ := inF o ho
        decreasing_trivial
        refine a_putOD (k := .inr c.nm) rfl rfl (by unfold tD; rw [List.length_map]; omega) ?_
        have new : c.nm ∉ kv.map (·.1) := fun z => by
          obtain ⟨e, he, ee⟩ := List.mem_map.mp z
          obtain ⟨c', h1, h2, _⟩ := hkv e he
          obtain ⟨j, hj⟩ := List.getElem?_of_mem h1
          have hjl : j < i := by
            have := (List.getElem?_eq_some_iff.mp hj).1
            rw [List.length_take] at this; omega
          rw [List.getElem?_take, if_pos hjl] at hj
          have := (List.getElem?_inj (i := j) (j := i) (by rw [List.length_map]; omega) ndT).mp (by rw [List.getElem?_map, List.getElem?_map, hj, hci]; show some c'.nm = some c.nm; rw [h2, ee])
          omega
        refine hx _ _ ⟨rfl, kv ++ [(c.nm, o)], .shr (.str c.nm), .shr (.tupT c.held), .shr (.tupT c.opts), .shr (Cont.lst (List.map D.str F)).d, ?_, ?_, by simp; omega, fun e he => ?_, ?_⟩
        · rw [List.map_append]; exact nodup_snoc n1 new
        · rw [List.map_append]; exact nodup_snoc n2 o2
        · rcases List.mem_append.mp he with he | he
          · exact up e he
          · rw [List.mem_singleton.mp he]
            refine ⟨c, ?_, rfl, o1⟩
            rw [List.take_add_one, hci]
            exact List.mem_append.mpr (.inr (List.mem_singleton.mpr rfl))
        · rw [putD_new (by
            intro z
            obtain ⟨e, he, ee⟩ := List.mem_map.mp z
            obtain ⟨e', he', rfl⟩ := List.mem_map.mp (show e ∈ tD D.str kv from he)
            injection ee with ee
            exact new (ee ▸ List.mem_map_of_mem he'))]
          have : tD D.str kv ++ [(Sum.inr c.nm, D.str o)] = tD D.str (kv ++ [(c.nm, o)]) := by unfold tD; rw [List.map_append]; rfl
          rw [this]
          rfl
      · exact hx _ _ ⟨rfl, kv, _, _, _, _, n1, n2, by omega, up, rfl⟩
    · exact hx _ _ ⟨rfl, kv, _, _, _, _, n1, n2, by omega, up, rfl⟩
  · rintro env C1 ⟨rfl, kv, x4, x5, x6, x7, n1, n2, kl, hkv, rfl⟩
    decreasing_trivial
    refine q kv n1 n2 fun e he => ?_
    obtain ⟨c, h1, h2⟩ := hkv e he
    exact ⟨c, pT.mem_iff.mp (List.mem_of_mem_take h1), h2⟩⟩
/-! _law_owner -/
theorem lk_swap : ∀ {cd : List (Txt × Txt)} {o : Txt}, L2.AS.lk o (cd.map fun e => (e.2, e.1)) = ((cd.filter fun e => decide (e.2 = o)).map (·.1)).head?
  | [], o => rfl
  | (n, c) :: cd, o => by
    have ih := lk_swap (cd := cd) (o := o)
    by_cases h : c = o
    · subst h
      simp [L2.AS.lk]
    · simp only [List.map_cons, List.filter_cons, decide_eq_true_eq, h, if_false] at ih ⊢
      rw [← ih]
      simp [L2.AS.lk, h]
theorem pure__law_owner : PU m__law_owner 4 2 sp__law_owner := fun ds C PR PX ⟨cd, o, e, hl, nd, q⟩ => ⟨by rw [e]; rfl, by
  subst e
  change m__law_owner _ _ [.shr (.dct (tD D.str cd)), .shr (.str o), .non, .non] C
  unfold m__law_owner
  have hz := sizeLine_eq
  decreasing_trivial
  have lookE : ∀ e ∈ cd, look (.inr e.1) (tD D.str cd) = some (.str e.2) := fun e he => by
    rw [look_tD, L2.AS.lk_of nd (show (e.1, e.2) ∈ cd from he)]; rfl
  rw [show walkD .keys (tD D.str cd) = cd.map fun e => D.str e.1 from by unfold walkD tD; rw [List.map_map]; rfl]
  refine ⟨rfl, compXL_of cd (fun e => .str e.1) (fun e => .str e.1) (fun e => decide (e.2 = o)) (by omega) (fun e he acc nxt h1 h2 h3 => ?_) ?_⟩
  · decreasing_trivial
    refine ⟨rfl, ?_⟩
    decreasing_trivial
    refine g_ixD (e := .str e.1) (k := .inr e.1) rfl rfl (lookE e he) ?_
    decreasing_trivial
    refine ⟨rfl, i_ite (fun h => ?_) fun h => ?_⟩
    · decreasing_trivial
      exact ⟨rfl, h1, h2 h⟩
    · exact h3 h
  rw [lk_swap] at q
  generalize cd.filter (fun e => decide (e.2 = o)) = fl at q ⊢
  cases fl with
  | nil =>
    decreasing_trivial
    exact q
  | cons e fl =>
    decreasing_trivial
    refine g_ixL (x := .str e.1) (atI_nat (k := 0) rfl) ?_
    exact q⟩
/-! _law_reaches -/
def natQ : Option Nat → D
  | none => .non
  | some k => .int k
def uptQ (F : Txt → Option Nat) (l : Nat) (n : Txt) : Option Nat := match F n with
  | some j => if j ≤ l then some j else none
  | none => none
theorem uptQ_some {F : Txt → Option Nat} {l j : Nat} {n : Txt} : uptQ F l n = some j ↔ F n = some j ∧ j ≤ l := by
  unfold uptQ
  cases F n with
  | none => simp
  | some i =>
    show (if i ≤ l then some i else none) = some j ↔ some i = some j ∧ j ≤ l
    by_cases h : i ≤ l
    · rw [if_pos h]
      exact ⟨fun e => by cases e; exact ⟨rfl, h⟩, fun ⟨e, _⟩ => e⟩
    · rw [if_neg h]
      exact ⟨fun e => (by cases e), fun ⟨e, h2⟩ => by cases e; exact absurd h2 h⟩
theorem putQ {L : List Txt} {H : Txt → Option Nat} {x : Txt} {v : Option Nat} (hx : x ∈ L) : putD (L.map fun n => ((Sum.inr n : DK), natQ (H n))) (.inr x) (natQ v) = L.map fun n => ((Sum.inr n : DK), natQ (if n = x then v else H n)) := by
  unfold putD
  rw [if_pos (List.any_eq_true.mpr ⟨(.inr x, natQ (H x)), List.mem_map.mpr ⟨x, hx, rfl⟩, by simp⟩), List.map_map]
  refine List.map_congr_left fun n _ => ?_
  show (if (Sum.inr n : DK) = Sum.inr x then ((Sum.inr n : DK), natQ v) else (Sum.inr n, natQ (H n))) = _
  by_cases e : n = x
  · rw [if_pos (by rw [e]), if_pos e]
  · rw [if_neg (fun z => e (by injection z)), if_neg e]
theorem putD_twice {kvs : List (DK × D)} {k : DK} {x y : D} : putD (putD kvs k x) k y = putD kvs k y := by
  unfold putD
  by_cases h : (kvs.any fun e => decide (e.1 = k)) = true
  · have h2 : ((kvs.map fun e => if e.1 = k then (e.1, x) else e).any fun e => decide (e.1 = k)) = true := by
      obtain ⟨e, he, ee⟩ := List.any_eq_true.mp h
      refine List.any_eq_true.mpr ⟨(e.1, x), List.mem_map.mpr ⟨e, he, by rw [if_pos (of_decide_eq_true ee)]⟩, ee⟩
    simp only [h, if_true, h2, List.map_map]
    refine List.map_congr_left fun e _ => ?_
    by_cases q : e.1 = k
    · simp [q]
    · simp [q]
  · have h2 : ((kvs ++ [(k, x)]).any fun e => decide (e.1 = k)) = true := by simp
    have h3 : kvs.map (fun e => if e.1 = k then (e.1, y) else e) = kvs := by
      refine (List.map_congr_left fun e he => ?_).trans (List.map_id kvs)
      have : ¬ e.1 = k := fun z => h (List.any_eq_true.mpr ⟨e, he, decide_eq_true z⟩)
      rw [if_neg this]; rfl
    simp only [h, if_false, h2, if_true, List.map_append, h3, Bool.false_eq_true]
    simp
theorem drQ {C : Cs} (x : Option Nat) : dr C (natQ x) = natQ x := by cases x <;> rfl
theorem g_isQ {C : Cs} {x : Option Nat} {P : D → Prop} (q : P (.bl x.isNone)) : gIs false (dr C (natQ x)) (dr C .non) P := g_is (drQ x) (by cases x <;> exact q)
theorem g_isntQ {C : Cs} {x : Option Nat} {P : D → Prop} (q : P (.bl x.isSome)) : gIs true (dr C (natQ x)) (dr C .non) P := g_is (drQ x) (by cases x <;> exact q)
theorem pure__law_reaches : PU m__law_reaches 11 2 sp__law_reaches := fun ds C PR PX ⟨S, cd, op, e, hl, nd, ho, hol, hcl, ndk, ndc, hcd, q⟩ => ⟨by rw [e]; rfl, by
  subst e
  change m__law_reaches _ _ [.shr (sitD S), .shr (.dct (tD D.str cd)), .non, .non, .non, .non, .non, .non, .non, .non, .non] C
  unfold m__law_reaches
  have hz := sizeLine_eq
  obtain ⟨own, hown0⟩ : ∃ own : Txt → Option Txt, own = fun o => L2.AS.lk o (cd.map fun e => (e.2, e.1)) := ⟨_, rfl⟩
  have hO : ∀ o, L2.AS.lk o (cd.map fun e => (e.2, e.1)) = own o := fun o => by rw [hown0]
  rw [← hown0] at q
  have hown : ∀ o m, own o = some m → m ∈ S.map (·.nm) := fun o m h => by
    rw [hown0] at h
    obtain ⟨e, he, ee⟩ := List.mem_map.mp (L2.AS.lk_mem h)
    have : m = e.1 := by injection ee with e1 e2; exact e2.symm
    rw [this]; exact hcd e he
  have hnl : (S.map (·.nm)).length ≤ 60 := by rw [List.length_map]; exact hl
  obtain ⟨F, hF⟩ : ∃ F : Txt → Option Nat, ∀ n k, F n = some k ↔ IsD op own n k := by
    refine ⟨fun n => by classical exact if h : ∃ k, IsD op own n k then some h.choose else none, fun n k => ?_⟩
    by_cases h : ∃ k, IsD op own n k
    · simp only [dif_pos h, Option.some.injEq]
      exact ⟨fun e => e ▸ h.choose_spec, fun hk => h.choose_spec.uniq hk⟩
    · simp only [dif_neg h]
      exact ⟨fun e => (by cases e), fun hk => absurd ⟨k, hk⟩ h⟩
  have q := q F fun n _ k => hF n k
  have lkF : ∀ (H : Txt → Option Nat) n, n ∈ S.map (·.nm) → look (.inr n) ((S.map (·.nm)).map fun n => ((Sum.inr n : DK), natQ (H n))) = some (natQ (H n)) := fun H n hn => look_of' (by rw [List.map_map]; exact L2.AS.nd_map nd fun a b _ _ z => by injection z) (List.mem_map.mpr ⟨n, hn, rfl⟩)
  have one : ∀ n, (∃ o ∈ op n, own o = none) ↔ F n = some 1 := fun n => by
    rw [hF]
    constructor
    · rintro ⟨o, h1, h2⟩
      exact ⟨.one h1 h2, fun j hj => hj.pos⟩
    · rintro ⟨h1, _⟩
      cases h1 with
      | one a b => exact ⟨_, a, b⟩
      | step a b c => have := c.pos; omega
  have Fle : ∀ n ∈ S.map (·.nm), ∀ k, F n = some k → k ≤ (S.map (·.nm)).length := fun n hn k h => by
    obtain ⟨L, l1, l2, l3⟩ := reach_le (N := S.map (·.nm)) (fun n _ k => hF n k) hown hn h
    rw [← l1]
    exact L2.AS.nd_le l2 fun y hy => (l3 y hy).1
  decreasing_trivial
  refine forL_inv (fun k env C' => C' = C ∧ ∃ s3 s4 s5, env = [.shr (sitD S), .shr (.dct (tD D.str cd)), .own (.dct (((S.take k).map (·.nm)).map fun n => ((Sum.inr n : DK), natQ (uptQ F 1 n)))), s3, s4, s5, .non, .non, .non, .non, .non]) ⟨rfl, _, _, _, rfl⟩ ?_ ?_
  · rintro k d env C' nx' hd ⟨rfl, s3, s4, s5, rfl⟩ hx
    rw [List.getElem?_map] at hd
    obtain ⟨c, hc, rfl⟩ := Option.map_eq_some_iff.mp hd
    have hcS := List.mem_of_getElem? hc
    have hkl := (List.getElem?_eq_some_iff.mp hc).1
    have et : S.take (k + 1) = S.take k ++ [c] := by rw [List.take_add_one, hc]; rfl
    have hol' := hol c hcS
    have cN : c.nm ∈ S.map (·.nm) := List.mem_map_of_mem hcS
    have len : (((S.take k).map (·.nm)).map fun n => ((Sum.inr n : DK), natQ (uptQ F 1 n))).length < sizeLine := by rw [List.length_map, List.length_map, List.length_take]; omega
    have fresh : ∀ v : Option Nat, putD (((S.take k).map (·.nm)).map fun n => ((Sum.inr n : DK), natQ (uptQ F 1 n))) (.inr c.nm) (natQ v) = (((S.take k).map (·.nm)).map fun n => ((Sum.inr n : DK), natQ (uptQ F 1 n))) ++ [(.inr c.nm, natQ v)] := fun v => by
      refine putD_new ?_
      intro z
      rw [List.map_map] at z
      obtain ⟨n, hn, en⟩ := List.mem_map.mp z
      have en : n = c.nm := by have : (Sum.inr n : DK) = Sum.inr c.nm := en; injection this
      subst en
      obtain ⟨c', hc', ec⟩ := List.mem_map.mp hn
      obtain ⟨j, hj, ej⟩ := List.getElem_of_mem hc'
      rw [List.length_take] at hj
      rw [List.getElem_take] at ej
      have := (List.getElem?_inj (i := j) (j := k) (by rw [List.length_map]; omega) nd).mp (by rw [List.getElem?_map, List.getElem?_map, hc, List.getElem?_eq_getElem (by omega), ej]; exact congrArg some ec)
      omega
    refine j_tupD rfl ?_
    decreasing_trivial
    refine a_putOD (k := .inr c.nm) rfl rfl len ?_
    rw [show D.non = natQ none from rfl, fresh none]
    decreasing_trivial
    refine ⟨rfl, compL_flt c.opts D.str D.str (fun o => (own o).isNone) (by omega) (fun o hoo acc nxt h1 h2 h3 => ?_) ?_⟩
    · decreasing_trivial
      refine ⟨rfl, ?_⟩
      decreasing_trivial
      refine ⟨cd, o, rfl, hcl, ndk, ?_⟩
      rw [hO]
      decreasing_trivial
      refine g_isO ?_
      refine ⟨_, rfl, rfl, i_ite (fun h => ?_) fun h => ?_⟩
      · decreasing_trivial
        exact ⟨rfl, h1, h2 h⟩
      · exact h3 h
    have fin1 : ∀ v : Option Nat, uptQ F 1 c.nm = v → nx' [.shr (sitD S), .shr (.dct (tD D.str cd)), .own (.dct ((((S.take k).map (·.nm)).map fun n => ((Sum.inr n : DK), natQ (uptQ F 1 n))) ++ [(.inr c.nm, natQ v)])), .shr (.str c.nm), .shr (.tupT c.held), .shr (.tupT c.opts), .non, .non, .non, .non, .non] C' := fun v hv => by
      refine hx _ _ ⟨rfl, .shr (.str c.nm), .shr (.tupT c.held), .shr (.tupT c.opts), ?_⟩
      rw [et, List.map_append, List.map_append, ← hv]; rfl
    generalize hfl : c.opts.filter (fun o => (own o).isNone) = fl
    cases fl with
    | nil =>
      decreasing_trivial
      refine fin1 none ?_
      cases hu : uptQ F 1 c.nm with
      | none => rfl
      | some j =>
        obtain ⟨h1, h2⟩ := uptQ_some.mp hu
        have := ((hF c.nm j).mp h1).1.pos
        have ej : j = 1 := by omega
        subst ej
        obtain ⟨o, ho1, ho2⟩ := (one c.nm).mpr h1
        rw [← ho c hcS] at ho1
        have : o ∈ c.opts.filter (fun o => (own o).isNone) := List.mem_filter.mpr ⟨ho1, by rw [ho2]; rfl⟩
        rw [hfl] at this
        cases this
    | cons o fl =>
      have : o ∈ c.opts.filter (fun o => (own o).isNone) := by rw [hfl]; exact List.mem_cons_self
      obtain ⟨ho1, ho2⟩ := List.mem_filter.mp this
      rw [ho c hcS] at ho1
      have h1 : F c.nm = some 1 := (one c.nm).mp ⟨o, ho1, by simpa using ho2⟩
      decreasing_trivial
      try refine j_putO rfl ?_
      decreasing_trivial
      refine a_putOD (k := .inr c.nm) rfl rfl (by rw [List.length_append]; rw [List.length_map, List.length_map, List.length_take]; show _ + 1 < _; omega) ?_
      have e2 : putD ((((S.take k).map (·.nm)).map fun n => ((Sum.inr n : DK), natQ (uptQ F 1 n))) ++ [(.inr c.nm, natQ none)]) (.inr c.nm) (.int 1) = (((S.take k).map (·.nm)).map fun n => ((Sum.inr n : DK), natQ (uptQ F 1 n))) ++ [(.inr c.nm, natQ (some 1))] := by
        rw [← fresh none, ← fresh (some 1)]
        exact putD_twice
      rw [e2]
      exact fin1 (some 1) (uptQ_some.mpr ⟨h1, Nat.le_refl _⟩)
  · rintro env C2 ⟨e2, s3, s4, s5, rfl⟩
    subst e2
    rw [List.length_map, List.take_length]
    decreasing_trivial
    have eS : ((S.map clD).length : Int) = (S.length : Nat) := by rw [List.length_map]
    rw [eS]
    refine r_rng1 (by omega) ?_
    refine forL_inv (fun t env C' => C' = C2 ∧ ∃ s3 s4 s5 s7 s8 s9 s10, Ns s8 ∧ Ns s9 ∧ Ns s10 ∧ env = [.shr (sitD S), .shr (.dct (tD D.str cd)), .own (.dct ((S.map (·.nm)).map fun n => ((Sum.inr n : DK), natQ (uptQ F (t + 1) n)))), s3, s4, s5, .non, s7, s8, s9, s10]) ⟨rfl, _, _, _, _, _, _, _, ns_non, ns_non, ns_non, rfl⟩ ?_ ?_
    · rintro t d env C3 nx' hd ⟨e3, s3, s4, s5, s7, s8, s9, s10, n8, n9, n10, rfl⟩ hx
      subst e3
      obtain ⟨rfl, ht⟩ := range_get hd
      have ht : t < S.length := by simpa using ht
      decreasing_trivial
      refine forL_inv (fun k env C' => C' = C3 ∧ ∃ s3 s4 s5 s9 s10, Ns s9 ∧ Ns s10 ∧ env = [.shr (sitD S), .shr (.dct (tD D.str cd)), .own (.dct ((S.map (·.nm)).map fun n => ((Sum.inr n : DK), natQ (if n ∈ (S.take k).map (·.nm) then uptQ F (t + 2) n else uptQ F (t + 1) n)))), s3, s4, s5, .non, .shr (.int t), .shr (.dct ((S.map (·.nm)).map fun n => ((Sum.inr n : DK), natQ (uptQ F (t + 1) n)))), s9, s10]) ⟨rfl, s3, s4, s5, s9, s10, n9, n10, by simp⟩ ?_ ?_
      · rintro k d env C4 nx2 hd ⟨e4, s3, s4, s5, s9, s10, n9, n10, rfl⟩ hx2
        subst e4
        rw [List.getElem?_map] at hd
        obtain ⟨c, hc, rfl⟩ := Option.map_eq_some_iff.mp hd
        have hcS := List.mem_of_getElem? hc
        have hkl := (List.getElem?_eq_some_iff.mp hc).1
        have et : S.take (k + 1) = S.take k ++ [c] := by rw [List.take_add_one, hc]; rfl
        have hol' := hol c hcS
        have cN : c.nm ∈ S.map (·.nm) := List.mem_map_of_mem hcS
        refine j_tupD rfl ?_
        decreasing_trivial
        refine ⟨by rcases n9 with rfl | ⟨d, rfl⟩ <;> rcases n10 with rfl | ⟨d, rfl⟩ <;> rfl, compL_flt c.opts D.str (fun o => natQ (uptQ F (t + 1) ((own o).getD []))) (fun o => (own o).isSome) (by omega) (fun o hoo acc nxt h1 h2 h3 => ?_) ?_⟩
        · decreasing_trivial
          refine ⟨by rcases n9 with rfl | ⟨d, rfl⟩ <;> rcases n10 with rfl | ⟨d, rfl⟩ <;> rfl, ?_⟩
          decreasing_trivial
          refine ⟨cd, o, rfl, hcl, ndk, ?_⟩
          rw [hO]
          decreasing_trivial
          refine g_isntO ?_
          refine ⟨_, rfl, rfl, i_ite (fun h => ?_) fun h => ?_⟩
          · obtain ⟨m, hm⟩ := Option.isSome_iff_exists.mp h
            decreasing_trivial
            refine ⟨cd, o, rfl, hcl, ndk, ?_⟩
            rw [hO, hm]
            decreasing_trivial
            refine g_ixD (e := .str m) (k := .inr m) rfl rfl (lkF _ m (hown o m hm)) ?_
            rw [hm] at h2 h
            exact ⟨rfl, h1, h2 h⟩
          · exact h3 h
        generalize hvs : (c.opts.filter fun o => (own o).isSome).map (fun o => uptQ F (t + 1) ((own o).getD [])) = vs
        rw [show (c.opts.filter fun o => (own o).isSome).map (fun o => natQ (uptQ F (t + 1) ((own o).getD []))) = vs.map natQ from by rw [← hvs, List.map_map]; rfl]
        have hvl : vs.length ≤ 1000 := by rw [← hvs, List.length_map]; exact Nat.le_trans (List.length_filter_le _ _) hol'
        decreasing_trivial
        refine ⟨by rcases n10 with rfl | ⟨d, rfl⟩ <;> rfl, compL_flt vs natQ natQ (fun o => o.isSome) (by omega) (fun o hoo acc nxt h1 h2 h3 => ?_) ?_⟩
        · decreasing_trivial
          refine ⟨by rcases n10 with rfl | ⟨d, rfl⟩ <;> rfl, ?_⟩
          decreasing_trivial
          refine g_isntQ ?_
          refine ⟨_, rfl, rfl, i_ite (fun h => ?_) fun h => ?_⟩
          · decreasing_trivial
            exact ⟨rfl, h1, h2 h⟩
          · exact h3 h
        obtain ⟨J, hJ, hJm⟩ : ∃ J : List Nat, (vs.filter (fun o => o.isSome)).map natQ = (J.map fun j : Nat => (j : Int)).map D.int ∧ ∀ j, j ∈ J ↔ ∃ o ∈ op c.nm, ∃ m, own o = some m ∧ F m = some j ∧ j ≤ t + 1 := by
          refine ⟨vs.filterMap id, ?_, fun j => ?_⟩
          · clear hvs hvl
            induction vs with
            | nil => rfl
            | cons v vs ih =>
              cases v with
              | none => simpa using ih
              | some j => simp [natQ] at ih ⊢; exact ih
          · rw [← hvs]
            simp only [List.mem_filterMap, List.mem_map, List.mem_filter, id]
            constructor
            · rintro ⟨_, ⟨o, ⟨h1, h2⟩, rfl⟩, h3⟩
              obtain ⟨m, hm⟩ := Option.isSome_iff_exists.mp h2
              rw [hm] at h3
              obtain ⟨h4, h5⟩ := uptQ_some.mp h3
              exact ⟨o, by rw [← ho c hcS]; exact h1, m, hm, h4, h5⟩
            · rintro ⟨o, h1, m, hm, h4, h5⟩
              exact ⟨_, ⟨o, ⟨by rw [ho c hcS]; exact h1, by rw [hm]; rfl⟩, rfl⟩, by rw [hm]; exact uptQ_some.mpr ⟨h4, h5⟩⟩
        rw [hJ]
        have ndn : c.nm ∉ (S.take k).map (·.nm) := fun z => by
          obtain ⟨c', hc', ec⟩ := List.mem_map.mp z
          obtain ⟨j, hj, ej⟩ := List.getElem_of_mem hc'
          rw [List.length_take] at hj
          rw [List.getElem_take] at ej
          have := (List.getElem?_inj (i := j) (j := k) (by rw [List.length_map]; omega) nd).mp (by rw [List.getElem?_map, List.getElem?_map, hc, List.getElem?_eq_getElem (by omega), ej]; exact congrArg some ec)
          omega
        have key : uptQ F (t + 1) c.nm = none → (∀ j ∈ J, j = t + 1) ∧ (J ≠ [] ↔ F c.nm = some (t + 2)) := fun hu => by
          have low : ∀ j ∈ J, j = t + 1 ∧ F c.nm = some (t + 2) := fun j hj => by
            obtain ⟨o, h1, m, hm, h4, h5⟩ := (hJm j).mp hj
            obtain ⟨i, hi, hd⟩ := (Rch.step h1 hm ((hF m j).mp h4).1).isD
            have hFi := (hF _ _).mpr hd
            have : ¬ i ≤ t + 1 := fun z => by rw [uptQ_some.mpr ⟨hFi, z⟩] at hu; cases hu
            have e1 : i = t + 2 := by omega
            have e2 : j = t + 1 := by omega
            exact ⟨e2, by rw [← e1]; exact hFi⟩
          refine ⟨fun j hj => (low j hj).1, fun h => ?_, fun h => ?_⟩
          · cases hJ' : J with
            | nil => exact absurd hJ' h
            | cons j J' => exact (low j (by rw [hJ']; exact List.mem_cons_self)).2
          · obtain ⟨o, m, h1, h2, h3⟩ := ((hF _ _).mp h).down (by omega)
            have : t + 1 ∈ J := (hJm _).mpr ⟨o, h1, m, h2, (hF _ _).mpr h3, Nat.le_refl _⟩
            intro z
            rw [z] at this; cases this
        have stay : uptQ F (t + 2) c.nm = uptQ F (t + 1) c.nm → (S.map (·.nm)).map (fun n => ((Sum.inr n : DK), natQ (if n ∈ (S.take k).map (·.nm) then uptQ F (t + 2) n else uptQ F (t + 1) n))) = (S.map (·.nm)).map (fun n => ((Sum.inr n : DK), natQ (if n ∈ (S.take (k + 1)).map (·.nm) then uptQ F (t + 2) n else uptQ F (t + 1) n))) := fun hu => by
          refine List.map_congr_left fun n _ => ?_
          rw [et, List.map_append]
          by_cases e : n = c.nm
          · subst e
            rw [if_neg ndn, if_pos (by simp), hu]
          · simp [e]
        have upt2 : uptQ F (t + 1) c.nm = none → uptQ F (t + 2) c.nm = if F c.nm = some (t + 2) then some (t + 2) else none := fun hu => by
          by_cases h : F c.nm = some (t + 2)
          · rw [if_pos h]; exact uptQ_some.mpr ⟨h, Nat.le_refl _⟩
          · rw [if_neg h]
            cases hq : uptQ F (t + 2) c.nm with
            | none => rfl
            | some j =>
              obtain ⟨h1, h2⟩ := uptQ_some.mp hq
              have : ¬ j ≤ t + 1 := fun z => by rw [uptQ_some.mpr ⟨h1, z⟩] at hu; cases hu
              have : j = t + 2 := by omega
              subst this
              exact absurd h1 h
        decreasing_trivial
        refine g_ixD (e := .str c.nm) (k := .inr c.nm) rfl rfl (lkF _ c.nm cN) ?_
        rw [if_neg ndn]
        decreasing_trivial
        refine g_isQ ?_
        cases hu : uptQ F (t + 1) c.nm with
        | some j =>
          refine ⟨_, rfl, i_ite (fun h => absurd h (by simp)) fun _ => ?_⟩
          decreasing_trivial
          refine hx2 _ _ ⟨rfl, .shr (.str c.nm), .shr (.tupT c.held), .shr (.tupT c.opts), (.shr (.lst ((J.map fun j : Nat => (j : Int)).map D.int))), _, ns_shr, n10, ?_⟩
          rw [← stay (by
            obtain ⟨h1, h2⟩ := uptQ_some.mp hu
            rw [hu]; exact uptQ_some.mpr ⟨h1, by omega⟩)]
        | none =>
          obtain ⟨k1, k2⟩ := key hu
          refine ⟨_, rfl, i_ite (fun _ => ?_) fun h => absurd h (by simp)⟩
          decreasing_trivial
          cases hJ' : J with
          | nil =>
            decreasing_trivial
            refine hx2 _ _ ⟨rfl, .shr (.str c.nm), .shr (.tupT c.held), .shr (.tupT c.opts), (.shr (.lst [])), _, ns_shr, n10, ?_⟩
            rw [← stay (by
              rw [hu, upt2 hu, if_neg]
              exact fun z => (k2.mpr z) hJ')]
            rfl
          | cons j0 J' =>
            have F2 : F c.nm = some (t + 2) := k2.mp (by rw [hJ']; simp)
            decreasing_trivial
            refine i_ite (fun _ => ?_) fun h => absurd h (by simp)
            decreasing_trivial
            try refine j_putO rfl ?_
            decreasing_trivial
            refine g_minL (is := List.map (fun j : Nat => (j : Int)) (j0 :: J')) rfl (fun z => by simp at z) fun mi hmi _ => ?_
            obtain ⟨j, hj, rfl⟩ := List.mem_map.mp hmi
            have ej := k1 j (by rw [hJ']; exact hj)
            subst ej
            decreasing_trivial
            refine a_putOD (k := .inr c.nm) rfl rfl (by rw [List.length_map]; omega) ?_
            refine hx2 _ _ ⟨rfl, .shr (.str c.nm), .shr (.tupT c.held), .shr (.tupT c.opts), (.shr (.lst (((j0 :: J').map fun j : Nat => (j : Int)).map D.int))), _, ns_shr, n10, ?_⟩
            have e9 : D.int (1 + ((t + 1 : Nat) : Int)) = natQ (some (t + 2)) := by
              show D.int _ = D.int _
              congr 1
              omega
            rw [e9, putQ cN]
            refine congrArg (fun z => _ :: _ :: Slot.own (.dct z) :: _) ?_
            refine List.map_congr_left fun n _ => ?_
            rw [et, List.map_append]
            by_cases e : n = c.nm
            · subst e
              rw [if_pos rfl, if_pos (by simp), upt2 hu, if_pos F2]
            · rw [if_neg e]
              simp [e]
      · rintro env C4 ⟨e4, s3, s4, s5, s9, s10, n9, n10, rfl⟩
        subst e4
        refine hx _ _ ⟨rfl, s3, s4, s5, .shr (.int t), .shr (.dct ((S.map (·.nm)).map fun n => ((Sum.inr n : DK), natQ (uptQ F (t + 1) n)))), s9, s10, ns_shr, n9, n10, ?_⟩
        rw [List.length_map, List.take_length]
        have : (S.map (·.nm)).map (fun n => ((Sum.inr n : DK), natQ (if n ∈ S.map (·.nm) then uptQ F (t + 2) n else uptQ F (t + 1) n))) = (S.map (·.nm)).map (fun n => ((Sum.inr n : DK), natQ (uptQ F (t + 1 + 1) n))) := List.map_congr_left fun n hn => by rw [if_pos hn]
        rw [this]
    · rintro env C3 ⟨e3, s3, s4, s5, s7, s8, s9, s10, n8, n9, n10, rfl⟩
      subst e3
      refine j_retOO rfl ?_
      have e5 : (S.map (·.nm)).map (fun n => ((Sum.inr n : DK), natQ (uptQ F ((intsFrom 0 (S.length : Int).toNat).length + 1) n))) = (S.map (·.nm)).map (fun n => (Sum.inr n, match F n with | none => .non | some k => .int k)) := List.map_congr_left fun n hn => by
        have el : (intsFrom 0 (S.length : Int).toNat).length = S.length := by rw [Int.toNat_natCast]; exact intsFrom_len _ _
        rw [el]
        cases hq : F n with
        | none =>
          have : uptQ F (S.length + 1) n = none := by unfold uptQ; rw [hq]
          rw [this]; rfl
        | some k =>
          have h1 := Fle n hn k hq
          rw [List.length_map] at h1
          have : uptQ F (S.length + 1) n = some k := uptQ_some.mpr ⟨hq, by omega⟩
          rw [this]; rfl
      rw [e5]
      exact q⟩
/-! owners_of -/
theorem pure_owners_of : PU m_owners_of 3 1 sp_owners_of := fun ds C PR PX ⟨cd, e, hl, nd, q⟩ => ⟨by rw [e]; rfl, by
  subst e
  change m_owners_of _ _ [.shr (.dct (tD D.str cd)), .non, .non] C
  unfold m_owners_of
  have hz := sizeLine_eq
  decreasing_trivial
  rw [show walkD .items (tD D.str cd) = cd.map fun e => D.tup [.str e.1, .str e.2] from by unfold walkD tD; rw [List.map_map]; rfl]
  refine ⟨rfl, compD_of cd (fun e => D.tup [.str e.1, .str e.2]) (fun e => .inr e.2) (fun e => .str e.1) (fun _ => true) (by rw [show (cd.map fun e => (Sum.inr e.2 : DK)) = (cd.map (·.2)).map Sum.inr from by rw [List.map_map]; rfl]; exact L2.AS.nd_map nd fun a b _ _ z => by injection z) (by omega) (fun x hx acc nxt h1 h2 h3 => ?_) ?_⟩
  · refine j_tupD rfl ?_
    decreasing_trivial
    refine ⟨rfl, rfl, ?_⟩
    decreasing_trivial
    exact ⟨rfl, rfl, h1, p_kv (k := .inr x.2) rfl (h2 rfl)⟩
  · rw [List.filter_eq_self.mpr fun _ _ => rfl]
    rw [show tD D.str (cd.map fun e => (e.2, e.1)) = cd.map fun a => ((Sum.inr a.2 : DK), D.str a.1) from by unfold tD; rw [List.map_map]; rfl] at q
    exact q⟩
/-! reaches -/
/-- what is known after some rounds -/
def upto (F : Txt → Option Nat) (l : Nat) (n : Txt) : Option Nat := match F n with
  | some j => if j ≤ l then some j else none
  | none => none
theorem upto_some {F : Txt → Option Nat} {l j : Nat} {n : Txt} : upto F l n = some j ↔ F n = some j ∧ j ≤ l := by
  unfold upto
  cases F n with
  | none => simp
  | some i =>
    show (if i ≤ l then some i else none) = some j ↔ some i = some j ∧ j ≤ l
    by_cases h : i ≤ l
    · rw [if_pos h]
      exact ⟨fun e => by cases e; exact ⟨rfl, h⟩, fun ⟨e, _⟩ => e⟩
    · rw [if_neg h]
      exact ⟨fun e => (by cases e), fun ⟨e, h2⟩ => by cases e; exact absurd h2 h⟩
theorem blsB {α : Type} (f : α → Bool) : ∀ l : List α, blsOf (l.map fun x => D.bl (f x)) = some (l.map f)
  | [] => rfl
  | x :: l => by simp [blsOf, blsB f l]
theorem put_map {L : List Txt} {H : Txt → Option Nat} {x : Txt} {v : Option Nat} (hx : x ∈ L) : putD (L.map fun n => ((Sum.inr n : DK), natO (H n))) (.inr x) (natO v) = L.map fun n => ((Sum.inr n : DK), natO (if n = x then v else H n)) := by
  unfold putD
  rw [if_pos (List.any_eq_true.mpr ⟨(.inr x, natO (H x)), List.mem_map.mpr ⟨x, hx, rfl⟩, by simp⟩), List.map_map]
  refine List.map_congr_left fun n _ => ?_
  show (if (Sum.inr n : DK) = Sum.inr x then ((Sum.inr n : DK), natO v) else (Sum.inr n, natO (H n))) = _
  by_cases e : n = x
  · rw [if_pos (by rw [e]), if_pos e]
  · rw [if_neg (fun z => e (by injection z)), if_neg e]
theorem dr_nat {C : Cs} (x : Option Nat) : dr C (natO x) = natO x := by cases x <;> rfl
theorem eqv_nat (x : Option Nat) (l : Nat) : scD (natO x) (.int l) = true ∧ eqv (natO x) (.int l) = decide (x = some l) := by
  cases x with
  | none => exact ⟨rfl, rfl⟩
  | some k =>
    refine ⟨rfl, ?_⟩
    have h : gEq false (dr (fun _ => none) (.int (k : Int))) (dr (fun _ => none) (.int (l : Int))) (fun d => d = .bl (decide ((k : Int) = (l : Int)))) := g_eqI rfl
    obtain ⟨_, h⟩ := h
    injection h with h
    show eqv (.int k) (.int l) = _
    rw [show eqv (.int (k : Int)) (.int (l : Int)) = decide ((k : Int) = (l : Int)) from h]
    exact decide_eq_decide.mpr ⟨fun z => by rw [Int.ofNat.inj z], fun z => by rw [Option.some.inj z]⟩
theorem g_eqNat {C : Cs} {x : Option Nat} {l : Nat} {P : D → Prop} (q : P (.bl (decide (x = some l)))) : gEq false (dr C (natO x)) (dr C (.int l)) P := by
  rw [dr_nat]
  obtain ⟨h1, h2⟩ := eqv_nat x l
  refine ⟨.inl h1, ?_⟩
  show P (.bl (eqv (natO x) (.int l)))
  rw [h2]; exact q
theorem flD_nat (x : Option Nat) : flD (natO x) = true := by cases x <;> rfl
theorem inD_natO {l : Nat} : ∀ {L : List Txt} {H : Txt → Option Nat}, inD (.int l) (L.map fun n => natO (H n)) = decide (∃ n ∈ L, H n = some l)
  | [], H => by simp [inD]
  | x :: L, H => by
    have ih := inD_natO (l := l) (L := L) (H := H)
    unfold inD at ih ⊢
    rw [List.map_cons, List.any_cons, ih, (eqv_nat (H x) l).2]
    by_cases h1 : H x = some l <;> by_cases h2 : ∃ n ∈ L, H n = some l <;> simp [h1, h2]
theorem pure_reaches : PU m_reaches 9 2 sp_reaches := fun ds C PR PX ⟨S, cd, op, e, hl, nd, ho, hol, hcl, ndc, hcd, q⟩ => ⟨by rw [e]; rfl, by
  subst e
  change m_reaches _ _ [.shr (sitD S), .shr (.dct (tD D.str cd)), .non, .non, .non, .non, .non, .non, .non] C
  unfold m_reaches
  have hz := sizeLine_eq
  decreasing_trivial
  refine ⟨cd, rfl, hcl, ndc, ?_⟩
  decreasing_trivial
  generalize hw : cd.map (fun e => (e.2, e.1)) = cw at q ⊢
  have hlook : ∀ o, look (.inr o) (tD D.str cw) = (L2.AS.lk o cw).map D.str := fun o => look_tD
  have hown : ∀ o m, L2.AS.lk o cw = some m → m ∈ S.map (·.nm) := fun o m h => by
    have := L2.AS.lk_mem h
    rw [← hw] at this
    obtain ⟨e, he, ee⟩ := List.mem_map.mp this
    have : m = e.1 := by injection ee with e1 e2; exact e2.symm
    rw [this]; exact hcd e he
  generalize hO : (fun o => L2.AS.lk o cw) = own at q
  have hO' : ∀ o, L2.AS.lk o cw = own o := fun o => by rw [← hO]
  have hnl : (S.map (·.nm)).length ≤ 1000 := by rw [List.length_map]; exact hl
  -- the reaches
  obtain ⟨F, hF⟩ : ∃ F : Txt → Option Nat, ∀ n k, F n = some k ↔ IsD op own n k := by
    refine ⟨fun n => by classical exact if h : ∃ k, IsD op own n k then some h.choose else none, fun n k => ?_⟩
    by_cases h : ∃ k, IsD op own n k
    · simp only [dif_pos h, Option.some.injEq]
      exact ⟨fun e => e ▸ h.choose_spec, fun hk => h.choose_spec.uniq hk⟩
    · simp only [dif_neg h]
      exact ⟨fun e => (by cases e), fun hk => absurd ⟨k, hk⟩ h⟩
  have q := q F fun n _ k => hF n k
  have lkF : ∀ (H : Txt → Option Nat) n, n ∈ S.map (·.nm) → look (.inr n) ((S.map (·.nm)).map fun n => ((Sum.inr n : DK), natO (H n))) = some (natO (H n)) := fun H n hn => look_of' (by rw [List.map_map]; exact L2.AS.nd_map nd fun a b _ _ z => by injection z) (List.mem_map.mpr ⟨n, hn, rfl⟩)
  have Fpos : ∀ n j, F n = some j → 1 ≤ j := fun n j h => ((hF n j).mp h).1.pos
  -- a free option
  have one : ∀ n, (∃ o ∈ op n, own o = none) ↔ F n = some 1 := fun n => by
    rw [hF]
    constructor
    · rintro ⟨o, h1, h2⟩
      exact ⟨.one h1 h2, fun j hj => hj.pos⟩
    · rintro ⟨h1, _⟩
      cases h1 with
      | one a b => exact ⟨_, a, b⟩
      | step a b c => have := c.pos; omega
  refine forL_inv (fun k env C' => C' = C ∧ ∃ s4 s5 s6, env = [.shr (sitD S), .shr (.dct (tD D.str cd)), .shr (.dct (tD D.str cw)), .own (.dct ((((S.take k).map (·.nm)).map fun n => ((Sum.inr n : DK), natO (upto F 1 n))))), s4, s5, s6, .non, .non]) ⟨rfl, _, _, _, rfl⟩ ?_ ?_
  · rintro k d env C' nx' hd ⟨rfl, s4, s5, s6, rfl⟩ hx
    rw [List.getElem?_map] at hd
    obtain ⟨c, hc, rfl⟩ := Option.map_eq_some_iff.mp hd
    have hcS := List.mem_of_getElem? hc
    have hkl := (List.getElem?_eq_some_iff.mp hc).1
    have et : S.take (k + 1) = S.take k ++ [c] := by rw [List.take_add_one, hc]; rfl
    have hol' := hol c hcS
    refine j_tupD rfl ?_
    decreasing_trivial
    refine ⟨rfl, compL_map c.opts (fun o => .str o) (fun o => .bl (own o).isNone) (by omega) (fun o hoo acc nxt h1 h2 => ?_) ?_⟩
    · decreasing_trivial
      refine ⟨rfl, rfl, ?_⟩
      decreasing_trivial
      refine ⟨.inr o, rfl, ?_⟩
      have : (look (.inr o) (tD D.str cw)).isSome = (own o).isSome := by rw [hlook, hO']; cases own o <;> rfl
      rw [this]
      decreasing_trivial
      refine ⟨rfl, h1, ?_⟩
      have e2 : (!(own o).isSome) = (own o).isNone := by cases own o <;> rfl
      rw [if_pos rfl, e2]
      exact h2
    · decreasing_trivial
      refine g_all (blsB (fun o => (own o).isNone) c.opts) ?_
      have e3 : ((c.opts.map fun o => (own o).isNone).any id) = decide (F c.nm = some 1) := by
        rw [← Bool.coe_iff_coe]
        simp only [List.any_map, List.any_eq_true, Function.comp, id, decide_eq_true_eq]
        rw [← one, ho c hcS]
        exact ⟨fun ⟨o, a, b⟩ => ⟨o, a, by simpa using b⟩, fun ⟨o, a, b⟩ => ⟨o, a, by simpa using b⟩⟩
      rw [e3]
      have put : ∀ v : Option Nat, upto F 1 c.nm = v → nx' [.shr (sitD S), .shr (.dct (tD D.str cd)), .shr (.dct (tD D.str cw)), .own (.dct (putD (((S.take k).map (·.nm)).map fun n => ((Sum.inr n : DK), natO (upto F 1 n))) (.inr c.nm) (natO v))), .shr (.str c.nm), .shr (.tupT c.held), .shr (.tupT c.opts), .non, .non] C' := fun v hv => by
        refine hx _ _ ⟨rfl, .shr (.str c.nm), .shr (.tupT c.held), .shr (.tupT c.opts), ?_⟩
        rw [putD_new]
        · rw [et, List.map_append, List.map_append, ← hv]; rfl
        · intro z
          rw [List.map_map] at z
          obtain ⟨n, hn, en⟩ := List.mem_map.mp z
          have en : n = c.nm := by have : (Sum.inr n : DK) = Sum.inr c.nm := en; injection this
          subst en
          obtain ⟨c', hc', ec⟩ := List.mem_map.mp hn
          obtain ⟨j, hj, ej⟩ := List.getElem_of_mem hc'
          rw [List.length_take] at hj
          rw [List.getElem_take] at ej
          have := (List.getElem?_inj (i := j) (j := k) (by rw [List.length_map]; omega) nd).mp (by rw [List.getElem?_map, List.getElem?_map, hc, List.getElem?_eq_getElem (by omega), ej]; exact congrArg some ec)
          omega
      have len : ((((S.take k).map (·.nm)).map fun n => ((Sum.inr n : DK), natO (upto F 1 n)))).length < sizeLine := by rw [List.length_map, List.length_map, List.length_take]; omega
      by_cases h1 : F c.nm = some 1
      · have eb : decide (F c.nm = some 1) = true := by simp [h1]
        rw [eb]
        decreasing_trivial
        try refine j_putO rfl ?_
        decreasing_trivial
        refine a_putOD (k := .inr c.nm) rfl rfl len ?_
        exact put (some 1) (upto_some.mpr ⟨h1, Nat.le_refl _⟩)
      · have eb : decide (F c.nm = some 1) = false := by simp [h1]
        rw [eb]
        decreasing_trivial
        try refine j_putO rfl ?_
        decreasing_trivial
        refine a_putOD (k := .inr c.nm) rfl rfl len ?_
        refine put none ?_
        cases hf : upto F 1 c.nm with
        | none => rfl
        | some j =>
          obtain ⟨a, b⟩ := upto_some.mp hf
          have := Fpos _ _ a
          have : j = 1 := by omega
          exact absurd (this ▸ a) h1
  · rintro env C' ⟨rfl, s4, s5, s6, rfl⟩
    rw [List.length_map, List.take_length]
    decreasing_trivial
    generalize hN : S.map (·.nm) = N at *
    refine while_inv (fun w env C2 => C2 = C' ∧ ∃ (l : Nat) (s4 s5 s6 s7 : Slot), Ns s7 ∧ 1 ≤ l ∧ l ≤ N.length + 1 ∧ w = N.length + 1 - l ∧ (∀ j, 1 ≤ j → j < l → ∃ n ∈ N, F n = some j) ∧ env = [.shr (sitD S), .shr (.dct (tD D.str cd)), .shr (.dct (tD D.str cw)), .own (.dct (N.map fun n => ((Sum.inr n : DK), natO (upto F l n)))), s4, s5, s6, s7, .shr (.int l)]) ⟨_, rfl, 1, _, _, _, _, ns_non, Nat.le_refl _, by omega, rfl, fun j h1 h2 => by omega, rfl⟩ ?_
    rintro w env C2 ⟨rfl, l, s4, s5, s6, s7, n7, l1, l2, rfl, below, rfl⟩
    refine i_inV ?_
    decreasing_trivial
    refine ⟨rfl, ?_⟩
    decreasing_trivial
    refine ⟨_, rfl, ?_⟩
    have vals : valsL (N.map fun n => ((Sum.inr n : DK), natO (upto F l n))) = N.map fun n => natO (upto F l n) := by unfold valsL; rw [List.map_map]; rfl
    rw [vals]
    refine ⟨by rw [List.all_map]; exact List.all_eq_true.mpr fun n _ => flD_nat _, ?_⟩
    rw [inD_natO, if_neg Bool.false_ne_true]
    have there : (∃ n ∈ N, upto F l n = some l) ↔ ∃ n ∈ N, F n = some l := ⟨fun ⟨n, a, b⟩ => ⟨n, a, (upto_some.mp b).1⟩, fun ⟨n, a, b⟩ => ⟨n, a, upto_some.mpr ⟨b, Nat.le_refl _⟩⟩⟩
    refine i_ite (fun hin => ?_) fun hin => ?_
    · have hl := there.mp (of_decide_eq_true hin)
      have lN : l ≤ N.length := by
        have hch : ∀ j, 1 ≤ j → j ≤ l → ∃ n ∈ N, F n = some j := fun j a b => if h : j = l then h ▸ hl else below j a (by omega)
        have sub : ∀ x ∈ (List.range' 1 l).map some, x ∈ N.map F := fun x hx => by
          obtain ⟨j, hj, rfl⟩ := List.mem_map.mp hx
          obtain ⟨a, b⟩ := List.mem_range'_1.mp hj
          obtain ⟨n, hn, e⟩ := hch j a (by omega)
          exact List.mem_map.mpr ⟨n, hn, e⟩
        have := L2.AS.nd_le (L2.AS.nd_map List.nodup_range' fun a b _ _ z => Option.some.inj z) sub
        rw [List.length_map, List.length_map, List.length_range'] at this
        exact this
      decreasing_trivial
      refine forL_inv (fun k env C' => C' = C2 ∧ ∃ s4 s5 s6 s7, Ns s7 ∧ env = [.shr (sitD S), .shr (.dct (tD D.str cd)), .shr (.dct (tD D.str cw)), .own (.dct (N.map fun n => ((Sum.inr n : DK), natO (if n ∈ N.take k then upto F (l + 1) n else upto F l n)))), s4, s5, s6, s7, .shr (.int l)]) ⟨rfl, s4, s5, s6, s7, n7, by simp⟩ ?_ ?_
      · rintro k d env C' nx' hd ⟨rfl, s4, s5, s6, s7, n7, rfl⟩ hx
        rw [List.getElem?_map] at hd
        obtain ⟨c, hc, rfl⟩ := Option.map_eq_some_iff.mp hd
        have hcS := List.mem_of_getElem? hc
        have hcN : N[k]? = some c.nm := by rw [← hN, List.getElem?_map, hc]; rfl
        have hkl := (List.getElem?_eq_some_iff.mp hcN).1
        have hcm := List.mem_of_getElem? hcN
        have hol' := hol c hcS
        have notyet : c.nm ∉ N.take k := fun z => by
          obtain ⟨j, hj, ej⟩ := List.getElem_of_mem z
          rw [List.length_take] at hj
          rw [List.getElem_take] at ej
          have := (List.getElem?_inj (i := j) (j := k) (by omega) nd).mp (by rw [hcN, List.getElem?_eq_getElem (by omega), ej])
          omega
        have et : N.take (k + 1) = N.take k ++ [c.nm] := by rw [List.take_add_one, hcN]; rfl
        -- as it is known now
        obtain ⟨H, hH⟩ : ∃ H : Txt → Option Nat, H = fun n => if n ∈ N.take k then upto F (l + 1) n else upto F l n := ⟨_, rfl⟩
        have Hl : ∀ m, H m = some l ↔ F m = some l := fun m => by
          rw [hH]
          by_cases z : m ∈ N.take k
          · simp only [if_pos z]; rw [upto_some]; exact ⟨fun h => h.1, fun h => ⟨h, by omega⟩⟩
          · simp only [if_neg z]; rw [upto_some]; exact ⟨fun h => h.1, fun h => ⟨h, by omega⟩⟩
        have Hc : H c.nm = upto F l c.nm := by rw [hH]; simp only [if_neg notyet]
        have next : ∀ v : Option Nat, v = upto F (l + 1) c.nm → (fun n => ((Sum.inr n : DK), natO (if n = c.nm then v else H n))) = fun n => ((Sum.inr n : DK), natO (if n ∈ N.take (k + 1) then upto F (l + 1) n else upto F l n)) := fun v hv => by
          funext n
          rw [et, hH]
          by_cases e1 : n = c.nm
          · subst e1; simp [hv]
          · by_cases e2 : n ∈ N.take k <;> simp [e1, e2]
        rw [show (N.map fun n => ((Sum.inr n : DK), natO (if n ∈ N.take k then upto F (l + 1) n else upto F l n))) = N.map fun n => ((Sum.inr n : DK), natO (H n)) from by rw [hH]]
        have stay : H c.nm = upto F (l + 1) c.nm → ∀ s4 s5 s6 s7, Ns s7 → nx' [.shr (sitD S), .shr (.dct (tD D.str cd)), .shr (.dct (tD D.str cw)), .own (.dct (N.map fun n => ((Sum.inr n : DK), natO (H n)))), s4, s5, s6, s7, .shr (.int l)] C' := fun hs s4 s5 s6 s7 n7 => by
          refine hx _ _ ⟨rfl, s4, s5, s6, s7, n7, ?_⟩
          rw [← next (H c.nm) hs]
          have : (fun n => ((Sum.inr n : DK), natO (if n = c.nm then H c.nm else H n))) = fun n => ((Sum.inr n : DK), natO (H n)) := by
            funext n
            by_cases e1 : n = c.nm
            · rw [if_pos e1, e1]
            · rw [if_neg e1]
          rw [this]
        refine j_tupD rfl ?_
        decreasing_trivial
        refine g_ixD (e := .str c.nm) (k := .inr c.nm) rfl rfl (lkF H c.nm hcm) ?_
        decreasing_trivial
        cases hcur : H c.nm with
        | some j =>
          refine g_is (e := .int j) rfl ?_
          decreasing_trivial
          refine stay ?_ _ _ _ _ n7
          rw [hcur]
          rw [Hc] at hcur
          obtain ⟨a, b⟩ := upto_some.mp hcur
          exact (upto_some.mpr ⟨a, by omega⟩).symm
        | none =>
          refine g_is (e := .non) rfl ?_
          decreasing_trivial
          have hnone : ∀ j, F c.nm = some j → l < j := fun j hj => Nat.lt_of_not_le fun z => by
            rw [Hc, upto_some.mpr ⟨hj, z⟩] at hcur; cases hcur
          have owned : ∀ o ∈ c.opts, ∃ m ∈ N, own o = some m := fun o hoo => by
            cases ho' : own o with
            | none =>
              have := hnone 1 ((one c.nm).mp ⟨o, by rw [← ho c hcS]; exact hoo, ho'⟩)
              omega
            | some m => exact ⟨m, hown o m ((hO' o).trans ho'), rfl⟩
          have nxt : decide (∃ o ∈ c.opts, ∃ m, own o = some m ∧ F m = some l) = decide (F c.nm = some (l + 1)) := by
            refine decide_eq_decide.mpr ⟨?_, fun hf => ?_⟩
            · rintro ⟨o, h1, m, h2, h3⟩
              obtain ⟨j, hj, hd⟩ := (Rch.step (ho c hcS ▸ h1) h2 ((hF m l).mp h3).1).isD
              have := hnone j ((hF _ _).mpr hd)
              have : j = l + 1 := by omega
              exact (hF _ _).mpr (this ▸ hd)
            · obtain ⟨o, m, h1, h2, h3⟩ := ((hF _ _).mp hf).down l1
              exact ⟨o, by rw [ho c hcS]; exact h1, m, h2, (hF _ _).mpr h3⟩
          refine ⟨by rcases n7 with rfl | ⟨d, rfl⟩ <;> rfl, compL_map c.opts (fun o => .str o) (fun o => .bl (decide (∃ m, own o = some m ∧ F m = some l))) (by omega) (fun o hoo acc nxt h1 h2 => ?_) ?_⟩
          · obtain ⟨m, hm, hom⟩ := owned o hoo
            decreasing_trivial
            refine ⟨by rcases n7 with rfl | ⟨d, rfl⟩ <;> rfl, rfl, ?_⟩
            decreasing_trivial
            refine g_ixD (e := .str o) (k := .inr o) rfl rfl (show look (.inr o) (tD D.str cw) = some (.str m) by rw [hlook, hO', hom]; rfl) ?_
            decreasing_trivial
            refine g_ixD (e := .str m) (k := .inr m) rfl rfl (lkF H m hm) ?_
            decreasing_trivial
            refine g_eqNat ?_
            have : decide (H m = some l) = decide (∃ m, own o = some m ∧ F m = some l) := decide_eq_decide.mpr ⟨fun z => ⟨m, hom, (Hl m).mp z⟩, fun ⟨m', a, b⟩ => by rw [hom] at a; cases a; exact (Hl m).mpr b⟩
            rw [this]
            exact ⟨rfl, h1, h2⟩
          · decreasing_trivial
            refine g_all (blsB _ c.opts) ?_
            have e3 : ((c.opts.map fun o => decide (∃ m, own o = some m ∧ F m = some l)).any id) = decide (F c.nm = some (l + 1)) := by
              rw [← nxt, ← Bool.coe_iff_coe]
              simp only [List.any_map, List.any_eq_true, Function.comp, id, decide_eq_true_eq]
            rw [e3]
            decreasing_trivial
            refine i_ite (fun hyes => ?_) fun hno => ?_
            · have hyes := of_decide_eq_true hyes
              decreasing_trivial
              try refine j_putO rfl ?_
              decreasing_trivial
              refine a_putOD (k := .inr c.nm) rfl rfl (by rw [List.length_map]; omega) ?_
              refine hx _ _ ⟨rfl, .shr (.str c.nm), .shr (.tupT c.held), .shr (.tupT c.opts), s7, n7, ?_⟩
              rw [show ((l : Int) + 1) = ((l + 1 : Nat) : Int) from rfl, show D.int ((l + 1 : Nat) : Int) = natO (some (l + 1)) from rfl, put_map hcm, next (some (l + 1)) (upto_some.mpr ⟨hyes, Nat.le_refl _⟩).symm]
              rfl
            · have hno := of_decide_eq_false hno
              decreasing_trivial
              refine stay ?_ _ _ _ _ n7
              rw [hcur]
              cases hf : upto F (l + 1) c.nm with
              | none => rfl
              | some j =>
                obtain ⟨a, b⟩ := upto_some.mp hf
                have := hnone j a
                have : j = l + 1 := by omega
                exact absurd (this ▸ a) hno
      · rintro env C' ⟨rfl, s4, s5, s6, s7, n7, rfl⟩
        decreasing_trivial
        refine ⟨N.length + 1 - (l + 1), by omega, rfl, l + 1, s4, s5, s6, s7, n7, by omega, by omega, rfl, fun j a b => if h : j = l then h ▸ hl else below j a (by omega), ?_⟩
        have e5 : S.length = N.length := by rw [← hN, List.length_map]
        rw [List.length_map, e5, List.take_length]
        have : (N.map fun n => ((Sum.inr n : DK), natO (if n ∈ N then upto F (l + 1) n else upto F l n))) = N.map fun n => ((Sum.inr n : DK), natO (upto F (l + 1) n)) := List.map_congr_left fun n hn => by rw [if_pos hn]
        rw [this]
        rfl
    · have hnl' := fun z => (of_decide_eq_false hin) (there.mpr z)
      decreasing_trivial
      have all : ∀ n ∈ N, upto F l n = F n := by
        have down : ∀ (j : Nat), ∀ n ∈ N, l ≤ j → F n = some j → ∃ m ∈ N, F m = some l := by
          intro j
          induction j with
          | zero => intro n _ h _; omega
          | succ j ih =>
            intro n hn h hf
            by_cases e : j + 1 = l
            · exact ⟨n, hn, e ▸ hf⟩
            · obtain ⟨o, m, h1, h2, h3⟩ := ((hF _ _).mp hf).down (by omega)
              exact ih m (hown o m ((hO' o).trans h2)) (by omega) ((hF _ _).mpr h3)
        intro n hn
        cases hf : F n with
        | none =>
          cases hu : upto F l n with
          | none => rfl
          | some j => rw [(upto_some.mp hu).1] at hf; cases hf
        | some j =>
          refine upto_some.mpr ⟨hf, Nat.le_of_not_lt fun z => hnl' (down j n hn (by omega) hf)⟩
      rw [show (N.map fun n => ((Sum.inr n : DK), natO (F n))) = N.map fun n => ((Sum.inr n : DK), natO (upto F l n)) from List.map_congr_left fun n hn => by rw [all n hn]] at q
      exact q⟩
/-! is_reaches -/
local macro_rules | `(tactic| walk_at "ev") => `(tactic| with_reducible first | refine i_callC ?_ | refine i_kwN ?_ | refine k_dct ?_ | refine j_putN (by with_unfolding_all rfl) ?_)
theorem natO_nonD : ∀ x : Option Nat, natO x = nonD x
  | none => rfl
  | some _ => rfl
theorem reachF_eqN {N : List Txt} {F F' : Txt → Option Nat} {Q : Txt → Nat → Prop} (h : ∀ n ∈ N, ∀ k, F n = some k ↔ Q n k) (h' : ∀ n ∈ N, ∀ k, F' n = some k ↔ Q n k) : (N.map fun n => ((Sum.inr n : DK), natO (F n))) = tD nonD (tbF N F') := by
  unfold tD tbF
  rw [List.map_map]
  refine List.map_congr_left fun n hn => ?_
  have : F n = F' n := by
    cases e : F n with
    | none =>
      cases e' : F' n with
      | none => rfl
      | some k => rw [(h n hn k).mpr ((h' n hn k).mp e')] at e; cases e
    | some k => exact ((h' n hn k).mpr ((h n hn k).mp e)).symm
  rw [this]
  exact congrArg _ (natO_nonD _)
theorem blsOf_mapN {α : Type} (f : α → Bool) : ∀ l : List α, blsOf (l.map fun a => D.bl (f a)) = some (l.map f)
  | [] => rfl
  | a :: r => by
    have ih := blsOf_mapN f r
    rw [List.map_cons, List.map_cons]
    unfold blsOf
    rw [ih]; rfl
theorem pure_is_reaches : PU m_is_reaches 6 3 sp_is_reaches := fun ds C PR PX ⟨S, cd, op, F, T, e, h1', h2', h3, h4, h5, h6, h7, hF, ⟨m, hm, hT⟩, q⟩ => ⟨by rw [e]; rfl, by
  subst e
  change m_is_reaches _ _ [.shr (sitD S), .shr (.dct (tD D.str cd)), .shr T, .non, .non, .non] C
  unfold m_is_reaches
  have hz := sizeLine_eq
  decreasing_trivial
  try refine i_callC ?_
  cases hT with
  | odd t ht hk hd hs =>
    have hb := q false ⟨fun h => (by cases h), fun h => absurd h (isRt_no fun kvs e => by subst e; cases ht; rcases hk with h | h | h <;> exact absurd h (by decide))⟩
    refine .inr ?_
    change gIsi [dr C T, .ty "dict"] _
    rw [hd]
    refine ⟨t, false, ht, odd_kit hk, ?_⟩
    decreasing_trivial
    exact hb
  | @cell p o kx hc hx hl hs =>
    have hb := q false ⟨fun h => (by cases h), fun h => absurd h (isRt_no fun kvs e => by cases e)⟩
    refine .inl ⟨p, o, kx, "dict", true, ?_, hc, by decide +kernel, ?_⟩
    · rw [List.map_cons, dr_none hc]; rfl
    decreasing_trivial
    refine .inl ⟨p, o, kx, rfl, hc, ?_⟩
    refine ⟨rfl, compXG_of hc kx (fun e => keyND e.1) (fun e => .bl e.1.isSome) (fun _ => true) (by omega) (fun e he acc nxt g1 g2 g3 => ?_) ?_⟩
    · obtain ⟨k, v⟩ := e
      cases k with
      | none =>
        decreasing_trivial
        refine ⟨rfl, rfl, ?_⟩
        show mCallB gIsi (mCons (mPeek 3) (mCons (mC (D.ty "str")) mNil)) _ _ _ _
        decreasing_trivial
        refine ⟨"NoneType", false, rfl, by decide +kernel, ?_⟩
        decreasing_trivial
        exact ⟨rfl, g1, g2 rfl⟩
      | some t =>
        decreasing_trivial
        refine ⟨rfl, rfl, ?_⟩
        show mCallB gIsi (mCons (mPeek 3) (mCons (mC (D.ty "str")) mNil)) _ _ _ _
        decreasing_trivial
        refine ⟨"str", true, rfl, by decide +kernel, ?_⟩
        decreasing_trivial
        exact ⟨rfl, g1, g2 rfl⟩
    rw [List.filter_eq_self.mpr fun _ _ => rfl]
    decreasing_trivial
    refine g_all (blsOf_mapN _ kx) ?_
    have ea : (kx.map fun e : Option Txt × Option Nat => e.1.isSome).all id = false := by
      rw [List.all_eq_false]
      obtain ⟨e, he, h⟩ := hx
      exact ⟨e.1.isSome, List.mem_map.mpr ⟨e, he, rfl⟩, by rw [h]; simp⟩
    rw [ea]
    decreasing_trivial
    exact hb
  | @tab kvs nd hl hv hs =>
    refine .inr ⟨"dict", true, rfl, by decide +kernel, ?_⟩
    decreasing_trivial
    try refine k_dct ?_
    refine ⟨rfl, compXL_of kvs (fun e => keyD e.1) (fun e => .bl (txK e.1)) (fun _ => true) (by omega) (fun e he acc nxt g1 g2 g3 => ?_) ?_⟩
    · obtain ⟨k, v⟩ := e
      cases k with
      | inl i =>
        decreasing_trivial
        refine ⟨rfl, rfl, ?_⟩
        show mCallB gIsi (mCons (mPeek 3) (mCons (mC (D.ty "str")) mNil)) _ _ _ _
        decreasing_trivial
        refine ⟨"int", false, rfl, by decide +kernel, ?_⟩
        decreasing_trivial
        exact ⟨rfl, g1, g2 rfl⟩
      | inr t =>
        decreasing_trivial
        refine ⟨rfl, rfl, ?_⟩
        show mCallB gIsi (mCons (mPeek 3) (mCons (mC (D.ty "str")) mNil)) _ _ _ _
        decreasing_trivial
        refine ⟨"str", true, rfl, by decide +kernel, ?_⟩
        decreasing_trivial
        exact ⟨rfl, g1, g2 rfl⟩
    rw [List.filter_eq_self.mpr fun _ _ => rfl]
    decreasing_trivial
    refine g_all (blsOf_mapN _ kvs) ?_
    rw [List.all_map]
    by_cases h1 : ∀ e ∈ kvs, txK e.1 = true
    · rw [show (kvs.all (id ∘ fun e : DK × D => txK e.1)) = true from List.all_eq_true.mpr fun e he => h1 e he]
      decreasing_trivial
      refine ⟨_, rfl, ?_⟩
      decreasing_trivial
      rw [show valsL kvs = kvs.map fun e => e.2 from rfl]
      refine ⟨rfl, compL_map kvs (fun e => e.2) (fun e => .bl (numB e.2)) (by omega) (fun e he acc nxt g1 g2 => ?_) ?_⟩
      · obtain ⟨k, v⟩ := e
        decreasing_trivial
        refine ⟨rfl, rfl, ?_⟩
        have hvv : ValN v := hv (k, v) he
        rcases hvv with ⟨x, rfl, _⟩ | rfl | rfl | rfl | rfl
        · cases x with
          | none =>
            rw [show nonD none = D.non from rfl]
            decreasing_trivial
            refine g_is (e := .non) rfl ?_
            decreasing_trivial
            exact ⟨rfl, g1, g2⟩
          | some k =>
            rw [show nonD (some k) = D.int k from rfl]
            decreasing_trivial
            refine g_is (e := .int k) rfl ?_
            decreasing_trivial
            refine ⟨"int", true, rfl, by decide +kernel, ?_⟩
            decreasing_trivial
            refine ⟨"int", false, rfl, by decide +kernel, ?_⟩
            decreasing_trivial
            exact ⟨rfl, g1, g2⟩
        · decreasing_trivial
          refine g_is (e := .bl true) rfl ?_
          decreasing_trivial
          refine ⟨"bool", true, rfl, by decide +kernel, ?_⟩
          decreasing_trivial
          refine ⟨"bool", true, rfl, by decide +kernel, ?_⟩
          decreasing_trivial
          exact ⟨rfl, g1, g2⟩
        · decreasing_trivial
          refine g_is (e := .str [49]) rfl ?_
          decreasing_trivial
          refine ⟨"str", false, rfl, by decide +kernel, ?_⟩
          decreasing_trivial
          exact ⟨rfl, g1, g2⟩
        · decreasing_trivial
          refine g_is (e := .lst [.int 1]) rfl ?_
          decreasing_trivial
          refine ⟨"list", false, rfl, by decide +kernel, ?_⟩
          decreasing_trivial
          exact ⟨rfl, g1, g2⟩
        · decreasing_trivial
          refine g_is (e := .dct []) rfl ?_
          decreasing_trivial
          refine ⟨"dict", false, rfl, by decide +kernel, ?_⟩
          decreasing_trivial
          exact ⟨rfl, g1, g2⟩
      decreasing_trivial
      refine g_all (blsOf_mapN _ kvs) ?_
      rw [List.all_map]
      by_cases h2 : ∀ e ∈ kvs, numB e.2 = true
      · rw [show (kvs.all (id ∘ fun e : DK × D => numB e.2)) = true from List.all_eq_true.mpr fun e he => h2 e he]
        decreasing_trivial
        obtain ⟨l, rfl⟩ := tab_of hv h1 h2
        have nl := tab_keys nd
        refine ⟨S, cd, op, rfl, h1', h2', h3, h4, h5, h6, h7, fun F' hF' => ?_⟩
        rw [reachF_eqN hF' hF]
        decreasing_trivial
        refine g_eqKD (fun _ => ⟨fun p hp => ?_, fun p hp => ?_⟩) ?_
        · obtain ⟨x, _, rfl⟩ := List.mem_map.mp hp
          exact nonD_ok _
        · obtain ⟨x, _, rfl⟩ := List.mem_map.mp hp
          exact nonD_ok _
        exact q _ ((eq_tab h2' nl).trans (tab_isRt nl).symm)
      · rw [show (kvs.all (id ∘ fun e : DK × D => numB e.2)) = false from by
          rw [List.all_eq_false]
          exact Classical.byContradiction fun z => h2 fun e he => Classical.byContradiction fun w => z ⟨e, he, w⟩]
        decreasing_trivial
        exact q false ⟨fun h => (by cases h), fun h => absurd (rt_num h).2 h2⟩
    · rw [show (kvs.all (id ∘ fun e : DK × D => txK e.1)) = false from by
        rw [List.all_eq_false]
        exact Classical.byContradiction fun z => h1 fun e he => Classical.byContradiction fun w => z ⟨e, he, w⟩]
      decreasing_trivial
      exact q false ⟨fun h => (by cases h), fun h => absurd (rt_num h).1 h1⟩⟩
/-! _law_by_steps -/
theorem pure__law_by_steps : PU m__law_by_steps 11 3 sp__law_by_steps := fun ds C PR PX ⟨S, cd, op, F, l, e, h1, h2, h3, h4, h5, h6, h7, h8, hF, hl, q⟩ => ⟨by rw [e]; rfl, by
  subst e
  change m__law_by_steps _ _ [.shr (sitD S), .shr (.dct (tD D.str cd)), .shr (.dct (tD nonD l)), .non, .non, .non, .non, .non, .non, .non, .non] C
  unfold m__law_by_steps
  have hz := sizeLine_eq
  obtain ⟨own, hown0⟩ : ∃ own : Txt → Option Txt, own = fun o => L2.AS.lk o (cd.map fun e => (e.2, e.1)) := ⟨_, rfl⟩
  have hO : ∀ o, L2.AS.lk o (cd.map fun e => (e.2, e.1)) = own o := fun o => by rw [hown0]
  rw [← hown0] at hF
  have hown : ∀ o m, own o = some m → m ∈ S.map (·.nm) := fun o m h => by
    rw [hown0] at h
    obtain ⟨e, he, ee⟩ := List.mem_map.mp (L2.AS.lk_mem h)
    have : m = e.1 := by injection ee with e1 e2; exact e2.symm
    rw [this]; exact h8 e he
  obtain ⟨G, hG0⟩ : ∃ G : Txt → Option Nat, G = fun n => (L2.AS.lk n l).getD none := ⟨_, rfl⟩
  have hG : ∀ n ∈ S.map (·.nm), L2.AS.lk n l = some (G n) := fun n hn => by
    have := hl n hn
    rw [hG0]
    cases e : L2.AS.lk n l with
    | none => rw [e] at this; cases this
    | some z => show some z = some ((L2.AS.lk n l).getD none); rw [e]; rfl
  have hlook : ∀ n ∈ S.map (·.nm), look (.inr n) (tD nonD l) = some (nonD (G n)) := fun n hn => by rw [look_tD, hG n hn]; rfl
  have drN : ∀ x, dr C (nonD x) = nonD x := fun x => by cases x <;> rfl
  obtain ⟨kp, hkp⟩ : ∃ kp : Txt → Bool, ∀ o, kp o = match own o with | none => false | some m => (G m).isSome := ⟨_, fun _ => rfl⟩
  obtain ⟨fv, hfv⟩ : ∃ fv : Txt → D, ∀ o, fv o = match own o with | none => .non | some m => nonD (G m) := ⟨_, fun _ => rfl⟩
  decreasing_trivial
  refine forL_inv (fun i env C' => C' = C ∧ (∃ s3 s4 s5 s6 s8 s10, env = [.shr (sitD S), .shr (.dct (tD D.str cd)), .shr (.dct (tD nonD l)), s3, s4, s5, s6, .non, s8, .non, s10]) ∧ ∀ j c, j < i → S[j]? = some c → Due op own G c.nm (G c.nm)) ⟨rfl, ⟨_, _, _, _, _, _, rfl⟩, fun j c h => absurd h (by omega)⟩ ?_ ?_
  · rintro i d env C' nx' hd ⟨rfl, ⟨s3, s4, s5, s6, s8, s10, rfl⟩, hi⟩ hx
    rw [List.getElem?_map] at hd
    obtain ⟨c, hc, rfl⟩ := Option.map_eq_some_iff.mp hd
    have hcS := List.mem_of_getElem? hc
    have hol := h4 c hcS
    have eop := h3 c hcS
    have cN : c.nm ∈ S.map (·.nm) := List.mem_map_of_mem hcS
    refine j_tupD rfl ?_
    decreasing_trivial
    refine ⟨rfl, compL_map c.opts D.str (fun o => optD (own o)) (by omega) (fun o ho acc nxt g1 g2 => ?_) ?_⟩
    · decreasing_trivial
      refine ⟨rfl, rfl, ?_⟩
      decreasing_trivial
      refine ⟨cd, o, rfl, h5, h6, ?_⟩
      rw [hO]
      decreasing_trivial
      exact ⟨rfl, g1, g2⟩
    decreasing_trivial
    refine ⟨rfl, compL_flt c.opts (fun o => optD (own o)) fv kp (by omega) (fun o ho acc nxt g1 g2 g3 => ?_) ?_⟩
    · decreasing_trivial
      refine ⟨rfl, ?_⟩
      decreasing_trivial
      cases e : own o with
      | none =>
        rw [show optD (none : Option Txt) = D.non from rfl]
        refine g_is (e := .non) rfl ?_
        refine ⟨false, rfl, i_ite (fun h => absurd h (by decide)) fun _ => ?_⟩
        exact ⟨rfl, g3 (by rw [hkp, e])⟩
      | some m =>
        rw [show optD (some m) = D.str m from rfl]
        refine g_is (e := .str m) rfl ?_
        refine ⟨true, rfl, i_ite (fun _ => ?_) fun h => absurd h (by decide)⟩
        decreasing_trivial
        refine g_ixD (e := .str m) (k := .inr m) rfl rfl (hlook m (hown o m e)) ?_
        decreasing_trivial
        refine g_is (e := nonD (G m)) (drN _) ?_
        cases g : G m with
        | none =>
          refine ⟨false, rfl, ?_⟩
          exact ⟨rfl, i_ite (fun h => absurd h (by decide)) fun _ => g3 (by rw [hkp, e]; show (G m).isSome = false; rw [g]; rfl)⟩
        | some z =>
          refine ⟨true, rfl, ?_⟩
          refine ⟨rfl, i_ite (fun _ => ?_) fun h => absurd h (by decide)⟩
          decreasing_trivial
          refine g_ixD (e := .str m) (k := .inr m) rfl rfl (hlook m (hown o m e)) ?_
          refine ⟨rfl, g1, ?_⟩
          have := g2 (by rw [hkp, e]; show (G m).isSome = true; rw [g]; rfl)
          rw [hfv, e] at this
          exact this
    decreasing_trivial
    have fin : ∀ (r : Option Nat) (s8 : Slot), Due op own G c.nm r → (sIf (mTst (mOp (gEq true) (mOp gIx (mPeek 2) (mPeek 3)) (mPeek 10))) (sRet (mC (.bl false))) sNext) (fun x x_1 C => PX x C) { nx := nx', rt := PR, bk := fun env2 C2 => (sRet (mC (.bl true))) (fun x x_1 C => PX x C) { nx := fun x C => PR (Ret.shr .non) C, rt := PR } env2 C2, ct := nx' } [.shr (sitD S), .shr (.dct (tD D.str cd)), .shr (.dct (tD nonD l)), .shr (.str c.nm), .shr (.tupT c.held), .shr (.tupT c.opts), .shr (.lst (c.opts.map fun o => optD (own o))), .non, s8, .non, .shr (nonD r)] C' := fun r s8 hr => by
      decreasing_trivial
      refine g_ixD (e := .str c.nm) (k := .inr c.nm) rfl rfl (hlook c.nm cN) ?_
      decreasing_trivial
      refine g_neD (nonD_ok _) (nonD_ok _) (drN _) (drN _) ?_
      rw [eqv_nonD]
      by_cases e : G c.nm = r
      · rw [decide_eq_true e]
        refine ⟨false, rfl, i_ite (fun h => absurd h (by decide)) fun _ => ?_⟩
        decreasing_trivial
        refine hx _ _ ⟨rfl, ⟨_, _, _, _, _, _, rfl⟩, fun j c2 hj hc2 => ?_⟩
        by_cases z : j < i
        · exact hi j c2 z hc2
        · have : j = i := by omega
          subst this
          rw [hc] at hc2
          cases hc2
          rw [e]; exact hr
      · rw [decide_eq_false e]
        refine ⟨true, rfl, i_ite (fun _ => ?_) fun h => absurd h (by decide)⟩
        decreasing_trivial
        refine q false ⟨fun h => (by cases h), fun h => ?_⟩
        have all := (due_iff (G := G) hown hF).mpr fun n hn => by
          have := h n hn
          rw [hG n hn] at this
          exact Option.some.inj this
        exact absurd (due_uniq (all c.nm cN) hr) e
    refine g_inO ?_
    cases hfr : c.opts.any fun o => (own o).isNone with
    | true =>
      have fr : ∃ o ∈ op c.nm, own o = none := by
        obtain ⟨o, ho, hn⟩ := List.any_eq_true.mp hfr
        rw [eop] at ho
        exact ⟨o, ho, by simpa using hn⟩
      refine ⟨true, rfl, i_ite (fun _ => ?_) fun h => absurd h (by decide)⟩
      decreasing_trivial
      refine g_inO ?_
      rw [hfr]
      refine ⟨false, rfl, i_ite (fun h => absurd h (by decide)) fun _ => ?_⟩
      refine i_ite (fun h => absurd h (by decide)) fun _ => ?_
      decreasing_trivial
      exact fin (some 1) _ ⟨fun _ => rfl, fun nf => absurd fr.choose_spec.2 (nf _ fr.choose_spec.1)⟩
    | false =>
      have nf : ∀ o ∈ op c.nm, own o ≠ none := fun o ho z => by
        rw [List.any_eq_false] at hfr
        rw [← eop] at ho
        exact hfr o ho (by rw [z]; rfl)
      refine ⟨false, rfl, i_ite (fun h => absurd h (by decide)) fun _ => ?_⟩
      decreasing_trivial
      refine g_inO ?_
      rw [hfr]
      refine ⟨true, rfl, i_ite (fun _ => ?_) fun h => absurd h (by decide)⟩
      decreasing_trivial
      have hf : ∀ o ∈ c.opts.filter kp, o ∈ c.opts ∧ ∃ m j, own o = some m ∧ G m = some j := fun o ho => by
        obtain ⟨h1, h2⟩ := List.mem_filter.mp ho
        refine ⟨h1, ?_⟩
        rw [hkp] at h2
        cases e : own o with
        | none => rw [e] at h2; cases h2
        | some m =>
          rw [e] at h2
          cases g : G m with
          | none => have h2 : (G m).isSome = true := h2; rw [g] at h2; cases h2
          | some j => exact ⟨m, j, rfl, g⟩
      have hb : ∀ o ∈ op c.nm, ∀ m j, own o = some m → G m = some j → o ∈ c.opts.filter kp := fun o ho m j h1 h2 => by
        refine List.mem_filter.mpr ⟨by rw [eop]; exact ho, ?_⟩
        rw [hkp, h1]
        show (G m).isSome = true
        rw [h2]; rfl
      generalize hL : c.opts.filter kp = L at hf hb ⊢
      cases L with
      | nil =>
        refine i_ite (fun h => absurd h Bool.false_ne_true) fun _ => ?_
        decreasing_trivial
        refine fin none _ ⟨fun ⟨o, ho, z⟩ => absurd z (nf o ho), fun _ => ⟨fun _ o ho m hm => ?_, fun k h => (by cases h)⟩⟩
        cases g : G m with
        | none => rfl
        | some j => cases hb o ho m j hm g
      | cons o0 L =>
        refine i_ite (fun _ => ?_) fun h => absurd (show true = false from h) (by decide)
        decreasing_trivial
        have eI : (o0 :: L).map fv = ((o0 :: L).map fun o => ((((own o).bind G).getD 0 : Nat) : Int)).map D.int := by
          rw [List.map_map]
          refine List.map_congr_left fun o ho => ?_
          obtain ⟨_, m, j, h1, h2⟩ := hf o ho
          rw [hfv, h1]
          show nonD (G m) = D.int ((((own o).bind G).getD 0 : Nat) : Int)
          rw [h1]
          show nonD (G m) = D.int (((G m).getD 0 : Nat) : Int)
          rw [h2]; rfl
        refine g_minL eI (by simp) fun mn hmn hmin => ?_
        obtain ⟨o, ho, emn⟩ := List.mem_map.mp hmn
        obtain ⟨hoc, m, j, h1, h2⟩ := hf o ho
        have emj : mn = (j : Int) := by
          rw [← emn, h1]
          show (((G m).getD 0 : Nat) : Int) = _
          rw [h2]; rfl
        subst emj
        decreasing_trivial
        rw [show D.int (1 + (j : Int)) = nonD (some (j + 1)) from congrArg D.int (by omega)]
        refine fin (some (j + 1)) _ ⟨fun ⟨o, ho, z⟩ => absurd z (nf o ho), fun _ => ⟨fun h => (by cases h), fun k h => ?_⟩⟩
        cases h
        refine ⟨⟨o, by rw [← eop]; exact hoc, m, j, h1, h2, rfl⟩, fun o' ho' m' j' h1' h2' => ?_⟩
        have h3 := hmin (j' : Int) (List.mem_map.mpr ⟨o', hb o' ho' m' j' h1' h2', by
          rw [h1']
          show (((G m').getD 0 : Nat) : Int) = _
          rw [h2']; rfl⟩)
        omega
  · rintro env C' ⟨rfl, ⟨s3, s4, s5, s6, s8, s10, rfl⟩, hi⟩
    decreasing_trivial
    refine q true ⟨fun _ => ?_, fun _ => rfl⟩
    rw [List.length_map] at hi
    have hd : ∀ n ∈ S.map (·.nm), Due op own G n (G n) := fun n hn => by
      obtain ⟨c, hc, rfl⟩ := List.mem_map.mp hn
      obtain ⟨j, hj⟩ := List.getElem?_of_mem hc
      exact hi j c (List.getElem?_eq_some_iff.mp hj).1 hj
    intro n hn
    rw [hG n hn, (due_iff hown hF).mp hd n hn]⟩
/-! _law_bent -/
theorem pure__law_bent : PU m__law_bent 6 2 sp__law_bent := fun ds C PR PX ⟨st, N, F, e, hc, h1, h2, h3, h4, q⟩ => ⟨by rw [e]; rfl, by
  subst e
  change m__law_bent _ _ [.shr (.cell st), .shr (.dct (tD nonD (tbF N F))), .non, .non, .non, .non] C
  unfold m__law_bent
  have hz := sizeLine_eq
  have lN : (tD nonD (tbF N F)).length = N.length := by unfold tD tbF; rw [List.length_map, List.length_map]
  have Fb : ∀ e ∈ tD nonD (tbF N F), ValN e.2 ∧ Shw 0 12 (keyD e.1) := fun e he => by
    obtain ⟨x, hx, rfl⟩ := List.mem_map.mp he
    obtain ⟨n, hn, rfl⟩ := List.mem_map.mp hx
    exact ⟨.inl ⟨F n, rfl, fun k hk => by have := h4 n hn k hk; omega⟩, shw_key (h3 n hn).1 (h3 n hn).2.1⟩
  have ndN : ((tD nonD (tbF N F)).map (·.1)).Nodup := tD_nd (by rw [tbF_ks]; exact h2)
  have keysN : (tD nonD (tbF N F)).map (·.1) = N.map Sum.inr := by unfold tD tbF; rw [List.map_map, List.map_map]; rfl
  have sorted : ∀ (C : Cs) {P : Cont → Prop}, (∀ ts : List Txt, (∀ t ∈ ts, t ∈ N) → ts.length = N.length → P (.lst (txs ts))) → gSortDT ([D.dct (tD nonD (tbF N F))].map (dr C)) P := fun C {P} h => by
    refine g_sortDT (ts := N) keysN (by omega) ?_
    exact h _ (fun t ht => (sortT_perm N).mem_iff.mp ht) (sortT_perm N).length_eq
  have none1 : ∀ (l : List (Txt × Option Nat)) (x : Option Nat) (p : Addr) (o : Obj) (C' : Cs), l = tbF N F → (∀ k, x = some k → k < 128) → C' p = some (noneC p o (l.map (fun e => (some e.1, e.2)) ++ [(none, x)])) → TryN N.length C' (.cell p) := fun l x p o C' el hx hc' => by
    subst el
    refine .cell hc' ⟨(none, x), List.mem_append.mpr (.inr (List.mem_singleton.mpr rfl)), rfl⟩ (by rw [List.length_append, List.length_map]; unfold tbF; rw [List.length_map]; rfl) fun e he => ?_
    rcases List.mem_append.mp he with he | he
    · obtain ⟨y, hy, rfl⟩ := List.mem_map.mp he
      obtain ⟨n, hn, rfl⟩ := List.mem_map.mp hy
      exact ⟨fun t ht => by cases ht; exact ⟨(h3 n hn).1, (h3 n hn).2.1⟩, fun k hk => by have := h4 n hn k hk; omega⟩
    · rw [List.mem_singleton.mp he]
      exact ⟨fun t ht => (by cases ht), hx⟩
  have zzN : (Sum.inr [122, 122] : DK) ∉ (tD nonD (tbF N F)).map (·.1) := fun z => by
    rw [keysN] at z
    obtain ⟨n, hn, e⟩ := List.mem_map.mp z
    exact (h3 n hn).2.2 (Sum.inr.inj e)
  have fiveN : (Sum.inl 5 : DK) ∉ (tD nonD (tbF N F)).map (·.1) := fun z => by
    rw [keysN] at z
    obtain ⟨n, hn, e⟩ := List.mem_map.mp z
    cases e
  have longer : ∀ (k : DK) (d : D), k ∉ (tD nonD (tbF N F)).map (·.1) → Shw 0 12 (keyD k) → ValN d → ∀ C', TryN N.length C' (.dct (tD nonD (tbF N F) ++ [(k, d)])) := fun k d hk sk hd C' => by
    refine TryN.of ?_ (by rw [List.length_append, lN]; show N.length + 1 ≤ 10; omega) (fun e he => ?_) fun e he => ?_
    · rw [List.map_append]; exact nodup_snoc ndN hk
    · rcases List.mem_append.mp he with he | he
      · exact (Fb e he).2
      · rw [List.mem_singleton.mp he]; exact sk
    · rcases List.mem_append.mp he with he | he
      · exact (Fb e he).1
      · rw [List.mem_singleton.mp he]; exact hd
  have fin : ∀ (T5 : D) C', TryN N.length C' T5 → C' st = some (.pur false) → ∀ ts : List Txt, (∀ t ∈ ts, t ∈ N) → ts.length = N.length → ∀ T ∈ [D.non, .lst [], .lst (txs ts), .int 5, .dct [(.inr [122, 122], .int 1)], T5, .dct [(.inl 1, .int 1)]], PR (.shr T) C' := fun T5 C' h5 hc' ts t1 t2 T hT => by
    have hq : TryN N.length C' T → PR (.shr T) C' := fun h => q (.shr T) C' h hc'
    simp only [List.mem_cons, List.not_mem_nil, or_false] at hT
    refine hq ?_
    rcases hT with rfl | rfl | rfl | rfl | rfl | rfl | rfl
    · exact .odd "NoneType" rfl (.inl rfl) rfl (Shw.of (by decide +kernel))
    · exact .odd "list" rfl (.inr (.inr rfl)) rfl (Shw.of (by decide +kernel))
    · exact .odd "list" rfl (.inr (.inr rfl)) rfl ((Shws.lst (shws_txs (k := 0) (m := 8) (w := 12) (fun t ht => ⟨(h3 t (t1 t ht)).1, (h3 t (t1 t ht)).2.1⟩) (by omega))).mono (by decide) (by decide))
    · exact .odd "int" rfl (.inr (.inl rfl)) rfl (Shw.of (by decide +kernel))
    · exact TryN.of (by simp) (by simp) (fun e he => by rw [List.mem_singleton.mp he]; exact shw_key (by decide) (by decide)) fun e he => by rw [List.mem_singleton.mp he]; exact .inl ⟨some 1, rfl, fun k hk => by cases hk; decide⟩
    · exact h5
    · exact TryN.of (by simp) (by simp) (fun e he => by rw [List.mem_singleton.mp he]; exact Shw.of (by decide +kernel)) fun e he => by rw [List.mem_singleton.mp he]; exact .inl ⟨some 1, rfl, fun k hk => by cases hk; decide⟩
  have val1 : ∀ v ∈ [D.int 1, D.non], ∃ x, v = nonD x ∧ ∀ k, x = some k → k < 128 := fun v hv => by
    simp only [List.mem_cons, List.not_mem_nil, or_false] at hv
    rcases hv with rfl | rfl
    · exact ⟨some 1, rfl, fun k hk => by cases hk; decide⟩
    · exact ⟨none, rfl, fun k hk => by cases hk⟩
  decreasing_trivial
  refine ⟨st, 5, rfl, hc, by decide, by decide, fun kd k0 k5 => ?_⟩
  decreasing_trivial
  refine i_ite (fun hA => ?_) fun hA => ?_
  · decreasing_trivial
    refine ⟨st, _, _, rfl, hc, .inl rfl, by simp, by simp, fun v hv => ?_⟩
    obtain ⟨x, rfl, hx⟩ := val1 v hv
    decreasing_trivial
    try (refine j_putN rfl ?_; decreasing_trivial)
    refine ⟨st, _, _, rfl, hc, .inl rfl, by simp, by simp, fun kx hk => ?_⟩
    refine ⟨fun ne => ?_, fun e => ?_⟩
    · have hk2 : kx = .str [122, 122] ∨ kx = .int 5 := by
        simp only [List.mem_cons, List.not_mem_nil, or_false] at hk
        rcases hk with h | h | h | h
        · exact .inl h
        · exact .inl h
        · exact .inr h
        · exact absurd h ne
      rcases hk2 with rfl | rfl
      · refine a_putOD (k := .inr [122, 122]) rfl rfl (by omega) ?_
        rw [putD_new zzN]
        decreasing_trivial
        refine sorted C fun ts t1 t2 => ?_
        decreasing_trivial
        refine ⟨.inr [122, 122], rfl, by decide, ?_⟩
        decreasing_trivial
        refine ⟨.inl 1, rfl, by decide, ?_⟩
        decreasing_trivial
        try refine ⟨by show 7 ≤ sizeLine; omega, ?_⟩
        decreasing_trivial
        refine ⟨st, _, _, rfl, hc, .inl rfl, by simp, by simp, fun T hT => ?_⟩
        exact fin _ C (longer (.inr [122, 122]) (nonD x) zzN (shw_key (by decide) (by decide)) (.inl ⟨x, rfl, hx⟩) C) hc ts t1 t2 T hT
      · refine a_putOD (k := .inl 5) rfl rfl (by omega) ?_
        rw [putD_new fiveN]
        decreasing_trivial
        refine sorted C fun ts t1 t2 => ?_
        decreasing_trivial
        refine ⟨.inr [122, 122], rfl, by decide, ?_⟩
        decreasing_trivial
        refine ⟨.inl 1, rfl, by decide, ?_⟩
        decreasing_trivial
        try refine ⟨by show 7 ≤ sizeLine; omega, ?_⟩
        decreasing_trivial
        refine ⟨st, _, _, rfl, hc, .inl rfl, by simp, by simp, fun T hT => ?_⟩
        exact fin _ C (longer (.inl 5) (nonD x) fiveN (Shw.of (by decide +kernel)) (.inl ⟨x, rfl, hx⟩) C) hc ts t1 t2 T hT
    · refine ⟨tbF N F, x, rfl, rfl, by unfold tbF; rw [List.length_map]; omega, fun p o hp => ?_⟩
      have hps : st ≠ p := fun z => by rw [← z, hc] at hp; cases hp
      have hc2 : cput C p (noneC p o ((tbF N F).map (fun e => (some e.1, e.2)) ++ [(none, x)])) st = some (.pur false) := by rw [cput_ne hps]; exact hc
      decreasing_trivial
      refine sorted _ fun ts t1 t2 => ?_
      decreasing_trivial
      refine ⟨.inr [122, 122], rfl, by decide, ?_⟩
      decreasing_trivial
      refine ⟨.inl 1, rfl, by decide, ?_⟩
      decreasing_trivial
      try refine ⟨by show 7 ≤ sizeLine; omega, ?_⟩
      decreasing_trivial
      refine ⟨st, _, _, rfl, hc2, .inl rfl, by simp, by simp, fun T hT => ?_⟩
      exact fin _ _ (none1 _ x p o _ rfl hx cput_same) hc2 ts t1 t2 T hT
  · decreasing_trivial
    refine g_eqKD (fun _ => ⟨fun p hp => ?_, fun p hp => ?_⟩) ?_
    · obtain ⟨x, _, rfl⟩ := List.mem_map.mp hp
      exact nonD_ok _
    · cases hp
    refine ⟨_, rfl, i_ite (fun hB => ?_) fun hB => ?_⟩
    · decreasing_trivial
      refine ⟨st, _, _, rfl, hc, .inl rfl, by simp, by simp, fun v hv => ?_⟩
      obtain ⟨x, rfl, hx⟩ := val1 v hv
      decreasing_trivial
      try (refine j_putN rfl ?_; decreasing_trivial)
      refine ⟨st, _, _, rfl, hc, .inl rfl, by simp, by simp, fun kx hk => ?_⟩
      refine ⟨fun ne => ?_, fun e => ?_⟩
      · have hk2 : kx = .str [122, 122] ∨ kx = .int 5 := by
          simp only [List.mem_cons, List.not_mem_nil, or_false] at hk
          rcases hk with h | h | h | h
          · exact .inl h
          · exact .inl h
          · exact .inr h
          · exact absurd h ne
        rcases hk2 with rfl | rfl
        · refine a_putOD (k := .inr [122, 122]) rfl rfl (by omega) ?_
          rw [putD_new zzN]
          decreasing_trivial
          refine sorted C fun ts t1 t2 => ?_
          decreasing_trivial
          refine ⟨.inr [122, 122], rfl, by decide, ?_⟩
          decreasing_trivial
          refine ⟨.inl 1, rfl, by decide, ?_⟩
          decreasing_trivial
          try refine ⟨by show 7 ≤ sizeLine; omega, ?_⟩
          decreasing_trivial
          refine ⟨st, _, _, rfl, hc, .inl rfl, by simp, by simp, fun T hT => ?_⟩
          exact fin _ C (longer (.inr [122, 122]) (nonD x) zzN (shw_key (by decide) (by decide)) (.inl ⟨x, rfl, hx⟩) C) hc ts t1 t2 T hT
        · refine a_putOD (k := .inl 5) rfl rfl (by omega) ?_
          rw [putD_new fiveN]
          decreasing_trivial
          refine sorted C fun ts t1 t2 => ?_
          decreasing_trivial
          refine ⟨.inr [122, 122], rfl, by decide, ?_⟩
          decreasing_trivial
          refine ⟨.inl 1, rfl, by decide, ?_⟩
          decreasing_trivial
          try refine ⟨by show 7 ≤ sizeLine; omega, ?_⟩
          decreasing_trivial
          refine ⟨st, _, _, rfl, hc, .inl rfl, by simp, by simp, fun T hT => ?_⟩
          exact fin _ C (longer (.inl 5) (nonD x) fiveN (Shw.of (by decide +kernel)) (.inl ⟨x, rfl, hx⟩) C) hc ts t1 t2 T hT
      · refine ⟨tbF N F, x, rfl, rfl, by unfold tbF; rw [List.length_map]; omega, fun p o hp => ?_⟩
        have hps : st ≠ p := fun z => by rw [← z, hc] at hp; cases hp
        have hc2 : cput C p (noneC p o ((tbF N F).map (fun e => (some e.1, e.2)) ++ [(none, x)])) st = some (.pur false) := by rw [cput_ne hps]; exact hc
        decreasing_trivial
        refine sorted _ fun ts t1 t2 => ?_
        decreasing_trivial
        refine ⟨.inr [122, 122], rfl, by decide, ?_⟩
        decreasing_trivial
        refine ⟨.inl 1, rfl, by decide, ?_⟩
        decreasing_trivial
        try refine ⟨by show 7 ≤ sizeLine; omega, ?_⟩
        decreasing_trivial
        refine ⟨st, _, _, rfl, hc2, .inl rfl, by simp, by simp, fun T hT => ?_⟩
        exact fin _ _ (none1 _ x p o _ rfl hx cput_same) hc2 ts t1 t2 T hT
    · decreasing_trivial
      have hN : N ≠ [] := fun z => by
        subst z
        exact Bool.noConfusion (show true = false from hB)
      refine sorted _ fun ts t1 t2 => ?_
      decreasing_trivial
      refine ⟨st, _, txs ts, rfl, hc, .inl rfl, fun z => hN (List.eq_nil_of_length_eq_zero (by rw [← t2, List.map_eq_nil_iff.mp z]; rfl)), by unfold txs; rw [List.length_map]; omega, fun w hw => ?_⟩
      obtain ⟨t, ht, rfl⟩ := List.mem_map.mp hw
      have htN := t1 t ht
      have lkt : look (.inr t) (tD nonD (tbF N F)) = some (nonD (F t)) := by rw [look_tD, lk_tbF htN]; rfl
      decreasing_trivial
      have put1 : ∀ d : D, ValN d → PR (.frs (.dct (putD (tD nonD (tbF N F)) (.inr t) d))) C := fun d hd => by
        have e1 : putD (tD nonD (tbF N F)) (.inr t) d = (tD nonD (tbF N F)).map fun e => if e.1 = .inr t then (e.1, d) else e := by
          unfold putD
          rw [if_pos]
          rw [List.any_eq_true]
          have hm : (Sum.inr t : DK) ∈ (tD nonD (tbF N F)).map (·.1) := by rw [keysN]; exact List.mem_map.mpr ⟨t, htN, rfl⟩
          obtain ⟨e, he, ee⟩ := List.mem_map.mp hm
          exact ⟨e, he, decide_eq_true ee⟩
        refine q (.frs (.dct (putD (tD nonD (tbF N F)) (.inr t) d))) C ?_ hc
        show TryN N.length C (.dct (putD (tD nonD (tbF N F)) (.inr t) d))
        rw [e1]
        have kk : ((tD nonD (tbF N F)).map fun e => if e.1 = .inr t then (e.1, d) else e).map (·.1) = (tD nonD (tbF N F)).map (·.1) := by
          rw [List.map_map]
          refine List.map_congr_left fun e _ => ?_
          show (if e.1 = .inr t then (e.1, d) else e).1 = e.1
          split <;> rfl
        refine TryN.of (by rw [kk]; exact ndN) (by rw [List.length_map, lN]; omega) (fun e he => ?_) fun e he => ?_
        · obtain ⟨x, hx, rfl⟩ := List.mem_map.mp he
          split <;> exact (Fb x hx).2
        · obtain ⟨x, hx, rfl⟩ := List.mem_map.mp he
          split
          · exact hd
          · exact (Fb x hx).1
      refine i_ite (fun h1' => ?_) fun h1' => ?_
      · decreasing_trivial
        refine j_popD rfl ?_
        decreasing_trivial
        refine ⟨_, .inr t, _, rfl, rfl, lkt, ?_⟩
        decreasing_trivial
        refine q (.frs (.dct (dropD (tD nonD (tbF N F)) (.inr t)))) C ?_ hc
        show TryN N.length C (.dct (dropD (tD nonD (tbF N F)) (.inr t)))
        exact TryN.of (ndN.sublist (List.filter_sublist.map _)) (Nat.le_trans (List.length_filter_le _ _) (by omega)) (fun e he => (Fb e (List.mem_filter.mp he).1).2) fun e he => (Fb e (List.mem_filter.mp he).1).1
      · decreasing_trivial
        refine i_ite (fun h2' => ?_) fun h2' => ?_
        · decreasing_trivial
          refine ⟨st, _, _, rfl, hc, .inl rfl, by simp, by simp, fun v hv => ?_⟩
          decreasing_trivial
          refine a_putOD (k := .inr t) rfl rfl (by omega) ?_
          decreasing_trivial
          refine put1 v ?_
          simp only [List.mem_cons, List.not_mem_nil, or_false] at hv
          rcases hv with rfl | rfl | rfl | rfl | rfl | rfl
          · exact .inl ⟨none, rfl, fun k hk => by cases hk⟩
          · exact .inr (.inl rfl)
          · exact .inr (.inr (.inl rfl))
          · exact .inl ⟨some 0, rfl, fun k hk => by cases hk; decide⟩
          · exact .inr (.inr (.inr (.inl rfl)))
          · exact .inr (.inr (.inr (.inr rfl)))
        · decreasing_trivial
          refine i_orN ?_
          decreasing_trivial
          refine g_ixD (e := .str t) (k := .inr t) rfl rfl lkt ?_
          have last : ∀ m : Nat, m ≤ 60 → ∀ v ∈ [D.non, .int 1, .int 2, .int 3, .int ((m : Int) + 1)], ValN v := fun m hm v hv => by
            simp only [List.mem_cons, List.not_mem_nil, or_false] at hv
            rcases hv with rfl | rfl | rfl | rfl | rfl
            · exact .inl ⟨none, rfl, fun k hk => by cases hk⟩
            · exact .inl ⟨some 1, rfl, fun k hk => by cases hk; decide⟩
            · exact .inl ⟨some 2, rfl, fun k hk => by cases hk; decide⟩
            · exact .inl ⟨some 3, rfl, fun k hk => by cases hk; decide⟩
            · exact .inl ⟨some (m + 1), rfl, fun k hk => by cases hk; omega⟩
          have end5 : ∀ m : Nat, m ≤ 60 → ∀ v ∈ [D.non, .int 1, .int 2, .int 3, .int ((m : Int) + 1)], PR (.frs (.dct (putD (tD nonD (tbF N F)) (.inr t) v))) C := fun m hm v hv => put1 v (last m hm v hv)
          cases hFt : F t with
          | none =>
            rw [show nonD none = D.non from rfl]
            decreasing_trivial
            refine ⟨st, _, _, rfl, hc, .inl rfl, by simp, by simp, fun v hv => ?_⟩
            decreasing_trivial
            refine a_putOD (k := .inr t) rfl rfl (by omega) ?_
            decreasing_trivial
            exact end5 0 (by decide) v hv
          | some m =>
            have hm60 := h4 t htN m hFt
            rw [show nonD (some m) = D.int m from rfl]
            decreasing_trivial
            refine i_ite (fun _ => ?_) fun _ => ?_
            · decreasing_trivial
              refine ⟨st, _, _, rfl, hc, .inl rfl, by simp, by simp, fun v hv => ?_⟩
              decreasing_trivial
              refine a_putOD (k := .inr t) rfl rfl (by omega) ?_
              decreasing_trivial
              exact end5 m hm60 v hv
            · decreasing_trivial
              refine ⟨st, _, _, rfl, hc, .inl rfl, by simp, by simp, fun v hv => ?_⟩
              decreasing_trivial
              refine a_putOD (k := .inr t) rfl rfl (by omega) ?_
              decreasing_trivial
              exact end5 0 (by decide) v hv⟩
/-! _law_has_names -/
theorem pure__law_has_names : PU m__law_has_names 3 2 sp__law_has_names := fun ds C PR PX ⟨N, F, T, e, h1, hT, q⟩ => ⟨by rw [e]; rfl, by
  subst e
  change m__law_has_names _ _ [.shr T, .shr (.dct (tD nonD (tbF N F))), .non] C
  unfold m__law_has_names
  have hz := sizeLine_eq
  have lN : (tD nonD (tbF N F)).length = N.length := by unfold tD tbF; rw [List.length_map, List.length_map]
  decreasing_trivial
  try refine i_callC ?_
  cases hT with
  | odd t ht hk hd hs =>
    have hb := q false ⟨fun h => (by cases h), fun ⟨kvs, e, _⟩ => (by subst e; cases ht; rcases hk with h | h | h <;> exact absurd h (by decide))⟩
    refine .inr ?_
    change gIsi [dr C T, .ty "dict"] _
    rw [hd]
    refine ⟨t, false, ht, odd_kit hk, ?_⟩
    decreasing_trivial
    exact hb
  | @cell p o kx hc hx hl hs =>
    have hb := q false ⟨fun h => (by cases h), fun ⟨kvs, e, _⟩ => (by cases e)⟩
    refine .inl ⟨p, o, kx, "dict", true, ?_, hc, by decide +kernel, ?_⟩
    · rw [List.map_cons, dr_none hc]; rfl
    decreasing_trivial
    refine .inl ⟨p, o, kx, ?_, hc, ?_⟩
    · rw [List.map_cons, dr_none hc]; rfl
    decreasing_trivial
    refine g_lenDk (C := C) ?_
    decreasing_trivial
    refine i_ite (fun _ => ?_) fun h => ?_
    · decreasing_trivial
      exact hb
    · exfalso
      rw [lN, hl] at h
      simp at h
      omega
  | @tab kvs nd hl hv hs =>
    refine .inr ⟨"dict", true, rfl, by decide +kernel, ?_⟩
    decreasing_trivial
    refine .inr ?_
    refine g_lenDk (C := C) ?_
    decreasing_trivial
    refine g_lenDk (C := C) ?_
    decreasing_trivial
    refine i_ite (fun h => ?_) fun h => ?_
    · decreasing_trivial
      refine q false ⟨fun h => (by cases h), fun ⟨kvs', e, e2, _⟩ => ?_⟩
      cases D.dct.inj e
      rw [lN, e2] at h
      simp at h
    · have hl2 : kvs.length = N.length := by
        rw [lN] at h
        have h := h
        simp at h
        omega
      decreasing_trivial
      rw [show walkD .keys (tD nonD (tbF N F)) = N.map fun n => D.str n from by unfold walkD tD tbF; rw [List.map_map, List.map_map]; rfl]
      refine ⟨rfl, compXL_of N (fun n => D.str n) (fun n => .str n) (fun n => !(look (.inr n) kvs).isSome) (by omega) (fun n hn acc nxt g1 g2 g3 => ?_) ?_⟩
      · decreasing_trivial
        refine ⟨rfl, .inr n, rfl, ?_⟩
        decreasing_trivial
        refine ⟨rfl, i_ite (fun h => ?_) fun h => ?_⟩
        · have h' : (!(look (.inr n) kvs).isSome) = true := h
          decreasing_trivial
          exact ⟨rfl, g1, g2 h'⟩
        · have h' : (!(look (.inr n) kvs).isSome) = false := h
          exact g3 h'
      decreasing_trivial
      refine q _ ?_
      rw [if_neg Bool.false_ne_true, List.isEmpty_map, List.isEmpty_iff, List.filter_eq_nil_iff]
      constructor
      · intro h
        refine ⟨kvs, rfl, hl2, fun n hn => ?_⟩
        have := h n hn
        cases e : (look (.inr n) kvs).isSome with
        | true => rfl
        | false => rw [e] at this; exact absurd rfl this
      · rintro ⟨kvs', e, _, h⟩ n hn
        cases D.dct.inj e
        rw [h n hn]
        decide⟩
/-! _law_all_numbers -/
theorem pure__law_all_numbers : PU m__law_all_numbers 3 1 sp__law_all_numbers := fun ds C PR PX ⟨kvs, e, h1, nd, hv, q⟩ => ⟨by rw [e]; rfl, by
  subst e
  change m__law_all_numbers _ _ [.shr (.dct kvs), .non, .non] C
  unfold m__law_all_numbers
  have hz := sizeLine_eq
  decreasing_trivial
  have hw : walkD .keys kvs = kvs.map fun e => keyD e.1 := rfl
  refine forG_inv (fun i env C' => C' = C ∧ (∃ s1 s2, env = [.shr (.dct kvs), s1, s2]) ∧ ∀ j e, j < i → kvs[j]? = some e → numB e.2 = true ∧ e.2 ≠ .int 0) ⟨rfl, ⟨_, _, rfl⟩, fun j e h => absurd h (by omega)⟩ (fun _ _ _ _ => trivial) ?_ ?_
  · rintro i d env C' nx' hd ⟨rfl, ⟨s1, s2, rfl⟩, hi⟩ hx
    rw [hw, List.getElem?_map] at hd
    obtain ⟨⟨k, v⟩, hkv, rfl⟩ := Option.map_eq_some_iff.mp hd
    have hvv : ValN v := hv _ (List.mem_of_getElem? hkv)
    have hlk : look k kvs = some v := look_of' nd (List.mem_of_getElem? hkv)
    have hk : dkOf (keyD k) = some k := by cases k <;> rfl
    have no : ∀ b : Bool, b = false → ¬ (numB v = true ∧ v ≠ .int 0) → PR (.shr (.bl b)) C' := fun b hb hn => q b ⟨fun h => (by rw [hb] at h; cases h), fun h => absurd (h _ (List.mem_of_getElem? hkv)) hn⟩
    have yes : (numB v = true ∧ v ≠ .int 0) → ∀ s1 s2, nx' [.shr (.dct kvs), s1, s2] C' := fun h s1 s2 => hx _ _ ⟨rfl, ⟨_, _, rfl⟩, fun j e hj he => by
      by_cases z : j < i
      · exact hi j e z he
      · have : j = i := by omega
        subst this
        rw [hkv] at he
        cases he
        exact h⟩
    decreasing_trivial
    have drk : dr C' (keyD k) = keyD k := by cases k <;> rfl
    refine g_ixD (e := keyD k) (k := k) hk drk hlk ?_
    decreasing_trivial
    rcases hvv with ⟨x, rfl, hx2⟩ | rfl | rfl | rfl | rfl
    · cases x with
      | none =>
        rw [show nonD none = D.non from rfl] at yes ⊢
        decreasing_trivial
        refine g_is (e := .non) rfl ?_
        decreasing_trivial
        exact yes ⟨rfl, fun z => (by cases z)⟩ _ _
      | some n =>
        rw [show nonD (some n) = D.int n from rfl] at yes no ⊢
        decreasing_trivial
        refine g_is (e := .int n) rfl ?_
        decreasing_trivial
        refine ⟨"int", true, rfl, by decide +kernel, ?_⟩
        decreasing_trivial
        refine ⟨"int", false, rfl, by decide +kernel, ?_⟩
        decreasing_trivial
        rw [show truD (dr C' (D.bl false)) = some false from rfl]
        dsimp only
        rw [if_neg Bool.false_ne_true]
        decreasing_trivial
        refine i_ite (fun h => ?_) fun h => ?_
        · have h' : n = 0 := by simp at h; omega
          decreasing_trivial
          exact ⟨trivial, no false rfl fun z => z.2 (by rw [h']; rfl)⟩
        · have h' : n ≠ 0 := by simp at h; omega
          decreasing_trivial
          exact yes ⟨rfl, fun z => h' (Int.ofNat.inj (D.int.inj z))⟩ _ _
    · decreasing_trivial
      refine g_is (e := .bl true) rfl ?_
      decreasing_trivial
      refine ⟨"bool", true, rfl, by decide +kernel, ?_⟩
      decreasing_trivial
      refine ⟨"bool", true, rfl, by decide +kernel, ?_⟩
      decreasing_trivial
      exact ⟨trivial, no false rfl fun z => absurd z.1 (by decide)⟩
    · decreasing_trivial
      refine g_is (e := .str [49]) rfl ?_
      decreasing_trivial
      refine ⟨"str", false, rfl, by decide +kernel, ?_⟩
      decreasing_trivial
      exact ⟨trivial, no false rfl fun z => absurd z.1 (by decide)⟩
    · decreasing_trivial
      refine g_is (e := .lst [.int 1]) rfl ?_
      decreasing_trivial
      refine ⟨"list", false, rfl, by decide +kernel, ?_⟩
      decreasing_trivial
      exact ⟨trivial, no false rfl fun z => absurd z.1 (by decide)⟩
    · decreasing_trivial
      refine g_is (e := .dct []) rfl ?_
      decreasing_trivial
      refine ⟨"dict", false, rfl, by decide +kernel, ?_⟩
      decreasing_trivial
      exact ⟨trivial, no false rfl fun z => absurd z.1 (by decide)⟩
  · rintro env C' ⟨rfl, ⟨s1, s2, rfl⟩, hi⟩
    decreasing_trivial
    refine q true ⟨fun _ e he => ?_, fun _ => rfl⟩
    obtain ⟨j, hj⟩ := List.getElem?_of_mem he
    rw [hw, List.length_map] at hi
    exact hi j e (List.getElem?_eq_some_iff.mp hj).1 hj⟩
/-! law -/
theorem flt_cl30 {c : Cl} : ∀ {S : List Cl}, (S.map (·.nm)).Nodup → c ∈ S → S.filter (fun d => decide (d.nm = c.nm)) = [c]
  | d :: S, nd, hc => by
    rw [List.map_cons, List.nodup_cons] at nd
    rw [List.filter_cons]
    rcases List.mem_cons.mp hc with rfl | hc
    · rw [if_pos (decide_eq_true rfl)]
      congr 1
      rw [List.filter_eq_nil_iff]
      intro z hz ez
      exact nd.1 (by rw [show c.nm = z.nm from (of_decide_eq_true ez).symm]; exact List.mem_map_of_mem hz)
    · rw [if_neg (fun ez => nd.1 (by rw [show d.nm = c.nm from of_decide_eq_true ez]; exact List.mem_map_of_mem hc))]
      exact flt_cl30 nd.2 hc
theorem op_of30 {S : List Cl} (nd : (S.map (·.nm)).Nodup) : ∃ op : Txt → List Txt, ∀ c ∈ S, c.opts = op c.nm := by
  refine ⟨fun n => ((S.find? fun c => decide (c.nm = n)).map (·.opts)).getD [], fun c hc => ?_⟩
  have := flt_cl30 nd hc
  show c.opts = ((S.find? fun d => decide (d.nm = c.nm)).map (·.opts)).getD []
  rw [← List.head?_filter, this]; rfl
theorem cod30 {w n : Nat} {cd : List (Txt × Txt)} (h : ∀ e ∈ cd, e.1.length ≤ 12 ∧ (∀ c ∈ e.1, c < 128) ∧ e.2.length ≤ w ∧ ∀ c ∈ e.2, c < 128) (hl : cd.length ≤ n) : Shw 1 ((w + 14) * n) (.dct (tD D.str cd)) := by
  refine shw_kv (k := 0) (w := w) (n := n) (fun e he => ?_) (by unfold tD; rw [List.length_map]; exact hl)
  obtain ⟨x, hx, rfl⟩ := List.mem_map.mp he
  obtain ⟨h1, h2, h3, h4⟩ := h x hx
  exact ⟨shw_key h1 h2, shw_str h3 h4⟩
theorem none30 : ∀ {kx : List (Option Txt × Option Nat)}, (∀ e ∈ kx, (∀ t, e.1 = some t → t.length ≤ 12 ∧ ∀ c ∈ t, c < 128) ∧ ∀ k, e.2 = some k → k < 128) →
    PyData.showableKv (kx.map fun e => (keyPN e.1, numPN e.2)) = true ∧ PyData.leavesShortKv 103 (kx.map fun e => (keyPN e.1, numPN e.2)) = true ∧ PyData.depthKv (kx.map fun e => (keyPN e.1, numPN e.2)) ≤ 1 ∧ PyData.weightKv (kx.map fun e => (keyPN e.1, numPN e.2)) ≤ 60 * kx.length
  | [], _ => ⟨rfl, rfl, Nat.zero_le _, by simp [PyData.weightKv]⟩
  | (a, b) :: kx, h => by
    obtain ⟨h1, h2, h3, h4⟩ := none30 (kx := kx) fun e he => h e (List.mem_cons_of_mem _ he)
    obtain ⟨ha, hb⟩ := h (a, b) List.mem_cons_self
    have sa : ∃ d : D, toP d = keyPN a ∧ Shw 1 14 d := by
      cases a with
      | none => exact ⟨.non, rfl, (shw_non (k := 1)).mono (Nat.le_refl _) (by decide)⟩
      | some t => exact ⟨.str t, rfl, (shw_str (k := 1) (w := 12) (ha t rfl).1 (ha t rfl).2).mono (Nat.le_refl _) (by decide)⟩
    have sb : ∃ d : D, toP d = numPN b ∧ Shw 1 40 d := by
      refine ⟨nonD b, ?_, shw_nonD hb⟩
      cases b <;> rfl
    obtain ⟨da, ea, sa⟩ := sa
    obtain ⟨db, eb, sb⟩ := sb
    have a1 := sa.s
    have a2 := sa.l
    have a3 := sa.dp
    have a4 := sa.wt
    have b1 := sb.s
    have b2 := sb.l
    have b3 := sb.dp
    have b4 := sb.wt
    rw [ea] at a1 a2 a3 a4
    rw [eb] at b1 b2 b3 b4
    simp only [List.map_cons, PyData.showableKv, PyData.leavesShortKv, PyData.depthKv, PyData.weightKv]
    refine ⟨by rw [a1, b1, h1]; rfl, by rw [a2, b2, h2]; rfl, by omega, ?_⟩
    rw [List.length_cons, Nat.mul_succ]
    omega
theorem okPN30 {x y : D} {k w v : Nat} {kx : List (Option Txt × Option Nat)} (hx : Shw k w x) (hy : Shw k v y) (h : ∀ e ∈ kx, (∀ t, e.1 = some t → t.length ≤ 12 ∧ ∀ c ∈ t, c < 128) ∧ ∀ k, e.2 = some k → k < 128) (hk : k ≤ 38) (hw : w + v + 60 * kx.length ≤ 90000) (k1 : 2 ≤ k) : okPN (toPN x y kx) := by
  obtain ⟨h1, h2, h3, h4⟩ := none30 h
  have x1 := hx.s
  have x2 := hx.l
  have x3 := hx.dp
  have x4 := hx.wt
  have y1 := hy.s
  have y2 := hy.l
  have y3 := hy.dp
  have y4 := hy.wt
  unfold toPN
  refine ⟨?_, ?_, ?_⟩
  · simp only [PyData.showable, PyData.showableAll, x1, y1, h1]; rfl
  · simp only [PyData.depth, PyData.depthAll]; omega
  · have l : (PyData.tuple [toP x, toP y, .dict (kx.map fun e => (keyPN e.1, numPN e.2))]).leavesShort 103 = true := by simp only [PyData.leavesShort, PyData.leavesShortAll, x2, y2, h2]; rfl
    have wt : (PyData.tuple [toP x, toP y, .dict (kx.map fun e => (keyPN e.1, numPN e.2))]).weight ≤ 95000 := by simp only [PyData.weight, PyData.weightAll]; omega
    have h2 := PyData.shown_le 103 (by decide) _ l
    have h4 : (103 + 2) * (PyData.tuple [toP x, toP y, .dict (kx.map fun e => (keyPN e.1, numPN e.2))]).weight ≤ 105 * 95000 := Nat.mul_le_mul_left 105 wt
    have := sizeLine_eq
    omega
theorem tb30 (N : List Txt) (F : Txt → Option Nat) : (N.map fun n => ((Sum.inr n : DK), (match F n with | none => .non | some k => .int k : D))) = tD nonD (tbF N F) := by
  unfold tD tbF
  rw [List.map_map]
  refine List.map_congr_left fun n _ => ?_
  show ((Sum.inr n : DK), (match F n with | none => .non | some k => .int k : D)) = (Sum.inr n, nonD (F n))
  cases F n <;> rfl
theorem reaches30 {S : List Cl} {cd : List (Txt × Txt)} {op : Txt → List Txt} {C : Cs} {PR : Ret → Cs → Prop} {PX : XD → Cs → Prop} (h1 : S.length ≤ 60) (h2 : (S.map (·.nm)).Nodup) (h3 : ∀ c ∈ S, c.opts = op c.nm) (h4 : ∀ c ∈ S, c.opts.length ≤ 1000) (h5 : cd.length ≤ 1000) (h6 : (cd.map (·.1)).Nodup) (h7 : (cd.map (·.2)).Nodup) (h8 : ∀ e ∈ cd, e.1 ∈ S.map (·.nm))
    (h : ∀ F : Txt → Option Nat, (∀ n ∈ S.map (·.nm), ∀ k, F n = some k ↔ IsD op (fun o => L2.AS.lk o (cd.map fun e => (e.2, e.1))) n k) → PR (.frs (.dct (tD nonD (tbF (S.map (·.nm)) F)))) C) : sp__law_reaches [.lst (S.map clD), .dct (tD D.str cd)] C PR PX :=
  ⟨S, cd, op, rfl, h1, h2, h3, h4, h5, h6, h7, h8, fun F hF => by
    have e := congrArg (fun l => PR (.frs (.dct l)) C) (tb30 (S.map (·.nm)) F)
    exact cast e.symm (h F hF)⟩
theorem keys30 {N : List Txt} {kvs : List (DK × D)} (ndN : N.Nodup) (lK : kvs.length = N.length) (hlk : ∀ n ∈ N, (look (.inr n) kvs).isSome = true) : ∀ e ∈ kvs, ∃ n ∈ N, e.1 = .inr n := fun e he => by
  have h := all_in (l := N.map (Sum.inr : Txt → DK)) (N := kvs.map (·.1)) (L2.AS.nd_map ndN fun a b _ _ z => by injection z) (fun x hx => by
    obtain ⟨n, hn, rfl⟩ := List.mem_map.mp hx
    obtain ⟨d, hd⟩ := Option.isSome_iff_exists.mp (hlk n hn)
    exact List.mem_map.mpr ⟨_, look_mem hd, rfl⟩) (Nat.le_of_eq (by rw [List.length_map, List.length_map, lK])) e.1 (List.mem_map_of_mem he)
  obtain ⟨n, hn, e⟩ := List.mem_map.mp h
  exact ⟨n, hn, e.symm⟩
theorem rt30 {N : List Txt} {F : Txt → Option Nat} {kvs : List (DK × D)} (ndN : N.Nodup) (ndK : (kvs.map (·.1)).Nodup) (lK : kvs.length = N.length) (hlk : ∀ n ∈ N, (look (.inr n) kvs).isSome = true) (hv : ∀ e ∈ kvs, ValN e.2) :
    (∀ n ∈ N, look (.inr n) kvs = some (nonD (F n))) ↔ IsRt N F (.dct kvs) := by
  constructor
  · intro h
    have hk := keys30 ndN lK hlk
    obtain ⟨l, rfl⟩ := tab_of hv (fun e he => by obtain ⟨n, hn, e1⟩ := hk e he; rw [e1]; rfl) fun e he => by
      obtain ⟨n, hn, e1⟩ := hk e he
      have := look_of' ndK (show (e.1, e.2) ∈ kvs from he)
      rw [e1, h n hn] at this
      rw [← Option.some.inj this]
      exact nonD_num _
    refine ⟨l, rfl, tab_keys ndK, by rw [← lK]; unfold tD; rw [List.length_map], fun n hn => ?_⟩
    have := h n hn
    rw [look_tD] at this
    obtain ⟨x, hx, e⟩ := Option.map_eq_some_iff.mp this
    rw [hx, nonD_inj e]
  · rintro ⟨l, e, nl, hl, hh⟩ n hn
    cases D.dct.inj e
    rw [look_tD, hh n hn]; rfl
theorem ValN.dr {d : D} (h : ValN d) (C : Cs) : dr C d = d := by
  rcases h with ⟨v, rfl, h⟩ | rfl | rfl | rfl | rfl
  · cases v <;> rfl
  all_goals rfl
theorem pure_law : PU m_law 13 1 spLaw := fun ds C PR PX ⟨ns, e, hl, hb, q⟩ => ⟨by rw [e]; rfl, by
  subst e
  change m_law _ _ [.shr (.scr ns), .non, .non, .non, .non, .non, .non, .non, .non, .non, .non, .non, .non] C
  unfold m_law
  have hz := sizeLine_eq
  decreasing_trivial
  have hn : ∀ m : Nat, m ≤ 63 → (if (if (m : Int) < 3 then (m : Int) else 3) > 1 then (if (m : Int) < 3 then (m : Int) else 3) else 1 : Int) ≤ 3 := fun m hm => by split <;> split <;> omega
  generalize hj : (if (if (ns.length : Int) < 3 then (ns.length : Int) else 3) > 1 then (if (ns.length : Int) < 3 then (ns.length : Int) else 3) else 1 : Int) = j
  have hj4 : j ≤ 3 := by rw [← hj]; exact hn _ hl
  have hj2 : 1 ≤ j := by rw [← hj]; split <;> omega
  refine r_rng1 (by omega) ?_
  refine forL_inv (fun _ env _ => ∃ s1 s2 s3 s4 s5 s6 s7 s8 s9 s10 s11 s12, Ns s12 ∧ env = [.shr (.scr ns), s1, s2, s3, s4, s5, s6, s7, s8, s9, s10, s11, s12]) ⟨_, _, _, _, _, _, _, _, _, _, _, _, ns_non, rfl⟩ ?_ ?_
  · rintro k d env C1 nx' hd ⟨s1, s2, s3, s4, s5, s6, s7, s8, s9, s10, s11, s12, n12, rfl⟩ hx
    obtain ⟨rfl, hk⟩ := range_get hd
    decreasing_trivial
    refine ⟨ns, k, rfl, hl, by omega, hb, fun x y y0 y1 => ?_⟩
    refine ⟨false, by show (if 0 ≤ y ∧ y < 4294967296 then some false else none) = _; rw [if_pos ⟨y0, y1⟩], fun st hst => ?_⟩
    have hc : cput C1 st (.pur false) st = some (.pur false) := cput_same
    generalize cput C1 st (.pur false) = C2 at hc ⊢
    decreasing_trivial
    refine r_rng1 (by decide) ?_
    refine forL_inv (fun i env C' => C' st = some (.pur false) ∧ ∃ s3 s4 s5 s6 s7 s8 s9 s10 s11 s12, Ns s12 ∧ env = [.shr (.scr ns), .shr (.int k), .shr (.cell st), s3, s4, s5, s6, s7, s8, s9, s10, s11, s12]) ⟨hc, _, _, _, _, _, _, _, _, _, _, n12, rfl⟩ ?_ ?_
    · rintro i d env C3 nx2 hd ⟨hc3, s3, s4, s5, s6, s7, s8, s9, s10, s11, s12, n12, rfl⟩ hx2
      obtain ⟨rfl, hi4⟩ := range_get hd
      decreasing_trivial
      refine ⟨st, 8, rfl, hc3, by decide, fun S nd hS hU hzz => ?_⟩
      have hU1 : ∀ c ∈ S, ClN c := fun c h => (hU c h).toClN
      decreasing_trivial
      refine ⟨st, 9, rfl, hc3, by decide, by decide, fun j0 j00 j09 => ?_⟩
      decreasing_trivial
      refine ⟨st, _, _, rfl, hc3, .inl rfl, List.cons_ne_nil _ _, by show 3 ≤ 16777216; decide, fun d hd => ?_⟩
      obtain ⟨mx, rfl⟩ : ∃ m : Nat, d = .int m := by
        simp only [List.mem_cons, List.not_mem_nil, or_false] at hd
        rcases hd with rfl | rfl | rfl
        · exact ⟨9, rfl⟩
        · exact ⟨9, rfl⟩
        · exact ⟨j0.toNat, by rw [Int.toNat_of_nonneg j00]⟩
      decreasing_trivial
      refine ⟨st, S, mx, rfl, hc3, by omega, nd, hU1, fun cd ndk ndc hcd => ?_⟩
      decreasing_trivial
      -- what is drawn
      obtain ⟨op, hop⟩ := op_of30 nd
      have hcin : ∀ e ∈ cd, e.1 ∈ S.map (·.nm) := fun e he => by
        obtain ⟨c, hc, e1, _⟩ := hcd e he
        rw [← e1]; exact List.mem_map_of_mem hc
      have hcl : cd.length ≤ 8 := by
        have := L2.AS.nd_le ndk fun y hy => (by obtain ⟨e, he, rfl⟩ := List.mem_map.mp hy; exact hcin e he : y ∈ S.map (·.nm))
        rw [List.length_map, List.length_map] at this
        omega
      have hol : ∀ c ∈ S, c.opts.length ≤ 1000 := fun c h => Nat.le_trans (hU c h).l (by decide)
      have shS : Shw 3 8900 (.lst (S.map clD)) := by
        have clS : ∀ c ∈ S, Shw 2 1100 (clD c) := fun c hc => by
          have h := hU1 c hc
          have a1 : Shw 1 12 (.str c.nm) := shw_str (name_asc h.n).1 (name_asc h.n).2
          have a2 : Shw 1 2 (.tupT c.held) := by rw [h.h]; exact (Shws.tup (Shws.nil (k := 0) (w := 0))).tupT
          have a3 : Shw 1 (5 * 200 + 2) (.tupT c.opts) := (Shws.tup (shws_txs (k := 0) (m := 200) (w := 3) (fun t ht => ⟨(h.o t ht).1, fun z hz => by have := (h.o t ht).2 z hz; omega⟩) h.l)).tupT
          exact Shw.mono (k := 2) (Shws.tup (.cons a1 (.cons a2 (.cons a3 (Shws.nil (w := 0)))))) (Nat.le_refl _) (by decide)
        have a := Shws.lst (Shws.all (k := 2) (w := 1100) (ds := S.map clD) fun d hd => by
          obtain ⟨c, hc, rfl⟩ := List.mem_map.mp hd
          exact clS c hc)
        rw [List.length_map] at a
        exact a.mono (by decide) (by have : (1100 + 2) * S.length ≤ 1102 * 8 := Nat.mul_le_mul_left _ hS; omega)
      have shC : Shw 3 200 (.dct (tD D.str cd)) := (cod30 (w := 3) (n := 8) (cd := cd) (fun e he => by
          obtain ⟨c, hc, e1, e2⟩ := hcd e he
          have h := hU1 c hc
          have n1 := name_asc h.n
          rw [e1] at n1
          obtain ⟨o1, o2⟩ := h.o _ e2
          exact ⟨n1.1, n1.2, o1, fun z hz => by have := o2 z hz; omega⟩) hcl).mono (by decide) (by decide)
      refine reaches30 (by omega) nd hop hol (by omega) ndk ndc hcin fun F hF => ?_
      obtain ⟨N, hN⟩ : ∃ N, N = S.map (·.nm) := ⟨_, rfl⟩
      have hNl : N.length ≤ 8 := by rw [hN, List.length_map]; exact hS
      have ndN : N.Nodup := by rw [hN]; exact nd
      have nmN : ∀ n ∈ N, n.length ≤ 12 ∧ (∀ c ∈ n, c < 128) ∧ n ≠ [122, 122] := fun n hn => by
        rw [hN] at hn
        obtain ⟨c, hc, rfl⟩ := List.mem_map.mp hn
        exact ⟨(name_asc (hU1 c hc).n).1, (name_asc (hU1 c hc).n).2, hzz c hc⟩
      have Fb : ∀ n ∈ N, ∀ k, F n = some k → k ≤ 60 := fun n hn k hk => by
        have hown : ∀ o m, (fun o => L2.AS.lk o (cd.map fun e => (e.2, e.1))) o = some m → m ∈ N := fun o m h => by
          obtain ⟨e, he, ee⟩ := List.mem_map.mp (L2.AS.lk_mem h)
          have : m = e.1 := by injection ee with e1 e2; exact e2.symm
          rw [this, hN]; exact hcin e he
        rw [← hN] at hF
        obtain ⟨L, l1, l2, l3⟩ := reach_le hF hown hn hk
        have := L2.AS.nd_le l2 fun y hy => (l3 y hy).1
        omega
      rw [← hN]
      have lN : (tD nonD (tbF N F)).length = N.length := by unfold tD tbF; rw [List.length_map, List.length_map]
      have isTr : IsTab N F (tbF N F) := ⟨by unfold tbF; rw [List.length_map], fun n hn => lk_tbF hn⟩
      have rtR : IsRt N F (.dct (tD nonD (tbF N F))) := ⟨_, rfl, by rw [tbF_ks]; exact ndN, isTr⟩
      have keysN : (tD nonD (tbF N F)).map (·.1) = N.map Sum.inr := by unfold tD tbF; rw [List.map_map, List.map_map]; rfl
      have val : ∀ n ∈ N, ValN (nonD (F n)) := fun n hn => .inl ⟨F n, rfl, fun k hk => by have := Fb n hn k hk; omega⟩
      have tryOf : ∀ (l : L2.AS.Tb Txt (Option Nat)) (C : Cs), l.Perm (tbF N F) → TryN N.length C (.dct (tD nonD l)) := fun l C hp => by
        have hm : ∀ e ∈ tD nonD l, ∃ n ∈ N, e = (Sum.inr n, nonD (F n)) := fun e he => by
          obtain ⟨x, hx, rfl⟩ := List.mem_map.mp he
          obtain ⟨n, hn, rfl⟩ := List.mem_map.mp (hp.mem_iff.mp hx)
          exact ⟨n, hn, rfl⟩
        refine TryN.of (tD_nd ?_) ?_ (fun e he => ?_) fun e he => ?_
        · unfold L2.AS.ks
          refine (hp.map Prod.fst).nodup_iff.mpr ?_
          have := tbF_ks N F
          unfold L2.AS.ks at this
          rw [this]; exact ndN
        · unfold tD
          rw [List.length_map, hp.length_eq]
          unfold tbF
          rw [List.length_map]; omega
        · obtain ⟨n, hn, rfl⟩ := hm e he
          exact shw_key (nmN n hn).1 (nmN n hn).2.1
        · obtain ⟨n, hn, rfl⟩ := hm e he
          exact val n hn
      have eI : itemsL (tD nonD (tbF N F)) = (tbF N F).map fun x => D.tup [dkD (.inr x.1), nonD x.2] := by
        unfold itemsL tD; rw [List.map_map]; rfl
      decreasing_trivial
      refine i_stepL ?_
      decreasing_trivial
      refine ⟨_, rfl, ?_⟩
      decreasing_trivial
      refine ⟨_, -1, rfl, rfl, .inr rfl, ?_⟩
      rw [if_neg (by decide), eI, ← List.map_reverse]
      decreasing_trivial
      refine g_dictPM (k := fun x : Txt × Option Nat => (Sum.inr x.1 : DK)) (v := fun x => nonD x.2) ?_ ?_
      · rw [List.map_reverse]
        refine (List.reverse_perm _).nodup_iff.mpr ?_
        have := keysN
        unfold tD at this
        rw [List.map_map] at this
        rw [show ((tbF N F).map fun x => (Sum.inr x.1 : DK)) = N.map Sum.inr from this]
        exact L2.AS.nd_map ndN fun a b _ _ z => by injection z
      obtain ⟨B, hB⟩ : ∃ B, B = (tbF N F).reverse := ⟨_, rfl⟩
      have pB : B.Perm (tbF N F) := by rw [hB]; exact List.reverse_perm _
      have ndB : (L2.AS.ks B).Nodup := by
        unfold L2.AS.ks
        refine (pB.map Prod.fst).nodup_iff.mpr ?_
        have := tbF_ks N F
        unfold L2.AS.ks at this
        rw [this]; exact ndN
      have rtB : IsRt N F (.dct (tD nonD B)) := ⟨B, rfl, ndB, by rw [pB.length_eq]; exact isTr.1, fun n hn => by
        refine L2.AS.lk_of ndB (pB.mem_iff.mpr ?_)
        exact List.mem_map.mpr ⟨n, hn, rfl⟩⟩
      have isr : ∀ (T : D) (C : Cs), TryN N.length C T → ∀ (PR' : Ret → Cs → Prop) (PX' : XD → Cs → Prop), (∀ b : Bool, (b = true ↔ IsRt N F T) → PR' (.shr (.bl b)) C) → sp_is_reaches [.lst (S.map clD), .dct (tD D.str cd), T] C PR' PX' := fun T C hT PR' PX' h =>
        ⟨S, cd, op, F, T, rfl, by omega, nd, hop, hol, by omega, ndc, hcin, hF, ⟨N.length, by omega, hT⟩, fun b hb => h b (by rw [hN]; exact hb)⟩
      have bst : ∀ (l : L2.AS.Tb Txt (Option Nat)) (C : Cs), (∀ n ∈ N, (L2.AS.lk n l).isSome = true) → ∀ (PR' : Ret → Cs → Prop) (PX' : XD → Cs → Prop), (∀ b : Bool, (b = true ↔ ∀ n ∈ N, L2.AS.lk n l = some (F n)) → PR' (.shr (.bl b)) C) → sp__law_by_steps [.lst (S.map clD), .dct (tD D.str cd), .dct (tD nonD l)] C PR' PX' := fun l C hl PR' PX' h =>
        ⟨S, cd, op, F, l, rfl, by omega, nd, hop, hol, by omega, ndk, ndc, hcin, hF, by rw [← hN]; exact hl, fun b hb => h b (by rw [hN]; exact hb)⟩
      rw [show ((tbF N F).reverse.map fun x => ((Sum.inr x.1 : DK), nonD x.2)) = tD nonD B from by rw [hB]; rfl]
      decreasing_trivial
      refine isr _ _ (tryOf _ _ (List.Perm.refl _)) _ _ fun b hb => ?_
      have := hb.mpr rtR
      subst this
      decreasing_trivial
      refine g_isB (b := true) (c := true) ?_
      refine ⟨_, rfl, ?_⟩
      refine i_ite (fun h => absurd h (by decide)) fun _ => ?_
      decreasing_trivial
      refine isr _ _ (tryOf _ _ pB) _ _ fun b hb => ?_
      have := hb.mpr rtB
      subst this
      decreasing_trivial
      refine g_isB (b := true) (c := true) ?_
      refine ⟨_, rfl, ?_⟩
      refine i_ite (fun h => absurd h (by decide)) fun _ => ?_
      decreasing_trivial
      refine bst _ _ (fun n hn => by rw [lk_tbF hn]; rfl) _ _ fun b hb => ?_
      have := hb.mpr fun n hn => lk_tbF hn
      subst this
      decreasing_trivial
      refine ⟨[], [], fun _ => [], F, .dct [], rfl, by simp, by simp, fun c hc => (by cases hc), fun c hc => (by cases hc), by simp, by simp, fun c hc => (by cases hc), fun c hc => (by cases hc), ⟨0, by decide, TryN.of (by simp) (by simp) (fun e he => (by cases he)) fun e he => (by cases he)⟩, fun b hb => ?_⟩
      have := hb.mpr ⟨[], rfl, List.nodup_nil, rfl, fun n hn => (by cases hn)⟩
      subst this
      decreasing_trivial
      refine g_isB (b := true) (c := true) ?_
      refine ⟨_, rfl, ?_⟩
      refine i_ite (fun h => absurd h (by decide)) fun _ => ?_
      decreasing_trivial
      have rp : ∀ (C : Cs) (T : D), TryN N.length C T → ∃ tx : Txt, ∀ P : D → Prop, P (.str tx) → (gReprN C ([D.tup [.lst (S.map clD), .dct (tD D.str cd), T]].map (dr C)) P ∨ gRepr ([D.tup [.lst (S.map clD), .dct (tD D.str cd), T]].map (dr C)) P) := fun C T hT => by
        have tp : ∀ T, Shw 2 800 T → shOk (.tup [.lst (S.map clD), .dct (tD D.str cd), T]) := fun T h => (Shws.tup (.cons shS (.cons shC (.cons (h.mono (k' := 3) (by decide) (Nat.le_refl _)) (Shws.nil (w := 0)))))).ok (by decide) (by decide)
        cases hT with
        | odd t ht hk hd hs => exact ⟨_, fun P h => .inr (g_repr rfl (tp _ hs) h)⟩
        | @cell p o kx hcp hx hl hs => exact ⟨_, fun P h => .inl ⟨p, o, kx, _, _, rfl, hcp, shS.r, shC.r, okPN30 shS shC hs (by decide) (by omega) (by decide), h⟩⟩
        | @tab kvs nd' hl hv hs => exact ⟨_, fun P h => .inr (g_repr rfl (tp _ hs) h)⟩
      have shB : ∀ b : Bool, shOk (.bl b) := fun b => (shw_bl (k := 0) b).ok (by decide) (by decide)
      refine r_rng1 (by decide) ?_
      refine forL_inv (fun _ env C' => C' st = some (.pur false) ∧ ∃ s8 s9 s10 s11 s12, Ns s12 ∧ env = [.shr (.scr ns), .shr (.int k), .shr (.cell st), .shr (.int i), .shr (.lst (S.map clD)), .shr (.dct (tD D.str cd)), .shr (.dct (tD nonD (tbF N F))), .shr (.dct (tD nonD B)), s8, s9, s10, s11, s12]) ⟨hc3, _, _, _, _, _, n12, rfl⟩ ?_ ?_
      · rintro i2 d env C4 nx3 hd ⟨hc4, s8, s9, s10, s11, s12, n12, rfl⟩ hx3
        obtain ⟨rfl, hi6⟩ := range_get hd
        decreasing_trivial
        refine ⟨st, N, F, rfl, hc4, hNl, ndN, nmN, Fb, fun r C5 hT hc5 => ?_⟩
        generalize hTr : r.tree = T at hT
        decreasing_trivial
        rw [hTr]
        obtain ⟨tx, htx⟩ := rp C5 T hT
        refine htx _ ?_
        decreasing_trivial
        refine ⟨N, F, T, rfl, by omega, hT, fun b hb => ?_⟩
        decreasing_trivial
        refine i_join (fun env' C' => C' = C5 ∧ ∃ due s12, Ns s12 ∧ (due = true ↔ IsRt N F T) ∧ env' = [.shr (.scr ns), .shr (.int k), .shr (.cell st), .shr (.int i), .shr (.lst (S.map clD)), .shr (.dct (tD D.str cd)), .shr (.dct (tD nonD (tbF N F))), .shr (.dct (tD nonD B)), .shr (.int i2), .shr T, .shr (.str tx), .shr (.bl due), s12]) ?_ (fun h nx' hx' => ?_) (fun h nx' hx' => ?_)
        · rintro env' C' ⟨rfl, due, s12, n12, hdue, rfl⟩
          decreasing_trivial
          refine isr _ _ hT _ _ fun b2 hb2 => ?_
          have : b2 = due := Bool.eq_iff_iff.mpr (hb2.trans hdue.symm)
          subst this
          decreasing_trivial
          refine g_repr rfl (shB _) ?_
          decreasing_trivial
          refine g_repr rfl (shB _) ?_
          decreasing_trivial
          refine i_ite (fun h => absurd h (by simp)) fun _ => ?_
          decreasing_trivial
          refine htx _ ?_
          decreasing_trivial
          refine i_ite (fun h => absurd h (by simp)) fun _ => ?_
          decreasing_trivial
          exact hx3 _ _ ⟨hc5, _, _, _, _, _, n12, rfl⟩
        · obtain ⟨kvs, eK, lK, hlk⟩ := hb.mp h
          subst eK
          obtain ⟨ndK, hv⟩ : (kvs.map (·.1)).Nodup ∧ ∀ e ∈ kvs, ValN e.2 := by
            cases hT with
            | odd t ht hk hd hs => cases ht; rcases hk with h | h | h <;> exact absurd h (by decide)
            | tab nd' hl hv hs => exact ⟨nd', hv⟩
          have hval : ∀ n ∈ N, ∃ d, look (.inr n) kvs = some d ∧ ValN d := fun n hn => by
            obtain ⟨d, hd⟩ := Option.isSome_iff_exists.mp (hlk n hn)
            exact ⟨d, hd, hv _ (look_mem hd)⟩
          have lkR : ∀ n ∈ N, look (.inr n) (tD nonD (tbF N F)) = some (nonD (F n)) := fun n hn => by rw [look_tD, lk_tbF hn]; rfl
          have dueIff : (((N.filter fun n => !decide (shT ((look (.inr n) kvs).getD .non) = shT (nonD (F n)))).map fun n => D.str n).isEmpty = true) ↔ IsRt N F (.dct kvs) := by
            rw [← rt30 ndN ndK lK hlk hv, List.isEmpty_map, List.isEmpty_iff, List.filter_eq_nil_iff]
            constructor
            · intro h n hn
              have h := h n hn
              obtain ⟨d, hd, vd⟩ := hval n hn
              rw [hd] at h ⊢
              have h : shT d = shT (nonD (F n)) := by simpa using h
              rw [shT_num vd (fun k hk => by have := Fb n hn k hk; omega) h]
            · intro h n hn
              rw [h n hn]
              simp
          decreasing_trivial
          rw [show walkD .keys (tD nonD (tbF N F)) = N.map fun n => D.str n from by unfold walkD tD tbF; rw [List.map_map, List.map_map]; rfl]
          refine ⟨by rcases n12 with rfl | ⟨d, rfl⟩ <;> rfl, compXL_of N (fun n => D.str n) (fun n => .str n) (fun n => !decide (shT ((look (.inr n) kvs).getD .non) = shT (nonD (F n)))) (by omega) (fun n hn acc nxt g1 g2 g3 => ?_) ?_⟩
          · obtain ⟨d, hd, vd⟩ := hval n hn
            decreasing_trivial
            refine ⟨by rcases n12 with rfl | ⟨d, rfl⟩ <;> rfl, ?_⟩
            refine g_ixD (e := .str n) (k := .inr n) rfl rfl hd ?_
            decreasing_trivial
            refine g_repr (vd.dr _) (vd.sh.ok (by decide) (by decide)) ?_
            decreasing_trivial
            refine g_ixD (e := .str n) (k := .inr n) rfl rfl (lkR n hn) ?_
            decreasing_trivial
            refine g_repr ((val n hn).dr _) ((val n hn).sh.ok (by decide) (by decide)) ?_
            decreasing_trivial
            have eg : (look (.inr n) kvs).getD .non = d := by rw [hd]; rfl
            refine ⟨rfl, i_ite (fun h => ?_) fun h => ?_⟩
            · have h' : (!decide (shT ((look (.inr n) kvs).getD .non) = shT (nonD (F n)))) = true := by rw [eg]; exact h
              decreasing_trivial
              exact ⟨rfl, g1, g2 h'⟩
            · have h' : (!decide (shT ((look (.inr n) kvs).getD .non) = shT (nonD (F n)))) = false := by rw [eg]; exact h
              exact g3 h'
          decreasing_trivial
          rw [if_neg Bool.false_ne_true]
          generalize (((N.filter fun n => !decide (shT ((look (.inr n) kvs).getD .non) = shT (nonD (F n)))).map fun n => D.str n).isEmpty) = due at dueIff ⊢
          have fin : ∀ s12, Ns s12 → nx' [.shr (.scr ns), .shr (.int k), .shr (.cell st), .shr (.int i), .shr (.lst (S.map clD)), .shr (.dct (tD D.str cd)), .shr (.dct (tD nonD (tbF N F))), .shr (.dct (tD nonD B)), .shr (.int i2), .shr (.dct kvs), .shr (.str tx), .shr (.bl due), s12] C5 := fun s12 n12 => hx' _ _ ⟨rfl, due, s12, n12, dueIff, rfl⟩
          refine ⟨kvs, rfl, by omega, ndK, hv, fun b2 hb2 => ?_⟩
          decreasing_trivial
          refine i_ite (fun h2 => ?_) fun h2 => ?_
          · have hk := keys30 ndN lK hlk
            obtain ⟨l, rfl⟩ := tab_of hv (fun e he => by obtain ⟨n, hn, e1⟩ := hk e he; rw [e1]; rfl) fun e he => ((hb2.mp h2) e he).1
            decreasing_trivial
            refine bst _ _ (fun n hn => by
              have := hlk n hn
              rw [look_tD] at this
              cases e : L2.AS.lk n l with
              | none => rw [e] at this; cases this
              | some z => rfl) _ _ fun b3 hb3 => ?_
            have : b3 = due := Bool.eq_iff_iff.mpr (hb3.trans (Iff.trans ⟨fun h => ⟨l, rfl, tab_keys ndK, by rw [← lK]; unfold tD; rw [List.length_map], h⟩, fun h => ((tab_isRt (tab_keys ndK)).mp h).2⟩ dueIff.symm))
            subst this
            decreasing_trivial
            refine g_neSame' (by cases b3 <;> rfl) rfl ?_
            decreasing_trivial
            exact fin _ n12
          · decreasing_trivial
            exact fin _ n12
        · have hn : ¬ IsRt N F T := fun ⟨l, e, nl, ht⟩ => by
            have := hb.mpr ⟨tD nonD l, e, by rw [← ht.1]; unfold tD; rw [List.length_map], fun n hn => by rw [look_tD, ht.2 n hn]; rfl⟩
            rw [h] at this; cases this
          decreasing_trivial
          exact hx' _ _ ⟨rfl, false, s12, n12, ⟨fun h => (by cases h), fun h => absurd h hn⟩, rfl⟩
      · rintro env C4 ⟨hc4, s8, s9, s10, s11, s12, n12, rfl⟩
        decreasing_trivial
        exact hx2 _ _ ⟨hc4, _, _, _, _, _, _, _, _, _, _, n12, rfl⟩
    · rintro env C2 ⟨hc, s3, s4, s5, s6, s7, s8, s9, s10, s11, s12, n12, rfl⟩
      exact hx _ _ ⟨_, _, _, _, _, _, _, _, _, _, _, _, n12, rfl⟩
  · rintro env C1 ⟨s1, s2, s3, s4, s5, s6, s7, s8, s9, s10, s11, s12, n12, rfl⟩
    decreasing_trivial
    exact q _⟩
end
theorem law_me (ns : List Int) (h : ns.length ≤ 63) (hb : ∀ z ∈ ns, Builtin.Int.intBits z ≤ 1048576) : LawSp spLaw ns := ⟨ns, rfl, h, hb, fun _ => rfl⟩
end L2.DL
namespace L2.DL
open PySem PySem.Spec PyProof.Rows
section
variable [Cad] {P : Program} {w : World} {K : PySem.W.Frag} {mg : Str → Option Value} {base : Heap}
theorem ok__law_stream {f : Addr} {fd : FuncData} (F : Fun K "_law_stream" "_law_stream" st__law_stream f fd) (T : Gls K mg) (hbase : ∃ o, base.get? sysModules = some o)  : DFn P w K mg base 1 f fd ["_law_script", "_law_start"] sp__law_stream :=
  dfn_ok F sc__law_stream (fun cdv A fr s H E gd hr => b__law_stream T hbase  gd hr) (by decide) pure__law_stream
theorem ok__law_draw {f : Addr} {fd : FuncData} (F : Fun K "_law_draw" "_law_draw" st__law_draw f fd) (T : Gls K mg) (hbase : ∃ o, base.get? sysModules = some o) : DFn P w K mg base 1 f fd ["_law_stream_here", "_law_size"] sp__law_draw :=
  dfn_draw F sc__law_draw (fun cdv A fr s H E gd hr => b__law_draw T hbase gd hr) (by decide) pure__law_draw
theorem ok__law_choose {f : Addr} {fd : FuncData} (F : Fun K "_law_choose" "_law_choose" st__law_choose f fd) (T : Gls K mg) (hbase : ∃ o, base.get? sysModules = some o) (c__law_draw : Cle P w K mg base 1 "_law_draw" sp__law_draw) : DFn P w K mg base 2 f fd ["_law_stream_here", "_law_rows"] sp__law_choose :=
  dfn_ok F sc__law_choose (fun cdv A fr s H E gd hr => b__law_choose T hbase c__law_draw gd hr) (by decide) pure__law_choose
theorem ok__law_word {f : Addr} {fd : FuncData} (F : Fun K "_law_word" "_law_word" st__law_word f fd) (T : Gls K mg) (hbase : ∃ o, base.get? sysModules = some o) (c__law_draw : Cle P w K mg base 1 "_law_draw" sp__law_draw) (c__law_choose : Cle P w K mg base 2 "_law_choose" sp__law_choose) : DFn P w K mg base 3 f fd ["_law_stream_here", "_law_letters", "_law_most"] sp__law_word :=
  dfn_ok F sc__law_word (fun cdv A fr s H E gd hr => b__law_word T hbase c__law_draw c__law_choose gd hr) (by decide) pure__law_word
theorem ok__law_shuffled {f : Addr} {fd : FuncData} (F : Fun K "_law_shuffled" "_law_shuffled" st__law_shuffled f fd) (T : Gls K mg) (hbase : ∃ o, base.get? sysModules = some o) (c__law_draw : Cle P w K mg base 1 "_law_draw" sp__law_draw) : DFn P w K mg base 2 f fd ["_law_stream_here", "_law_rows"] sp__law_shuffled :=
  dfn_ok F sc__law_shuffled (fun cdv A fr s H E gd hr => b__law_shuffled T hbase c__law_draw gd hr) (by decide) pure__law_shuffled
theorem ok__law_words {f : Addr} {fd : FuncData} (F : Fun K "_law_words" "_law_words" st__law_words f fd) (T : Gls K mg) (hbase : ∃ o, base.get? sysModules = some o) (c__law_word : Cle P w K mg base 3 "_law_word" sp__law_word) (c__law_shuffled : Cle P w K mg base 2 "_law_shuffled" sp__law_shuffled) : DFn P w K mg base 4 f fd ["_law_stream_here", "_law_amount", "_law_letters", "_law_most"] sp__law_words :=
  dfn_ok F sc__law_words (fun cdv A fr s H E gd hr => b__law_words T hbase c__law_word c__law_shuffled gd hr) (by decide) pure__law_words
theorem ok__law_spellings {f : Addr} {fd : FuncData} (F : Fun K "_law_spellings" "_law_spellings" st__law_spellings f fd) (T : Gls K mg) (hbase : ∃ o, base.get? sysModules = some o)  : DFn P w K mg base 1 f fd ["_law_word_here", "_law_size"] sp__law_spellings :=
  dfn_ok F sc__law_spellings (fun cdv A fr s H E gd hr => b__law_spellings T hbase  gd hr) (by decide) pure__law_spellings
theorem ok__law_claims {f : Addr} {fd : FuncData} (F : Fun K "_law_claims" "_law_claims" st__law_claims f fd) (T : Gls K mg) (hbase : ∃ o, base.get? sysModules = some o) (c__law_choose : Cle P w K mg base 2 "_law_choose" sp__law_choose) (c__law_draw : Cle P w K mg base 1 "_law_draw" sp__law_draw) (c__law_words : Cle P w K mg base 4 "_law_words" sp__law_words) (c__law_spellings : Cle P w K mg base 1 "_law_spellings" sp__law_spellings) : DFn P w K mg base 5 f fd ["_law_stream_here", "_law_amount"] sp__law_claims :=
  dfn_ok F sc__law_claims (fun cdv A fr s H E gd hr => b__law_claims T hbase c__law_choose c__law_draw c__law_words c__law_spellings gd hr) (by decide) pure__law_claims
theorem ok__law_coding {f : Addr} {fd : FuncData} (F : Fun K "_law_coding" "_law_coding" st__law_coding f fd) (T : Gls K mg) (hbase : ∃ o, base.get? sysModules = some o) (c__law_shuffled : Cle P w K mg base 2 "_law_shuffled" sp__law_shuffled) (c__law_choose : Cle P w K mg base 2 "_law_choose" sp__law_choose) : DFn P w K mg base 3 f fd ["_law_stream_here", "_law_claims_here", "_law_most"] sp__law_coding :=
  dfn_ok F sc__law_coding (fun cdv A fr s H E gd hr => b__law_coding T hbase c__law_shuffled c__law_choose gd hr) (by decide) pure__law_coding
theorem ok__law_owner {f : Addr} {fd : FuncData} (F : Fun K "_law_owner" "_law_owner" st__law_owner f fd) (T : Gls K mg) (hbase : ∃ o, base.get? sysModules = some o)  : DFn P w K mg base 1 f fd ["_law_coding_here", "_law_code"] sp__law_owner :=
  dfn_ok F sc__law_owner (fun cdv A fr s H E gd hr => b__law_owner T hbase  gd hr) (by decide) pure__law_owner
theorem ok__law_reaches {f : Addr} {fd : FuncData} (F : Fun K "_law_reaches" "_law_reaches" st__law_reaches f fd) (T : Gls K mg) (hbase : ∃ o, base.get? sysModules = some o) (c__law_owner : Cle P w K mg base 1 "_law_owner" sp__law_owner) : DFn P w K mg base 2 f fd ["_law_claims_here", "_law_coding_here"] sp__law_reaches :=
  dfn_ok F sc__law_reaches (fun cdv A fr s H E gd hr => b__law_reaches T hbase c__law_owner gd hr) (by decide) pure__law_reaches
theorem ok_owners_of {f : Addr} {fd : FuncData} (F : Fun K "owners_of" "owners_of" st_owners_of f fd) (T : Gls K mg) (hbase : ∃ o, base.get? sysModules = some o)  : DFn P w K mg base 1 f fd ["coding"] sp_owners_of :=
  dfn_ok F sc_owners_of (fun cdv A fr s H E gd hr => b_owners_of T hbase  gd hr) (by decide) pure_owners_of
theorem ok_reaches {f : Addr} {fd : FuncData} (F : Fun K "reaches" "reaches" st_reaches f fd) (T : Gls K mg) (hbase : ∃ o, base.get? sysModules = some o) (c_owners_of : Cle P w K mg base 1 "owners_of" sp_owners_of) : DFn P w K mg base 2 f fd ["situation", "coding"] sp_reaches :=
  dfn_ok F sc_reaches (fun cdv A fr s H E gd hr => b_reaches T hbase c_owners_of gd hr) (by decide) pure_reaches
theorem ok_is_reaches {f : Addr} {fd : FuncData} (F : Fun K "is_reaches" "is_reaches" st_is_reaches f fd) (T : Gls K mg) (hbase : ∃ o, base.get? sysModules = some o) (c_reaches : Cle P w K mg base 2 "reaches" sp_reaches) : DFn P w K mg base 3 f fd ["situation", "coding", "value"] sp_is_reaches :=
  dfn_ok F sc_is_reaches (fun cdv A fr s H E gd hr => b_is_reaches T hbase c_reaches gd hr) (by decide) pure_is_reaches
theorem ok__law_by_steps {f : Addr} {fd : FuncData} (F : Fun K "_law_by_steps" "_law_by_steps" st__law_by_steps f fd) (T : Gls K mg) (hbase : ∃ o, base.get? sysModules = some o) (c__law_owner : Cle P w K mg base 1 "_law_owner" sp__law_owner) : DFn P w K mg base 2 f fd ["_law_claims_here", "_law_coding_here", "_law_tried"] sp__law_by_steps :=
  dfn_ok F sc__law_by_steps (fun cdv A fr s H E gd hr => b__law_by_steps T hbase c__law_owner gd hr) (by decide) pure__law_by_steps
theorem ok__law_bent {f : Addr} {fd : FuncData} (F : Fun K "_law_bent" "_law_bent" st__law_bent f fd) (T : Gls K mg) (hbase : ∃ o, base.get? sysModules = some o) (c__law_draw : Cle P w K mg base 1 "_law_draw" sp__law_draw) (c__law_choose : Cle P w K mg base 2 "_law_choose" sp__law_choose) : DFn P w K mg base 3 f fd ["_law_stream_here", "_law_right"] sp__law_bent :=
  dfn_ok F sc__law_bent (fun cdv A fr s H E gd hr => b__law_bent T hbase c__law_draw c__law_choose gd hr) (by decide) pure__law_bent
theorem ok__law_has_names {f : Addr} {fd : FuncData} (F : Fun K "_law_has_names" "_law_has_names" st__law_has_names f fd) (T : Gls K mg) (hbase : ∃ o, base.get? sysModules = some o)  : DFn P w K mg base 1 f fd ["_law_tried", "_law_right"] sp__law_has_names :=
  dfn_ok F sc__law_has_names (fun cdv A fr s H E gd hr => b__law_has_names T hbase  gd hr) (by decide) pure__law_has_names
theorem ok__law_all_numbers {f : Addr} {fd : FuncData} (F : Fun K "_law_all_numbers" "_law_all_numbers" st__law_all_numbers f fd) (T : Gls K mg) (hbase : ∃ o, base.get? sysModules = some o)  : DFn P w K mg base 1 f fd ["_law_tried"] sp__law_all_numbers :=
  dfn_ok F sc__law_all_numbers (fun cdv A fr s H E gd hr => b__law_all_numbers T hbase  gd hr) (by decide) pure__law_all_numbers
theorem ok_law {f : Addr} {fd : FuncData} (F : Fun K "law" "law" st_law f fd) (T : Gls K mg) (hbase : ∃ o, base.get? sysModules = some o) (c__law_stream : Cle P w K mg base 1 "_law_stream" sp__law_stream) (c__law_claims : Cle P w K mg base 5 "_law_claims" sp__law_claims) (c__law_coding : Cle P w K mg base 3 "_law_coding" sp__law_coding) (c__law_choose : Cle P w K mg base 2 "_law_choose" sp__law_choose) (c__law_draw : Cle P w K mg base 1 "_law_draw" sp__law_draw) (c__law_reaches : Cle P w K mg base 2 "_law_reaches" sp__law_reaches) (c_is_reaches : Cle P w K mg base 3 "is_reaches" sp_is_reaches) (c__law_by_steps : Cle P w K mg base 2 "_law_by_steps" sp__law_by_steps) (c__law_bent : Cle P w K mg base 3 "_law_bent" sp__law_bent) (c__law_has_names : Cle P w K mg base 1 "_law_has_names" sp__law_has_names) (c__law_all_numbers : Cle P w K mg base 1 "_law_all_numbers" sp__law_all_numbers) : DFn P w K mg base 6 f fd ["_law_script"] spLaw :=
  dfn_ok F sc_law (fun cdv A fr s H E gd hr => b_law T hbase c__law_stream c__law_claims c__law_coding c__law_choose c__law_draw c__law_reaches c_is_reaches c__law_by_steps c__law_bent c__law_has_names c__law_all_numbers gd hr) (by decide) pure_law
end
end L2.DL
namespace L2.DL
open PySem PySem.Spec PyProof.Rows
theorem all_mk {l : PySem.W.OpenLaw} {w : World} {K : PySem.W.Frag} {h : Heap} {mg : Str → Option Value} {fa : Addr} {f1 f2 f3 f4 f5 f6 f7 f8 f9 f10 f11 f12 f13 f14 f15 f16 f17 f18 f19 : Addr} (KX : K.In h) (G : h.Ns mainGlobals mg) (hfa : mg "law" = some (.ref fa))
    {od1 an1 od2 an2 od3 an3 od4 an4 od5 an5 od6 an6 od7 an7 od8 an8 od9 an9 od10 an10 od11 an11 od12 an12 od13 an13 od14 an14 od15 an15 od16 an16 od17 an17 od18 an18 od19 an19 : Option Addr} {sl1 sl2 sl3 sl4 sl5 sl6 sl7 sl8 sl9 sl10 sl11 sl12 sl13 sl14 sl15 sl16 sl17 sl18 sl19 : Array (Option Value)} {oc1 kV1 dc1 pm1 cd1 ct1 oc2 kV2 dc2 pm2 cd2 ct2 oc3 kV3 dc3 pm3 cd3 ct3 oc4 kV4 dc4 pm4 cd4 ct4 oc5 kV5 dc5 pm5 cd5 ct5 oc6 kV6 dc6 pm6 cd6 ct6 oc7 kV7 dc7 pm7 cd7 ct7 oc8 kV8 dc8 pm8 cd8 ct8 oc9 kV9 dc9 pm9 cd9 ct9 oc10 kV10 dc10 pm10 cd10 ct10 oc11 kV11 dc11 pm11 cd11 ct11 oc12 kV12 dc12 pm12 cd12 ct12 oc13 kV13 dc13 pm13 cd13 ct13 oc14 kV14 dc14 pm14 cd14 ct14 oc15 kV15 dc15 pm15 cd15 ct15 oc16 kV16 dc16 pm16 cd16 ct16 oc17 kV17 dc17 pm17 cd17 ct17 oc18 kV18 dc18 pm18 cd18 ct18 oc19 kV19 dc19 pm19 cd19 ct19 : Value} 
    (a1 : PySem.W.nsIn K mainGlobals "_law_stream" = some (some (.ref f1)))
    (l1 : K.lookup f1 = some ⟨oc1, od1, .func (PySem.W.fnOf "_law_stream" "_law_stream" (defArgs st__law_stream) (defBody st__law_stream) (defScope st__law_stream) .none kV1 dc1 pm1 an1 cd1 ct1), sl1⟩)
    (d1 : PySem.W.codeIn K cd1 "_law_stream" = true)
    (k1 : PySem.W.keepIn K (.ref f1) = true)
    (a2 : PySem.W.nsIn K mainGlobals "_law_draw" = some (some (.ref f2)))
    (l2 : K.lookup f2 = some ⟨oc2, od2, .func (PySem.W.fnOf "_law_draw" "_law_draw" (defArgs st__law_draw) (defBody st__law_draw) (defScope st__law_draw) .none kV2 dc2 pm2 an2 cd2 ct2), sl2⟩)
    (d2 : PySem.W.codeIn K cd2 "_law_draw" = true)
    (k2 : PySem.W.keepIn K (.ref f2) = true)
    (a3 : PySem.W.nsIn K mainGlobals "_law_choose" = some (some (.ref f3)))
    (l3 : K.lookup f3 = some ⟨oc3, od3, .func (PySem.W.fnOf "_law_choose" "_law_choose" (defArgs st__law_choose) (defBody st__law_choose) (defScope st__law_choose) .none kV3 dc3 pm3 an3 cd3 ct3), sl3⟩)
    (d3 : PySem.W.codeIn K cd3 "_law_choose" = true)
    (k3 : PySem.W.keepIn K (.ref f3) = true)
    (a4 : PySem.W.nsIn K mainGlobals "_law_word" = some (some (.ref f4)))
    (l4 : K.lookup f4 = some ⟨oc4, od4, .func (PySem.W.fnOf "_law_word" "_law_word" (defArgs st__law_word) (defBody st__law_word) (defScope st__law_word) .none kV4 dc4 pm4 an4 cd4 ct4), sl4⟩)
    (d4 : PySem.W.codeIn K cd4 "_law_word" = true)
    (k4 : PySem.W.keepIn K (.ref f4) = true)
    (a5 : PySem.W.nsIn K mainGlobals "_law_shuffled" = some (some (.ref f5)))
    (l5 : K.lookup f5 = some ⟨oc5, od5, .func (PySem.W.fnOf "_law_shuffled" "_law_shuffled" (defArgs st__law_shuffled) (defBody st__law_shuffled) (defScope st__law_shuffled) .none kV5 dc5 pm5 an5 cd5 ct5), sl5⟩)
    (d5 : PySem.W.codeIn K cd5 "_law_shuffled" = true)
    (k5 : PySem.W.keepIn K (.ref f5) = true)
    (a6 : PySem.W.nsIn K mainGlobals "_law_words" = some (some (.ref f6)))
    (l6 : K.lookup f6 = some ⟨oc6, od6, .func (PySem.W.fnOf "_law_words" "_law_words" (defArgs st__law_words) (defBody st__law_words) (defScope st__law_words) .none kV6 dc6 pm6 an6 cd6 ct6), sl6⟩)
    (d6 : PySem.W.codeIn K cd6 "_law_words" = true)
    (k6 : PySem.W.keepIn K (.ref f6) = true)
    (a7 : PySem.W.nsIn K mainGlobals "_law_spellings" = some (some (.ref f7)))
    (l7 : K.lookup f7 = some ⟨oc7, od7, .func (PySem.W.fnOf "_law_spellings" "_law_spellings" (defArgs st__law_spellings) (defBody st__law_spellings) (defScope st__law_spellings) .none kV7 dc7 pm7 an7 cd7 ct7), sl7⟩)
    (d7 : PySem.W.codeIn K cd7 "_law_spellings" = true)
    (k7 : PySem.W.keepIn K (.ref f7) = true)
    (a8 : PySem.W.nsIn K mainGlobals "_law_claims" = some (some (.ref f8)))
    (l8 : K.lookup f8 = some ⟨oc8, od8, .func (PySem.W.fnOf "_law_claims" "_law_claims" (defArgs st__law_claims) (defBody st__law_claims) (defScope st__law_claims) .none kV8 dc8 pm8 an8 cd8 ct8), sl8⟩)
    (d8 : PySem.W.codeIn K cd8 "_law_claims" = true)
    (k8 : PySem.W.keepIn K (.ref f8) = true)
    (a9 : PySem.W.nsIn K mainGlobals "_law_coding" = some (some (.ref f9)))
    (l9 : K.lookup f9 = some ⟨oc9, od9, .func (PySem.W.fnOf "_law_coding" "_law_coding" (defArgs st__law_coding) (defBody st__law_coding) (defScope st__law_coding) .none kV9 dc9 pm9 an9 cd9 ct9), sl9⟩)
    (d9 : PySem.W.codeIn K cd9 "_law_coding" = true)
    (k9 : PySem.W.keepIn K (.ref f9) = true)
    (a10 : PySem.W.nsIn K mainGlobals "_law_owner" = some (some (.ref f10)))
    (l10 : K.lookup f10 = some ⟨oc10, od10, .func (PySem.W.fnOf "_law_owner" "_law_owner" (defArgs st__law_owner) (defBody st__law_owner) (defScope st__law_owner) .none kV10 dc10 pm10 an10 cd10 ct10), sl10⟩)
    (d10 : PySem.W.codeIn K cd10 "_law_owner" = true)
    (k10 : PySem.W.keepIn K (.ref f10) = true)
    (a11 : PySem.W.nsIn K mainGlobals "_law_reaches" = some (some (.ref f11)))
    (l11 : K.lookup f11 = some ⟨oc11, od11, .func (PySem.W.fnOf "_law_reaches" "_law_reaches" (defArgs st__law_reaches) (defBody st__law_reaches) (defScope st__law_reaches) .none kV11 dc11 pm11 an11 cd11 ct11), sl11⟩)
    (d11 : PySem.W.codeIn K cd11 "_law_reaches" = true)
    (k11 : PySem.W.keepIn K (.ref f11) = true)
    (a12 : PySem.W.nsIn K mainGlobals "owners_of" = some (some (.ref f12)))
    (l12 : K.lookup f12 = some ⟨oc12, od12, .func (PySem.W.fnOf "owners_of" "owners_of" (defArgs st_owners_of) (defBody st_owners_of) (defScope st_owners_of) .none kV12 dc12 pm12 an12 cd12 ct12), sl12⟩)
    (d12 : PySem.W.codeIn K cd12 "owners_of" = true)
    (k12 : PySem.W.keepIn K (.ref f12) = true)
    (a13 : PySem.W.nsIn K mainGlobals "reaches" = some (some (.ref f13)))
    (l13 : K.lookup f13 = some ⟨oc13, od13, .func (PySem.W.fnOf "reaches" "reaches" (defArgs st_reaches) (defBody st_reaches) (defScope st_reaches) .none kV13 dc13 pm13 an13 cd13 ct13), sl13⟩)
    (d13 : PySem.W.codeIn K cd13 "reaches" = true)
    (k13 : PySem.W.keepIn K (.ref f13) = true)
    (a14 : PySem.W.nsIn K mainGlobals "is_reaches" = some (some (.ref f14)))
    (l14 : K.lookup f14 = some ⟨oc14, od14, .func (PySem.W.fnOf "is_reaches" "is_reaches" (defArgs st_is_reaches) (defBody st_is_reaches) (defScope st_is_reaches) .none kV14 dc14 pm14 an14 cd14 ct14), sl14⟩)
    (d14 : PySem.W.codeIn K cd14 "is_reaches" = true)
    (k14 : PySem.W.keepIn K (.ref f14) = true)
    (a15 : PySem.W.nsIn K mainGlobals "_law_by_steps" = some (some (.ref f15)))
    (l15 : K.lookup f15 = some ⟨oc15, od15, .func (PySem.W.fnOf "_law_by_steps" "_law_by_steps" (defArgs st__law_by_steps) (defBody st__law_by_steps) (defScope st__law_by_steps) .none kV15 dc15 pm15 an15 cd15 ct15), sl15⟩)
    (d15 : PySem.W.codeIn K cd15 "_law_by_steps" = true)
    (k15 : PySem.W.keepIn K (.ref f15) = true)
    (a16 : PySem.W.nsIn K mainGlobals "_law_bent" = some (some (.ref f16)))
    (l16 : K.lookup f16 = some ⟨oc16, od16, .func (PySem.W.fnOf "_law_bent" "_law_bent" (defArgs st__law_bent) (defBody st__law_bent) (defScope st__law_bent) .none kV16 dc16 pm16 an16 cd16 ct16), sl16⟩)
    (d16 : PySem.W.codeIn K cd16 "_law_bent" = true)
    (k16 : PySem.W.keepIn K (.ref f16) = true)
    (a17 : PySem.W.nsIn K mainGlobals "_law_has_names" = some (some (.ref f17)))
    (l17 : K.lookup f17 = some ⟨oc17, od17, .func (PySem.W.fnOf "_law_has_names" "_law_has_names" (defArgs st__law_has_names) (defBody st__law_has_names) (defScope st__law_has_names) .none kV17 dc17 pm17 an17 cd17 ct17), sl17⟩)
    (d17 : PySem.W.codeIn K cd17 "_law_has_names" = true)
    (k17 : PySem.W.keepIn K (.ref f17) = true)
    (a18 : PySem.W.nsIn K mainGlobals "_law_all_numbers" = some (some (.ref f18)))
    (l18 : K.lookup f18 = some ⟨oc18, od18, .func (PySem.W.fnOf "_law_all_numbers" "_law_all_numbers" (defArgs st__law_all_numbers) (defBody st__law_all_numbers) (defScope st__law_all_numbers) .none kV18 dc18 pm18 an18 cd18 ct18), sl18⟩)
    (d18 : PySem.W.codeIn K cd18 "_law_all_numbers" = true)
    (k18 : PySem.W.keepIn K (.ref f18) = true)
    (a19 : PySem.W.nsIn K mainGlobals "law" = some (some (.ref f19)))
    (l19 : K.lookup f19 = some ⟨oc19, od19, .func (PySem.W.fnOf "law" "law" (defArgs st_law) (defBody st_law) (defScope st_law) .none kV19 dc19 pm19 an19 cd19 ct19), sl19⟩)
    (d19 : PySem.W.codeIn K cd19 "law" = true)
    (k19 : PySem.W.keepIn K (.ref f19) = true)
    (z1 : PySem.W.nsIn K mainGlobals "all" = some none)
    (z2 : PySem.W.nsIn K mainGlobals "any" = some none)
    (z3 : PySem.W.nsIn K mainGlobals "bool" = some none)
    (z4 : PySem.W.nsIn K mainGlobals "dict" = some none)
    (z5 : PySem.W.nsIn K mainGlobals "int" = some none)
    (z6 : PySem.W.nsIn K mainGlobals "isinstance" = some none)
    (z7 : PySem.W.nsIn K mainGlobals "len" = some none)
    (z8 : PySem.W.nsIn K mainGlobals "list" = some none)
    (z9 : PySem.W.nsIn K mainGlobals "max" = some none)
    (z10 : PySem.W.nsIn K mainGlobals "min" = some none)
    (z11 : PySem.W.nsIn K mainGlobals "range" = some none)
    (z12 : PySem.W.nsIn K mainGlobals "repr" = some none)
    (z13 : PySem.W.nsIn K mainGlobals "sorted" = some none)
    (z14 : PySem.W.nsIn K mainGlobals "str" = some none)
    (z15 : PySem.W.nsIn K mainGlobals "tuple" = some none) :
    ∃ fd : FuncData, (∀ (s : Shared) (v : Value), BindsTo s fd ⟨[v], []⟩ [("_law_script", v)]) ∧ ∀ base : Heap, K.In base → base.Ns mainGlobals mg → (∃ o, base.get? sysModules = some o) → DFn l.prog w K mg base 6 fa fd ["_law_script"] spLaw := by
  have e := hfa.symm.trans (PySem.W.mg_of KX G a19)
  cases e
  letI : Cad := ⟨()⟩
  have T : Gls K mg := ⟨PySem.W.mg_none_of KX G z1, PySem.W.mg_none_of KX G z2, PySem.W.mg_none_of KX G z3, PySem.W.mg_none_of KX G z4, PySem.W.mg_none_of KX G z5, PySem.W.mg_none_of KX G z6, PySem.W.mg_none_of KX G z7, PySem.W.mg_none_of KX G z8, PySem.W.mg_none_of KX G z9, PySem.W.mg_none_of KX G z10, PySem.W.mg_none_of KX G z11, PySem.W.mg_none_of KX G z12, PySem.W.mg_none_of KX G z13, PySem.W.mg_none_of KX G z14, PySem.W.mg_none_of KX G z15⟩
  refine ⟨PySem.W.fnOf "law" "law" (defArgs st_law) (defBody st_law) (defScope st_law) .none kV19 dc19 pm19 an19 cd19 ct19, fun s v => .of_eq rfl, fun base _ _ hbs => ?_⟩
  have F1 := fun_mk (st := st__law_stream) l1 d1 k1
  have b1 := F1.binds (ps := ["_law_script", "_law_start"]) fun _ _ _ _ _ _ us hl => match us, hl with | [_, _], _ => rfl
  have d1_ := ok__law_stream (P := l.prog) (w := w) (base := base) F1 T hbs 
  have F2 := fun_mk (st := st__law_draw) l2 d2 k2
  have b2 := F2.binds (ps := ["_law_stream_here", "_law_size"]) fun _ _ _ _ _ _ us hl => match us, hl with | [_, _], _ => rfl
  have d2_ := ok__law_draw (P := l.prog) (w := w) (base := base) F2 T hbs 
  have c__law_draw : Cle l.prog w K mg base 1 "_law_draw" sp__law_draw := ⟨_, _, _, d2_, PySem.W.mg_of KX G a2, k2, b2⟩
  have F3 := fun_mk (st := st__law_choose) l3 d3 k3
  have b3 := F3.binds (ps := ["_law_stream_here", "_law_rows"]) fun _ _ _ _ _ _ us hl => match us, hl with | [_, _], _ => rfl
  have d3_ := ok__law_choose (P := l.prog) (w := w) (base := base) F3 T hbs c__law_draw
  have c__law_choose : Cle l.prog w K mg base 2 "_law_choose" sp__law_choose := ⟨_, _, _, d3_, PySem.W.mg_of KX G a3, k3, b3⟩
  have F4 := fun_mk (st := st__law_word) l4 d4 k4
  have b4 := F4.binds (ps := ["_law_stream_here", "_law_letters", "_law_most"]) fun _ _ _ _ _ _ us hl => match us, hl with | [_, _, _], _ => rfl
  have d4_ := ok__law_word (P := l.prog) (w := w) (base := base) F4 T hbs c__law_draw c__law_choose
  have F5 := fun_mk (st := st__law_shuffled) l5 d5 k5
  have b5 := F5.binds (ps := ["_law_stream_here", "_law_rows"]) fun _ _ _ _ _ _ us hl => match us, hl with | [_, _], _ => rfl
  have d5_ := ok__law_shuffled (P := l.prog) (w := w) (base := base) F5 T hbs c__law_draw
  have c__law_word : Cle l.prog w K mg base 3 "_law_word" sp__law_word := ⟨_, _, _, d4_, PySem.W.mg_of KX G a4, k4, b4⟩
  have c__law_shuffled : Cle l.prog w K mg base 2 "_law_shuffled" sp__law_shuffled := ⟨_, _, _, d5_, PySem.W.mg_of KX G a5, k5, b5⟩
  have F6 := fun_mk (st := st__law_words) l6 d6 k6
  have b6 := F6.binds (ps := ["_law_stream_here", "_law_amount", "_law_letters", "_law_most"]) fun _ _ _ _ _ _ us hl => match us, hl with | [_, _, _, _], _ => rfl
  have d6_ := ok__law_words (P := l.prog) (w := w) (base := base) F6 T hbs c__law_word c__law_shuffled
  have F7 := fun_mk (st := st__law_spellings) l7 d7 k7
  have b7 := F7.binds (ps := ["_law_word_here", "_law_size"]) fun _ _ _ _ _ _ us hl => match us, hl with | [_, _], _ => rfl
  have d7_ := ok__law_spellings (P := l.prog) (w := w) (base := base) F7 T hbs 
  have c__law_words : Cle l.prog w K mg base 4 "_law_words" sp__law_words := ⟨_, _, _, d6_, PySem.W.mg_of KX G a6, k6, b6⟩
  have c__law_spellings : Cle l.prog w K mg base 1 "_law_spellings" sp__law_spellings := ⟨_, _, _, d7_, PySem.W.mg_of KX G a7, k7, b7⟩
  have F8 := fun_mk (st := st__law_claims) l8 d8 k8
  have b8 := F8.binds (ps := ["_law_stream_here", "_law_amount"]) fun _ _ _ _ _ _ us hl => match us, hl with | [_, _], _ => rfl
  have d8_ := ok__law_claims (P := l.prog) (w := w) (base := base) F8 T hbs c__law_choose c__law_draw c__law_words c__law_spellings
  have F9 := fun_mk (st := st__law_coding) l9 d9 k9
  have b9 := F9.binds (ps := ["_law_stream_here", "_law_claims_here", "_law_most"]) fun _ _ _ _ _ _ us hl => match us, hl with | [_, _, _], _ => rfl
  have d9_ := ok__law_coding (P := l.prog) (w := w) (base := base) F9 T hbs c__law_shuffled c__law_choose
  have F10 := fun_mk (st := st__law_owner) l10 d10 k10
  have b10 := F10.binds (ps := ["_law_coding_here", "_law_code"]) fun _ _ _ _ _ _ us hl => match us, hl with | [_, _], _ => rfl
  have d10_ := ok__law_owner (P := l.prog) (w := w) (base := base) F10 T hbs 
  have c__law_owner : Cle l.prog w K mg base 1 "_law_owner" sp__law_owner := ⟨_, _, _, d10_, PySem.W.mg_of KX G a10, k10, b10⟩
  have F11 := fun_mk (st := st__law_reaches) l11 d11 k11
  have b11 := F11.binds (ps := ["_law_claims_here", "_law_coding_here"]) fun _ _ _ _ _ _ us hl => match us, hl with | [_, _], _ => rfl
  have d11_ := ok__law_reaches (P := l.prog) (w := w) (base := base) F11 T hbs c__law_owner
  have F12 := fun_mk (st := st_owners_of) l12 d12 k12
  have b12 := F12.binds (ps := ["coding"]) fun _ _ _ _ _ _ us hl => match us, hl with | [_], _ => rfl
  have d12_ := ok_owners_of (P := l.prog) (w := w) (base := base) F12 T hbs 
  have c_owners_of : Cle l.prog w K mg base 1 "owners_of" sp_owners_of := ⟨_, _, _, d12_, PySem.W.mg_of KX G a12, k12, b12⟩
  have F13 := fun_mk (st := st_reaches) l13 d13 k13
  have b13 := F13.binds (ps := ["situation", "coding"]) fun _ _ _ _ _ _ us hl => match us, hl with | [_, _], _ => rfl
  have d13_ := ok_reaches (P := l.prog) (w := w) (base := base) F13 T hbs c_owners_of
  have c_reaches : Cle l.prog w K mg base 2 "reaches" sp_reaches := ⟨_, _, _, d13_, PySem.W.mg_of KX G a13, k13, b13⟩
  have F14 := fun_mk (st := st_is_reaches) l14 d14 k14
  have b14 := F14.binds (ps := ["situation", "coding", "value"]) fun _ _ _ _ _ _ us hl => match us, hl with | [_, _, _], _ => rfl
  have d14_ := ok_is_reaches (P := l.prog) (w := w) (base := base) F14 T hbs c_reaches
  have F15 := fun_mk (st := st__law_by_steps) l15 d15 k15
  have b15 := F15.binds (ps := ["_law_claims_here", "_law_coding_here", "_law_tried"]) fun _ _ _ _ _ _ us hl => match us, hl with | [_, _, _], _ => rfl
  have d15_ := ok__law_by_steps (P := l.prog) (w := w) (base := base) F15 T hbs c__law_owner
  have F16 := fun_mk (st := st__law_bent) l16 d16 k16
  have b16 := F16.binds (ps := ["_law_stream_here", "_law_right"]) fun _ _ _ _ _ _ us hl => match us, hl with | [_, _], _ => rfl
  have d16_ := ok__law_bent (P := l.prog) (w := w) (base := base) F16 T hbs c__law_draw c__law_choose
  have F17 := fun_mk (st := st__law_has_names) l17 d17 k17
  have b17 := F17.binds (ps := ["_law_tried", "_law_right"]) fun _ _ _ _ _ _ us hl => match us, hl with | [_, _], _ => rfl
  have d17_ := ok__law_has_names (P := l.prog) (w := w) (base := base) F17 T hbs 
  have F18 := fun_mk (st := st__law_all_numbers) l18 d18 k18
  have b18 := F18.binds (ps := ["_law_tried"]) fun _ _ _ _ _ _ us hl => match us, hl with | [_], _ => rfl
  have d18_ := ok__law_all_numbers (P := l.prog) (w := w) (base := base) F18 T hbs 
  have c__law_stream : Cle l.prog w K mg base 1 "_law_stream" sp__law_stream := ⟨_, _, _, d1_, PySem.W.mg_of KX G a1, k1, b1⟩
  have c__law_claims : Cle l.prog w K mg base 5 "_law_claims" sp__law_claims := ⟨_, _, _, d8_, PySem.W.mg_of KX G a8, k8, b8⟩
  have c__law_coding : Cle l.prog w K mg base 3 "_law_coding" sp__law_coding := ⟨_, _, _, d9_, PySem.W.mg_of KX G a9, k9, b9⟩
  have c__law_reaches : Cle l.prog w K mg base 2 "_law_reaches" sp__law_reaches := ⟨_, _, _, d11_, PySem.W.mg_of KX G a11, k11, b11⟩
  have c_is_reaches : Cle l.prog w K mg base 3 "is_reaches" sp_is_reaches := ⟨_, _, _, d14_, PySem.W.mg_of KX G a14, k14, b14⟩
  have c__law_by_steps : Cle l.prog w K mg base 2 "_law_by_steps" sp__law_by_steps := ⟨_, _, _, d15_, PySem.W.mg_of KX G a15, k15, b15⟩
  have c__law_bent : Cle l.prog w K mg base 3 "_law_bent" sp__law_bent := ⟨_, _, _, d16_, PySem.W.mg_of KX G a16, k16, b16⟩
  have c__law_has_names : Cle l.prog w K mg base 1 "_law_has_names" sp__law_has_names := ⟨_, _, _, d17_, PySem.W.mg_of KX G a17, k17, b17⟩
  have c__law_all_numbers : Cle l.prog w K mg base 1 "_law_all_numbers" sp__law_all_numbers := ⟨_, _, _, d18_, PySem.W.mg_of KX G a18, k18, b18⟩
  have F19 := fun_mk (st := st_law) l19 d19 k19
  exact ok_law F19 T hbs c__law_stream c__law_claims c__law_coding c__law_choose c__law_draw c__law_reaches c_is_reaches c__law_by_steps c__law_bent c__law_has_names c__law_all_numbers
theorem walk {l : PySem.W.OpenLaw} {q : Program} {loose : List Str} {XP : (Str → Option Value) → Heap → Prop} {YP : World → Heap → Prop} {d : DefRec} {K : Params → PySem.W.Frag} (hn : l.most = some 63) (hdf : d.params.defaults = []) (imp : importsNone q = true) (hY : ∀ (w : World) (h : Heap), YP w h → (K w.params).In h)
    (F : ∀ (w : World) (mg : Str → Option Value) (fa : Addr) (h : Heap), (K w.params).In h → h.Ns mainGlobals mg → mg d.name = some (.ref fa) → ∃ fd : FuncData, (∀ (s : Shared) (u : Value), BindsTo s fd ⟨[u], []⟩ [("_law_script", u)]) ∧ ∀ base : Heap, (K w.params).In base → base.Ns mainGlobals mg → (∃ o, base.get? sysModules = some o) → DFn l.prog w (K w.params) mg base 6 fa fd ["_law_script"] spLaw) :
    PySem.W.WalkO q loose XP YP l.row.toRowW d [] (fun f vs => PySem.call f vs) :=
  walkG hn hdf ⟨rfl, by decide, by decide⟩ imp hY F law_me
end L2.DL
open PySem PySem.W PyProof.Rows in
set_option maxHeartbeats 0 in
theorem PySem.Challenge.cw_ownletters_k30_reaches_judged_holds : PySem.Challenge.rw_ownletters_k30_reaches_judged.Holds := by
  refine L2.DL.head ?_
  k_fill
  refine L2.DL.walk (l := PySem.Challenge.rw_ownletters_k30_reaches_judged) rfl rfl (by decide +kernel) (fun w h Y => PySem.W.kIn_of Y) ?F
  case F =>
    intro w mg fa h KX G hmg
    exact L2.DL.all_mk KX G hmg (by k_is) (by k_is) (by k_is) (by k_is) (by k_is) (by k_is) (by k_is) (by k_is) (by k_is) (by k_is) (by k_is) (by k_is) (by k_is) (by k_is) (by k_is) (by k_is) (by k_is) (by k_is) (by k_is) (by k_is) (by k_is) (by k_is) (by k_is) (by k_is) (by k_is) (by k_is) (by k_is) (by k_is) (by k_is) (by k_is) (by k_is) (by k_is) (by k_is) (by k_is) (by k_is) (by k_is) (by k_is) (by k_is) (by k_is) (by k_is) (by k_is) (by k_is) (by k_is) (by k_is) (by k_is) (by k_is) (by k_is) (by k_is) (by k_is) (by k_is) (by k_is) (by k_is) (by k_is) (by k_is) (by k_is) (by k_is) (by k_is) (by k_is) (by k_is) (by k_is) (by k_is) (by k_is) (by k_is) (by k_is) (by k_is) (by k_is) (by k_is) (by k_is) (by k_is) (by k_is) (by k_is) (by k_is) (by k_is) (by k_is) (by k_is) (by k_is) (by k_is) (by k_is) (by k_is) (by k_is) (by k_is) (by k_is) (by k_is) (by k_is) (by k_is) (by k_is) (by k_is) (by k_is) (by k_is) (by k_is) (by k_is)
#print axioms PySem.Challenge.cw_ownletters_k30_reaches_judged_holds
