import PyProof.Rows.All
import Wide.All
import OpenK.AllK
import Wide.FinOn
import HandS.ForMost
import HandS.ForExc
import HandS.Wide
import HandS.Lambda
import HandS.Deep
import HandS.TupLe
import HandS.Style
import HandS.Small
import HandS.Zip
import HandS.IsInst
import HandS.SortInts
import HandS.More
import HandS.WordsDict
import HandS.TupLen
import HandS.Text
import HandS.Replace
import KE.KTupSum
import PyProof.Draws
import PyProof.EnumMake
import HandS.DictComp
import KE.KRevSl
import HandS.TupMul
import PyProof.Rows.RegReprOcc
import HandS.SetBool
import HandS.Strs
import PyProof.ReprRoads
import PyProof.ReprLen
import PyProof.CallFns
import KE.GoesMore
import HandS.Defaults
import HandS.Dict
import HandS.SetFor
import HandS.ExcIs
import HandS.ExcValue
import HandS.Comp
import HandS.ListItems
import HandS.SortRule
import HandS.DictTup
import KE.KDictDisplayH
import HandS.Iter
import PySem.Challenge.RW_foldvat_k03_stretches
set_option Elab.async false
set_option linter.all false
set_option maxRecDepth 100000
set_option maxHeartbeats 4000000/-! DL1: data as trees over the hand layer: what a value holds, the slots of a def as trees, the readings. -/
def ViaP (P : Prop) : Prop := P
theorem viaE {P : Prop} (h : ViaP P) : P := h
theorem viaI {P : Prop} (h : P) : ViaP P := h
namespace DL
open PySem PySem.Spec L2

inductive D where
  | none | bool (b : Bool) | int (i : Int) | str (x : Str)
  | list (xs : List D) | tuple (xs : List D) | dict (t : Bool) (kvs : List (D × D))
  | obj (c : Str) (fs : List (Str × D)) | exc (c : Str)
  /-- a list that nobody changes, whoever holds it (the script) -/
  | scr (xs : List D)
  /-- a tuple of the module's top -/
  | ktup (xs : List D)
  /-- an object that owns what its fields hold; what is owned, at its place -/
  | dob (c : Str) (fs : List (Str × D)) | own (a : Addr) (x : D)
  /-- a dict of ints and texts that stays as it is for ever -/
  | lk (kvs : List (D × D))
  /-- a list of two own lists, at their places -/
  | two (a1 : Addr) (xs : List D) (a2 : Addr) (ys : List D)
mutual
/-- as plain data -/
def D.pd : D → PyData
  | .none => .none | .bool b => .bool b | .int i => .int i | .str x => .str x
  | .list xs => .list (D.pds xs) | .tuple xs => .tuple (D.pds xs)
  | .dict _ _ => .dict [] | .obj _ _ => .dict [] | .exc _ => .dict [] | .scr _ => .dict [] | .ktup xs => .tuple (D.pds xs) | .dob _ _ => .dict [] | .own _ _ => .dict [] | .lk _ => .dict [] | .two _ _ _ _ => .dict []
def D.pds : List D → List PyData
  | [] => []
  | x :: xs => D.pd x :: D.pds xs
end
abbrev Sg := L2.St

/-- a key of a dict as data -/
def keyD : Key → D
  | .inl i => .int i
  | .inr x => .str x

section
variable (K : PySem.W.Frag) (mg : Str → Option Value)

/-- an exception of a class, held -/
def ExcAt (C : Addr) (a : Addr) : HO := .ext fun h => ∃ oe, PySem.W.InstAt h a oe C none

mutual
inductive Rp (F : Hp) : V → D → Prop
  | non : Rp F .non .none
  | bl (b : Bool) : Rp F (.bl b) (.bool b)
  | int (i : Int) : Rp F (.int i) (.int i)
  | str (x : Str) : Rp F (.str x) (.str x)
  | lst {a : Addr} {xs : List V} {ds : List D} : F a = some (.lst xs) → Rps F xs ds → Rp F (.ref a) (.list ds)
  | scr {a : Addr} {xs : List V} {ds : List D} : SqL K F a xs → Rps F xs ds → Rp F (.ref a) (.scr ds)
  | tup {a : Addr} {xs : List V} {ds : List D} : F a = some (.tup xs) → Rps F xs ds → Rp F (.ref a) (.tuple ds)
  | ktup {a : Addr} {xs : List V} {ds : List D} : SqT K F a xs → Rps F xs ds → Rp F (.ref a) (.ktup ds)
  | dK {a : Addr} {kvs : List (Key × V)} {ds : List (D × D)} : F a = some (.dK kvs) → ds.map (·.1) = kvs.map (fun p => keyD p.1) → Rps F (kvs.map (·.2)) (ds.map (·.2)) → Rp F (.ref a) (.dict false ds)
  | dT {a : Addr} {kvs : List (List Key × V)} {ds : List (D × D)} : F a = some (.dT kvs) → ds.map (·.1) = kvs.map (fun p => .tuple (p.1.map keyD)) → Rps F (kvs.map (·.2)) (ds.map (·.2)) → Rp F (.ref a) (.dict true ds)
  | obj {a C dx : Addr} {c : Str} {fvs : List (Str × V)} {fs : List (Str × D)} : mg c = some (.ref C) → F a = some (.ins C dx fvs) → fs.map (·.1) = fvs.map (·.1) → Rps F (fvs.map (·.2)) (fs.map (·.2)) → Rp F (.ref a) (.obj c fs)
  | exc {a C : Addr} {c : Str} : mg c = some (.ref C) → F a = some (ExcAt C a) → Rp F (.ref a) (.exc c)
  | lk {a : Addr} {o : Obj} {kvs : List (Key × V)} {ds : List (D × D)} : F a = some (.frz o (.dK kvs)) → ds.map (·.1) = kvs.map (fun p => keyD p.1) → Rps F (kvs.map (·.2)) (ds.map (·.2)) → Rp F (.ref a) (.lk ds)
inductive Rps (F : Hp) : List V → List D → Prop
  | nil : Rps F [] []
  | cons {v : V} {vs : List V} {d : D} {ds : List D} : Rp F v d → Rps F vs ds → Rps F (v :: vs) (d :: ds)
end
end

section
variable {K : PySem.W.Frag} {mg : Str → Option Value} {F F' : Hp}

theorem Same.seqT (e : Same F F') {a : Addr} {xs : List V} (h : SqT K F a xs) : SqT K F' a xs := by
  rcases h with h | h
  · rcases h with h | ⟨o, h⟩
    · exact .inl (.inl (e _ _ h))
    · exact .inl (.inr ⟨o, e _ _ h⟩)
  · exact .inr h

mutual
theorem Rp.mono (e : Same F F') : ∀ {v : V} {d : D}, Rp K mg F v d → Rp K mg F' v d
  | _, _, .non => .non
  | _, _, .bl b => .bl b
  | _, _, .int i => .int i
  | _, _, .str x => .str x
  | _, _, .lst h r => .lst (e _ _ h) (Rps.mono e r)
  | _, _, .scr h r => .scr (e.seq h) (Rps.mono e r)
  | _, _, .tup h r => .tup (e _ _ h) (Rps.mono e r)
  | _, _, .ktup h r => .ktup (Same.seqT e h) (Rps.mono e r)
  | _, _, .dK h k r => .dK (e _ _ h) k (Rps.mono e r)
  | _, _, .dT h k r => .dT (e _ _ h) k (Rps.mono e r)
  | _, _, .obj m h k r => .obj m (e _ _ h) k (Rps.mono e r)
  | _, _, .exc m h => .exc m (e _ _ h)
  | _, _, .lk h k r => .lk (e _ _ h) k (Rps.mono e r)
theorem Rps.mono (e : Same F F') : ∀ {vs : List V} {ds : List D}, Rps K mg F vs ds → Rps K mg F' vs ds
  | _, _, .nil => .nil
  | _, _, .cons h r => .cons (Rp.mono e h) (Rps.mono e r)
end

theorem Rps.length {vs : List V} {ds : List D} (r : Rps K mg F vs ds) : vs.length = ds.length := by
  induction ds generalizing vs with
  | nil => cases r; rfl
  | cons d ds ih => cases r with | cons h t => simp [ih t]
theorem Rps.get {vs : List V} {ds : List D} (r : Rps K mg F vs ds) : ∀ {i : Nat} {d : D}, ds[i]? = some d → ∃ v, vs[i]? = some v ∧ Rp K mg F v d := by
  induction ds generalizing vs with
  | nil => intro i d h; simp at h
  | cons d ds ih =>
    cases r with
    | cons h t =>
      intro i e he
      cases i with
      | zero => simp at he; subst he; exact ⟨_, rfl, h⟩
      | succ i => simp at he; obtain ⟨v, h1, h2⟩ := ih t he; exact ⟨v, by simpa using h1, h2⟩
theorem Rps.append {vs ws : List V} {ds es : List D} (r : Rps K mg F vs ds) (q : Rps K mg F ws es) : Rps K mg F (vs ++ ws) (ds ++ es) := by
  induction ds generalizing vs with
  | nil => cases r; exact q
  | cons d ds ih => cases r with | cons h t => exact .cons h (ih t)
theorem Rps.one {v : V} {d : D} (h : Rp K mg F v d) : Rps K mg F [v] [d] := .cons h .nil
theorem Rps.take {vs : List V} {ds : List D} (r : Rps K mg F vs ds) (n : Nat) : Rps K mg F (vs.take n) (ds.take n) := by
  induction ds generalizing vs n with
  | nil => cases r; simp; exact .nil
  | cons d ds ih =>
    cases r with
    | cons h t =>
      cases n with
      | zero => exact .nil
      | succ n => exact .cons h (ih t n)
theorem Rps.drop {vs : List V} {ds : List D} (r : Rps K mg F vs ds) (n : Nat) : Rps K mg F (vs.drop n) (ds.drop n) := by
  induction ds generalizing vs n with
  | nil => cases r; simp; exact .nil
  | cons d ds ih =>
    cases r with
    | cons h t =>
      cases n with
      | zero => exact .cons h t
      | succ n => exact ih t n
theorem Rps.rev {vs : List V} {ds : List D} (r : Rps K mg F vs ds) : Rps K mg F vs.reverse ds.reverse := by
  induction ds generalizing vs with
  | nil => cases r; exact .nil
  | cons d ds ih => cases r with | cons h t => rw [List.reverse_cons, List.reverse_cons]; exact (ih t).append (.one h)
theorem Rps.set {vs : List V} {ds : List D} (r : Rps K mg F vs ds) {v : V} {d : D} (h : Rp K mg F v d) (n : Nat) : Rps K mg F (vs.set n v) (ds.set n d) := by
  induction ds generalizing vs n with
  | nil => cases r; exact .nil
  | cons e ds ih =>
    cases r with
    | cons q t =>
      cases n with
      | zero => exact .cons h t
      | succ n => exact .cons q (ih t n)
/-- a value without a place -/
def gnd : D → Bool
  | .none => true | .bool _ => true | .int _ => true | .str _ => true | _ => false
theorem Rp.gnd {B : Hp} {v : V} {d : D} (r : Rp K mg F v d) (h : gnd d = true) : Rp K mg B v d := by
  cases r with
  | non => exact .non
  | bl b => exact .bl b
  | int i => exact .int i
  | str x => exact .str x
  | lst => cases h
  | scr => cases h
  | tup => cases h
  | ktup => cases h
  | dK => cases h
  | dT => cases h
  | obj => cases h
  | exc => cases h
  | lk => cases h

mutual
/-- plain data: no dicts -/
def pln : D → Bool
  | .none => true | .bool _ => true | .int _ => true | .str _ => true
  | .list xs => plns xs | .tuple xs => plns xs | .ktup xs => plns xs | _ => false
def plns : List D → Bool
  | [] => true
  | x :: xs => pln x && plns xs
end
mutual
theorem Rp.dp : ∀ {v : V} {d : D}, Rp K mg F v d → pln d = true → Dp K F v d.pd
  | _, _, .non, _ => .non
  | _, _, .bl b, _ => .bl b
  | _, _, .int i, _ => .int i
  | _, _, .str x, _ => .str x
  | _, _, .lst h r, p => .lst (SqL.of h) (Rps.dp r (by simpa [pln] using p))
  | _, _, .scr h r, p => by simp [pln] at p
  | _, _, .tup h r, p => .tup (SqT.of h) (Rps.dp r (by simpa [pln] using p))
  | _, _, .ktup h r, p => .tup h (Rps.dp r (by simpa [pln] using p))
  | _, _, .dK h k r, p => by simp [pln] at p
  | _, _, .dT h k r, p => by simp [pln] at p
  | _, _, .obj m h k r, p => by simp [pln] at p
  | _, _, .exc m h, p => by simp [pln] at p
  | _, _, .lk h k r, p => by simp [pln] at p
theorem Rps.dp : ∀ {vs : List V} {ds : List D}, Rps K mg F vs ds → plns ds = true → DpAll K F vs (D.pds ds)
  | _, _, .nil, _ => .nil
  | _, _, .cons h r, p => by
    simp [plns] at p
    exact .cons (Rp.dp h p.1) (Rps.dp r p.2)
end
end

mutual
/-- the places that are owned within -/
def fp : D → List Addr
  | .dob _ fs => fpF fs
  | .own a x => a :: fp x
  | .two a1 _ a2 _ => [a1, a2]
  | _ => []
def fpF : List (Str × D) → List Addr
  | [] => []
  | p :: fs => fpP p ++ fpF fs
def fpP : Str × D → List Addr
  | (_, d) => fp d
end
mutual
/-- as data -/
def er : D → D
  | .dob c fs => .obj c (erF fs)
  | .own _ x => er x
  | .two _ xs _ ys => .list [.list xs, .list ys]
  | d => d
def erF : List (Str × D) → List (Str × D)
  | [] => []
  | p :: fs => erP p :: erF fs
def erP : Str × D → Str × D
  | (f, d) => (f, er d)
end
section
variable (K : PySem.W.Frag) (mg : Str → Option Value)
mutual
/-- what a field of an owned object holds: frozen data, an own list, an own object -/
inductive OwV (B H : Hp) : V → D → Prop
  | frz {v : V} {d : D} : Rp K mg B v d → OwV B H v d
  | lst {a : Addr} {vs : List V} {ds : List D} : H a = some (.lst vs) → Rps K mg B vs ds → OwV B H (.ref a) (.own a (.list ds))
  | obj {a C dx : Addr} {c : Str} {fvs : List (Str × V)} {fs : List (Str × D)} : mg c = some (.ref C) → H a = some (.ins C dx fvs) → OwF B H fvs fs → OwV B H (.ref a) (.own a (.dob c fs))
  | two {a a1 a2 : Addr} {vs ws : List V} {ds es : List D} : H a = some (.lst [.ref a1, .ref a2]) → H a1 = some (.lst vs) → Rps K mg B vs ds → H a2 = some (.lst ws) → Rps K mg B ws es → OwV B H (.ref a) (.own a (.two a1 ds a2 es))
inductive OwF (B H : Hp) : List (Str × V) → List (Str × D) → Prop
  | nil : OwF B H [] []
  | cons {f : Str} {v : V} {d : D} {fvs : List (Str × V)} {fs : List (Str × D)} : OwV B H v d → OwF B H fvs fs → OwF B H ((f, v) :: fvs) ((f, d) :: fs)
end
/-- an owned object at a -/
def OwD (B H : Hp) (a : Addr) (d : D) : Prop := OwV K mg B H (.ref a) (.own a d) ∧ ((∃ c fs, d = .dob c fs) ∨ ∃ a1 xs a2 ys, d = .two a1 xs a2 ys)
end
/-- a table of code objects, those known -/
def TabF (F H : Hp) (P : Addr) (q : Str) : Prop := ∃ ps : Array Value, H P = some (.tbl ps) ∧ TriplesOk ps.toList ∧ ∀ (pos : Pos) (cv : Value), codeAmong pos ps.toList = some cv → ∃ c, cv = .ref c ∧ F c = some (LamX.CodeO c q)

/-- a slot: unknown; data that nobody changes (n: made since the def began); a list or dict of the def's own; one that a caller lent -/
inductive Slot where
  | un | fz (d : D) (n : Bool) | ow (d : D) (n : Bool) | io (d : D)
  /-- an object that owns its fields: the def's own, the one that was lent -/
  | dp (d : D) | di (d : D)
abbrev DEnv := List Slot
/-- what an expression gives -/
inductive T where
  | fz (d : D) (n : Bool) | ow (d : D) (n : Bool) | al (i : Nat)
  /-- a new object that owns its fields -/
  | dp (d : D)

structure Zx where
  io : List (Nat × Addr)
  H0 : Hp
  F0 : Hp
  /-- the deep objects that were lent, all that they owned at the entry -/
  ia : List (Nat × Addr × List Addr)
  ix : List Addr
  /-- the tables of code objects -/
  T : List (Addr × Str)

def sel (n : Bool) (G F : Hp) : Hp := if n then G else F

def isOwn : Slot → Bool
  | .ow _ _ => true | .io _ => true | .dp _ => true | .di _ => true | _ => false
def fpS : Slot → List Addr
  | .dp d => fp d | .di d => fp d | _ => []
/-- the slot i owns a -/
def OwnAt (σ : St) (i : Nat) (s : Slot) (a : Addr) : Prop := σ[i]? = some (some (.ref a)) ∨ a ∈ fpS s
def Own (σ : St) (env : DEnv) (a : Addr) : Prop := ∃ (i : Nat) (s : Slot), env[i]? = some s ∧ isOwn s = true ∧ OwnAt σ i s a

section
variable (K : PySem.W.Frag) (mg : Str → Option Value)
/-- what stands at an own object's place, its items in B -/
def OwnC (B H : Hp) (a : Addr) (d : D) : Prop :=
  (∃ ds vs, d = .list ds ∧ H a = some (.lst vs) ∧ Rps K mg B vs ds) ∨
  (∃ ds kvs, d = .dict false ds ∧ H a = some (.dK kvs) ∧ ds.map (·.1) = kvs.map (fun p => keyD p.1) ∧ Rps K mg B (kvs.map (·.2)) (ds.map (·.2))) ∨
  (∃ ds kvs, d = .dict true ds ∧ H a = some (.dT kvs) ∧ ds.map (·.1) = kvs.map (fun p => D.tuple (p.1.map keyD)) ∧ Rps K mg B (kvs.map (·.2)) (ds.map (·.2))) ∨
  (∃ c fs C dx fvs, d = .obj c fs ∧ H a = some (.ins C dx fvs) ∧ mg c = some (.ref C) ∧ fs.map (·.1) = fvs.map (·.1) ∧ Rps K mg B (fvs.map (·.2)) (fs.map (·.2)))

def SlotOk (Z : Zx) (F G H : Hp) (σ : St) (i : Nat) : Slot → Prop
  | .un => True
  | .fz d n => ∃ v, σ[i]? = some (some v) ∧ Rp K mg (sel n G F) v d
  | .ow d n => ∃ a, σ[i]? = some (some (.ref a)) ∧ F a = none ∧ OwnC K mg (sel n G F) H a d ∧ Z.H0 a = none
  | .io d => ∃ a, σ[i]? = some (some (.ref a)) ∧ F a = none ∧ OwnC K mg F H a d ∧ (i, a) ∈ Z.io
  | .dp d => ∃ a, σ[i]? = some (some (.ref a)) ∧ OwD K mg F H a d ∧ (a :: fp d).Nodup ∧ ∀ b ∈ a :: fp d, F b = none ∧ Z.H0 b = none
  | .di d => ∃ a, σ[i]? = some (some (.ref a)) ∧ OwD K mg F H a d ∧ (a :: fp d).Nodup ∧ ∀ b ∈ a :: fp d, F b = none ∧ (Z.H0 b = none ∨ ∃ p ∈ Z.ia, p.1 = i ∧ b ∈ p.2.2)

structure EnvR (Z : Zx) (F G H : Hp) (σ : St) (env : DEnv) : Prop where
  fh : Same F H
  gf : Same G F
  f0 : Same Z.F0 F
  gn : ∀ a o, G a = some o → Z.H0 a = none
  fn : ∀ a o, F a = some o → Z.F0 a = none → Z.H0 a = none
  frame : ∀ a o, Z.H0 a = some o → (∀ p ∈ Z.io, p.2 ≠ a) → a ∉ Z.ix → (∀ ps, o ≠ .tbl ps) → H a = some o
  dom : ∀ a o, Z.H0 a = some o → ∃ u, H a = some u
  len : env.length = σ.length
  slot : ∀ i s, env[i]? = some s → SlotOk K mg Z F G H σ i s
  dist : ∀ (i j : Nat) (s t : Slot) (a : Addr), env[i]? = some s → isOwn s = true → env[j]? = some t → isOwn t = true → OwnAt σ i s a → OwnAt σ j t a → i = j
  io : ∀ p ∈ Z.io, ∃ d, env[p.1]? = some (.io d) ∧ σ[p.1]? = some (some (.ref p.2))
  iof : ∀ p ∈ Z.io, Z.F0 p.2 = none
  di : ∀ p ∈ Z.ia, ∃ d, env[p.1]? = some (.di d) ∧ σ[p.1]? = some (some (.ref p.2.1)) ∧ ∀ b ∈ p.2.2, b ∈ Z.ix
  dif : ∀ b ∈ Z.ix, Z.F0 b = none ∧ ∃ o, Z.H0 b = some o
  tb : ∀ p ∈ Z.T, TabF F H p.1 p.2
end

/-- the data of what an expression gave -/
def rd (env : DEnv) : T → Option D
  | .fz d _ => some d
  | .ow d _ => some d
  | .al i => match env[i]? with
    | some (.ow d _) => some d
    | some (.io d) => some d
    | some (.fz d _) => some d
    | _ => none
  | .dp _ => none
def rdn (env : DEnv) : T → Bool
  | .fz d n => n || gnd d
  | .ow _ n => n
  | .al i => match env[i]? with
    | some (.ow _ n) => n
    | some (.fz d n) => n || gnd d
    | _ => false
  | .dp _ => false

section
variable (K : PySem.W.Frag) (mg : Str → Option Value)
def RT (Z : Zx) (F G H : Hp) (σ : St) (env : DEnv) (v : V) : T → Prop
  | .fz d n => Rp K mg (sel n G F) v d
  | .ow d n => ∃ a, v = .ref a ∧ F a = none ∧ OwnC K mg (sel n G F) H a d ∧ ¬ Own σ env a ∧ Z.H0 a = none
  | .al i => σ[i]? = some (some v) ∧ True
  | .dp d => ∃ a, v = .ref a ∧ OwD K mg F H a d ∧ (a :: fp d).Nodup ∧ ∀ b ∈ a :: fp d, F b = none ∧ ¬ Own σ env b ∧ Z.H0 b = none
end

/-- what stays over an expression -/
structure Ext (σ : St) (env env' : DEnv) (F G H F' G' H' : Hp) : Prop where
  f : Same F F'
  g : Same G G'
  h : ∀ b o, H b = some o → ¬ Own σ env b → (∀ ps, o ≠ .tbl ps) → H' b = some o
  d : ∀ b o, H b = some o → ∃ u, H' b = some u
  n : ∀ b o, H b = some o → F b = none → ¬ Own σ env b → F' b = none
  o : ∀ b, Own σ env' b → Own σ env b ∨ H b = none
  r : ∀ i d, rd env (.al i) = some d → ∃ d', rd env' (.al i) = some d'
  l : env'.length = env.length

theorem Ext.refl {σ : St} {env : DEnv} {F G H : Hp} : Ext σ env env F G H F G H :=
  ⟨.refl _, .refl _, fun _ _ h _ _ => h, fun _ o h => ⟨o, h⟩, fun _ _ _ h _ => h, fun _ h => .inl h, fun _ d h => ⟨d, h⟩, rfl⟩
theorem noneB {H H1 : Hp} (d : ∀ b o, H b = some o → ∃ u, H1 b = some u) {c : Addr} (q : H1 c = none) : H c = none := by
  cases e : H c with
  | none => rfl
  | some o => obtain ⟨u, z⟩ := d c o e; rw [q] at z; cases z
theorem Ext.trans {σ : St} {env env1 env2 : DEnv} {F G H F1 G1 H1 F2 G2 H2 : Hp} (a : Ext σ env env1 F G H F1 G1 H1) (b : Ext σ env1 env2 F1 G1 H1 F2 G2 H2) : Ext σ env env2 F G H F2 G2 H2 := by
  have no : ∀ {c o}, H c = some o → ¬ Own σ env c → ¬ Own σ env1 c := fun {c o} h k z => by
    rcases a.o c z with q | q
    · exact k q
    · rw [h] at q; cases q
  exact ⟨a.f.trans b.f, a.g.trans b.g, fun c o h k t => b.h c o (a.h c o h k t) (no h k) t,
    fun c o h => by obtain ⟨u, e⟩ := a.d c o h; exact b.d c u e,
    fun c o h e k => by
      obtain ⟨u, h1⟩ := a.d c o h
      exact b.n c u h1 (a.n c o h e k) (no h k),
    fun c h => (b.o c h).elim (a.o c) fun q => .inr (noneB a.d q),
    fun i d h => by obtain ⟨d', e⟩ := a.r i d h; exact b.r i d' e, b.l.trans a.l⟩
end DL

namespace DL
open PySem PySem.Spec L2
section
variable {K : PySem.W.Frag} {mg : Str → Option Value} {Z : Zx} {F G H F' G' H' : Hp} {σ : Sg} {env : DEnv}

theorem same_upd {H : Hp} {p : Addr} {o : HO} (h : H p = none) : Same H (upd H p o) := fun b x e => by
  rw [upd_ne (ne_of_none e h)]
  exact e
theorem same_upd2 {H B : Hp} {p : Addr} {o : HO} (s : Same B H) (h : B p = none) : Same B (upd H p o) := fun b x e => by
  rw [upd_ne (ne_of_none e h)]
  exact s _ _ e
theorem snone {H B : Hp} {p : Addr} (s : Same B H) (h : H p = none) : B p = none := by
  cases e : B p with
  | none => rfl
  | some o => rw [s _ _ e] at h; cases h

theorem OwnC.mono {B B' H : Hp} {a : Addr} {d : D} (e : Same B B') : OwnC K mg B H a d → OwnC K mg B' H a d := by
  rintro (⟨ds, vs, h1, h2, h3⟩ | ⟨ds, vs, h1, h2, h3, h4⟩ | ⟨ds, vs, h1, h2, h3, h4⟩ | ⟨cn, fs, C, dx, fvs, h1, h2, h3, h4, h5⟩)
  · exact .inl ⟨ds, vs, h1, h2, h3.mono e⟩
  · exact .inr (.inl ⟨ds, vs, h1, h2, h3, h4.mono e⟩)
  · exact .inr (.inr (.inl ⟨ds, vs, h1, h2, h3, h4.mono e⟩))
  · exact .inr (.inr (.inr ⟨cn, fs, C, dx, fvs, h1, h2, h3, h4, h5.mono e⟩))
theorem OwnC.at_ {B H H' : Hp} {a : Addr} {d : D} (e : ∀ o, H a = some o → H' a = some o) : OwnC K mg B H a d → OwnC K mg B H' a d := by
  rintro (⟨ds, vs, h1, h2, h3⟩ | ⟨ds, vs, h1, h2, h3, h4⟩ | ⟨ds, vs, h1, h2, h3, h4⟩ | ⟨cn, fs, C, dx, fvs, h1, h2, h3, h4, h5⟩)
  · exact .inl ⟨ds, vs, h1, e _ h2, h3⟩
  · exact .inr (.inl ⟨ds, vs, h1, e _ h2, h3, h4⟩)
  · exact .inr (.inr (.inl ⟨ds, vs, h1, e _ h2, h3, h4⟩))
  · exact .inr (.inr (.inr ⟨cn, fs, C, dx, fvs, h1, e _ h2, h3, h4, h5⟩))
theorem OwnC.there {B H : Hp} {a : Addr} {d : D} : OwnC K mg B H a d → ∃ o, H a = some o := by
  rintro (⟨ds, vs, h1, h2, h3⟩ | ⟨ds, vs, h1, h2, h3, h4⟩ | ⟨ds, vs, h1, h2, h3, h4⟩ | ⟨cn, fs, C, dx, fvs, h1, h2, h3, h4, h5⟩)
  · exact ⟨_, h2⟩
  · exact ⟨_, h2⟩
  · exact ⟨_, h2⟩
  · exact ⟨_, h2⟩
mutual
theorem OwV.mono {B B' H : Hp} (e : Same B B') : ∀ {v : V} {d : D}, OwV K mg B H v d → OwV K mg B' H v d
  | _, _, .frz r => .frz (r.mono e)
  | _, _, .lst h r => .lst h (r.mono e)
  | _, _, .obj m h r => .obj m h (OwF.mono e r)
  | _, _, .two h h1 r1 h2 r2 => .two h h1 (r1.mono e) h2 (r2.mono e)
theorem OwF.mono {B B' H : Hp} (e : Same B B') : ∀ {vs : List (Str × V)} {ds : List (Str × D)}, OwF K mg B H vs ds → OwF K mg B' H vs ds
  | _, _, .nil => .nil
  | _, _, .cons h r => .cons (OwV.mono e h) (OwF.mono e r)
end
mutual
theorem OwV.at_ {B H H' : Hp} : ∀ {v : V} {d : D}, (∀ b ∈ fp d, ∀ o, H b = some o → H' b = some o) → OwV K mg B H v d → OwV K mg B H' v d
  | _, _, _, .frz r => .frz r
  | _, _, e, .lst h r => .lst (e _ (by simp [fp]) _ h) r
  | _, _, e, .obj m h r => .obj m (e _ (by simp [fp]) _ h) (OwF.at_ (fun b hb => e b (by simp [fp, hb])) r)
  | _, _, e, .two h h1 r1 h2 r2 => .two (e _ (by simp [fp]) _ h) (e _ (by simp [fp]) _ h1) r1 (e _ (by simp [fp]) _ h2) r2
theorem OwF.at_ {B H H' : Hp} : ∀ {vs : List (Str × V)} {ds : List (Str × D)}, (∀ b ∈ fpF ds, ∀ o, H b = some o → H' b = some o) → OwF K mg B H vs ds → OwF K mg B H' vs ds
  | _, _, _, .nil => .nil
  | _, _, e, .cons h r => .cons (OwV.at_ (fun b hb => e b (by simp [fpF, fpP, hb])) h) (OwF.at_ (fun b hb => e b (by simp [fpF, hb])) r)
end
mutual
theorem Rp.nofp : ∀ {F : Hp} {v : V} {d : D}, Rp K mg F v d → fp d = []
  | _, _, _, .non => rfl
  | _, _, _, .bl _ => rfl
  | _, _, _, .int _ => rfl
  | _, _, _, .str _ => rfl
  | _, _, _, .lst _ _ => rfl
  | _, _, _, .scr _ _ => rfl
  | _, _, _, .tup _ _ => rfl
  | _, _, _, .ktup _ _ => rfl
  | _, _, _, .dK _ _ _ => rfl
  | _, _, _, .dT _ _ _ => rfl
  | _, _, _, .obj _ _ _ _ => rfl
  | _, _, _, .exc _ _ => rfl
  | _, _, _, .lk _ _ _ => rfl
end
mutual
theorem OwV.there {B H : Hp} : ∀ {v : V} {d : D}, OwV K mg B H v d → ∀ b ∈ fp d, ∃ o, H b = some o ∧ ∀ ps, o ≠ .tbl ps
  | _, _, .frz r, b, hb => by rw [r.nofp] at hb; cases hb
  | _, _, .lst h r, b, hb => by
    simp [fp] at hb
    subst hb
    exact ⟨_, h, fun _ z => nomatch z⟩
  | _, _, .obj m h r, b, hb => by
    simp [fp] at hb
    rcases hb with rfl | hb
    · exact ⟨_, h, fun _ z => nomatch z⟩
    · exact OwF.there r b hb
  | _, _, .two h h1 r1 h2 r2, b, hb => by
    simp [fp] at hb
    rcases hb with rfl | rfl | rfl
    · exact ⟨_, h, fun _ z => nomatch z⟩
    · exact ⟨_, h1, fun _ z => nomatch z⟩
    · exact ⟨_, h2, fun _ z => nomatch z⟩
theorem OwF.there {B H : Hp} : ∀ {vs : List (Str × V)} {ds : List (Str × D)}, OwF K mg B H vs ds → ∀ b ∈ fpF ds, ∃ o, H b = some o ∧ ∀ ps, o ≠ .tbl ps
  | _, _, .nil, b, hb => by simp [fpF] at hb
  | _, _, .cons h r, b, hb => by
    simp [fpF, fpP] at hb
    rcases hb with hb | hb
    · exact OwV.there h b hb
    · exact OwF.there r b hb
end
mutual
theorem OwV.thereX {B H : Hp} : ∀ {v : V} {d : D}, OwV K mg B H v d → ∀ b ∈ fp d, ∃ o, H b = some o ∧ ∀ ps, o ≠ .ext ps
  | _, _, .frz r, b, hb => by rw [r.nofp] at hb; cases hb
  | _, _, .lst h r, b, hb => by
    simp [fp] at hb
    subst hb
    exact ⟨_, h, fun _ z => nomatch z⟩
  | _, _, .obj m h r, b, hb => by
    simp [fp] at hb
    rcases hb with rfl | hb
    · exact ⟨_, h, fun _ z => nomatch z⟩
    · exact OwF.thereX r b hb
  | _, _, .two h h1 r1 h2 r2, b, hb => by
    simp [fp] at hb
    rcases hb with rfl | rfl | rfl
    · exact ⟨_, h, fun _ z => nomatch z⟩
    · exact ⟨_, h1, fun _ z => nomatch z⟩
    · exact ⟨_, h2, fun _ z => nomatch z⟩
theorem OwF.thereX {B H : Hp} : ∀ {vs : List (Str × V)} {ds : List (Str × D)}, OwF K mg B H vs ds → ∀ b ∈ fpF ds, ∃ o, H b = some o ∧ ∀ ps, o ≠ .ext ps
  | _, _, .nil, b, hb => by simp [fpF] at hb
  | _, _, .cons h r, b, hb => by
    simp [fpF, fpP] at hb
    rcases hb with hb | hb
    · exact OwV.thereX h b hb
    · exact OwF.thereX r b hb
end
theorem OwD.mono {B B' H : Hp} {a : Addr} {d : D} (e : Same B B') (h : OwD K mg B H a d) : OwD K mg B' H a d := ⟨h.1.mono e, h.2⟩
theorem OwD.at_ {B H H' : Hp} {a : Addr} {d : D} (e : ∀ b ∈ a :: fp d, ∀ o, H b = some o → H' b = some o) (h : OwD K mg B H a d) : OwD K mg B H' a d := ⟨h.1.at_ e, h.2⟩
theorem OwD.there {B H : Hp} {a : Addr} {d : D} (h : OwD K mg B H a d) : ∀ b ∈ a :: fp d, ∃ o, H b = some o ∧ ∀ ps, o ≠ .tbl ps := h.1.there
theorem Rp.er {F : Hp} {v : V} {d : D} (r : Rp K mg F v d) : DL.er d = d := by cases r <;> rfl
mutual
theorem OwV.er {B B' H : Hp} (f : Same B B') : ∀ {v : V} {d : D}, (∀ b ∈ fp d, ∀ o, H b = some o → B' b = some o) → OwV K mg B H v d → Rp K mg B' v (DL.er d)
  | _, _, _, .frz r => by rw [r.er]; exact r.mono f
  | _, _, e, .lst h r => .lst (e _ (by simp [fp]) _ h) (r.mono f)
  | _, _, e, .obj m h r => by
    obtain ⟨k1, k2⟩ := OwF.er f (fun b hb => e b (by simp [fp, hb])) r
    exact .obj m (e _ (by simp [fp]) _ h) k1 k2
  | _, _, e, .two h h1 r1 h2 r2 => .lst (e _ (by simp [fp]) _ h) (.cons (.lst (e _ (by simp [fp]) _ h1) (r1.mono f)) (.cons (.lst (e _ (by simp [fp]) _ h2) (r2.mono f)) .nil))
theorem OwF.er {B B' H : Hp} (f : Same B B') : ∀ {vs : List (Str × V)} {ds : List (Str × D)}, (∀ b ∈ fpF ds, ∀ o, H b = some o → B' b = some o) → OwF K mg B H vs ds → (erF ds).map (·.1) = vs.map (·.1) ∧ Rps K mg B' (vs.map (·.2)) ((erF ds).map (·.2))
  | _, _, _, .nil => ⟨rfl, .nil⟩
  | _, _, e, .cons h r => by
    obtain ⟨k1, k2⟩ := OwF.er f (fun b hb => e b (by simp [fpF, hb])) r
    refine ⟨by simp [erF, erP, k1], ?_⟩
    exact .cons (OwV.er f (fun b hb => e b (by simp [fpF, fpP, hb])) h) k2
end
theorem OwnC.noTbl {B H : Hp} {a : Addr} {d : D} : OwnC K mg B H a d → ∃ o, H a = some o ∧ ∀ ps, o ≠ .tbl ps := by
  rintro (⟨ds, vs, h1, h2, h3⟩ | ⟨ds, vs, h1, h2, h3, h4⟩ | ⟨ds, vs, h1, h2, h3, h4⟩ | ⟨cn, fs, C, dx, fvs, h1, h2, h3, h4, h5⟩)
  · exact ⟨_, h2, fun _ z => nomatch z⟩
  · exact ⟨_, h2, fun _ z => nomatch z⟩
  · exact ⟨_, h2, fun _ z => nomatch z⟩
  · exact ⟨_, h2, fun _ z => nomatch z⟩
theorem TabF.keep {P : Addr} {q : Str} (h : TabF F H P q) (f : Same F F') (k : ∀ ps, H P = some (.tbl ps) → H' P = some (.tbl ps)) : TabF F' H' P q := by
  obtain ⟨ps, h1, h2, h3⟩ := h
  exact ⟨ps, k _ h1, h2, fun pos cv e => by obtain ⟨c, e1, e2⟩ := h3 pos cv e; exact ⟨c, e1, f _ _ e2⟩⟩
theorem sel_same {n : Bool} (f : Same F F') (g : Same G G') : Same (sel n G F) (sel n G' F') := by
  cases n
  · exact f
  · exact g
theorem sel_le {n : Bool} (g : Same G F) : Same (sel n G F) F := by
  cases n
  · exact .refl _
  · exact g

theorem EnvR.own_atT (R : EnvR K mg Z F G H σ env) {a : Addr} (h : Own σ env a) : F a = none ∧ ∃ o, H a = some o ∧ ∀ ps, o ≠ .tbl ps := by
  obtain ⟨i, s, e, hs, ha⟩ := h
  have q := R.slot i s e
  cases s with
  | un => cases hs
  | fz d n => cases hs
  | ow d n =>
    obtain ⟨b, e1, e2, e3, _⟩ := q
    rcases ha with ha | ha
    · rw [ha] at e1; cases e1
      exact ⟨e2, e3.noTbl⟩
    · cases ha
  | io d =>
    obtain ⟨b, e1, e2, e3, _⟩ := q
    rcases ha with ha | ha
    · rw [ha] at e1; cases e1
      exact ⟨e2, e3.noTbl⟩
    · cases ha
  | dp d =>
    obtain ⟨b, e1, e2, _, e3⟩ := q
    have hm : a ∈ b :: fp d := by
      rcases ha with ha | ha
      · rw [ha] at e1; cases e1; exact List.mem_cons_self
      · exact List.mem_cons_of_mem _ ha
    exact ⟨(e3 a hm).1, e2.there a hm⟩
  | di d =>
    obtain ⟨b, e1, e2, _, e3⟩ := q
    have hm : a ∈ b :: fp d := by
      rcases ha with ha | ha
      · rw [ha] at e1; cases e1; exact List.mem_cons_self
      · exact List.mem_cons_of_mem _ ha
    exact ⟨(e3 a hm).1, e2.there a hm⟩
theorem EnvR.own_at (R : EnvR K mg Z F G H σ env) {a : Addr} (h : Own σ env a) : F a = none ∧ ∃ o, H a = some o := by
  obtain ⟨h1, o, h2, _⟩ := R.own_atT h
  exact ⟨h1, o, h2⟩
theorem EnvR.not_own (R : EnvR K mg Z F G H σ env) {a : Addr} (h : H a = none) : ¬ Own σ env a := fun o => by
  obtain ⟨_, u, e⟩ := R.own_at o
  rw [h] at e; cases e
theorem EnvR.h0 (R : EnvR K mg Z F G H σ env) {a : Addr} (h : H a = none) : Z.H0 a = none := by
  cases e : Z.H0 a with
  | none => rfl
  | some o => obtain ⟨u, e'⟩ := R.dom a o e; rw [h] at e'; cases e'

/-- the same slots over other heaps -/
theorem EnvR.nextT (R : EnvR K mg Z F G H σ env) (f : Same F F') (g : Same G G') (fh : Same F' H') (gf : Same G' F') (gn : ∀ a o, G' a = some o → Z.H0 a = none) (fn : ∀ a o, F' a = some o → Z.F0 a = none → Z.H0 a = none)
    (own : ∀ a, Own σ env a → F' a = none ∧ ∀ o, H a = some o → H' a = some o) (fr : ∀ a o u, Z.H0 a = some u → H a = some o → (∀ ps, o ≠ .tbl ps) → H' a = some o) (dm : ∀ a u, H a = some u → ∃ u', H' a = some u') (tb : ∀ p ∈ Z.T, TabF F' H' p.1 p.2) : EnvR K mg Z F' G' H' σ env where
  fh := fh
  gf := gf
  f0 := R.f0.trans f
  gn := gn
  fn := fn
  frame := fun a o h k k2 k3 => fr _ _ _ h (R.frame a o h k k2 k3) k3
  dom := fun a o h => by obtain ⟨u, e⟩ := R.dom a o h; exact dm a u e
  len := R.len
  slot := fun i s e => by
    have q := R.slot i s e
    cases s with
    | un => trivial
    | fz d n => obtain ⟨v, e1, e2⟩ := q; exact ⟨v, e1, e2.mono (sel_same f g)⟩
    | ow d n =>
      obtain ⟨a, e1, e2, e3, e4⟩ := q
      obtain ⟨k1, k2⟩ := own a ⟨i, _, e, rfl, .inl e1⟩
      exact ⟨a, e1, k1, (e3.mono (sel_same f g)).at_ k2, e4⟩
    | io d =>
      obtain ⟨a, e1, e2, e3, e4⟩ := q
      obtain ⟨k1, k2⟩ := own a ⟨i, _, e, rfl, .inl e1⟩
      exact ⟨a, e1, k1, (e3.mono f).at_ k2, e4⟩
    | dp d =>
      obtain ⟨a, e1, e2, e3, e4⟩ := q
      have k : ∀ b ∈ a :: fp d, F' b = none ∧ ∀ o, H b = some o → H' b = some o := fun b hb => own b ⟨i, _, e, rfl, (List.mem_cons.mp hb).imp (fun z => by rw [z]; exact e1) id⟩
      exact ⟨a, e1, (e2.mono f).at_ fun b hb => (k b hb).2, e3, fun b hb => ⟨(k b hb).1, (e4 b hb).2⟩⟩
    | di d =>
      obtain ⟨a, e1, e2, e3, e4⟩ := q
      have k : ∀ b ∈ a :: fp d, F' b = none ∧ ∀ o, H b = some o → H' b = some o := fun b hb => own b ⟨i, _, e, rfl, (List.mem_cons.mp hb).imp (fun z => by rw [z]; exact e1) id⟩
      exact ⟨a, e1, (e2.mono f).at_ fun b hb => (k b hb).2, e3, fun b hb => ⟨(k b hb).1, (e4 b hb).2⟩⟩
  dist := R.dist
  io := R.io
  iof := R.iof
  di := R.di
  dif := R.dif
  tb := tb

theorem EnvR.next (R : EnvR K mg Z F G H σ env) (f : Same F F') (g : Same G G') (fh : Same F' H') (gf : Same G' F') (gn : ∀ a o, G' a = some o → Z.H0 a = none) (fn : ∀ a o, F' a = some o → Z.F0 a = none → Z.H0 a = none)
    (own : ∀ a, Own σ env a → F' a = none ∧ ∀ o, H a = some o → H' a = some o) (fr : ∀ a o u, Z.H0 a = some u → H a = some o → H' a = some o) (tb : ∀ a ps, H a = some (.tbl ps) → H' a = some (.tbl ps)) : EnvR K mg Z F' G' H' σ env where
  fh := fh
  gf := gf
  f0 := R.f0.trans f
  gn := gn
  fn := fn
  frame := fun a o h k k2 k3 => fr _ _ _ h (R.frame a o h k k2 k3)
  dom := fun a o h => by obtain ⟨u, e⟩ := R.dom a o h; exact ⟨u, fr _ _ _ h e⟩
  len := R.len
  slot := fun i s e => by
    have q := R.slot i s e
    cases s with
    | un => trivial
    | fz d n => obtain ⟨v, e1, e2⟩ := q; exact ⟨v, e1, e2.mono (sel_same f g)⟩
    | ow d n =>
      obtain ⟨a, e1, e2, e3, e4⟩ := q
      obtain ⟨k1, k2⟩ := own a ⟨i, _, e, rfl, .inl e1⟩
      exact ⟨a, e1, k1, (e3.mono (sel_same f g)).at_ k2, e4⟩
    | io d =>
      obtain ⟨a, e1, e2, e3, e4⟩ := q
      obtain ⟨k1, k2⟩ := own a ⟨i, _, e, rfl, .inl e1⟩
      exact ⟨a, e1, k1, (e3.mono f).at_ k2, e4⟩
    | dp d =>
      obtain ⟨a, e1, e2, e3, e4⟩ := q
      have k : ∀ b ∈ a :: fp d, F' b = none ∧ ∀ o, H b = some o → H' b = some o := fun b hb => own b ⟨i, _, e, rfl, (List.mem_cons.mp hb).imp (fun z => by rw [z]; exact e1) id⟩
      exact ⟨a, e1, (e2.mono f).at_ fun b hb => (k b hb).2, e3, fun b hb => ⟨(k b hb).1, (e4 b hb).2⟩⟩
    | di d =>
      obtain ⟨a, e1, e2, e3, e4⟩ := q
      have k : ∀ b ∈ a :: fp d, F' b = none ∧ ∀ o, H b = some o → H' b = some o := fun b hb => own b ⟨i, _, e, rfl, (List.mem_cons.mp hb).imp (fun z => by rw [z]; exact e1) id⟩
      exact ⟨a, e1, (e2.mono f).at_ fun b hb => (k b hb).2, e3, fun b hb => ⟨(k b hb).1, (e4 b hb).2⟩⟩
  dist := R.dist
  io := R.io
  iof := R.iof
  di := R.di
  dif := R.dif
  tb := fun p hp => (R.tb p hp).keep f (tb p.1)

/-- something new is tracked, and forgotten -/
theorem EnvR.grow (R : EnvR K mg Z F G H σ env) (s : Same H H') : EnvR K mg Z F G H' σ env :=
  R.next (.refl _) (.refl _) (R.fh.trans s) R.gf R.gn R.fn (fun a o => ⟨(R.own_at o).1, fun _ e => s _ _ e⟩) (fun _ _ _ _ e => s _ _ e) fun _ _ e => s _ _ e
theorem Ext.grow (s : Same H H') : Ext σ env env F G H F G H' :=
  ⟨.refl _, .refl _, fun b o e _ _ => s _ _ e, fun b o e => ⟨o, s _ _ e⟩, fun _ _ _ h _ => h, fun _ h => .inl h, fun _ d h => ⟨d, h⟩, rfl⟩

def addF (n : Bool) (p : Addr) (o : HO) (G : Hp) : Hp := if n then upd G p o else G

/-- an object is frozen -/
theorem EnvR.frz {p : Addr} {o : HO} (n : Bool) (R : EnvR K mg Z F G H σ env) (hp : H p = some o) (hF : F p = none) (hn : ¬ Own σ env p) (h0 : Z.H0 p = none) :
    EnvR K mg Z (upd F p o) (addF n p o G) H σ env := by
  have hG : G p = none := snone R.gf hF
  refine R.next (same_upd hF) ?_ ?_ ?_ ?_ ?_ ?_ (fun _ _ _ _ e => e) (fun _ _ e => e)
  · cases n
    · exact .refl _
    · exact same_upd hG
  · intro b u e
    by_cases hb : b = p
    · subst hb; rw [upd_same] at e; cases e; exact hp
    · rw [upd_ne hb] at e; exact R.fh _ _ e
  · cases n
    · exact same_upd2 R.gf hG
    · intro b u e
      by_cases hb : b = p
      · subst hb; rw [show addF true b o G = upd G b o from rfl, upd_same] at e; cases e; exact upd_same
      · rw [show addF true p o G = upd G p o from rfl, upd_ne hb] at e; rw [upd_ne hb]; exact R.gf _ _ e
  · intro b u e
    by_cases hb : b = p
    · rw [hb]; exact h0
    · cases n
      · exact R.gn _ _ e
      · rw [show addF true p o G = upd G p o from rfl, upd_ne hb] at e; exact R.gn _ _ e
  · intro b u e k
    by_cases hb : b = p
    · rw [hb]; exact h0
    · rw [upd_ne hb] at e; exact R.fn _ _ e k
  · intro a q
    have hne : a ≠ p := fun z => hn (z ▸ q)
    exact ⟨by rw [upd_ne hne]; exact (R.own_at q).1, fun _ e => e⟩
theorem addF_same {n : Bool} {p : Addr} {o : HO} (h : G p = none) : Same G (addF n p o G) := by
  cases n
  · exact .refl _
  · exact same_upd h
theorem Ext.frz {p : Addr} {o : HO} (n : Bool) (hF : F p = none) (hG : G p = none) (hH : H p = none) : Ext σ env env F G H (upd F p o) (addF n p o G) (upd H p o) :=
  ⟨same_upd hF, addF_same hG, fun b u e _ _ => same_upd hH _ _ e, fun b u e => ⟨u, same_upd hH _ _ e⟩, fun b u e k _ => by rw [upd_ne (ne_of_none e hH)]; exact k, fun _ h => .inl h, fun _ d h => ⟨d, h⟩, rfl⟩
theorem sel_addF {n : Bool} {p : Addr} {o : HO} : sel n (addF n p o G) (upd F p o) p = some o := by
  cases n
  · exact upd_same
  · exact upd_same
theorem sel_addF_le {n m : Bool} {p : Addr} {o : HO} (hF : F p = none) (hG : G p = none) : Same (sel n G F) (sel n (addF m p o G) (upd F p o)) := sel_same (same_upd hF) (addF_same hG)

/-- a new object is laid and frozen at once -/
theorem EnvR.lay {p : Addr} {o : HO} (n : Bool) (R : EnvR K mg Z F G H σ env) (hp : H p = none) :
    EnvR K mg Z (upd F p o) (addF n p o G) (upd H p o) σ env ∧ Ext σ env env F G H (upd F p o) (addF n p o G) (upd H p o) := by
  have hF := snone R.fh hp
  refine ⟨(R.grow (same_upd hp)).frz n upd_same hF ?_ (R.h0 hp), Ext.frz n hF (snone R.gf hF) hp⟩
  exact R.not_own hp
end

/-- an own object without a name is newer than H -/
def NewT (H : Hp) (v : V) : T → Prop
  | .ow _ _ => ∃ a, v = .ref a ∧ H a = none
  | .dp d => ∃ a, v = .ref a ∧ ∀ b ∈ a :: fp d, H b = none
  | _ => True
abbrev DW := DEnv → (T → DEnv → Prop) → (Str → DEnv → Prop) → Prop
abbrev DT := DEnv → (Bool → DEnv → Prop) → (Str → DEnv → Prop) → Prop
abbrev DA := DEnv → (List T → DEnv → Prop) → (Str → DEnv → Prop) → Prop

section
variable (K : PySem.W.Frag) (mg : Str → Option Value) (Z : Zx) (W : WX)
def Wx (E : Str → DEnv → Prop) (σ : Sg) : Prop := ∀ (c : Str) (env' : DEnv) (F' G' H' : Hp) (C : Addr), E c env' → EnvR K mg Z F' G' H' σ env' → mg c = some (.ref C) → W (.ref C) none σ H'
def tD (w : DW) : TE := fun σ H Q => ∃ (F G : Hp) (env : DEnv) (P : T → DEnv → Prop) (E : Str → DEnv → Prop), EnvR K mg Z F G H σ env ∧ w env P E ∧
  (∀ (t : T) (env' : DEnv) (F' G' H' : Hp) (v : V), P t env' → EnvR K mg Z F' G' H' σ env' → Ext σ env env' F G H F' G' H' → RT K mg Z F' G' H' σ env' v t → NewT H v t → Q v H') ∧ Wx K mg Z W E σ
def tDT (w : DT) : TT := fun σ H Q => ∃ (F G : Hp) (env : DEnv) (P : Bool → DEnv → Prop) (E : Str → DEnv → Prop), EnvR K mg Z F G H σ env ∧ w env P E ∧
  (∀ (b : Bool) (env' : DEnv) (F' G' H' : Hp), P b env' → EnvR K mg Z F' G' H' σ env' → Ext σ env env' F G H F' G' H' → Q b H') ∧ Wx K mg Z W E σ
/-- the values of a row of arguments, none of them an own object without a name -/
def RTs (F G H : Hp) (σ : Sg) (env : DEnv) : List V → List T → Prop
  | [], [] => True
  | v :: vs, t :: ts => (∀ d n, t ≠ .ow d n) ∧ RT K mg Z F G H σ env v t ∧ RTs F G H σ env vs ts
  | _, _ => False
def tDA (w : DA) : TA := fun σ H Q => ∃ (F G : Hp) (env : DEnv) (P : List T → DEnv → Prop) (E : Str → DEnv → Prop), EnvR K mg Z F G H σ env ∧ w env P E ∧
  (∀ (t : List T) (env' : DEnv) (F' G' H' : Hp) (v : List V), P t env' → EnvR K mg Z F' G' H' σ env' → Ext σ env env' F G H F' G' H' → RTs K mg Z F' G' H' σ env' v t → Q v H') ∧ Wx K mg Z W E σ
end

theorem PE.of {X : Cx} {e : Expr} {t t' : TE} (h : PE X e t) (k : ∀ σ H Q, t' σ H Q → t σ H Q) : PE X e t' := ⟨fun pins s σ H Q I q => h.run pins s σ H Q I (k σ H Q q)⟩
theorem PT.of {X : Cx} {e : Expr} {t t' : TT} (h : PT X e t) (k : ∀ σ H Q, t' σ H Q → t σ H Q) : PT X e t' := ⟨fun pins s σ H Q I q => h.run pins s σ H Q I (k σ H Q q)⟩
theorem PA.of {X : Cx} {e : List Expr} {t t' : TA} (h : PA X e t) (k : ∀ σ H Q, t' σ H Q → t σ H Q) : PA X e t' := ⟨fun pos pins s σ H Q I q => h.run pos pins s σ H Q I (k σ H Q q)⟩

abbrev DE (X : Cx) (Z : Zx) (W : WX) (e : Expr) (w : DW) : Prop := PE X e (tD X.K X.mg Z W w)
abbrev DTe (X : Cx) (Z : Zx) (W : WX) (e : Expr) (w : DT) : Prop := PT X e (tDT X.K X.mg Z W w)
abbrev DAr (X : Cx) (Z : Zx) (W : WX) (es : List Expr) (w : DA) : Prop := PA X es (tDA X.K X.mg Z W w)

def dC (d : D) : DW := fun env P _ => P (.fz d true) env
def lookT (env : DEnv) (i : Nat) : Option T := match env[i]? with
  | some (.fz d n) => some (.fz d n)
  | some (.ow _ _) => some (.al i)
  | some (.io _) => some (.al i)
  | some (.dp _) => some (.al i)
  | some (.di _) => some (.al i)
  | _ => none
def dVar (i : Nat) : DW := fun env P _ => ∃ t, lookT env i = some t ∧ P t env
/-- an own object without a name is frozen -/
def hold : T → T
  | .ow d n => .fz d n
  | t => t

section
variable {X : Cx} {Z : Zx} {W : WX} {pos : Pos}
theorem d_const {e : Expr} {v : V} {d : D} (h : PE X e (tC v)) (hd : ∀ F : Hp, Rp X.K X.mg F v d) : DE X Z W e (dC d) := by
  refine PE.of h fun σ H Q ⟨F, G, env, P, E, R, w, q, _⟩ => ?_
  exact q _ _ F G H v w R .refl (hd _) trivial
theorem d_int {i j} : DE X Z W (.Constant (.int i) j pos) (dC (.int i)) := d_const pe_int fun _ => .int i
theorem d_bl {b j} : DE X Z W (.Constant (.bool b) j pos) (dC (.bool b)) := d_const pe_bl fun _ => .bl b
theorem d_non {j} : DE X Z W (.Constant .none j pos) (dC .none) := d_const pe_non fun _ => .non
theorem d_str {x j} : DE X Z W (.Constant (.str x) j pos) (dC (.str x)) := d_const pe_str fun _ => .str x
/-- a constant of the module, by its data -/
theorem d_glob {x : Str} {v : V} {u : Value} {d : D} (hg : Gl X x) (hm : X.mg x = some u) (r : RelV v u) (hd : ∀ F : Hp, Rp X.K X.mg F v d) (hdb : (x == ("__debug__" : Str)) = false := by decide) : DE X Z W (.Name x pos) (dC d) :=
  d_const (pe_glob hg hm r hdb) hd
theorem d_var (i : Nat) {x : Str} (hN : X.N[i]? = some x := by rfl) (hv : Vis X.env.scope x := by first | exact Or.inl rfl | exact Or.inr (Or.inl rfl) | exact Or.inr (Or.inr rfl)) (hd : (x == ("__debug__" : Str)) = false := by decide)
    (hcd : (x == ("__classdict__" : Str)) = false := by decide) : DE X Z W (.Name x pos) (dVar i) := by
  refine PE.of (pe_var hN hv hd hcd) fun σ H Q ⟨F, G, env, P, E, R, ⟨t, e, w⟩, q, _⟩ => ?_
  unfold lookT at e
  cases es : env[i]? with
  | none => rw [es] at e; cases e
  | some s =>
    rw [es] at e
    have ok := R.slot i s es
    cases s with
    | un => cases e
    | dp d =>
      cases e
      obtain ⟨a, e1, _⟩ := ok
      exact ⟨_, e1, q _ _ F G H _ w R .refl ⟨e1, trivial⟩ trivial⟩
    | di d =>
      cases e
      obtain ⟨a, e1, _⟩ := ok
      exact ⟨_, e1, q _ _ F G H _ w R .refl ⟨e1, trivial⟩ trivial⟩
    | fz d n =>
      cases e
      obtain ⟨v, e1, r⟩ := ok
      exact ⟨v, e1, q _ _ F G H v w R .refl r trivial⟩
    | ow d n =>
      cases e
      obtain ⟨a, e1, _⟩ := ok
      exact ⟨_, e1, q _ _ F G H _ w R .refl ⟨e1, trivial⟩ trivial⟩
    | io d =>
      cases e
      obtain ⟨a, e1, _⟩ := ok
      exact ⟨_, e1, q _ _ F G H _ w R .refl ⟨e1, trivial⟩ trivial⟩
end

section
variable {K : PySem.W.Frag} {mg : Str → Option Value} {Z : Zx} {F G H F' G' H' : Hp} {σ : Sg} {env env' : DEnv}
theorem RT.ext {v : V} {t : T} (h : RT K mg Z F G H σ env v t) (ho : ∀ d n, t ≠ .ow d n) (e : Ext σ env env' F G H F' G' H') : RT K mg Z F' G' H' σ env' v t := by
  cases t with
  | fz d n => exact Rp.mono (sel_same e.f e.g) h
  | ow d n => exact absurd rfl (ho d n)
  | al i => exact ⟨h.1, trivial⟩
  | dp d =>
    obtain ⟨a, e1, h2, h3, h4⟩ := h
    refine ⟨a, e1, (h2.mono e.f).at_ fun b hb o eo => ?_, h3, fun b hb => ?_⟩
    · obtain ⟨u, eu, nt⟩ := h2.there b hb
      exact e.h b o eo (h4 b hb).2.1 (by rw [eu] at eo; cases eo; exact nt)
    · obtain ⟨u, eu, nt⟩ := h2.there b hb
      obtain ⟨k1, k2, k3⟩ := h4 b hb
      exact ⟨e.n b u eu k1 k2, fun z => (e.o b z).elim k2 fun q => (by rw [eu] at q; cases q), k3⟩
theorem RTs.ext {vs : List V} {ts : List T} (h : RTs K mg Z F G H σ env vs ts) (e : Ext σ env env' F G H F' G' H') : RTs K mg Z F' G' H' σ env' vs ts := by
  induction ts generalizing vs with
  | nil => cases vs with
    | nil => trivial
    | cons => exact h.elim
  | cons t ts ih => cases vs with
    | nil => exact h.elim
    | cons v vs => obtain ⟨h1, h2, h3⟩ := h; exact ⟨h1, RT.ext h2 h1 e, ih h3⟩
theorem hold_ow {t : T} : ∀ d n, hold t ≠ .ow d n := by
  intro d n
  cases t <;> (intro h; cases h)

/-- an own object is frozen: its tree over the grown heap -/
theorem OwnC.rp {B : Hp} {a : Addr} {d : D} {o : HO} (h : OwnC K mg B H a d) (e : H a = some o) {B' : Hp} (s : Same B B') (eb : B' a = some o) : Rp K mg B' (.ref a) d := by
  rcases h with ⟨ds, vs, h1, h2, h3⟩ | ⟨ds, vs, h1, h2, h3, h4⟩ | ⟨ds, vs, h1, h2, h3, h4⟩ | ⟨cn, fs, C, dx, fvs, h1, h2, h3, h4, h5⟩
  · subst h1; rw [h2] at e; cases e; exact .lst eb (h3.mono s)
  · subst h1; rw [h2] at e; cases e; exact .dK eb h3 (h4.mono s)
  · subst h1; rw [h2] at e; cases e; exact .dT eb h3 (h4.mono s)
  · subst h1; rw [h2] at e; cases e; exact .obj h3 eb h4 (h5.mono s)
theorem OwnC.rpH {B : Hp} {a : Addr} {d : D} (h : OwnC K mg B H a d) (s : Same B H) : Rp K mg H (.ref a) d := by
  obtain ⟨o, e⟩ := h.there
  exact h.rp e s e

/-- what hold does; H0, F0, G0, env0: the start -/
theorem RT.hold {F₀ G₀ H₀ : Hp} {env₀ : DEnv} {v : V} {t : T} (R : EnvR K mg Z F G H σ env) (x : Ext σ env₀ env F₀ G₀ H₀ F G H) (h : RT K mg Z F G H σ env v t) (nw : NewT H₀ v t) :
    ∃ F' G', EnvR K mg Z F' G' H σ env ∧ Ext σ env₀ env F₀ G₀ H₀ F' G' H ∧ RT K mg Z F' G' H σ env v (hold t) := by
  cases t with
  | fz d n => exact ⟨F, G, R, x, h⟩
  | al i => exact ⟨F, G, R, x, h⟩
  | dp d => exact ⟨F, G, R, x, h⟩
  | ow d n =>
    obtain ⟨a, rfl, h1, h2, h3, h4⟩ := h
    obtain ⟨_, e, h0⟩ := nw
    cases e
    obtain ⟨o, ho⟩ := h2.there
    have hG := snone R.gf h1
    refine ⟨upd F a o, addF n a o G, R.frz n ho h1 h3 h4, ⟨x.f.trans (same_upd h1), x.g.trans (addF_same hG), x.h, x.d, fun b u e k nb => ?_, x.o, x.r, x.l⟩, ?_⟩
    · rw [upd_ne (ne_of_none e h0)]
      exact x.n b u e k nb
    · exact h2.rp ho (sel_addF_le h1 hG) sel_addF
end
end DL

namespace DL
open PySem PySem.Spec L2

section
variable {K : PySem.W.Frag} {mg : Str → Option Value} {Z : Zx} {F G H F' G' H' B : Hp} {σ : Sg} {env env' : DEnv}
/-- v is to be read as d, its items in B -/
def Rv (K : PySem.W.Frag) (mg : Str → Option Value) (B H : Hp) (v : V) (d : D) : Prop := Rp K mg B v d ∨ ∃ a, v = .ref a ∧ OwnC K mg B H a d

theorem EnvR.gh (R : EnvR K mg Z F G H σ env) : Same G H := R.gf.trans R.fh
theorem EnvR.selH (R : EnvR K mg Z F G H σ env) {n : Bool} : Same (sel n G F) H := by
  cases n
  · exact R.fh
  · exact R.gh
theorem Rp.selg {n : Bool} {v : V} {d : D} (h : Rp K mg (sel n G F) v d) : Rp K mg (sel (n || DL.gnd d) G F) v d := by
  cases e : DL.gnd d with
  | true => exact h.gnd e
  | false => rw [Bool.or_false]; exact h
theorem RT.rv {v : V} {t : T} {d : D} (R : EnvR K mg Z F G H σ env) (h : RT K mg Z F G H σ env v t) (e : rd env t = some d) : Rv K mg (sel (rdn env t) G F) H v d := by
  cases t with
  | fz x n => cases e; exact .inl (Rp.selg h)
  | ow x n => cases e; obtain ⟨a, e1, _, e2, _⟩ := h; exact .inr ⟨a, e1, e2⟩
  | dp x => cases e
  | al i =>
    obtain ⟨h1, _⟩ := h
    cases es : env[i]? with
    | none => simp [rd, es] at e
    | some s =>
      have q := R.slot i s es
      simp only [rd, es] at e
      simp only [rdn, es]
      cases s with
      | un => cases e
      | dp x => cases e
      | di x => cases e
      | fz x n => cases e; obtain ⟨w, e1, e2⟩ := q; rw [h1] at e1; cases e1; exact .inl e2.selg
      | ow x n => cases e; obtain ⟨a, e1, _, e2, _⟩ := q; rw [h1] at e1; cases e1; exact .inr ⟨a, rfl, e2⟩
      | io x => cases e; obtain ⟨a, e1, _, e2, _⟩ := q; rw [h1] at e1; cases e1; exact .inr ⟨a, rfl, e2⟩
theorem Rv.rp {v : V} {d : D} (h : Rv K mg B H v d) (s : Same B H) : Rp K mg H v d := by
  rcases h with h | ⟨a, rfl, h⟩
  · exact h.mono s
  · exact h.rpH s
theorem Rv.list {v : V} {ds : List D} (h : Rv K mg B H v (.list ds)) (s : Same B H) : ∃ a vs, v = .ref a ∧ H a = some (.lst vs) ∧ Rps K mg B vs ds := by
  rcases h with h | ⟨a, rfl, h⟩
  · cases h with
    | lst h r => exact ⟨_, _, rfl, s _ _ h, r⟩
  · rcases h with ⟨es, vs, h1, h2, h3⟩ | ⟨es, vs, h1, h2, h3, h4⟩ | ⟨es, vs, h1, h2, h3, h4⟩ | ⟨cn, fs, C, dx, fvs, h1, h2, h3, h4, h5⟩
    · cases h1; exact ⟨_, _, rfl, h2, h3⟩
    · cases h1
    · cases h1
    · cases h1
theorem Rv.tup {v : V} {ds : List D} (h : Rv K mg B H v (.tuple ds)) : ∃ a vs, v = .ref a ∧ B a = some (.tup vs) ∧ Rps K mg B vs ds := by
  rcases h with h | ⟨a, rfl, h⟩
  · cases h with
    | tup h r => exact ⟨_, _, rfl, h, r⟩
  · rcases h with ⟨es, vs, h1, h2, h3⟩ | ⟨es, vs, h1, h2, h3, h4⟩ | ⟨es, vs, h1, h2, h3, h4⟩ | ⟨cn, fs, C, dx, fvs, h1, h2, h3, h4, h5⟩ <;> cases h1
theorem Rv.ktup {v : V} {ds : List D} (h : Rv K mg B H v (.ktup ds)) : ∃ a vs, v = .ref a ∧ SqT K B a vs ∧ Rps K mg B vs ds := by
  rcases h with h | ⟨a, rfl, h⟩
  · cases h with
    | ktup h r => exact ⟨_, _, rfl, h, r⟩
  · rcases h with ⟨es, vs, h1, h2, h3⟩ | ⟨es, vs, h1, h2, h3, h4⟩ | ⟨es, vs, h1, h2, h3, h4⟩ | ⟨cn, fs, C, dx, fvs, h1, h2, h3, h4, h5⟩ <;> cases h1
theorem Rv.int {v : V} {i : Int} (h : Rv K mg B H v (.int i)) : v = .int i := by
  rcases h with h | ⟨a, rfl, h⟩
  · cases h; rfl
  · rcases h with ⟨es, vs, h1, h2, h3⟩ | ⟨es, vs, h1, h2, h3, h4⟩ | ⟨es, vs, h1, h2, h3, h4⟩ | ⟨cn, fs, C, dx, fvs, h1, h2, h3, h4, h5⟩ <;> cases h1
theorem Rv.bl {v : V} {i : Bool} (h : Rv K mg B H v (.bool i)) : v = .bl i := by
  rcases h with h | ⟨a, rfl, h⟩
  · cases h; rfl
  · rcases h with ⟨es, vs, h1, h2, h3⟩ | ⟨es, vs, h1, h2, h3, h4⟩ | ⟨es, vs, h1, h2, h3, h4⟩ | ⟨cn, fs, C, dx, fvs, h1, h2, h3, h4, h5⟩ <;> cases h1
theorem Rv.str {v : V} {i : Str} (h : Rv K mg B H v (.str i)) : v = .str i := by
  rcases h with h | ⟨a, rfl, h⟩
  · cases h; rfl
  · rcases h with ⟨es, vs, h1, h2, h3⟩ | ⟨es, vs, h1, h2, h3, h4⟩ | ⟨es, vs, h1, h2, h3, h4⟩ | ⟨cn, fs, C, dx, fvs, h1, h2, h3, h4, h5⟩ <;> cases h1
theorem Rv.non {v : V} (h : Rv K mg B H v .none) : v = .non := by
  rcases h with h | ⟨a, rfl, h⟩
  · cases h; rfl
  · rcases h with ⟨es, vs, h1, h2, h3⟩ | ⟨es, vs, h1, h2, h3, h4⟩ | ⟨es, vs, h1, h2, h3, h4⟩ | ⟨cn, fs, C, dx, fvs, h1, h2, h3, h4, h5⟩ <;> cases h1
theorem Rv.scr {v : V} {ds : List D} (h : Rv K mg B H v (.scr ds)) : ∃ a vs, v = .ref a ∧ SqL K B a vs ∧ Rps K mg B vs ds := by
  rcases h with h | ⟨a, rfl, h⟩
  · cases h with
    | scr h r => exact ⟨_, _, rfl, h, r⟩
  · rcases h with ⟨es, vs, h1, h2, h3⟩ | ⟨es, vs, h1, h2, h3, h4⟩ | ⟨es, vs, h1, h2, h3, h4⟩ | ⟨cn, fs, C, dx, fvs, h1, h2, h3, h4, h5⟩ <;> cases h1
/-- lists and tuples, their items -/
def seqOf : D → Option (List D)
  | .list xs => some xs | .tuple xs => some xs | .scr xs => some xs | .ktup xs => some xs | _ => none
theorem Rv.seq {v : V} {d : D} {ds : List D} (h : Rv K mg B H v d) (s : Same B H) (e : seqOf d = some ds) : ∃ a vs, v = .ref a ∧ (SqL K H a vs ∨ SqT K H a vs) ∧ Rps K mg B vs ds := by
  cases d <;> first
    | (cases e; done)
    | (cases e
       first
         | (obtain ⟨a, vs, h1, h2, h3⟩ := h.list s; exact ⟨a, vs, h1, .inl (SqL.of h2), h3⟩)
         | (obtain ⟨a, vs, h1, h2, h3⟩ := h.tup; exact ⟨a, vs, h1, .inr (SqT.of (s _ _ h2)), h3⟩)
         | (obtain ⟨a, vs, h1, h2, h3⟩ := h.scr; exact ⟨a, vs, h1, .inl (s.seq h2), h3⟩)
         | (obtain ⟨a, vs, h1, h2, h3⟩ := h.ktup; exact ⟨a, vs, h1, .inr (Same.seqT s h2), h3⟩))

theorem RT.newOwn {p : Addr} {o : HO} {d : D} {n : Bool} (R : EnvR K mg Z F G H σ env) (hp : H p = none) (hc : OwnC K mg (sel n G F) (upd H p o) p d) :
    EnvR K mg Z F G (upd H p o) σ env ∧ Ext σ env env F G H F G (upd H p o) ∧ RT K mg Z F G (upd H p o) σ env (.ref p) (.ow d n) ∧ NewT H (.ref p) (.ow d n) :=
  ⟨R.grow (same_upd hp), Ext.grow (same_upd hp), ⟨p, rfl, snone R.fh hp, hc, R.not_own hp, R.h0 hp⟩, p, rfl, hp⟩
theorem RT.newList {p : Addr} {vs : List V} {ds : List D} {n : Bool} (R : EnvR K mg Z F G H σ env) (hp : H p = none) (r : Rps K mg (sel n G F) vs ds) :
    EnvR K mg Z F G (upd H p (.lst vs)) σ env ∧ Ext σ env env F G H F G (upd H p (.lst vs)) ∧ RT K mg Z F G (upd H p (.lst vs)) σ env (.ref p) (.ow (.list ds) n) ∧ NewT H (.ref p) (.ow (.list ds) n) :=
  RT.newOwn R hp (.inl ⟨ds, vs, rfl, upd_same, r⟩)
theorem RT.newTup {p : Addr} {vs : List V} {ds : List D} {n : Bool} (R : EnvR K mg Z F G H σ env) (hp : H p = none) (r : Rps K mg (sel n G F) vs ds) :
    EnvR K mg Z (upd F p (.tup vs)) (addF n p (.tup vs) G) (upd H p (.tup vs)) σ env ∧ Ext σ env env F G H (upd F p (.tup vs)) (addF n p (.tup vs) G) (upd H p (.tup vs)) ∧
      RT K mg Z (upd F p (.tup vs)) (addF n p (.tup vs) G) (upd H p (.tup vs)) σ env (.ref p) (.fz (.tuple ds) n) := by
  obtain ⟨h1, h2⟩ := R.lay n hp
  have hF := snone R.fh hp
  exact ⟨h1, h2, .tup sel_addF (r.mono (sel_addF_le hF (snone R.gf hF)))⟩
theorem sel_and {n m : Bool} (gf : Same G F) : Same (sel n G F) (sel (n && m) G F) := by
  cases n <;> cases m
  · exact .refl _
  · exact .refl _
  · exact gf
  · exact .refl _
theorem sel_and' {n m : Bool} (gf : Same G F) : Same (sel m G F) (sel (n && m) G F) := by
  cases n <;> cases m
  · exact .refl _
  · exact gf
  · exact .refl _
  · exact .refl _
end

abbrev F2 := D → D → Bool → Bool → (T → Prop) → Prop
abbrev After (X : Cx) (Z : Zx) (F G H : Hp) (σ : Sg) (env : DEnv) (P : T → Prop) (Q : VK) : Prop :=
  ∀ (t : T) (F' G' H' : Hp) (v : V), P t → EnvR X.K X.mg Z F' G' H' σ env → Ext σ env env F G H F' G' H' → RT X.K X.mg Z F' G' H' σ env v t → NewT H v t → Q v H'
def OpD (X : Cx) (g : Value → Value → Sem Value) (f : F2) : Prop := ∃ r : R2, OpR X g r ∧
  ∀ (Z : Zx) (F G H : Hp) (σ : Sg) (env : DEnv) (v1 v2 : V) (d1 d2 : D) (n1 n2 : Bool) (P : T → Prop) (Q : VK),
    EnvR X.K X.mg Z F G H σ env → Rv X.K X.mg (sel n1 G F) H v1 d1 → Rv X.K X.mg (sel n2 G F) H v2 d2 → f d1 d2 n1 n2 P → After X Z F G H σ env P Q → r v1 v2 H Q
/-- two values by an operation -/
def dOp (f : F2) (wa wb : DW) : DW := fun env P E => wa env (fun ta env1 => wb env1 (fun tb env2 => ∃ x y, rd env2 (hold ta) = some x ∧ rd env2 (hold tb) = some y ∧ f x y (rdn env2 (hold ta)) (rdn env2 (hold tb)) fun t => P t env2) E) E
section
variable {X : Cx} {Z : Zx} {W : WX} {pos : Pos}
theorem d_op0 {g : Value → Value → Sem Value} {f : F2} {e a b : Expr} {wa wb : DW} (h : OpD X g f) (k : ∀ {r : R2} {ta tb : TE}, OpR X g r → PE X a ta → PE X b tb → PE X e (tOp r ta tb)) (ha : DE X Z W a wa) (hb : DE X Z W b wb) : DE X Z W e (dOp f wa wb) := by
  obtain ⟨r, hr, hf⟩ := h
  refine PE.of (k hr ha hb) fun σ H Q ⟨F, G, env, P, E, R, w, q, qe⟩ => ?_
  refine ⟨F, G, env, _, E, R, w, fun ta env1 F1 G1 H1 v1 p1 R1 x1 r1 n1 => ?_, qe⟩
  obtain ⟨F2, G2, R2, x2, r2⟩ := RT.hold R1 x1 r1 n1
  refine ⟨F2, G2, env1, _, E, R2, p1, fun tb env3 F3 G3 H3 v3 p3 R3 x3 r3 n3 => ?_, qe⟩
  obtain ⟨F4, G4, R4, x4, r4⟩ := RT.hold R3 x3 r3 n3
  obtain ⟨x, y, e1, e2, p⟩ := p3
  have r2' := RT.ext r2 hold_ow x4
  have xx := x2.trans x4
  refine hf Z F4 G4 H3 σ env3 v1 v3 x y _ _ _ _ R4 (RT.rv R4 r2' e1) (RT.rv R4 r4 e2) p fun t F' G' H' v pt R' x' r' n' => ?_
  refine q t env3 F' G' H' v pt R' (xx.trans x') r' ?_
  cases t with
  | fz => trivial
  | al => trivial
  | dp d =>
    obtain ⟨a', rfl, e⟩ := n'
    exact ⟨a', rfl, fun b hb => noneB xx.d (e b hb)⟩
  | ow d n =>
    obtain ⟨a', rfl, e⟩ := n'
    refine ⟨a', rfl, ?_⟩
    cases eH : H a' with
    | none => rfl
    | some o => obtain ⟨u, z⟩ := xx.d _ _ eH; rw [e] at z; cases z
theorem d_op {op : Operator} {f : F2} {a b : Expr} {wa wb : DW} (h : OpD X (binaryOp op) f) (ha : DE X Z W a wa) (hb : DE X Z W b wb) : DE X Z W (.BinOp a op b pos) (dOp f wa wb) :=
  d_op0 h (fun h1 h2 h3 => pe_op h1 h2 h3) ha hb
theorem d_cmp {op : CmpOp} {f : F2} {a b : Expr} {wa wb : DW} (h : OpD X (compareOp op) f) (hm : behindInMarks op b = false) (ha : DE X Z W a wa) (hb : DE X Z W b wb) : DE X Z W (.Compare a [op] [b] pos) (dOp f wa wb) :=
  d_op0 h (fun h1 h2 h3 => pe_cmpR h1 h2 h3 hm) ha hb
end
end DL

namespace DL
open PySem PySem.Spec L2

def dI (i : Int) : T := .fz (.int i) true
def dB (b : Bool) : T := .fz (.bool b) true
def dS (x : Str) : T := .fz (.str x) true

section
variable {X : Cx}
theorem OpR.or {f : Value → Value → Sem Value} {r r' : R2} (h : OpR X f r) (h' : OpR X f r') : OpR X f (fun x y H Q => r x y H Q ∨ r' x y H Q) := by
  intro pins s σ H x y v u Q I rx ry q
  rcases q with q | q
  · exact h pins s σ H x y v u Q I rx ry q
  · exact h' pins s σ H x y v u Q I rx ry q

/-- two ints in, under C, one value out -/
def fI (C : Int → Int → Prop) (g : Int → Int → T) : F2 := fun x y _ _ P => ∃ i j, x = .int i ∧ y = .int j ∧ C i j ∧ P (g i j)
theorem opD_I {f : Value → Value → Sem Value} {C : Int → Int → Prop} {g : Int → Int → Int} (h : OpR X f (rI C fun i j => .int (g i j))) : OpD X f (fI C fun i j => dI (g i j)) := by
  refine ⟨_, h, fun Z F G H σ env v1 v2 d1 d2 n1 n2 P Q R h1 h2 hf q => ?_⟩
  obtain ⟨i, j, rfl, rfl, hc, p⟩ := hf
  exact ⟨i, j, h1.int, h2.int, hc, q _ F G H _ p R .refl (.int _) trivial⟩
theorem opD_I0 {f : Value → Value → Sem Value} {g : Int → Int → Int} (h : OpR X f (rI0 fun i j => .int (g i j))) : OpD X f (fI (fun _ _ => True) fun i j => dI (g i j)) := by
  refine ⟨_, h, fun Z F G H σ env v1 v2 d1 d2 n1 n2 P Q R h1 h2 hf q => ?_⟩
  obtain ⟨i, j, rfl, rfl, hc, p⟩ := hf
  exact ⟨i, j, h1.int, h2.int, q _ F G H _ p R .refl (.int _) trivial⟩

def fAdd : F2 := fun x y n m P => match x, y with
  | .int i, .int j => P (dI (i + j))
  | .str a, .str b => a.length + b.length ≤ sizeLine ∧ P (dS (a ++ b))
  | .list xs, .list ys => xs.length + ys.length ≤ sizeLine ∧ P (.ow (.list (xs ++ ys)) (n && m))
  | .tuple xs, .tuple ys => xs ≠ [] ∧ xs.length + ys.length ≤ sizeLine ∧ P (.fz (.tuple (xs ++ ys)) (n && m))
  | _, _ => False
theorem o_add : OpD X (binaryOp .Add) fAdd := by
  refine ⟨_, OpR.or op_add (OpR.or op_add_str (OpR.or op_cat op_catT)), fun Z F G H σ env v1 v2 d1 d2 n1 n2 P Q R h1 h2 hf q => ?_⟩
  unfold fAdd at hf
  split at hf
  · exact .inl ⟨_, _, h1.int, h2.int, q _ F G H _ hf R .refl (.int _) trivial⟩
  · exact .inr (.inl ⟨_, _, h1.str, h2.str, hf.1, q _ F G H _ hf.2 R .refl (.str _) trivial⟩)
  · obtain ⟨a, vs, rfl, ha, ra⟩ := h1.list R.selH
    obtain ⟨b, ws, rfl, hb, rb⟩ := h2.list R.selH
    refine .inr (.inr (.inl ⟨a, b, vs, ws, rfl, rfl, ha, hb, by rw [ra.length, rb.length]; exact hf.1, fun p hp => ?_⟩))
    obtain ⟨k1, k2, k3, k4⟩ := RT.newList (n := n1 && n2) R hp ((ra.mono (sel_and R.gf)).append (rb.mono (sel_and' R.gf)))
    exact q _ _ _ _ _ hf.2 k1 k2 k3 k4
  · obtain ⟨a, vs, rfl, ha, ra⟩ := h1.tup
    obtain ⟨b, ws, rfl, hb, rb⟩ := h2.tup
    have e1 := ra.length
    have e2 := rb.length
    obtain ⟨hx, hl, p⟩ := hf
    refine .inr (.inr (.inr ⟨a, b, vs, ws, rfl, rfl, SqT.of (R.selH _ _ ha), SqT.of (R.selH _ _ hb), fun z => hx (by subst z; exact List.length_eq_zero_iff.mp (by rw [← e1]; rfl)), by rw [e1, e2]; exact hl, fun z => ?_, fun z p' hp => ?_⟩))
    · subst z
      have e3 := List.length_eq_zero_iff.mp (show _ = 0 from e2.symm)
      subst e3
      rw [List.append_nil] at p
      exact q _ F G H _ p R .refl (Rp.mono (sel_and R.gf) (.tup ha ra)) trivial
    · obtain ⟨k1, k2, k3⟩ := RT.newTup (n := n1 && n2) R hp ((ra.mono (sel_and R.gf)).append (rb.mono (sel_and' R.gf)))
      exact q _ _ _ _ _ p k1 k2 k3 trivial
  · exact hf.elim

def fMul : F2 := fun x y n _ P => match x, y with
  | .int i, .int j => CMulW i j ∧ P (dI (i * j))
  | .list xs, .int k => -(2 ^ 63) ≤ k ∧ k < 2 ^ 63 ∧ xs.length * k.toNat ≤ sizeLine ∧ P (.ow (.list (List.replicate k.toNat xs).flatten) n)
  | _, _ => False
theorem Rps.flat {K : PySem.W.Frag} {mg : Str → Option Value} {B : Hp} {vs : List V} {ds : List D} (r : Rps K mg B vs ds) : ∀ n : Nat, Rps K mg B (List.replicate n vs).flatten (List.replicate n ds).flatten
  | 0 => .nil
  | n + 1 => by
    rw [List.replicate_succ, List.replicate_succ, List.flatten_cons, List.flatten_cons]
    exact r.append (Rps.flat r n)
theorem o_mul : OpD X (binaryOp .Mult) fMul := by
  refine ⟨_, OpR.or op_mulW op_rep, fun Z F G H σ env v1 v2 d1 d2 n1 n2 P Q R h1 h2 hf q => ?_⟩
  unfold fMul at hf
  split at hf
  · exact .inl ⟨_, _, h1.int, h2.int, hf.1, q _ F G H _ hf.2 R .refl (.int _) trivial⟩
  · obtain ⟨a, vs, rfl, ha, ra⟩ := h1.list R.selH
    obtain ⟨z1, z2, z3, p⟩ := hf
    refine .inr ⟨a, _, vs, rfl, h2.int, ha, z1, z2, by rw [ra.length]; exact z3, fun p' hp => ?_⟩
    obtain ⟨k1, k2, k3, k4⟩ := RT.newList (n := n1) R hp (Rps.flat ra _)
    exact q _ _ _ _ _ p k1 k2 k3 k4
  · exact hf.elim
theorem o_sub : OpD X (binaryOp .Sub) (fI (fun _ _ => True) fun i j => dI (i - j)) := opD_I0 op_sub
theorem o_fdiv : OpD X (binaryOp .FloorDiv) (fI CDivW fun i j => dI (i / j)) := opD_I op_fdivW
theorem o_mod : OpD X (binaryOp .Mod) (fI (fun _ j => 0 < j) fun i j => dI (i % j)) := opD_I op_mod
theorem o_pow : OpD X (binaryOp .Pow) (fI CPow fun i j => dI (i ^ j.toNat)) := opD_I op_pow
def fOrd (g : Int → Int → Bool) (gs : Str → Str → Bool) : F2 := fun x y _ _ P => match x, y with
  | .int i, .int j => P (dB (g i j))
  | .str i, .str j => P (dB (gs i j))
  | _, _ => False
theorem opD_ord {f : Value → Value → Sem Value} {g : Int → Int → Bool} {gs : Str → Str → Bool} (h : OpR X f (rI0 fun i j => .bl (g i j)))
    (h2 : OpR X f (fun x y H Q => ∃ i j, x = .str i ∧ y = .str j ∧ Q (.bl (gs i j)) H)) : OpD X f (fOrd g gs) := by
  refine ⟨_, OpR.or h h2, fun Z F G H σ env v1 v2 d1 d2 n1 n2 P Q R h1 h2 hf q => ?_⟩
  unfold fOrd at hf
  split at hf
  · exact .inl ⟨_, _, h1.int, h2.int, q _ F G H _ hf R .refl (.bl _) trivial⟩
  · exact .inr ⟨_, _, h1.str, h2.str, q _ F G H _ hf R .refl (.bl _) trivial⟩
  · exact hf.elim
/-- the ints of a row -/
def intsOf : List D → Option (List Int)
  | [] => some []
  | .int i :: r => (intsOf r).map (i :: ·)
  | _ :: _ => none
theorem Rps.ints {K : PySem.W.Frag} {mg : Str → Option Value} {B : Hp} {vs : List V} {ds : List D} (r : Rps K mg B vs ds) : ∀ {ns : List Int}, intsOf ds = some ns → vs = ns.map V.int := by
  induction ds generalizing vs with
  | nil => intro ns e; cases e; cases r; rfl
  | cons d ds ih =>
    intro ns e
    cases r with
    | cons h t =>
      cases d <;> first | (cases e; done) | skip
      rename_i i
      cases em : intsOf ds with
      | none => simp [intsOf, em] at e
      | some ms =>
        simp [intsOf, em] at e
        subst e
        cases h
        rw [ih t em]
        rfl
def fLt : F2 := fun x y n m P => match x, y with
  | .int i, .int j => P (dB (decide (i < j)))
  | .str i, .str j => P (dB (decide (i.cps.toList < j.cps.toList)))
  | .tuple xs, .tuple ys => ∃ ns ms, intsOf xs = some ns ∧ intsOf ys = some ms ∧ P (dB (HT.lexLt ns ms))
  | _, _ => False
theorem o_lt (hu : X.A.units < cLine) : OpD X (compareOp .Lt) fLt := by
  refine ⟨_, OpR.or op_lt (OpR.or op_lt_str (op_ltT hu)), fun Z F G H σ env v1 v2 d1 d2 n1 n2 P Q R h1 h2 hf q => ?_⟩
  unfold fLt at hf
  split at hf
  · exact .inl ⟨_, _, h1.int, h2.int, q _ F G H _ hf R .refl (.bl _) trivial⟩
  · exact .inr (.inl ⟨_, _, h1.str, h2.str, q _ F G H _ hf R .refl (.bl _) trivial⟩)
  · obtain ⟨a, vs, rfl, ha, ra⟩ := h1.tup
    obtain ⟨b, ws, rfl, hb, rb⟩ := h2.tup
    obtain ⟨ns, ms, e1, e2, p⟩ := hf
    have k1 := ra.ints e1
    have k2 := rb.ints e2
    subst k1 k2
    exact .inr (.inr ⟨a, b, ns, ms, rfl, rfl, SqT.of (R.selH _ _ ha), SqT.of (R.selH _ _ hb), q _ F G H _ p R .refl (.bl _) trivial⟩)
  · exact hf.elim
theorem o_le : OpD X (compareOp .LtE) (fOrd (fun i j => decide (i ≤ j)) fun i j => !decide (j.cps.toList < i.cps.toList)) := opD_ord op_le op_le_str
theorem o_gt : OpD X (compareOp .Gt) (fOrd (fun i j => decide (j < i)) fun i j => decide (j.cps.toList < i.cps.toList)) := opD_ord op_gt op_gt_str
theorem o_ge : OpD X (compareOp .GtE) (fOrd (fun i j => decide (j ≤ i)) fun i j => !decide (i.cps.toList < j.cps.toList)) := opD_ord op_ge op_ge_str

/-- == of plain data -/
def deq (x y : D) : Bool := PyData.eqv x.pd y.pd
def okD (x : D) : Bool := pln x && SeqAt.shaped x.pd
def fEq : F2 := fun x y _ _ P => okD x = true ∧ okD y = true ∧ P (dB (deq x y))
def fNe : F2 := fun x y _ _ P => okD x = true ∧ okD y = true ∧ P (dB (!deq x y))
theorem okD_of {x : D} (h : okD x = true) : pln x = true ∧ SeqAt.shaped x.pd = true := by simpa [okD] using h
theorem o_eq (hu : X.A.units + 64 < cLine) : OpD X (compareOp .Eq) fEq := by
  refine ⟨_, op_eqD hu, fun Z F G H σ env v1 v2 d1 d2 n1 n2 P Q R h1 h2 ⟨k1, k2, p⟩ q => ?_⟩
  obtain ⟨a1, a2⟩ := okD_of k1
  obtain ⟨b1, b2⟩ := okD_of k2
  exact ⟨_, _, (h1.rp R.selH).dp a1, (h2.rp R.selH).dp b1, a2, b2, q _ F G H _ p R .refl (.bl _) trivial⟩
theorem o_ne (hu : X.A.units + 64 < cLine) : OpD X (compareOp .NotEq) fNe := by
  refine ⟨_, op_neD hu, fun Z F G H σ env v1 v2 d1 d2 n1 n2 P Q R h1 h2 ⟨k1, k2, p⟩ q => ?_⟩
  obtain ⟨a1, a2⟩ := okD_of k1
  obtain ⟨b1, b2⟩ := okD_of k2
  exact ⟨_, _, (h1.rp R.selH).dp a1, (h2.rp R.selH).dp b1, a2, b2, q _ F G H _ p R .refl (.bl _) trivial⟩

/-- is, of None and of bools -/
def isN : D → Bool
  | .none => true | _ => false
def fIs (neg : Bool) : F2 := fun x y _ _ P => match x, y with
  | .bool a, .bool b => P (dB (neg != decide (a = b)))
  | x, .none => P (dB (neg != isN x))
  | _, _ => False
theorem Rp.isN {K : PySem.W.Frag} {mg : Str → Option Value} {B : Hp} {v : V} {d : D} (h : Rp K mg B v d) : decide (v = .non) = DL.isN d := by cases h <;> rfl
theorem Rv.isN {K : PySem.W.Frag} {mg : Str → Option Value} {B H : Hp} {v : V} {d : D} (h : Rv K mg B H v d) : decide (v = .non) = DL.isN d := by
  rcases h with h | ⟨a, rfl, h⟩
  · exact h.isN
  · rcases h with ⟨es, vs, h1, h2, h3⟩ | ⟨es, vs, h1, h2, h3, h4⟩ | ⟨es, vs, h1, h2, h3, h4⟩ | ⟨cn, fs, C, dx, fvs, h1, h2, h3, h4, h5⟩ <;> (subst h1; rfl)
theorem o_is : OpD X (compareOp .Is) (fIs false) := by
  refine ⟨_, OpR.or op_isN op_is_bl, fun Z F G H σ env v1 v2 d1 d2 n1 n2 P Q R h1 h2 hf q => ?_⟩
  unfold fIs at hf
  split at hf
  · exact .inr ⟨_, _, h1.bl, h2.bl, by have := q _ F G H _ hf R .refl (.bl _) trivial; simpa using this⟩
  · exact .inl ⟨h2.non, by rw [h1.isN]; have := q _ F G H _ hf R .refl (.bl _) trivial; simpa using this⟩
  · exact hf.elim
end
end DL

namespace DL
open PySem PySem.Spec L2

def keyK : D → Option Key
  | .int i => some (.inl i)
  | .str x => some (.inr x)
  | _ => none
def keysK : List D → Option (List Key)
  | [] => some []
  | d :: r => match keyK d, keysK r with
    | some k, some ks => some (k :: ks)
    | _, _ => none
def keyT : D → Option (List Key)
  | .tuple xs => keysK xs
  | _ => none
def dget (kvs : List (D × D)) (k : D) : Option D := (kvs.find? fun p => deq p.1 k).map (·.2)
def dput (kvs : List (D × D)) (k v : D) : List (D × D) :=
  if (kvs.any fun p => deq p.1 k) = true then kvs.map (fun p => if deq p.1 k = true then (p.1, v) else p) else kvs ++ [(k, v)]

theorem keyK_of {d : D} {k : Key} (h : keyK d = some k) : d = keyD k := by
  cases d <;> first | (cases h; done) | (cases h; rfl)
theorem keysK_of : ∀ {ds : List D} {ks : List Key}, keysK ds = some ks → ds = ks.map keyD
  | [], ks, h => by cases h; rfl
  | d :: r, ks, h => by
    unfold keysK at h
    cases e1 : keyK d with
    | none => rw [e1] at h; cases h
    | some k =>
      cases e2 : keysK r with
      | none => rw [e1, e2] at h; cases h
      | some l =>
        rw [e1, e2] at h
        cases h
        rw [keyK_of e1, keysK_of e2]
        rfl
theorem keyT_of {d : D} {k : List Key} (h : keyT d = some k) : d = .tuple (k.map keyD) := by
  cases d <;> first | (cases h; done) | (rw [keysK_of (show keysK _ = some k from h)])
theorem deq_key (a b : Key) : deq (keyD a) (keyD b) = decide (a = b) := by
  cases a <;> cases b <;> simp [deq, keyD, D.pd, PyData.eqv] <;> (rw [Bool.eq_iff_iff]; simp)
theorem eqvAll_keys : ∀ a b : List Key, PyData.eqvAll (D.pds (a.map keyD)) (D.pds (b.map keyD)) = decide (a = b)
  | [], [] => by simp [D.pds, PyData.eqvAll]
  | [], _ :: _ => by simp [D.pds, PyData.eqvAll]
  | _ :: _, [] => by simp [D.pds, PyData.eqvAll]
  | x :: xs, y :: ys => by
    simp only [List.map_cons, D.pds, PyData.eqvAll]
    rw [show PyData.eqv (keyD x).pd (keyD y).pd = decide (x = y) from deq_key x y, eqvAll_keys xs ys]
    simp
theorem deq_keyT (a b : List Key) : deq (.tuple (a.map keyD)) (.tuple (b.map keyD)) = decide (a = b) := by
  show PyData.eqv (PyData.tuple _) (PyData.tuple _) = _
  simp only [PyData.eqv]
  exact eqvAll_keys a b

section
variable {K : PySem.W.Frag} {mg : Str → Option Value} {B : Hp} {κ : Type} [DecidableEq κ] {kd : κ → D}
/-- looking up: the same on both sides -/
theorem dget_val (hk : ∀ a b : κ, deq (kd a) (kd b) = decide (a = b)) {k : κ} : ∀ {kvs : List (κ × V)} {ds : List (D × D)}, ds.map (·.1) = kvs.map (fun p => kd p.1) → Rps K mg B (kvs.map (·.2)) (ds.map (·.2)) →
    (valV kvs k = none ∧ dget ds (kd k) = none) ∨ ∃ v d, valV kvs k = some v ∧ dget ds (kd k) = some d ∧ Rp K mg B v d
  | [], [], _, _ => .inl ⟨rfl, rfl⟩
  | [], _ :: _, h, _ => by simp at h
  | _ :: _, [], h, _ => by simp at h
  | (k1, v) :: r, (d1, d) :: t, h, q => by
    simp only [List.map_cons, List.cons.injEq] at h
    obtain ⟨h1, h2⟩ := h
    subst h1
    cases q with
    | cons q1 q2 =>
      by_cases e : k1 = k
      · subst e
        refine .inr ⟨v, d, valV_pos rfl, ?_, q1⟩
        simp [dget, hk]
      · have z := dget_val hk (k := k) h2 q2
        have e1 : valV ((k1, v) :: r) k = valV r k := by simp [valV, e]
        have e2 : dget ((kd k1, d) :: t) (kd k) = dget t (kd k) := by simp [dget, hk, e]
        rw [e1, e2]
        exact z
theorem any_key (hk : ∀ a b : κ, deq (kd a) (kd b) = decide (a = b)) {k : κ} : ∀ {kvs : List (κ × V)} {ds : List (D × D)}, ds.map (·.1) = kvs.map (fun p => kd p.1) →
    (ds.any fun p => deq p.1 (kd k)) = kvs.any fun kv => decide (kv.1 = k)
  | [], [], _ => rfl
  | [], _ :: _, h => by simp at h
  | _ :: _, [], h => by simp at h
  | (k1, v) :: r, (d1, d) :: t, h => by
    simp only [List.map_cons, List.cons.injEq] at h
    obtain ⟨h1, h2⟩ := h
    subst h1
    rw [List.any_cons, List.any_cons, any_key hk h2, hk]
theorem put_keys (hk : ∀ a b : κ, deq (kd a) (kd b) = decide (a = b)) {k : κ} {v : V} {d : D} (hv : Rp K mg B v d) {kvs : List (κ × V)} {ds : List (D × D)} (h : ds.map (·.1) = kvs.map (fun p => kd p.1)) (q : Rps K mg B (kvs.map (·.2)) (ds.map (·.2))) :
    (dput ds (kd k) d).map (·.1) = (putK kvs k v).map (fun p => kd p.1) ∧ Rps K mg B ((putK kvs k v).map (·.2)) ((dput ds (kd k) d).map (·.2)) := by
  unfold dput putK
  rw [any_key hk h]
  cases e : kvs.any fun kv => decide (kv.1 = k) with
  | false =>
    simp only [Bool.false_eq_true, if_false]
    simp only [List.map_append, List.map_cons, List.map_nil]
    exact ⟨by rw [h], q.append (.one hv)⟩
  | true =>
    simp only [if_true]
    clear e
    induction kvs generalizing ds with
    | nil =>
      cases ds with
      | nil => exact ⟨rfl, .nil⟩
      | cons => simp at h
    | cons p r ih =>
      cases ds with
      | nil => simp at h
      | cons p' t =>
        obtain ⟨k1, v1⟩ := p
        obtain ⟨d1, d2⟩ := p'
        simp only [List.map_cons, List.cons.injEq] at h
        obtain ⟨h1, h2⟩ := h
        subst h1
        cases q with
        | cons q1 q2 =>
          obtain ⟨i1, i2⟩ := ih h2 q2
          by_cases ek : k1 = k
          · subst ek
            simp only [List.map_cons, hk, decide_true, if_true]
            exact ⟨congrArg _ i1, .cons hv i2⟩
          · simp only [List.map_cons, hk, ek, decide_false, Bool.false_eq_true, if_false]
            exact ⟨congrArg _ i1, .cons q1 i2⟩
end

section
variable {K : PySem.W.Frag} {mg : Str → Option Value} {Z : Zx} {F G H F' G' H' B : Hp} {σ : Sg} {env env' : DEnv}
theorem Rv.dictK {v : V} {ds : List (D × D)} (h : Rv K mg B H v (.dict false ds)) (s : Same B H) : ∃ a kvs, v = .ref a ∧ H a = some (.dK kvs) ∧ ds.map (·.1) = kvs.map (fun p => keyD p.1) ∧ Rps K mg B (kvs.map (·.2)) (ds.map (·.2)) := by
  rcases h with h | ⟨a, rfl, h⟩
  · cases h with
    | dK h k r => exact ⟨_, _, rfl, s _ _ h, k, r⟩
  · rcases h with ⟨es, vs, h1, h2, h3⟩ | ⟨es, vs, h1, h2, h3, h4⟩ | ⟨es, vs, h1, h2, h3, h4⟩ | ⟨cn, fs, C, dx, fvs, h1, h2, h3, h4, h5⟩
    · cases h1
    · cases h1; exact ⟨_, _, rfl, h2, h3, h4⟩
    · cases h1
    · cases h1
theorem Rv.dictT {v : V} {ds : List (D × D)} (h : Rv K mg B H v (.dict true ds)) (s : Same B H) : ∃ a kvs, v = .ref a ∧ H a = some (.dT kvs) ∧ ds.map (·.1) = kvs.map (fun p => D.tuple (p.1.map keyD)) ∧ Rps K mg B (kvs.map (·.2)) (ds.map (·.2)) := by
  rcases h with h | ⟨a, rfl, h⟩
  · cases h with
    | dT h k r => exact ⟨_, _, rfl, s _ _ h, k, r⟩
  · rcases h with ⟨es, vs, h1, h2, h3⟩ | ⟨es, vs, h1, h2, h3, h4⟩ | ⟨es, vs, h1, h2, h3, h4⟩ | ⟨cn, fs, C, dx, fvs, h1, h2, h3, h4, h5⟩
    · cases h1
    · cases h1
    · cases h1; exact ⟨_, _, rfl, h2, h3, h4⟩
    · cases h1
theorem keyV {v : V} {k : Key} (h : Rv K mg B H v (keyD k)) : v = kV k := by
  cases k with
  | inl i => exact h.int
  | inr x => exact h.str
theorem keysV : ∀ {ks : List Key} {vs : List V}, Rps K mg B vs (ks.map keyD) → vs = ks.map kV
  | [], _, h => by cases h; rfl
  | k :: ks, _, h => by
    cases h with
    | cons h r => rw [keyV (H := B) (.inl h), keysV r]; rfl
/-- a key fits a dict -/
def fitK (t : Bool) (k : D) : Prop := if t then ∃ ks, keyT k = some ks else ∃ kk, keyK k = some kk
/-- what a dict holds at a key -/
theorem Rv.dget {va vk : V} {t : Bool} {ds : List (D × D)} {k : D} {n m : Bool} (R : EnvR K mg Z F G H σ env) (h : Rv K mg (sel n G F) H va (.dict t ds)) (hk : Rv K mg (sel m G F) H vk k) (f : fitK t k) :
    ∃ a o, va = .ref a ∧ DGet H a vk o ∧ ((o = none ∧ DL.dget ds k = none) ∨ ∃ v d, o = some v ∧ DL.dget ds k = some d ∧ Rp K mg (sel n G F) v d) := by
  cases t with
  | false =>
    obtain ⟨kk, ek⟩ := f
    obtain ⟨a, kvs, rfl, e, h1, h2⟩ := h.dictK R.selH
    have e2 := keyK_of ek
    subst e2
    refine ⟨a, _, rfl, .inl ⟨kvs, kk, .inl e, keyV hk, rfl⟩, dget_val deq_key h1 h2⟩
  | true =>
    obtain ⟨ks, ek⟩ := f
    obtain ⟨a, kvs, rfl, e, h1, h2⟩ := h.dictT R.selH
    have e2 := keyT_of ek
    subst e2
    obtain ⟨b, vs, rfl, eb, rb⟩ := hk.tup
    have e3 := keysV rb
    subst e3
    exact ⟨a, _, rfl, .inr ⟨kvs, ks, b, .inl e, rfl, R.selH _ _ eb, rfl⟩, dget_val (kd := fun q : List Key => D.tuple (q.map keyD)) deq_keyT h1 h2⟩
theorem Rv.lk {v : V} {ds : List (D × D)} (h : Rv K mg B H v (.lk ds)) (s : Same B H) : ∃ a o kvs, v = .ref a ∧ H a = some (.frz o (.dK kvs)) ∧ ds.map (·.1) = kvs.map (fun p => keyD p.1) ∧ Rps K mg B (kvs.map (·.2)) (ds.map (·.2)) := by
  rcases h with h | ⟨a, rfl, h⟩
  · cases h with
    | lk h k r => exact ⟨_, _, _, rfl, s _ _ h, k, r⟩
  · rcases h with ⟨es, vs, h1, h2, h3⟩ | ⟨es, vs, h1, h2, h3, h4⟩ | ⟨es, vs, h1, h2, h3, h4⟩ | ⟨cn, fs, C, dx, fvs, h1, h2, h3, h4, h5⟩ <;> cases h1
theorem Rv.lget {va vk : V} {ds : List (D × D)} {k : D} {n m : Bool} (R : EnvR K mg Z F G H σ env) (h : Rv K mg (sel n G F) H va (.lk ds)) (hk : Rv K mg (sel m G F) H vk k) (f : fitK false k) :
    ∃ a o, va = .ref a ∧ DGet H a vk o ∧ ((o = none ∧ DL.dget ds k = none) ∨ ∃ v d, o = some v ∧ DL.dget ds k = some d ∧ Rp K mg (sel n G F) v d) := by
  obtain ⟨kk, ek⟩ := f
  obtain ⟨a, ob, kvs, rfl, e, h1, h2⟩ := h.lk R.selH
  have e2 := keyK_of ek
  subst e2
  exact ⟨a, _, rfl, .inl ⟨kvs, kk, .inr ⟨ob, e⟩, keyV hk, rfl⟩, dget_val deq_key h1 h2⟩
end

section
variable {X : Cx}
def rDIn (neg : Bool) : R2 := fun y x H Q => ∃ a o, x = .ref a ∧ DGet H a y o ∧ Q (.bl (neg != o.isSome)) H
theorem op_dIn (hu : X.A.units + 1 < cLine) : OpR X (compareOp .In) (rDIn false) := by
  intro pins s σ H y x v u Q I ry rx h
  obtain ⟨a, o, rfl, g, q⟩ := h
  obtain rfl : u = Value.ref a := rx
  exact d_in hu I g ry fun s' I' => ⟨.bl o.isSome, H, I', rfl, by simpa using q⟩
/-- in a tuple of plain data -/
def rTIn (K : PySem.W.Frag) (neg : Bool) : R2 := fun x y H Q => ∃ d ds, Dp K H x d ∧ Dp K H y (.tuple ds) ∧ SeqAt.shaped d = true ∧ SeqAt.shaped (.tuple ds) = true ∧ Q (.bl (neg != ds.any fun z => PyData.eqv z d)) H
theorem op_tIn (hu : X.A.units + 65 < cLine) : OpR X (compareOp .In) (rTIn X.K false) := by
  intro pins s σ H x y v u Q I rx ry h
  obtain ⟨d, ds, hd, he, sd, se, q⟩ := h
  obtain ⟨as, r1⟩ := Dp.reads I d x v hd rx
  obtain ⟨bs, r2⟩ := Dp.reads I (.tuple ds) y u he ry
  exact SeqAt.in_tuple_reads r2 r1 (SeqAt.canLay_of_shaped se) (SeqAt.canLay_of_shaped sd) (PyProof.Rows.room_in_shaped sd hu) ⟨.bl _, H, I, rfl, by simpa using q⟩
def fIn (neg : Bool) : F2 := fun x y _ _ P => match y with
  | .str z => ∃ c, x = .str ⟨#[c]⟩ ∧ P (dB (neg != decide (c ∈ z.cps.toList)))
  | .list ds => okD x = true ∧ okD (.list ds) = true ∧ P (dB (neg != ds.any fun z => deq z x))
  | .tuple ds => okD x = true ∧ okD (.tuple ds) = true ∧ P (dB (neg != ds.any fun z => deq z x))
  | .ktup ds => okD x = true ∧ okD (.ktup ds) = true ∧ P (dB (neg != ds.any fun z => deq z x))
  | .dict t ds => fitK t x ∧ P (dB (neg != (dget ds x).isSome))
  | _ => False
theorem any_pds (x : D) : ∀ ds : List D, ((D.pds ds).any fun z => PyData.eqv z x.pd) = ds.any fun z => deq z x
  | [] => rfl
  | d :: ds => by
    show (PyData.eqv d.pd x.pd || (D.pds ds).any fun z => PyData.eqv z x.pd) = (deq d x || ds.any fun z => deq z x)
    rw [any_pds x ds]; rfl
theorem o_in_core {f : Value → Value → Sem Value} {neg : Bool} {rs rl rt rd : R2} (hs : OpR X f rs) (hl : OpR X f rl) (ht : OpR X f rt) (hd : OpR X f rd)
    (es : rs = fun x y H Q => ∃ (c : Nat) (z : Str), x = .str ⟨#[c]⟩ ∧ y = .str z ∧ Q (.bl (neg != decide (c ∈ z.cps.toList))) H)
    (el : rl = fun x y H Q => ∃ d ds, Dp X.K H x d ∧ Dp X.K H y (.list ds) ∧ SeqAt.shaped d = true ∧ SeqAt.shaped (.list ds) = true ∧ Q (.bl (neg != ds.any fun z => PyData.eqv z d)) H)
    (et : rt = rTIn X.K neg) (ed : rd = rDIn neg) : OpD X f (fIn neg) := by
  refine ⟨_, OpR.or hs (OpR.or hl (OpR.or ht hd)), fun Z F G H σ env v1 v2 d1 d2 n1 n2 P Q R h1 h2 hf q => ?_⟩
  subst es el et ed
  unfold fIn at hf
  split at hf
  · obtain ⟨c, rfl, p⟩ := hf
    exact .inl ⟨c, _, h1.str, h2.str, q _ F G H _ p R .refl (.bl _) trivial⟩
  · obtain ⟨a1, a2⟩ := okD_of hf.1
    obtain ⟨b1, b2⟩ := okD_of hf.2.1
    exact .inr (.inl ⟨_, _, (h1.rp R.selH).dp a1, (h2.rp R.selH).dp b1, a2, b2, by rw [any_pds]; exact q _ F G H _ hf.2.2 R .refl (.bl _) trivial⟩)
  · obtain ⟨a1, a2⟩ := okD_of hf.1
    obtain ⟨b1, b2⟩ := okD_of hf.2.1
    exact .inr (.inr (.inl ⟨_, _, (h1.rp R.selH).dp a1, (h2.rp R.selH).dp b1, a2, b2, by rw [any_pds]; exact q _ F G H _ hf.2.2 R .refl (.bl _) trivial⟩))
  · obtain ⟨a1, a2⟩ := okD_of hf.1
    obtain ⟨b1, b2⟩ := okD_of hf.2.1
    exact .inr (.inr (.inl ⟨_, _, (h1.rp R.selH).dp a1, (h2.rp R.selH).dp b1, a2, b2, by rw [any_pds]; exact q _ F G H _ hf.2.2 R .refl (.bl _) trivial⟩))
  · obtain ⟨a, o, e, g, w⟩ := Rv.dget R h2 h1 hf.1
    refine .inr (.inr (.inr ⟨a, o, e, g, ?_⟩))
    have z := q _ F G H _ hf.2 R .refl (.bl _) trivial
    rcases w with ⟨rfl, w⟩ | ⟨v, d, rfl, w, _⟩
    · rw [w] at z; exact z
    · rw [w] at z; exact z
  · exact hf.elim
theorem o_in (hu : X.A.units + 65 < cLine) : OpD X (compareOp .In) (fIn false) :=
  o_in_core op_in_sign (op_inD hu) (op_tIn hu) (op_dIn (by omega)) (by simp only [Bool.false_bne]) (by unfold rInD; simp only [Bool.false_bne]) rfl rfl
end
end DL

namespace DL
open PySem PySem.Spec L2

section
variable {K : PySem.W.Frag} {mg : Str → Option Value} {Z : Zx} {W : WX} {F G H F' G' H' B : Hp} {σ : Sg} {env env' : DEnv}
theorem newT_back {H0 : Hp} {v : V} {t : T} (d : ∀ b o, H0 b = some o → ∃ u, H b = some u) (n : NewT H v t) : NewT H0 v t := by
  cases t with
  | fz => trivial
  | al => trivial
  | dp d' =>
    obtain ⟨a', rfl, e⟩ := n
    exact ⟨a', rfl, fun b hb => noneB d (e b hb)⟩
  | ow d' m =>
    obtain ⟨a', rfl, e⟩ := n
    refine ⟨a', rfl, ?_⟩
    cases eH : H0 a' with
    | none => rfl
    | some o => obtain ⟨u, z⟩ := d _ _ eH; rw [e] at z; cases z
end

def dNil : DA := fun env P _ => P [] env
def dCons (wa : DW) (wr : DA) : DA := fun env P E => wa env (fun t env1 => wr env1 (fun ts env2 => P (hold t :: ts) env2) E) E
section
variable {X : Cx} {Z : Zx} {W : WX} {pos : Pos}
theorem d_nil : DAr X Z W [] dNil := PA.of pa_nil fun σ H Q ⟨F, G, env, P, E, R, w, q, qe⟩ => q [] env F G H [] w R .refl trivial
theorem d_cons {e : Expr} {es : List Expr} {wa : DW} {wr : DA} (ha : DE X Z W e wa) (hr : DAr X Z W es wr) (hs : starEach (e :: es) X.env = (false, eval e X.env) :: starEach es X.env := by rfl) : DAr X Z W (e :: es) (dCons wa wr) := by
  refine PA.of (pa_cons ha hr hs) fun σ H Q ⟨F, G, env, P, E, R, w, q, qe⟩ => ?_
  refine ⟨F, G, env, _, E, R, w, fun t env1 F1 G1 H1 v1 p1 R1 x1 r1 n1 => ?_, qe⟩
  obtain ⟨F2, G2, R2, x2, r2⟩ := RT.hold R1 x1 r1 n1
  refine ⟨F2, G2, env1, _, E, R2, p1, fun ts env3 F3 G3 H3 v3 p3 R3 x3 r3 => ?_, qe⟩
  exact q _ env3 F3 G3 H3 _ p3 R3 (x2.trans x3) ⟨hold_ow, RT.ext r2 hold_ow x3, r3⟩
end

def frz1 (env : DEnv) : T → Option (D × Bool × DEnv)
  | .fz d n => some (d, n || gnd d, env)
  | .ow d n => some (d, n, env)
  | .al i => match env[i]? with
    | some (.ow d n) => some (d, n, env.set i (.fz d n))
    | some (.fz d n) => some (d, n || gnd d, env)
    | _ => none
  | .dp _ => none
def frzL (env : DEnv) : List T → Option (List D × Bool × DEnv)
  | [] => some ([], true, env)
  | t :: ts => (frz1 env t).bind fun x => (frzL x.2.2 ts).map fun y => (x.1 :: y.1, x.2.1 && y.2.1, y.2.2)
section
variable {K : PySem.W.Frag} {mg : Str → Option Value} {Z : Zx} {W : WX} {F G H F' G' H' B : Hp} {σ : Sg} {env env' : DEnv}
/-- an own slot is frozen -/
theorem EnvR.frzSlot {i : Nat} {d : D} {n : Bool} (R : EnvR K mg Z F G H σ env) (e : env[i]? = some (.ow d n)) :
    ∃ F' G', EnvR K mg Z F' G' H σ (env.set i (.fz d n)) ∧ Ext σ env (env.set i (.fz d n)) F G H F' G' H ∧ ∃ a, σ[i]? = some (some (.ref a)) ∧ Rp K mg (sel n G' F') (.ref a) d := by
  obtain ⟨a, h1, h2, h3, h4⟩ := R.slot i _ e
  obtain ⟨o, ho⟩ := h3.there
  have hG := snone R.gf h2
  have hown : Own σ env a := ⟨i, _, e, rfl, .inl h1⟩
  have hi : i < env.length := by
    rcases Nat.lt_or_ge i env.length with h | h
    · exact h
    · rw [List.getElem?_eq_none h] at e; cases e
  have rp : Rp K mg (sel n (addF n a o G) (upd F a o)) (.ref a) d := h3.rp ho (sel_addF_le h2 hG) sel_addF
  -- owners of the new row of slots are owners of the old one, elsewhere
  have own' : ∀ {j : Nat} {s : Slot}, (env.set i (.fz d n))[j]? = some s → isOwn s = true → env[j]? = some s ∧ j ≠ i := fun {j s} ej hs => by
    by_cases hj : i = j
    · subst hj
      rw [List.getElem?_set_self hi] at ej
      cases ej
      cases hs
    · rw [List.getElem?_set_ne hj] at ej
      exact ⟨ej, fun z => hj z.symm⟩
  have ne_a : ∀ {b : Addr}, Own σ (env.set i (.fz d n)) b → Own σ env b ∧ b ≠ a := fun {b} ⟨j, s, ej, hs, hb⟩ => by
    obtain ⟨ej', hj⟩ := own' ej hs
    refine ⟨⟨j, s, ej', hs, hb⟩, fun z => hj ?_⟩
    subst z
    exact R.dist j i s _ b ej' hs e rfl hb (.inl h1)
  refine ⟨upd F a o, addF n a o G, ⟨?_, ?_, R.f0.trans (same_upd h2), ?_, ?_, R.frame, R.dom, by rw [List.length_set]; exact R.len, ?_, ?_, ?_, R.iof, ?_, R.dif, fun p hp => (R.tb p hp).keep (same_upd h2) fun _ e => e⟩, ⟨same_upd h2, addF_same hG, fun b u e _ _ => e, fun b u e => ⟨u, e⟩, ?_, fun b h => .inl (ne_a h).1, ?_, by rw [List.length_set]⟩, a, h1, rp⟩
  · intro b u eb
    by_cases hb : b = a
    · subst hb; rw [upd_same] at eb; cases eb; exact ho
    · rw [upd_ne hb] at eb; exact R.fh _ _ eb
  · cases n
    · exact same_upd2 R.gf hG
    · intro b u eb
      rw [show addF true a o G = upd G a o from rfl] at eb
      by_cases hb : b = a
      · subst hb; rw [upd_same] at eb; cases eb; exact upd_same
      · rw [upd_ne hb] at eb; rw [upd_ne hb]; exact R.gf _ _ eb
  · intro b u eb
    by_cases hb : b = a
    · rw [hb]; exact h4
    · cases n
      · exact R.gn _ _ eb
      · rw [show addF true a o G = upd G a o from rfl, upd_ne hb] at eb; exact R.gn _ _ eb
  · intro b u eb k
    by_cases hb : b = a
    · rw [hb]; exact h4
    · rw [upd_ne hb] at eb; exact R.fn _ _ eb k
  · intro j s ej
    by_cases hj : i = j
    · subst hj
      rw [List.getElem?_set_self hi] at ej
      cases ej
      exact ⟨_, h1, rp⟩
    · rw [List.getElem?_set_ne hj] at ej
      have q := R.slot j s ej
      have nea : ∀ {b : Addr}, isOwn s = true → OwnAt σ j s b → b ≠ a := fun {b} hs hb z => by
        subst z
        exact hj (R.dist j i s _ b ej hs e rfl hb (.inl h1)).symm
      cases s with
      | un => trivial
      | fz x m => obtain ⟨v, e1, e2⟩ := q; exact ⟨v, e1, e2.mono (sel_addF_le h2 hG (m := n))⟩
      | ow x m =>
        obtain ⟨b, e1, e2, e3, e4⟩ := q
        exact ⟨b, e1, by rw [upd_ne (nea rfl (.inl e1))]; exact e2, e3.mono (sel_addF_le h2 hG (m := n)), e4⟩
      | io x =>
        obtain ⟨b, e1, e2, e3, e4⟩ := q
        exact ⟨b, e1, by rw [upd_ne (nea rfl (.inl e1))]; exact e2, e3.mono (same_upd h2), e4⟩
      | dp x =>
        obtain ⟨b, e1, e2, e3, e4⟩ := q
        exact ⟨b, e1, e2.mono (same_upd h2), e3, fun c hc => ⟨by rw [upd_ne (nea rfl ((List.mem_cons.mp hc).imp (fun z => by rw [z]; exact e1) id))]; exact (e4 c hc).1, (e4 c hc).2⟩⟩
      | di x =>
        obtain ⟨b, e1, e2, e3, e4⟩ := q
        exact ⟨b, e1, e2.mono (same_upd h2), e3, fun c hc => ⟨by rw [upd_ne (nea rfl ((List.mem_cons.mp hc).imp (fun z => by rw [z]; exact e1) id))]; exact (e4 c hc).1, (e4 c hc).2⟩⟩
  · intro j l s t b ej hs el ht hb hb'
    obtain ⟨ej', _⟩ := own' ej hs
    obtain ⟨el', _⟩ := own' el ht
    exact R.dist j l s t b ej' hs el' ht hb hb'
  · intro p hp
    obtain ⟨x, e1, e2⟩ := R.io p hp
    refine ⟨x, ?_, e2⟩
    have : i ≠ p.1 := fun z => by rw [← z, e] at e1; cases e1
    rw [List.getElem?_set_ne this]
    exact e1
  · intro b hb
    obtain ⟨x, e1, e2⟩ := R.di b hb
    refine ⟨x, ?_, e2⟩
    have : i ≠ b.1 := fun z => by rw [← z, e] at e1; cases e1
    rw [List.getElem?_set_ne this]
    exact e1
  · intro b u eb k nb
    have : b ≠ a := fun z => nb (z ▸ hown)
    rw [upd_ne this]
    exact k
  · intro j x ex
    by_cases hj : i = j
    · subst hj
      exact ⟨d, by simp [rd, List.getElem?_set_self hi]⟩
    · refine ⟨x, ?_⟩
      rw [← ex]
      simp only [rd, List.getElem?_set_ne hj]
/-- a thing is frozen -/
theorem RT.frz {v : V} {t : T} {x : D × Bool × DEnv} (R : EnvR K mg Z F G H σ env) (h : RT K mg Z F G H σ env v t) (ho : ∀ d n, t ≠ .ow d n) (e : frz1 env t = some x) :
    ∃ F' G', EnvR K mg Z F' G' H σ x.2.2 ∧ Ext σ env x.2.2 F G H F' G' H ∧ Rp K mg (sel x.2.1 G' F') v x.1 := by
  cases t with
  | ow d n => exact absurd rfl (ho d n)
  | dp d => cases e
  | fz d n => cases e; exact ⟨F, G, R, .refl, Rp.selg h⟩
  | al i =>
    obtain ⟨h1, _⟩ := h
    unfold frz1 at e
    cases es : env[i]? with
    | none => simp only [es] at e; cases e
    | some s =>
      simp only [es] at e
      cases s with
      | un => cases e
      | dp d => cases e
      | di d => cases e
      | io d => cases e
      | fz d n =>
        cases e
        obtain ⟨w, e1, e2⟩ := R.slot i _ es
        rw [h1] at e1; cases e1
        exact ⟨F, G, R, .refl, e2.selg⟩
      | ow d n =>
        cases e
        obtain ⟨F', G', R', x', a, e1, r⟩ := R.frzSlot es
        rw [h1] at e1; cases e1
        exact ⟨F', G', R', x', r⟩
theorem RTs.frz {vs : List V} {ts : List T} {x : List D × Bool × DEnv} (R : EnvR K mg Z F G H σ env) (h : RTs K mg Z F G H σ env vs ts) (e : frzL env ts = some x) :
    ∃ F' G', EnvR K mg Z F' G' H σ x.2.2 ∧ Ext σ env x.2.2 F G H F' G' H ∧ Rps K mg (sel x.2.1 G' F') vs x.1 := by
  induction ts generalizing vs env F G x with
  | nil =>
    cases e
    cases vs with
    | nil => exact ⟨F, G, R, .refl, .nil⟩
    | cons => exact h.elim
  | cons t ts ih =>
    cases vs with
    | nil => exact h.elim
    | cons v vs =>
      obtain ⟨h1, h2, h3⟩ := h
      unfold frzL at e
      cases e1 : frz1 env t with
      | none => rw [e1] at e; cases e
      | some y =>
        obtain ⟨F1, G1, R1, x1, r1⟩ := RT.frz R h2 h1 e1
        rw [e1] at e
        simp only [Option.bind_some] at e
        cases e2 : frzL y.2.2 ts with
        | none => rw [e2] at e; cases e
        | some z =>
          rw [e2] at e
          cases e
          obtain ⟨F2, G2, R2, x2, r2⟩ := ih R1 (h3.ext x1) e2
          refine ⟨F2, G2, R2, x1.trans x2, .cons ?_ ?_⟩
          · exact Rp.mono (sel_and R2.gf) (r1.mono (sel_same x2.f x2.g))
          · exact r2.mono (sel_and' R2.gf)
end

def dTup (wa : DA) : DW := fun env P E => wa env (fun ts env1 => ∃ x, frzL env1 ts = some x ∧ x.1.length ≤ sizeLine ∧ P (.fz (.tuple x.1) x.2.1) x.2.2) E
def dLst (wa : DA) : DW := fun env P E => wa env (fun ts env1 => ∃ x, frzL env1 ts = some x ∧ x.1.length ≤ sizeLine ∧ P (.ow (.list x.1) x.2.1) x.2.2) E
section
variable {X : Cx} {Z : Zx} {W : WX} {pos : Pos} {es : List Expr} {wa : DA}
theorem d_tup {x1} (h : DAr X Z W es wa) : DE X Z W (.Tuple es x1 pos) (dTup wa) := by
  refine PE.of (pe_tup h) fun σ H Q ⟨F, G, env, P, E, R, w, q, qe⟩ => ?_
  refine ⟨F, G, env, _, E, R, w, fun ts env1 F1 G1 H1 vs ⟨x, e, hl, p⟩ R1 x1 r1 => ?_, qe⟩
  obtain ⟨F2, G2, R2, x2, r2⟩ := RTs.frz R1 r1 e
  refine ⟨by rw [r2.length]; exact hl, fun p' hp => ?_⟩
  obtain ⟨k1, k2, k3⟩ := RT.newTup R2 hp r2
  exact q _ _ _ _ _ _ p k1 ((x1.trans x2).trans k2) k3 trivial
theorem d_lst (h : DAr X Z W es wa) : DE X Z W (.List es pos) (dLst wa) := by
  refine PE.of (pe_lst h) fun σ H Q ⟨F, G, env, P, E, R, w, q, qe⟩ => ?_
  refine ⟨F, G, env, _, E, R, w, fun ts env1 F1 G1 H1 vs ⟨x, e, hl, p⟩ R1 x1 r1 => ?_, qe⟩
  obtain ⟨F2, G2, R2, x2, r2⟩ := RTs.frz R1 r1 e
  refine ⟨by rw [r2.length]; exact hl, fun p' hp => ?_⟩
  obtain ⟨k1, k2, k3, k4⟩ := RT.newList R2 hp r2
  exact q _ _ _ _ _ _ p k1 ((x1.trans x2).trans k2) k3 (newT_back (x1.trans x2).d k4)
end

def fIx : F2 := fun x y n _ P => match x, y with
  | .str z, .int i => ∃ c, z.length ≤ sizeLine ∧ atI z.cps.toList i = some c ∧ P (dS ⟨#[c]⟩)
  | .dict t ds, k => fitK t k ∧ ∃ d, dget ds k = some d ∧ P (.fz d n)
  | .lk ds, k => fitK false k ∧ ∃ d, dget ds k = some d ∧ P (.fz d n)
  | x, .int i => ∃ ds d, seqOf x = some ds ∧ atI ds i = some d ∧ P (.fz d n)
  | _, _ => False
def IxD (X : Cx) (f : F2) : Prop := ∃ r : R2, IxR X r ∧
  ∀ (Z : Zx) (F G H : Hp) (σ : Sg) (env : DEnv) (v1 v2 : V) (d1 d2 : D) (n1 n2 : Bool) (P : T → Prop) (Q : VK),
    EnvR X.K X.mg Z F G H σ env → Rv X.K X.mg (sel n1 G F) H v1 d1 → Rv X.K X.mg (sel n2 G F) H v2 d2 → f d1 d2 n1 n2 P → After X Z F G H σ env P Q → r v1 v2 H Q
theorem Rps.atI {K : PySem.W.Frag} {mg : Str → Option Value} {B : Hp} {vs : List V} {ds : List D} (r : Rps K mg B vs ds) {i : Int} {d : D} (h : L2.atI ds i = some d) : ∃ v, L2.atI vs i = some v ∧ Rp K mg B v d := by
  unfold L2.atI at h ⊢
  rw [r.length]
  cases e : ixN ds.length i with
  | none => rw [e] at h; cases h
  | some j =>
    rw [e] at h
    simp only [Option.bind_some] at h ⊢
    exact r.get h
section
variable {X : Cx}
def rIxDict : R2 := fun x y H Q => ∃ a v, x = .ref a ∧ DGet H a y (some v) ∧ Q v H
theorem ix_dict (hu : X.A.units + 1 < cLine) : IxR X rIxDict := by
  intro value slice pins s σ H x y v u Q I rx ry h hs
  obtain ⟨a, w, rfl, g, q⟩ := h
  obtain rfl : v = Value.ref a := rx
  exact PyProof.Rows.tail_any (dict_typeIs I g) PySem.F.slot_dict_getitem.lookup (d_getItem hu I g ry fun w' s3 I3 rw' => ⟨w, H, I3, rw', q⟩) hs
theorem o_ix (hu : X.A.units + 1 < cLine) : IxD X fIx := by
  refine ⟨_, IxR.or ix_list (IxR.or ix_tup (IxR.or ix_str (ix_dict hu))), fun Z F G H σ env v1 v2 d1 d2 n1 n2 P Q R h1 h2 hf q => ?_⟩
  unfold fIx at hf
  split at hf
  · obtain ⟨c, hl, e, p⟩ := hf
    exact .inr (.inr (.inl ⟨_, _, c, h1.str, h2.int, hl, e, q _ F G H _ p R .refl (.str _) trivial⟩))
  · obtain ⟨f, d, e, p⟩ := hf
    obtain ⟨a, o, e1, g, w⟩ := Rv.dget R h1 h2 f
    rcases w with ⟨rfl, w⟩ | ⟨v, d', rfl, w, r⟩
    · rw [e] at w; cases w
    · rw [e] at w; cases w
      exact .inr (.inr (.inr ⟨a, v, e1, g, q _ F G H _ p R .refl r trivial⟩))
  · obtain ⟨f, d, e, p⟩ := hf
    obtain ⟨a, o, e1, g, w⟩ := Rv.lget R h1 h2 f
    rcases w with ⟨rfl, w⟩ | ⟨v, d', rfl, w, r⟩
    · rw [e] at w; cases w
    · rw [e] at w; cases w
      exact .inr (.inr (.inr ⟨a, v, e1, g, q _ F G H _ p R .refl r trivial⟩))
  · obtain ⟨ds, d, e, ea, p⟩ := hf
    obtain ⟨a, vs, rfl, hs, r⟩ := h1.seq R.selH e
    obtain ⟨v, ev, rv⟩ := r.atI ea
    have z := q _ F G H _ p R .refl rv trivial
    rcases hs with hs | hs
    · exact .inl ⟨a, vs, _, v, rfl, h2.int, hs, ev, z⟩
    · exact .inr (.inl ⟨a, vs, _, v, rfl, h2.int, hs, ev, z⟩)
  · exact hf.elim
theorem d_ix {Z : Zx} {W : WX} {pos : Pos} {a b : Expr} {wa wb : DW} (hu : X.A.units + 1 < cLine) (ha : DE X Z W a wa) (hb : DE X Z W b wb) (hs : PlainIx b) : DE X Z W (.Subscript a b pos) (dOp fIx wa wb) := by
  obtain ⟨r, hr, hf⟩ := o_ix hu
  refine PE.of (pe_ix hr ha hb hs) fun σ H Q ⟨F, G, env, P, E, R, w, q, qe⟩ => ?_
  refine ⟨F, G, env, _, E, R, w, fun ta env1 F1 G1 H1 v1 p1 R1 x1 r1 n1 => ?_, qe⟩
  obtain ⟨F2, G2, R2, x2, r2⟩ := RT.hold R1 x1 r1 n1
  refine ⟨F2, G2, env1, _, E, R2, p1, fun tb env3 F3 G3 H3 v3 p3 R3 x3 r3 n3 => ?_, qe⟩
  obtain ⟨F4, G4, R4, x4, r4⟩ := RT.hold R3 x3 r3 n3
  obtain ⟨x, y, e1, e2, p⟩ := p3
  have r2' := RT.ext r2 hold_ow x4
  have xx := x2.trans x4
  refine hf Z F4 G4 H3 σ env3 v1 v3 x y _ _ _ _ R4 (RT.rv R4 r2' e1) (RT.rv R4 r4 e2) p fun t F' G' H' v pt R' x' r' n' => ?_
  exact q t env3 F' G' H' v pt R' (xx.trans x') r' (newT_back xx.d n')
end
end DL

namespace DL
open PySem PySem.Spec PyProof.Rows
section
variable {prog : Program} {w : World} {A : Around} {E : Value → Shared → Prop} {s : Shared}
theorem tup_whole {t sl : Addr} {items : Array Value} {vl vu : Value} {lo hi : Option Int} {Q : Value → Shared → Prop} (ht : IsTup s.heap t items) (hs : s.heap.IsSliceOf sl vl vu .none)
    (pl : IsPart vl lo) (pu : IsPart vu hi) (hw : HT.sIx items.size 0 lo = 0 ∧ HT.sIx items.size items.size hi = items.size) (h : Q (.ref t) s) : wpAny (model prog w) A (getItem (.ref t) (.ref sl)) Q E s := by
  obtain ⟨os, hos, hcs, hds⟩ := id hs
  have hTs : s.TypeIs (.ref sl) "slice" := ⟨os, hos, hcs⟩
  unfold getItem
  try with_reducible refine wpAny_holding ?_
  first | refine wpAny_bind (wpAny_pure ?_) | skip
  refine wpAny_bind (wpAny_sequenceKey ht.typeIs (by decide) ?_)
  refine wpAny_bind (wpAny_callSpecial?_slot (name := Str.ofString "__getitem__") ht.typeIs slot_tuple_getitem
      (wpAny_call_entry slot_tuple_getitem ht.typeIs entry_tuple_getitem ?_ (args_tuple_getitem _ _)))
  show wpAny _ _ (Builtin.Tuple.tupleItemsOf (Value.ref t) >>= _) _ _ s
  refine wpAny_bind (tupleItemsOf_ ht ?_)
  refine wpAny_bind (wpAny_typeOf hTs ?_)
  rw [if_pos (by decide)]
  refine wpAny_bind (HT.sliceApplied_gen (n := items.size) hs pl pu ?_)
  have yes : (((HT.sIx items.size 0 lo : Nat) : Int) == 0 && (1 : Int) == 1 && HT.sIx items.size items.size hi - HT.sIx items.size 0 lo == items.size) = true := by
    rw [hw.1, hw.2]
    simp
  show wpAny _ _ (if (((HT.sIx items.size 0 lo : Nat) : Int) == 0 && (1 : Int) == 1 && HT.sIx items.size items.size hi - HT.sIx items.size 0 lo == items.size) = true then _ else _) _ _ s
  rw [if_pos yes]
  unfold Builtin.Tuple.tupleIsExact
  refine wpAny_bind (wpAny_bind (wpAny_typeOf ht.typeIs (wpAny_pure ?_)))
  rw [if_pos (show ((Value.type "tuple" == Value.type "tuple") = true) from by decide)]
  exact wpAny_bind (wpAny_rule (wpAny_pure ⟨_, rfl, wpAny_pure h⟩))
end
end DL
namespace DL
open PySem PySem.Spec L2
section
variable {X : Cx}
def rSlW (K : PySem.W.Frag) : V → Option Int → Option Int → Hp → VK → Prop := fun x lo hi H Q => ∃ a xs, x = .ref a ∧ SqT K H a xs ∧ (HT.sIx xs.length 0 lo = 0 ∧ HT.sIx xs.length xs.length hi = xs.length) ∧ Q (.ref a) H
theorem sl_whole : SlR X (rSlW X.K) := by
  intro pins s σ H x v vl vu lo hi sl Q I rx hs pl pu h
  obtain ⟨a, xs, rfl, hx, hw, q⟩ := h
  cases rx
  obtain ⟨its, r, ht, hz⟩ := I.tuple hx
  have hlen : its.toArray.size = xs.length := by rw [List.size_toArray]; exact r.length.symm
  exact ⟨"tuple", _, PyProof.Rows.slot_tuple_getitem.lookup, ht.typeIs, tup_whole ht hs pl pu (by rw [hlen]; exact hw) ⟨.ref a, H, I, rfl, q⟩⟩

def cutL {α : Type} (xs : List α) (lo hi : Option Int) : List α := (xs.drop (HT.sIx xs.length 0 lo)).take (HT.sIx xs.length xs.length hi - HT.sIx xs.length 0 lo)
theorem Rps.cut {K : PySem.W.Frag} {mg : Str → Option Value} {B : Hp} {vs : List V} {ds : List D} (r : Rps K mg B vs ds) (lo hi : Option Int) : Rps K mg B (cutV vs lo hi) (cutL ds lo hi) := by
  unfold cutV cutL
  rw [r.length]
  exact (r.drop _).take _
abbrev DO := DEnv → (Option Int → DEnv → Prop) → (Str → DEnv → Prop) → Prop
def dNo : DO := fun env P _ => P none env
def dPt (w : DW) : DO := fun env P E => w env (fun t env1 => ∃ i n, t = .fz (.int i) n ∧ P (some i) env1) E
def fSl (x : D) (l u : Option Int) (n : Bool) (P : T → Prop) : Prop := match x with
  | .list ds => P (.ow (.list (cutL ds l u)) n)
  | .scr ds => P (.ow (.list (cutL ds l u)) n)
  | .tuple ds => P (.fz (.tuple (cutL ds l u)) n)
  | .str z => z.length ≤ sizeLine ∧ P (dS (cutS z l u))
  | _ => False
def dSl (wa : DW) (lo hi : DO) : DW := fun env P E => wa env (fun t env1 => lo env1 (fun l env2 => hi env2 (fun u env3 => ∃ x, rd env3 (hold t) = some x ∧ fSl x l u (rdn env3 (hold t)) fun t' => P t' env3) E) E) E
def tDO (K : PySem.W.Frag) (mg : Str → Option Value) (Z : Zx) (W : WX) (w : DO) : TO := fun σ H Q => ∃ (F G : Hp) (env : DEnv) (P : Option Int → DEnv → Prop) (E : Str → DEnv → Prop), EnvR K mg Z F G H σ env ∧ w env P E ∧
  (∀ (b : Option Int) (env' : DEnv) (F' G' H' : Hp), P b env' → EnvR K mg Z F' G' H' σ env' → Ext σ env env' F G H F' G' H' → Q b H') ∧ Wx K mg Z W E σ
abbrev DPo (X : Cx) (Z : Zx) (W : WX) (e : Option Expr) (w : DO) : Prop := PO X e (tDO X.K X.mg Z W w)
theorem PO.of {X : Cx} {e : Option Expr} {t t' : TO} (h : PO X e t) (k : ∀ σ H Q, t' σ H Q → t σ H Q) : PO X e t' := ⟨fun pins s σ H Q I q => h.run pins s σ H Q I (k σ H Q q)⟩
section
variable {Z : Zx} {W : WX} {pos p2 : Pos} {e : Expr} {lo hi : Option Expr} {wa : DW} {wl wh : DO}
theorem d_no : DPo X Z W none dNo := PO.of po_none fun σ H Q ⟨F, G, env, P, E, R, w, q, qe⟩ => q none env F G H w R .refl
theorem d_pt (h : DE X Z W e wa) : DPo X Z W (some e) (dPt wa) := by
  refine PO.of (po_some h) fun σ H Q ⟨F, G, env, P, E, R, w, q, qe⟩ => ?_
  refine ⟨F, G, env, _, E, R, w, fun t env1 F1 G1 H1 v1 p1 R1 x1 r1 n1 => ?_, qe⟩
  obtain ⟨i, n, rfl, p⟩ := p1
  have r1' : Rp X.K X.mg (sel n G1 F1) v1 (.int i) := r1
  cases r1'
  exact ⟨i, rfl, q _ _ _ _ _ p R1 x1⟩
theorem d_sl (ha : DE X Z W e wa) (hl : DPo X Z W lo wl) (hh : DPo X Z W hi wh) : DE X Z W (.Subscript e (.Slice lo hi none p2) pos) (dSl wa wl wh) := by
  refine PE.of (pe_slice (SlR.or sl_list (SlR.or sl_tup (SlR.or sl_whole sl_str))) ha hl hh) fun σ H Q ⟨F, G, env, P, E, R, w, q, qe⟩ => ?_
  refine ⟨F, G, env, _, E, R, w, fun ta env1 F1 G1 H1 v1 p1 R1 x1 r1 n1 => ?_, qe⟩
  obtain ⟨F2, G2, R2, x2, r2⟩ := RT.hold R1 x1 r1 n1
  refine ⟨F2, G2, env1, _, E, R2, p1, fun l env3 F3 G3 H3 p3 R3 x3 => ?_, qe⟩
  refine ⟨F3, G3, env3, _, E, R3, p3, fun u env4 F4 G4 H4 p4 R4 x4 => ?_, qe⟩
  obtain ⟨x, ex, p⟩ := p4
  have xx := (x2.trans x3).trans x4
  have rv := RT.rv R4 (RT.ext r2 hold_ow (x3.trans x4)) ex
  unfold fSl at p
  split at p
  · obtain ⟨a, vs, rfl, ha, ra⟩ := rv.list R4.selH
    refine .inl ⟨a, vs, rfl, SqL.of ha, fun p' hp => ?_⟩
    obtain ⟨k1, k2, k3, k4⟩ := RT.newList R4 hp (ra.cut l u)
    exact q _ _ _ _ _ _ p k1 (xx.trans k2) k3 (newT_back xx.d k4)
  · obtain ⟨a, vs, rfl, ha, ra⟩ := rv.scr
    refine .inl ⟨a, vs, rfl, R4.selH.seq ha, fun p' hp => ?_⟩
    obtain ⟨k1, k2, k3, k4⟩ := RT.newList R4 hp (ra.cut l u)
    exact q _ _ _ _ _ _ p k1 (xx.trans k2) k3 (newT_back xx.d k4)
  · obtain ⟨a, vs, rfl, ha, ra⟩ := rv.tup
    have hs : SqT X.K H4 a vs := SqT.of (R4.selH _ _ ha)
    by_cases hw : HT.sIx vs.length 0 l = 0 ∧ HT.sIx vs.length vs.length u = vs.length
    · refine .inr (.inr (.inl ⟨a, vs, rfl, hs, hw, ?_⟩))
      have e : cutV vs l u = vs := by
        unfold cutV
        rw [hw.1, hw.2]
        simp
      have rc := ra.cut l u
      rw [e] at rc
      exact q _ _ _ _ _ _ p R4 xx (Rp.tup ha rc) trivial
    · refine .inr (.inl ⟨a, vs, rfl, hs, hw, fun p' hp => ?_⟩)
      obtain ⟨k1, k2, k3⟩ := RT.newTup R4 hp (ra.cut l u)
      exact q _ _ _ _ _ _ p k1 (xx.trans k2) k3 trivial
  · exact .inr (.inr (.inr ⟨_, rv.str, p.1, q _ _ _ _ _ _ p.2 R4 xx (.str _) trivial⟩))
  · exact p.elim
end
end
end DL

namespace DL
open PySem PySem.Spec L2

def dTB (w : DW) : DT := fun env P E => w env (fun t env1 => ∃ b n, t = .fz (.bool b) n ∧ P b env1) E
def dAndT (a b : DT) : DT := fun env P E => a env (fun c env1 => (c = true → b env1 P E) ∧ (c = false → P false env1)) E
def dOrT (a b : DT) : DT := fun env P E => a env (fun c env1 => (c = true → P true env1) ∧ (c = false → b env1 P E)) E
def dNotT (a : DT) : DT := fun env P E => a env (fun c env1 => P (!c) env1) E
def dAndV (a b : DW) : DW := fun env P E => a env (fun t env1 => ∃ c n, t = .fz (.bool c) n ∧ (c = true → b env1 P E) ∧ (c = false → P (dB false) env1)) E
def dOrV (a b : DW) : DW := fun env P E => a env (fun t env1 => ∃ c n, t = .fz (.bool c) n ∧ (c = true → P (dB true) env1) ∧ (c = false → b env1 P E)) E
def dNotV (a : DW) : DW := fun env P E => a env (fun t env1 => ∃ c n, t = .fz (.bool c) n ∧ P (dB (!c)) env1) E
def dIfE (c : DT) (a b : DW) : DW := fun env P E => c env (fun k env1 => (k = true → a env1 P E) ∧ (k = false → b env1 P E)) E
/-- a op b op' c -/
def dChain (f f' : F2) (wa wb wc : DW) : DW := fun env P E => wa env (fun ta env1 => wb env1 (fun tb env2 => ∃ x y, rd env2 (hold ta) = some x ∧ rd env2 (hold tb) = some y ∧
  f x y (rdn env2 (hold ta)) (rdn env2 (hold tb)) fun t => ∃ k n, t = .fz (.bool k) n ∧ (k = true → wc env2 (fun tc env3 => ∃ y' z, rd env3 (hold tb) = some y' ∧ rd env3 (hold tc) = some z ∧
    f' y' z (rdn env3 (hold tb)) (rdn env3 (hold tc)) fun t' => P t' env3) E) ∧ (k = false → P (dB false) env2)) E) E

section
variable {X : Cx} {Z : Zx} {W : WX} {pos : Pos} {e a b c : Expr} {wa wb wc : DW} {ta tb : DT}
theorem Rp.bl' {K : PySem.W.Frag} {mg : Str → Option Value} {B : Hp} {v : V} {k : Bool} (h : Rp K mg B v (.bool k)) : v = .bl k := by cases h; rfl
theorem d_tv (h : DE X Z W e wa) (he : ∀ whole, isTrue e X.env whole = (do let v ← whole; standAt e.pos; holding [v] (truthy v)) := by intro _; rfl) : DTe X Z W e (dTB wa) := by
  refine PT.of (pt_val h he) fun σ H Q ⟨F, G, env, P, E, R, w, q, qe⟩ => ?_
  refine ⟨F, G, env, _, E, R, w, fun t env1 F1 G1 H1 v1 ⟨k, n, et, p⟩ R1 x1 r1 n1 => ?_, qe⟩
  subst et
  exact ⟨k, Rp.bl' r1, q _ _ _ _ _ p R1 x1⟩
theorem d_opT0 {g : Value → Value → Sem Value} {f : F2} (h : OpD X g f) (k : ∀ {r : R2} {ta tb : TE}, OpR X g r → PE X a ta → PE X b tb → PT X e (tTest (tOp r ta tb))) (ha : DE X Z W a wa) (hb : DE X Z W b wb) : DTe X Z W e (dTB (dOp f wa wb)) := by
  obtain ⟨r, hr, hf⟩ := h
  refine PT.of (k hr ha hb) fun σ H Q ⟨F, G, env, P, E, R, w, q, qe⟩ => ?_
  refine ⟨F, G, env, _, E, R, w, fun ta env1 F1 G1 H1 v1 p1 R1 x1 r1 n1 => ?_, qe⟩
  obtain ⟨F2, G2, R2, x2, r2⟩ := RT.hold R1 x1 r1 n1
  refine ⟨F2, G2, env1, _, E, R2, p1, fun tb env3 F3 G3 H3 v3 p3 R3 x3 r3 n3 => ?_, qe⟩
  obtain ⟨F4, G4, R4, x4, r4⟩ := RT.hold R3 x3 r3 n3
  obtain ⟨x, y, e1, e2, p⟩ := p3
  have r2' := RT.ext r2 hold_ow x4
  have xx := x2.trans x4
  refine hf Z F4 G4 H3 σ env3 v1 v3 x y _ _ _ _ R4 (RT.rv R4 r2' e1) (RT.rv R4 r4 e2) p fun t F' G' H' v ⟨k, n, et, pt⟩ R' x' r' n' => ?_
  subst et
  exact ⟨k, Rp.bl' r', q _ _ _ _ _ pt R' (xx.trans x')⟩
theorem d_tcmp {op : CmpOp} {f : F2} (h : OpD X (compareOp op) f) (hm : behindInMarks op b = false) (ha : DE X Z W a wa) (hb : DE X Z W b wb) : DTe X Z W (.Compare a [op] [b] pos) (dTB (dOp f wa wb)) :=
  d_opT0 h (fun h1 h2 h3 => pt_cmpR h1 h2 h3 hm) ha hb
/-- the heart of a chain -/
theorem chain_imp {g g' : Value → Value → Sem Value} {f f' : F2} {r r' : R2}
    (hf : ∀ (Z : Zx) (F G H : Hp) (σ : Sg) (env : DEnv) (v1 v2 : V) (d1 d2 : D) (n1 n2 : Bool) (P : T → Prop) (Q : VK), EnvR X.K X.mg Z F G H σ env → Rv X.K X.mg (sel n1 G F) H v1 d1 → Rv X.K X.mg (sel n2 G F) H v2 d2 → f d1 d2 n1 n2 P → After X Z F G H σ env P Q → r v1 v2 H Q)
    (hf' : ∀ (Z : Zx) (F G H : Hp) (σ : Sg) (env : DEnv) (v1 v2 : V) (d1 d2 : D) (n1 n2 : Bool) (P : T → Prop) (Q : VK), EnvR X.K X.mg Z F G H σ env → Rv X.K X.mg (sel n1 G F) H v1 d1 → Rv X.K X.mg (sel n2 G F) H v2 d2 → f' d1 d2 n1 n2 P → After X Z F G H σ env P Q → r' v1 v2 H Q)
    {σ : Sg} {H : Hp} {Q : VK} (h : tD X.K X.mg Z W (dChain f f' wa wb wc) σ H Q) : tChain r r' (tD X.K X.mg Z W wa) (tD X.K X.mg Z W wb) (tD X.K X.mg Z W wc) σ H Q := by
  obtain ⟨F, G, env, P, E, R, w, q, qe⟩ := h
  refine ⟨F, G, env, _, E, R, w, fun ta env1 F1 G1 H1 v1 p1 R1 x1 r1 n1 => ?_, qe⟩
  obtain ⟨F2, G2, R2, x2, r2⟩ := RT.hold R1 x1 r1 n1
  refine ⟨F2, G2, env1, _, E, R2, p1, fun tb env3 F3 G3 H3 v3 p3 R3 x3 r3 n3 => ?_, qe⟩
  obtain ⟨F4, G4, R4, x4, r4⟩ := RT.hold R3 x3 r3 n3
  obtain ⟨x, y, e1, e2, p⟩ := p3
  have r2' := RT.ext r2 hold_ow x4
  have xx := x2.trans x4
  refine hf Z F4 G4 H3 σ env3 v1 v3 x y _ _ _ _ R4 (RT.rv R4 r2' e1) (RT.rv R4 r4 e2) p fun t F' G' H' v ⟨k, n, et, pt, pf⟩ R' x' r' n' => ?_
  subst et
  refine ⟨k, Rp.bl' r', ?_⟩
  cases k with
  | false =>
    rw [if_neg Bool.false_ne_true]
    exact q _ _ _ _ _ _ (pf rfl) R' (xx.trans x') (.bl _) trivial
  | true =>
    rw [if_pos rfl]
    refine ⟨F', G', env3, _, E, R', pt rfl, fun tc env5 F5 G5 H5 v5 p5 R5 x5 r5 n5 => ?_, qe⟩
    obtain ⟨F6, G6, R6, x6, r6⟩ := RT.hold R5 x5 r5 n5
    obtain ⟨y', z, e3, e4, p'⟩ := p5
    have r4' := RT.ext (RT.ext r4 hold_ow x') hold_ow x6
    refine hf' Z F6 G6 H5 σ env5 v3 v5 y' z _ _ _ _ R6 (RT.rv R6 r4' e3) (RT.rv R6 r6 e4) p' fun t' F'' G'' H'' v'' pt' R'' x'' r'' n'' => ?_
    have xy := (xx.trans x').trans (x6.trans x'')
    exact q _ _ _ _ _ _ pt' R'' xy r'' (newT_back ((xx.trans x').trans x6).d n'')
theorem d_chain {op op' : CmpOp} {f f' : F2} (h : OpD X (compareOp op) f) (h' : OpD X (compareOp op') f') (ha : DE X Z W a wa) (hb : DE X Z W b wb) (hc : DE X Z W c wc) (hm : lastMarks [op, op'] [b, c] = false := by with_unfolding_all rfl) :
    DE X Z W (.Compare a [op, op'] [b, c] pos) (dChain f f' wa wb wc) := by
  obtain ⟨r, hr, hf⟩ := h
  obtain ⟨r', hr', hf'⟩ := h'
  exact PE.of (pe_chain hr hr' ha hb hc hm) fun σ H Q hw => chain_imp (g := compareOp op) (g' := compareOp op') hf hf' hw
theorem d_tchain {op op' : CmpOp} {f f' : F2} (h : OpD X (compareOp op) f) (h' : OpD X (compareOp op') f') (ha : DE X Z W a wa) (hb : DE X Z W b wb) (hc : DE X Z W c wc) (hm : lastMarks [op, op'] [b, c] = false := by with_unfolding_all rfl) :
    DTe X Z W (.Compare a [op, op'] [b, c] pos) (dTB (dChain f f' wa wb wc)) := by
  obtain ⟨r, hr, hf⟩ := h
  obtain ⟨r', hr', hf'⟩ := h'
  refine PT.of (pt_chain hr hr' ha hb hc hm) fun σ H Q ⟨F, G, env, P, E, R, w, q, qe⟩ => ?_
  refine chain_imp (Z := Z) (W := W) (wa := wa) (wb := wb) (wc := wc) (g := compareOp op) (g' := compareOp op') hf hf' ⟨F, G, env, _, E, R, w, fun t env1 F1 G1 H1 v1 ⟨k, n, et, p⟩ R1 x1 r1 n1 => ?_, qe⟩
  subst et
  exact ⟨k, Rp.bl' r1, q _ _ _ _ _ p R1 x1⟩

theorem PW.of {X : Cx} {e : Expr} {t t' : TT} (h : PW X e t) (k : ∀ σ H Q, t' σ H Q → t σ H Q) : PW X e t' := ⟨fun wh pins s σ H Q I q => h.run wh pins s σ H Q I (k σ H Q q)⟩
abbrev DWt (X : Cx) (Z : Zx) (W : WX) (e : Expr) (w : DT) : Prop := PW X e (tDT X.K X.mg Z W w)
theorem d_and1 (h : DTe X Z W a ta) : DWt X Z W (.BoolOp .And [a] pos) ta := pw_and1 h
theorem d_or1 (h : DTe X Z W a ta) : DWt X Z W (.BoolOp .Or [a] pos) ta := pw_or1 h
theorem d_pt' (h : DWt X Z W e ta) : DTe X Z W e ta := h.pt
variable {rest : List Expr}
theorem d_andT (ha : DTe X Z W a ta) (hb : DWt X Z W (.BoolOp .And (b :: rest) pos) tb) : DWt X Z W (.BoolOp .And (a :: b :: rest) pos) (dAndT ta tb) := by
  refine PW.of (pw_and ha hb) fun σ H Q ⟨F, G, env, P, E, R, w, q, qe⟩ => ?_
  refine ⟨F, G, env, _, E, R, w, fun k env1 F1 G1 H1 ⟨p1, p2⟩ R1 x1 => ?_, qe⟩
  cases k with
  | true => rw [if_pos rfl]; exact ⟨F1, G1, env1, _, E, R1, p1 rfl, fun k2 env2 F2 G2 H2 p R2 x2 => q _ _ _ _ _ p R2 (x1.trans x2), qe⟩
  | false => rw [if_neg Bool.false_ne_true]; exact q _ _ _ _ _ (p2 rfl) R1 x1
theorem d_orT (ha : DTe X Z W a ta) (hb : DWt X Z W (.BoolOp .Or (b :: rest) pos) tb) : DWt X Z W (.BoolOp .Or (a :: b :: rest) pos) (dOrT ta tb) := by
  refine PW.of (pw_or ha hb) fun σ H Q ⟨F, G, env, P, E, R, w, q, qe⟩ => ?_
  refine ⟨F, G, env, _, E, R, w, fun k env1 F1 G1 H1 ⟨p1, p2⟩ R1 x1 => ?_, qe⟩
  cases k with
  | false => rw [if_neg Bool.false_ne_true]; exact ⟨F1, G1, env1, _, E, R1, p2 rfl, fun k2 env2 F2 G2 H2 p R2 x2 => q _ _ _ _ _ p R2 (x1.trans x2), qe⟩
  | true => rw [if_pos rfl]; exact q _ _ _ _ _ (p1 rfl) R1 x1
theorem d_notT (ha : DTe X Z W a ta) : DTe X Z W (.UnaryOp .Not a pos) (dNotT ta) :=
  PT.of (pt_not ha) fun σ H Q ⟨F, G, env, P, E, R, w, q, qe⟩ => ⟨F, G, env, _, E, R, w, fun k env1 F1 G1 H1 p R1 x1 => q _ _ _ _ _ p R1 x1, qe⟩
theorem d_one {op} (h : DE X Z W a wa) : DE X Z W (.BoolOp op [a] pos) wa := pe_one h
theorem d_andV (ha : DE X Z W a wa) (hb : DE X Z W (.BoolOp .And (b :: rest) pos) wb) : DE X Z W (.BoolOp .And (a :: b :: rest) pos) (dAndV wa wb) := by
  refine PE.of (pe_and ha hb) fun σ H Q ⟨F, G, env, P, E, R, w, q, qe⟩ => ?_
  refine ⟨F, G, env, _, E, R, w, fun t env1 F1 G1 H1 v1 ⟨k, n, et, p1, p2⟩ R1 x1 r1 n1 => ?_, qe⟩
  subst et
  refine ⟨k, Rp.bl' r1, ?_⟩
  cases k with
  | true => rw [if_pos rfl]; exact ⟨F1, G1, env1, _, E, R1, p1 rfl, fun k2 env2 F2 G2 H2 v2 p R2 x2 r2 n2 => q _ _ _ _ _ _ p R2 (x1.trans x2) r2 (newT_back x1.d n2), qe⟩
  | false => rw [if_neg Bool.false_ne_true]; exact q _ _ _ _ _ _ (p2 rfl) R1 x1 (.bl _) trivial
theorem d_orV (ha : DE X Z W a wa) (hb : DE X Z W (.BoolOp .Or (b :: rest) pos) wb) : DE X Z W (.BoolOp .Or (a :: b :: rest) pos) (dOrV wa wb) := by
  refine PE.of (pe_or ha hb) fun σ H Q ⟨F, G, env, P, E, R, w, q, qe⟩ => ?_
  refine ⟨F, G, env, _, E, R, w, fun t env1 F1 G1 H1 v1 ⟨k, n, et, p1, p2⟩ R1 x1 r1 n1 => ?_, qe⟩
  subst et
  refine ⟨k, Rp.bl' r1, ?_⟩
  cases k with
  | false => rw [if_neg Bool.false_ne_true]; exact ⟨F1, G1, env1, _, E, R1, p2 rfl, fun k2 env2 F2 G2 H2 v2 p R2 x2 r2 n2 => q _ _ _ _ _ _ p R2 (x1.trans x2) r2 (newT_back x1.d n2), qe⟩
  | true => rw [if_pos rfl]; exact q _ _ _ _ _ _ (p1 rfl) R1 x1 (.bl _) trivial
theorem d_notV (ha : DE X Z W a wa) : DE X Z W (.UnaryOp .Not a pos) (dNotV wa) := by
  refine PE.of (pe_not ha) fun σ H Q ⟨F, G, env, P, E, R, w, q, qe⟩ => ?_
  refine ⟨F, G, env, _, E, R, w, fun t env1 F1 G1 H1 v1 ⟨k, n, et, p1⟩ R1 x1 r1 n1 => ?_, qe⟩
  subst et
  exact ⟨k, Rp.bl' r1, q _ _ _ _ _ _ p1 R1 x1 (.bl _) trivial⟩
theorem d_ife (hc : DTe X Z W c ta) (ha : DE X Z W a wa) (hb : DE X Z W b wb) : DE X Z W (.IfExp c a b pos) (dIfE ta wa wb) := by
  refine PE.of (pe_ifExp hc ha hb) fun σ H Q ⟨F, G, env, P, E, R, w, q, qe⟩ => ?_
  refine ⟨F, G, env, _, E, R, w, fun k env1 F1 G1 H1 ⟨p1, p2⟩ R1 x1 => ?_, qe⟩
  cases k with
  | true => rw [if_pos rfl]; exact ⟨F1, G1, env1, _, E, R1, p1 rfl, fun k2 env2 F2 G2 H2 v2 p R2 x2 r2 n2 => q _ _ _ _ _ _ p R2 (x1.trans x2) r2 (newT_back x1.d n2), qe⟩
  | false => rw [if_neg Bool.false_ne_true]; exact ⟨F1, G1, env1, _, E, R1, p2 rfl, fun k2 env2 F2 G2 H2 v2 p R2 x2 r2 n2 => q _ _ _ _ _ _ p R2 (x1.trans x2) r2 (newT_back x1.d n2), qe⟩

def dNeg (wa : DW) : DW := fun env P E => wa env (fun t env1 => ∃ i n, t = .fz (.int i) n ∧ P (dI (-i)) env1) E
theorem d_neg (ha : DE X Z W a wa) : DE X Z W (.UnaryOp .USub a pos) (dNeg wa) := by
  refine PE.of (pe_un un_neg ha) fun σ H Q ⟨F, G, env, P, E, R, w, q, qe⟩ => ?_
  refine ⟨F, G, env, _, E, R, w, fun t env1 F1 G1 H1 v1 ⟨i, n, et, p1⟩ R1 x1 r1 n1 => ?_, qe⟩
  subst et
  have r1' : Rp X.K X.mg (sel n G1 F1) v1 (.int i) := r1
  cases r1'
  exact ⟨i, rfl, q _ _ _ _ _ _ p1 R1 x1 (.int _) trivial⟩

theorem lookup_rps {K : PySem.W.Frag} {mg : Str → Option Value} {B : Hp} {f : Str} : ∀ {fs : List (Str × D)} {gs : List (Str × V)}, fs.map (·.1) = gs.map (·.1) → Rps K mg B (gs.map (·.2)) (fs.map (·.2)) → ∀ {d : D}, fs.lookup f = some d → ∃ v, gs.lookup f = some v ∧ Rp K mg B v d
  | [], [], _, _, d, h => by cases h
  | [], _ :: _, h, _, _, _ => by simp at h
  | _ :: _, [], h, _, _, _ => by simp at h
  | (a, x) :: fs, (b, y) :: gs, h, r, d, hl => by
    simp only [List.map_cons, List.cons.injEq] at h
    obtain ⟨h1, h2⟩ := h
    subst h1
    cases r with
    | cons r1 r2 =>
      rw [List.lookup_cons] at hl
      rw [List.lookup_cons]
      cases e : f == a with
      | true => rw [e] at hl; cases hl; exact ⟨y, rfl, r1⟩
      | false => rw [e] at hl; exact lookup_rps h2 r2 hl
end
end DL

namespace DL
open PySem PySem.Spec L2

section
variable {K : PySem.W.Frag} {mg : Str → Option Value} {Z : Zx} {W : WX} {F G H F' G' H' B : Hp} {σ : Sg} {env env' : DEnv}
theorem len_of {α : Type} {l : List α} {i : Nat} {s : α} (e : l[i]? = some s) : i < l.length := by
  rcases Nat.lt_or_ge i l.length with h | h
  · exact h
  · rw [List.getElem?_eq_none h] at e; cases e

/-- a slot is stored -/
theorem EnvR.put {i : Nat} {v : V} {s s0 : Slot} (R : EnvR K mg Z F G H σ env) (e0 : env[i]? = some s0) (hio : ∀ d, s0 ≠ .io d) (hn : ∀ d, s ≠ .io d) (ok : SlotOk K mg Z F G H (σ.set i (some v)) i s) (hd : isOwn s = true → ∀ a, v = .ref a ∨ a ∈ fpS s → ¬ Own σ env a) (hdi : ∀ d, s0 ≠ .di d) :
    EnvR K mg Z F G H (σ.set i (some v)) (env.set i s) := by
  have hi := len_of e0
  have hiσ : i < σ.length := by rw [← R.len]; exact hi
  have other : ∀ {j : Nat}, i ≠ j → (σ.set i (some v))[j]? = σ[j]? := fun h => List.getElem?_set_ne h
  have otherE : ∀ {j : Nat}, i ≠ j → (env.set i s)[j]? = env[j]? := fun h => List.getElem?_set_ne h
  refine ⟨R.fh, R.gf, R.f0, R.gn, R.fn, R.frame, R.dom, by rw [List.length_set, List.length_set]; exact R.len, ?_, ?_, ?_, R.iof, ?_, R.dif, R.tb⟩
  · intro j t ej
    by_cases hj : i = j
    · subst hj
      rw [List.getElem?_set_self hi] at ej
      cases ej
      exact ok
    · rw [otherE hj] at ej
      have q := R.slot j t ej
      cases t with
      | un => trivial
      | fz d n => obtain ⟨w, e1, e2⟩ := q; exact ⟨w, by rw [other hj]; exact e1, e2⟩
      | ow d n => obtain ⟨w, e1, e2⟩ := q; exact ⟨w, by rw [other hj]; exact e1, e2⟩
      | io d => obtain ⟨w, e1, e2⟩ := q; exact ⟨w, by rw [other hj]; exact e1, e2⟩
      | dp d => obtain ⟨w, e1, e2⟩ := q; exact ⟨w, by rw [other hj]; exact e1, e2⟩
      | di d => obtain ⟨w, e1, e2⟩ := q; exact ⟨w, by rw [other hj]; exact e1, e2⟩
  · have at' : ∀ {j : Nat} {t : Slot} {a : Addr}, i ≠ j → OwnAt (σ.set i (some v)) j t a → OwnAt σ j t a := fun {j t a} h z => z.imp (fun q => by rw [other h] at q; exact q) id
    have new : ∀ {t : Slot} {a : Addr}, OwnAt (σ.set i (some v)) i t a → v = .ref a ∨ a ∈ fpS t := fun {t a} z => z.imp (fun q => by rw [List.getElem?_set_self hiσ] at q; cases q; rfl) id
    intro j l t u a ej ht el hu ha hb
    by_cases hj : i = j
    · subst hj
      by_cases hl : i = l
      · exact hl
      · rw [List.getElem?_set_self hi] at ej
        cases ej
        rw [otherE hl] at el
        exact absurd ⟨l, u, el, hu, at' hl hb⟩ (hd ht a (new ha))
    · by_cases hl : i = l
      · subst hl
        rw [List.getElem?_set_self hi] at el
        cases el
        rw [otherE hj] at ej
        exact absurd ⟨j, t, ej, ht, at' hj ha⟩ (hd hu a (new hb))
      · rw [otherE hj] at ej
        rw [otherE hl] at el
        exact R.dist j l t u a ej ht el hu (at' hj ha) (at' hl hb)
  · intro p hp
    obtain ⟨x, e1, e2⟩ := R.io p hp
    have : i ≠ p.1 := fun z => by
      rw [← z, e0] at e1
      cases e1
      exact hio x rfl
    exact ⟨x, by rw [otherE this]; exact e1, by rw [other this]; exact e2⟩
  · intro a ha
    obtain ⟨x, e1, e2⟩ := R.di a ha
    have : i ≠ a.1 := fun z => by
      rw [← z, e0] at e1
      cases e1
      exact hdi x rfl
    exact ⟨x, by rw [otherE this]; exact e1, by rw [other this]; exact e2⟩

def okS : Slot → Bool
  | .io _ => false | .di _ => false | _ => true
/-- a slot stored from a thing -/
def setS (env : DEnv) (i : Nat) (t : T) : Option DEnv := match env[i]? with
  | none => none
  | some s => if okS s = true then (match t with
    | .fz d n => some (env.set i (.fz d n))
    | .ow d n => some (env.set i (.ow d n))
    | .dp d => some (env.set i (.dp d))
    | .al j => (frz1 env (.al j)).map fun x => x.2.2.set i (.fz x.1 x.2.1)) else none
theorem frz1_io {t : T} {x : D × Bool × DEnv} (e : frz1 env t = some x) {i : Nat} {s : Slot} (es : env[i]? = some s) (hs : okS s = true) : ∃ s', x.2.2[i]? = some s' ∧ okS s' = true := by
  cases t with
  | fz d n => cases e; exact ⟨s, es, hs⟩
  | ow d n => cases e; exact ⟨s, es, hs⟩
  | dp d => cases e
  | al j =>
    unfold frz1 at e
    cases ej : env[j]? with
    | none => simp only [ej] at e; cases e
    | some q =>
      simp only [ej] at e
      cases q with
      | un => cases e
      | io d => cases e
      | dp d => cases e
      | di d => cases e
      | fz d n => cases e; exact ⟨s, es, hs⟩
      | ow d n =>
        cases e
        by_cases h : j = i
        · subst h
          exact ⟨.fz d n, List.getElem?_set_self (len_of ej), rfl⟩
        · exact ⟨s, by rw [List.getElem?_set_ne h]; exact es, hs⟩
theorem okS_io {s : Slot} (h : okS s = true) : ∀ d, s ≠ .io d := fun d e => by subst e; cases h
theorem okS_di {s : Slot} (h : okS s = true) : ∀ d, s ≠ .di d := fun d e => by subst e; cases h
theorem EnvR.setS {i : Nat} {v : V} {t : T} (R : EnvR K mg Z F G H σ env) (h : RT K mg Z F G H σ env v t) (e : setS env i t = some env') :
    ∃ F' G', EnvR K mg Z F' G' H (σ.set i (some v)) env' ∧ Same F F' ∧ Same G G' := by
  unfold DL.setS at e
  cases es : env[i]? with
  | none => simp only [es] at e; cases e
  | some s =>
    simp only [es] at e
    by_cases hk : okS s = true
    · rw [if_pos hk] at e
      have hiσ : i < σ.length := by rw [← R.len]; exact len_of es
      cases t with
      | fz d n =>
        cases e
        exact ⟨F, G, R.put es (okS_io hk) (fun _ z => nomatch z) ⟨v, List.getElem?_set_self hiσ, h⟩ (fun z => nomatch z) (okS_di hk), .refl _, .refl _⟩
      | ow d n =>
        cases e
        obtain ⟨a, rfl, h1, h2, h3, h4⟩ := h
        exact ⟨F, G, R.put es (okS_io hk) (fun _ z => nomatch z) ⟨a, List.getElem?_set_self hiσ, h1, h2, h4⟩ (fun _ b eb => eb.elim (fun z => V.ref.inj z ▸ h3) fun z => absurd z (by simp [fpS])) (okS_di hk), .refl _, .refl _⟩
      | dp d =>
        cases e
        obtain ⟨a, rfl, h1, h2, h3⟩ := h
        exact ⟨F, G, R.put es (okS_io hk) (fun _ z => nomatch z) ⟨a, List.getElem?_set_self hiσ, h1, h2, fun b hb => ⟨(h3 b hb).1, (h3 b hb).2.2⟩⟩ (fun _ b eb => (h3 b (List.mem_cons.mpr (eb.imp (fun z => (V.ref.inj z).symm) id))).2.1) (okS_di hk), .refl _, .refl _⟩
      | al j =>
        cases ef : frz1 env (.al j) with
        | none => simp only [ef] at e; cases e
        | some x =>
          simp only [ef, Option.map_some, Option.some.injEq] at e
          obtain ⟨F', G', R', x', r⟩ := RT.frz R h (fun _ _ z => nomatch z) ef
          obtain ⟨s', es', hs'⟩ := frz1_io ef es hk
          subst e
          exact ⟨F', G', R'.put es' (okS_io hs') (fun _ z => nomatch z) ⟨v, List.getElem?_set_self hiσ, r⟩ (fun z => nomatch z) (okS_di hs'), x'.f, x'.g⟩
    · rw [if_neg hk] at e; cases e

def ownS (env : DEnv) (j : Nat) : Option (D × Bool) := match env[j]? with
  | some (.ow d n) => some (d, n)
  | some (.io d) => some (d, false)
  | _ => none
def mutS (env : DEnv) (j : Nat) (d : D) (n : Bool) : DEnv := match env[j]? with
  | some (.io _) => env.set j (.io d)
  | some (.dp _) => env.set j (.dp d)
  | some (.di _) => env.set j (.di d)
  | _ => env.set j (.ow d n)
theorem EnvR.own {j : Nat} {d : D} {n : Bool} (R : EnvR K mg Z F G H σ env) (e : ownS env j = some (d, n)) : ∃ a, σ[j]? = some (some (.ref a)) ∧ Own σ env a ∧ F a = none ∧ OwnC K mg (sel n G F) H a d := by
  unfold ownS at e
  cases es : env[j]? with
  | none => simp only [es] at e; cases e
  | some s =>
    simp only [es] at e
    have q := R.slot j s es
    cases s with
    | un => cases e
    | fz x m => cases e
    | dp x => cases e
    | di x => cases e
    | ow x m => cases e; obtain ⟨a, e1, e2, e3, e4⟩ := q; exact ⟨a, e1, ⟨j, _, es, rfl, .inl e1⟩, e2, e3⟩
    | io x => cases e; obtain ⟨a, e1, e2, e3, e4⟩ := q; exact ⟨a, e1, ⟨j, _, es, rfl, .inl e1⟩, e2, e3⟩
theorem EnvR.mut {j : Nat} {d d' : D} {n n' : Bool} {a : Addr} {o' : HO} (R : EnvR K mg Z F G H σ env) (e : ownS env j = some (d, n)) (ha : σ[j]? = some (some (.ref a))) (hc : OwnC K mg (sel n' G F) (upd H a o') a d') :
    EnvR K mg Z F G (upd H a o') σ (mutS env j d' n') ∧ Ext σ env (mutS env j d' n') F G H F G (upd H a o') := by
  unfold ownS at e
  cases es : env[j]? with
  | none => simp only [es] at e; cases e
  | some s =>
    simp only [es] at e
    have hj := len_of es
    -- the new slot
    obtain ⟨s', hm, ho, ho', hf, hf', nd, ni, hk⟩ : ∃ s', mutS env j d' n' = env.set j s' ∧ isOwn s = true ∧ isOwn s' = true ∧ fpS s = [] ∧ fpS s' = [] ∧ (∀ y, s' ≠ .dp y) ∧ (∀ y, s' ≠ .di y) ∧
        (F a = none ∧ (∃ o, H a = some o) ∧ (∀ o, Z.H0 a = some o → ∃ p ∈ Z.io, p.2 = a) ∧ SlotOk K mg Z F G (upd H a o') σ j s') := by
      have q := R.slot j s es
      cases s with
      | un => cases e
      | fz x m => cases e
      | dp x => cases e
      | di x => cases e
      | ow x m =>
        obtain ⟨b, e1, e2, e3, e4⟩ := q
        rw [ha] at e1; cases e1
        exact ⟨.ow d' n', by simp [mutS, es], rfl, rfl, rfl, rfl, (fun _ z => nomatch z), (fun _ z => nomatch z), e2, e3.there, (fun o z => by rw [e4] at z; cases z), a, ha, e2, hc, e4⟩
      | io x =>
        obtain ⟨b, e1, e2, e3, e4⟩ := q
        rw [ha] at e1; cases e1
        refine ⟨.io d', by simp [mutS, es], rfl, rfl, rfl, rfl, (fun _ z => nomatch z), (fun _ z => nomatch z), e2, e3.there, (fun o _ => ⟨_, e4, rfl⟩), a, ha, e2, ?_, e4⟩
        exact hc.mono (sel_le R.gf)
    obtain ⟨hF, hH, h0, hok⟩ := hk
    rw [hm]
    have iso : ∀ {l : Nat} {t : Slot}, (env.set j s')[l]? = some t → isOwn t = true → ∃ t', env[l]? = some t' ∧ isOwn t' = true ∧ fpS t' = fpS t := fun {l t} el ht => by
      by_cases h : j = l
      · subst h
        rw [List.getElem?_set_self hj] at el
        cases el
        exact ⟨s, es, ho, hf.trans hf'.symm⟩
      · rw [List.getElem?_set_ne h] at el; exact ⟨t, el, ht, rfl⟩
    have at' : ∀ {l : Nat} {t t' : Slot} {b : Addr}, fpS t' = fpS t → OwnAt σ l t b → OwnAt σ l t' b := fun {l t t' b} h z => z.imp id fun q => h ▸ q
    have own' : ∀ b, Own σ (env.set j s') b → Own σ env b := fun b ⟨l, t, el, ht, hb⟩ => by
      obtain ⟨t', e1, e2, e3⟩ := iso el ht
      exact ⟨l, t', e1, e2, at' e3 hb⟩
    have hgone : Same F (upd H a o') := fun b u eb => by
      have : b ≠ a := fun z => by subst z; rw [hF] at eb; cases eb
      rw [upd_ne this]; exact R.fh _ _ eb
    have me : Own σ env a := ⟨j, s, es, ho, .inl ha⟩
    have meT : ∀ ps, H a ≠ some (.tbl ps) := fun ps z => by
      obtain ⟨_, u, e1, e2⟩ := R.own_atT me
      rw [z] at e1; cases e1; exact e2 ps rfl
    refine ⟨⟨hgone, R.gf, R.f0, R.gn, R.fn, ?_, ?_, by rw [List.length_set]; exact R.len, ?_, ?_, ?_, R.iof, ?_, R.dif, fun p hp => (R.tb p hp).keep (.refl _) fun ps z => (by rw [upd_ne fun q => meT ps (by rw [← q]; exact z)]; exact z)⟩, ⟨.refl _, .refl _, ?_, ?_, fun b u _ k _ => k, fun b z => .inl (own' b z), ?_, by rw [List.length_set]⟩⟩
    · intro b u eb k k2 k3
      have : b ≠ a := fun z => by
        subst z
        obtain ⟨p, hp, e2⟩ := h0 u eb
        exact k p hp e2
      rw [upd_ne this]; exact R.frame b u eb k k2 k3
    · intro b u eb
      by_cases hb : b = a
      · subst hb; exact ⟨_, upd_same⟩
      · rw [upd_ne hb]; exact R.dom b u eb
    · intro l t el
      by_cases h : j = l
      · subst h
        rw [List.getElem?_set_self hj] at el
        cases el
        exact hok
      · rw [List.getElem?_set_ne h] at el
        have q := R.slot l t el
        have ne : ∀ {b : Addr}, isOwn t = true → OwnAt σ l t b → b ≠ a := fun {b} ht hb z => by
          subst z
          exact h (R.dist j l s t _ es ho el ht (.inl ha) hb)
        cases t with
        | un => trivial
        | fz x m => exact q
        | ow x m => obtain ⟨b, e1, e2, e3, e4⟩ := q; exact ⟨b, e1, e2, e3.at_ (fun u eu => by rw [upd_ne (ne rfl (.inl e1))]; exact eu), e4⟩
        | io x => obtain ⟨b, e1, e2, e3, e4⟩ := q; exact ⟨b, e1, e2, e3.at_ (fun u eu => by rw [upd_ne (ne rfl (.inl e1))]; exact eu), e4⟩
        | dp x => obtain ⟨b, e1, e2, e3, e4⟩ := q; exact ⟨b, e1, e2.at_ (fun c hc u eu => by rw [upd_ne (ne rfl ((List.mem_cons.mp hc).imp (fun z => by rw [z]; exact e1) id))]; exact eu), e3, e4⟩
        | di x => obtain ⟨b, e1, e2, e3, e4⟩ := q; exact ⟨b, e1, e2.at_ (fun c hc u eu => by rw [upd_ne (ne rfl ((List.mem_cons.mp hc).imp (fun z => by rw [z]; exact e1) id))]; exact eu), e3, e4⟩
    · intro l m t u b el ht em hu hb hb'
      obtain ⟨t', e1, e2, e5⟩ := iso el ht
      obtain ⟨u', e3, e4, e6⟩ := iso em hu
      exact R.dist l m t' u' b e1 e2 e3 e4 (at' e5 hb) (at' e6 hb')
    · intro p hp
      obtain ⟨x, e1, e2⟩ := R.io p hp
      by_cases h : j = p.1
      · rw [← h, List.getElem?_set_self hj]
        rw [← h, es] at e1
        cases e1
        have : s' = .io d' := by
          have z : mutS env j d' n' = env.set j (.io d') := by simp [mutS, es]
          rw [hm] at z
          have z2 := congrArg (fun l : DEnv => l[j]?) z
          simp only [List.getElem?_set_self hj, Option.some.injEq] at z2
          exact z2
        subst this
        exact ⟨d', rfl, by rw [h]; exact e2⟩
      · exact ⟨x, by rw [List.getElem?_set_ne h]; exact e1, e2⟩
    · intro b hb
      obtain ⟨x, e1, e2⟩ := R.di b hb
      have : j ≠ b.1 := fun z => by
        rw [← z, es] at e1
        cases e1
        cases e
      exact ⟨x, by rw [List.getElem?_set_ne this]; exact e1, e2⟩
    · intro b u eb nb _
      have : b ≠ a := fun z => nb (z ▸ me)
      rw [upd_ne this]; exact eb
    · intro b u eb
      by_cases hb : b = a
      · subst hb; exact ⟨_, upd_same⟩
      · exact ⟨u, by rw [upd_ne hb]; exact eb⟩
    · intro l x ex
      by_cases h : j = l
      · subst h
        cases s' with
        | un => cases ho'
        | fz y m => cases ho'
        | dp y => exact absurd rfl (nd y)
        | di y => exact absurd rfl (ni y)
        | ow y m => exact ⟨y, by simp [rd, List.getElem?_set_self hj]⟩
        | io y => exact ⟨y, by simp [rd, List.getElem?_set_self hj]⟩
      · refine ⟨x, ?_⟩
        rw [← ex]
        simp only [rd, List.getElem?_set_ne h]
end
end DL

namespace DL
open PySem PySem.Spec L2

structure Up (F G F' G' : Hp) : Prop where
  f : Same F F'
  g : Same G G'
theorem Up.refl {F G : Hp} : Up F G F G := ⟨.refl _, .refl _⟩
theorem Up.trans {F G F1 G1 F2 G2 : Hp} (a : Up F G F1 G1) (b : Up F1 G1 F2 G2) : Up F G F2 G2 := ⟨a.f.trans b.f, a.g.trans b.g⟩
theorem Ext.up {σ : Sg} {env env' : DEnv} {F G H F' G' H' : Hp} (x : Ext σ env env' F G H F' G' H') : Up F G F' G' := ⟨x.f, x.g⟩
structure DEnds where
  nx : DEnv → Prop
  rt : T → DEnv → Prop
  bk : DEnv → Prop
  ct : DEnv → Prop
  ex : Str → DEnv → Prop
abbrev DSt := DEnv → DEnds → Prop
section
variable (K : PySem.W.Frag) (mg : Str → Option Value) (Z : Zx) (W : WX)
/-- what a def hands back -/
def RR (F G H : Hp) (v : V) : T → Prop
  | .fz d n => Rp K mg (sel n G F) v d
  | .ow d n => ∃ a, v = .ref a ∧ F a = none ∧ OwnC K mg (sel n G F) H a d ∧ Z.H0 a = none
  | .dp d => ∃ a, v = .ref a ∧ OwD K mg F H a d ∧ (a :: fp d).Nodup ∧ ∀ b ∈ a :: fp d, F b = none ∧ Z.H0 b = none
  | .al _ => False
/-- the places that a result owns -/
def adT (v : V) : T → List Addr
  | .ow _ _ => match v with
    | .ref a => [a]
    | _ => []
  | .dp d => match v with
    | .ref a => a :: fp d
    | _ => []
  | _ => []
def isLent : Slot → Bool
  | .io _ => true | .di _ => true | _ => false
/-- a result stands apart from what was lent -/
def OffT (σ : Sg) (env : DEnv) (v : V) (t : T) : Prop := ∀ b ∈ adT v t, ∀ (i : Nat) (s : Slot), env[i]? = some s → isLent s = true → ¬ OwnAt σ i s b
def Nx (F G : Hp) (P : DEnv → Prop) (Q : Sg → Hp → Prop) : Prop := ∀ (env' : DEnv) (F' G' H' : Hp) (σ' : Sg), P env' → EnvR K mg Z F' G' H' σ' env' → Up F G F' G' → Q σ' H'
def Rt (P : T → DEnv → Prop) (Q : VK) : Prop := ∀ (t : T) (env' : DEnv) (F' G' H' : Hp) (σ' : Sg) (v : V), P t env' → EnvR K mg Z F' G' H' σ' env' → RR K mg Z F' G' H' v t → OffT σ' env' v t → Q v H'
structure EndsOk (F G : Hp) (Ds : DEnds) (D : Ends) : Prop where
  nx : Nx K mg Z F G Ds.nx D.nx
  rt : Rt K mg Z Ds.rt D.rt
  bk : Nx K mg Z F G Ds.bk D.bk
  ct : Nx K mg Z F G Ds.ct D.ct
  ex : ∀ σ, Wx K mg Z W Ds.ex σ
def tDS (w : DSt) : TS := fun D σ H => ∃ (F G : Hp) (env : DEnv) (Ds : DEnds), EnvR K mg Z F G H σ env ∧ w env Ds ∧ EndsOk K mg Z W F G Ds D
end
theorem Nx.mono {K : PySem.W.Frag} {mg : Str → Option Value} {Z : Zx} {F G F' G' : Hp} {P : DEnv → Prop} {Q : Sg → Hp → Prop} (h : Nx K mg Z F G P Q) (s : Up F G F' G') : Nx K mg Z F' G' P Q := fun e F1 G1 H1 σ1 p R k => h e F1 G1 H1 σ1 p R (s.trans k)
theorem EndsOk.mono {K : PySem.W.Frag} {mg : Str → Option Value} {Z : Zx} {W : WX} {F G F' G' : Hp} {Ds : DEnds} {D : Ends} (h : EndsOk K mg Z W F G Ds D) (s : Up F G F' G') : EndsOk K mg Z W F' G' Ds D := ⟨h.nx.mono s, h.rt, h.bk.mono s, h.ct.mono s, h.ex⟩
theorem PS.of {X : Cx} {e : Stmt} {t t' : TS} (h : PS X e t) (k : ∀ D σ H, t' D σ H → t D σ H) : PS X e t' := ⟨fun pins s σ H D I q => h.run pins s σ H D I (k D σ H q)⟩
theorem PSs.of {X : Cx} {e : List Stmt} {t t' : TS} (h : PSs X e t) (k : ∀ D σ H, t' D σ H → t D σ H) : PSs X e t' := ⟨fun pins s σ H D I q => h.run pins s σ H D I (k D σ H q)⟩
abbrev DS (X : Cx) (Z : Zx) (W : WX) (e : Stmt) (w : DSt) : Prop := PS X e (tDS X.K X.mg Z W w)
abbrev DSs (X : Cx) (Z : Zx) (W : WX) (e : List Stmt) (w : DSt) : Prop := PSs X e (tDS X.K X.mg Z W w)

def dSkip : DSt := fun env D => D.nx env
def dSeq (a b : DSt) : DSt := fun env D => a env { D with nx := fun e => b e D }
def dBrk : DSt := fun env D => D.bk env
def dCnt : DSt := fun env D => D.ct env
def dExp (w : DW) : DSt := fun env D => w env (fun _ e => D.nx e) D.ex
/-- what is handed back -/
def retT (env : DEnv) : T → Option T
  | .fz d n => some (.fz d n)
  | .ow d n => some (.ow d n)
  | .al i => match env[i]? with
    | some (.ow d n) => some (.ow d n)
    | some (.fz d n) => some (.fz d n)
    | some (.dp d) => some (.dp d)
    | _ => none
  | .dp d => some (.dp d)
def dRet (w : DW) : DSt := fun env D => w env (fun t e => ∃ t', retT e t = some t' ∧ D.rt t' e) D.ex
def dRetN : DSt := fun env D => D.rt (.fz .none true) env
def dIf (c : DT) (a b : DSt) : DSt := fun env D => c env (fun k e => (k = true → a e D) ∧ (k = false → b e D)) D.ex
def dSet (i : Nat) (w : DW) : DSt := fun env D => w env (fun t e => ∃ e', setS e i t = some e' ∧ D.nx e') D.ex
def dWhile (c : DT) (b : DSt) : DSt := fun env D => ∃ (I : Nat → DEnv → Prop) (m0 : Nat), I m0 env ∧ ∀ m e, I m e →
  c e (fun k e1 => (k = true → b e1 { D with nx := fun e' => ∃ m', m' < m ∧ I m' e', ct := fun e' => ∃ m', m' < m ∧ I m' e', bk := D.nx }) ∧ (k = false → D.nx e1)) D.ex

section
variable {X : Cx} {Z : Zx} {W : WX} {pos : Pos} {st : Stmt} {rest : List Stmt} {a b : DSt} {e : Expr} {w : DW} {c : DT}
theorem s_nil : DSs X Z W [] dSkip := PSs.of pss_nil fun D σ H ⟨F, G, env, Ds, R, w, k⟩ => k.nx env F G H σ w R .refl
theorem s_cons (h1 : DS X Z W st a) (h2 : DSs X Z W rest b) : DSs X Z W (st :: rest) (dSeq a b) :=
  PSs.of (pss_cons h1 h2) fun D σ H ⟨F, G, env, Ds, R, w, k⟩ => ⟨F, G, env, _, R, w, ⟨fun e F1 G1 H1 σ1 p R1 s => ⟨F1, G1, e, Ds, R1, p, k.mono s⟩, k.rt, k.bk, k.ct, k.ex⟩⟩
theorem s_one (h : DS X Z W st a) : DSs X Z W [st] a := pss_one h
theorem s_expr (h : DE X Z W e w) (hs : swapsWith e none pos.line X.env = pure false := by rfl) : DS X Z W (.Expr e pos) (dExp w) :=
  PS.of (ps_expr h hs) fun D σ H ⟨F, G, env, Ds, R, w, k⟩ => ⟨F, G, env, _, _, R, w, fun t e F1 G1 H1 v p R1 x1 r1 n1 => k.nx e F1 G1 H1 σ p R1 x1.up, k.ex σ⟩
theorem RT.ret {K : PySem.W.Frag} {mg : Str → Option Value} {Z : Zx} {F G H : Hp} {σ : Sg} {env : DEnv} {v : V} {t t' : T} (R : EnvR K mg Z F G H σ env) (h : RT K mg Z F G H σ env v t) (e : retT env t = some t') : RR K mg Z F G H v t' := by
  cases t with
  | fz d n => cases e; exact h
  | ow d n => cases e; obtain ⟨a, h1, h2, h3, h4, h5⟩ := h; exact ⟨a, h1, h2, h3, h5⟩
  | dp d => cases e; obtain ⟨a, h1, h2, h3, h4⟩ := h; exact ⟨a, h1, h2, h3, fun b hb => ⟨(h4 b hb).1, (h4 b hb).2.2⟩⟩
  | al i =>
    obtain ⟨h1, _⟩ := h
    unfold retT at e
    cases es : env[i]? with
    | none => simp only [es] at e; cases e
    | some s =>
      simp only [es] at e
      have q := R.slot i s es
      cases s with
      | un => cases e
      | io d => cases e
      | dp d => cases e; obtain ⟨w, e1, e2⟩ := q; rw [h1] at e1; cases e1; exact ⟨w, rfl, e2⟩
      | di d => cases e
      | fz d n => cases e; obtain ⟨w, e1, e2⟩ := q; rw [h1] at e1; cases e1; exact e2
      | ow d n => cases e; obtain ⟨w, e1, e2, e3, e4⟩ := q; rw [h1] at e1; cases e1; exact ⟨w, rfl, e2, e3, e4⟩
theorem lent_own {s : Slot} (h : isLent s = true) : isOwn s = true := by cases s <;> first | rfl | cases h
theorem RT.retO {K : PySem.W.Frag} {mg : Str → Option Value} {Z : Zx} {F G H : Hp} {σ : Sg} {env : DEnv} {v : V} {t t' : T} (R : EnvR K mg Z F G H σ env) (h : RT K mg Z F G H σ env v t) (e : retT env t = some t') : OffT σ env v t' := by
  cases t with
  | fz d n => cases e; intro b hb; cases hb
  | ow d n =>
    cases e
    obtain ⟨a, rfl, h1, h2, h3, h4⟩ := h
    intro b hb i s ei hs ho
    simp [adT] at hb
    subst hb
    exact h3 ⟨i, s, ei, lent_own hs, ho⟩
  | dp d =>
    cases e
    obtain ⟨a, rfl, h1, h2, h3⟩ := h
    intro b hb i s ei hs ho
    exact (h3 b hb).2.1 ⟨i, s, ei, lent_own hs, ho⟩
  | al i =>
    obtain ⟨h1, _⟩ := h
    unfold retT at e
    cases es : env[i]? with
    | none => simp only [es] at e; cases e
    | some s =>
      simp only [es] at e
      cases s with
      | un => cases e
      | io d => cases e
      | di d => cases e
      | fz d n => cases e; intro b hb; cases hb
      | ow d n =>
        cases e
        obtain ⟨a, e1, _⟩ := R.slot i _ es
        rw [h1] at e1; cases e1
        intro b hb j s ej hs ho
        simp [adT] at hb
        subst hb
        have := R.dist i j _ s b es rfl ej (lent_own hs) (.inl h1) ho
        subst this
        rw [es] at ej; cases ej; cases hs
      | dp d =>
        cases e
        obtain ⟨a, e1, _⟩ := R.slot i _ es
        rw [h1] at e1; cases e1
        intro b hb j s ej hs ho
        have := R.dist i j _ s b es rfl ej (lent_own hs) ((List.mem_cons.mp hb).imp (fun z => by rw [z]; exact h1) id) ho
        subst this
        rw [es] at ej; cases ej; cases hs
theorem s_ret (h : DE X Z W e w) : DS X Z W (.Return (some e) pos) (dRet w) :=
  PS.of (ps_ret h) fun D σ H ⟨F, G, env, Ds, R, w, k⟩ => ⟨F, G, env, _, _, R, w, fun t e F1 G1 H1 v ⟨t', et, p⟩ R1 x1 r1 n1 => k.rt t' e F1 G1 H1 σ v p R1 (RT.ret R1 r1 et) (RT.retO R1 r1 et), k.ex σ⟩
theorem s_if {sa sb : List Stmt} (hc : DTe X Z W e c) (ha : DSs X Z W sa a) (hb : DSs X Z W sb b) : DS X Z W (.If e sa sb pos) (dIf c a b) := by
  refine PS.of (ps_if hc ha hb) fun D σ H ⟨F, G, env, Ds, R, w, k⟩ => ?_
  refine ⟨F, G, env, _, _, R, w, fun q e1 F1 G1 H1 ⟨p1, p2⟩ R1 x1 => ?_, k.ex σ⟩
  cases q with
  | true => rw [if_pos rfl]; exact ⟨F1, G1, e1, Ds, R1, p1 rfl, k.mono x1.up⟩
  | false => rw [if_neg Bool.false_ne_true]; exact ⟨F1, G1, e1, Ds, R1, p2 rfl, k.mono x1.up⟩
/-- a store, by any reading of its value -/
theorem set_imp {te : TE} {i : Nat} (hk : ∀ σ H Q, tD X.K X.mg Z W w σ H Q → te σ H Q) {D : Ends} {σ : Sg} {H : Hp} (h : tDS X.K X.mg Z W (dSet i w) D σ H) : tAsg te (gName i) D σ H := by
  obtain ⟨F, G, env, Ds, R, w, k⟩ := h
  refine hk _ _ _ ⟨F, G, env, _, _, R, w, fun t e F1 G1 H1 v ⟨e', es, p⟩ R1 x1 r1 n1 => ?_, k.ex σ⟩
  obtain ⟨F2, G2, R2, s2⟩ := R1.setS r1 es
  exact k.nx e' F2 G2 H1 _ p R2 (x1.up.trans ⟨s2.1, s2.2⟩)
theorem s_set (i : Nat) {x : Str} {pos' : Pos} (he : DE X Z W e w) (hN : X.N.Nodup) (hi : X.N[i]? = some x := by rfl) (hx : Loc X.env.scope x := by first | exact Or.inl rfl | exact Or.inr rfl)
    (hs : swapsWith e (some (.Name x pos')) pos.line X.env = pure false := by rfl) (hf : X.fn x = true ∨ X.env.scope.names.lookup x = some .local := by first | exact .inl rfl | exact .inr rfl | assumption) :
    DS X Z W (.Assign [.Name x pos'] e pos) (dSet i w) :=
  PS.of (ps_set hN hi hx he hs hf) fun D σ H h => set_imp (fun _ _ _ q => q) h
theorem s_while {body : List Stmt} (hp : PassesOwn (model X.prog X.w) X.A X.env X.xe) (hc : DTe X Z W e c) (hb : DSs X Z W body b) : DS X Z W (.While e body [] pos) (dWhile c b) := by
  refine PS.of (ps_while hp hc hb) fun D σ H ⟨F, G, env, Ds, R, ⟨I, m0, i0, st⟩, k⟩ => ?_
  refine ⟨fun m σ H => ∃ F' G' env', EnvR X.K X.mg Z F' G' H σ env' ∧ Up F G F' G' ∧ I m env', ⟨m0, F, G, env, R, .refl, i0⟩, fun m σ1 H1 ⟨F1, G1, e1, R1, s1, i1⟩ => ?_⟩
  refine ⟨F1, G1, e1, _, _, R1, st m e1 i1, fun q e2 F2 G2 H2 ⟨p1, p2⟩ R2 x2 => ?_, k.ex σ1⟩
  cases q with
  | false => rw [if_neg Bool.false_ne_true]; exact k.nx e2 F2 G2 H2 σ1 (p2 rfl) R2 (s1.trans x2.up)
  | true =>
    rw [if_pos rfl]
    refine ⟨fun σ' H' => ∃ m', m' < m ∧ ∃ F' G' env', EnvR X.K X.mg Z F' G' H' σ' env' ∧ Up F G F' G' ∧ I m' env', fun σ' H' ⟨m', hm, z⟩ => ⟨m', hm, z⟩, F2, G2, e2, _, R2, p1 rfl, ?_⟩
    have go : Nx X.K X.mg Z F2 G2 (fun e' => ∃ m', m' < m ∧ I m' e') (fun σ' H' => ∃ m', m' < m ∧ ∃ F' G' env', EnvR X.K X.mg Z F' G' H' σ' env' ∧ Up F G F' G' ∧ I m' env') := fun e' F' G' H' σ' ⟨m', hm, i'⟩ R' s' => ⟨m', hm, F', G', e', R', (s1.trans x2.up).trans s', i'⟩
    exact ⟨go, k.rt, k.nx.mono (s1.trans x2.up), go, k.ex⟩
end

abbrev DG := D → Bool → DEnv → Option DEnv
def gN (i : Nat) : DG := fun d n env => setS env i (.fz d n)
def gTs : List DG → List D → Bool → DEnv → Option DEnv
  | [], [], _, env => some env
  | g :: gs, d :: ds, n, env => (g d n env).bind (gTs gs ds n)
  | _, _, _, _ => none
def gTp (gs : List DG) : DG := fun d n env => (seqOf d).bind fun ds => gTs gs ds n env
/-- slots are stored at these places alone, data there -/
structure OnlyAt (σ σ' : Sg) (env env' : DEnv) (tl : List Nat) : Prop where
  w : ∀ vs : List Nat, (∀ i ∈ tl, i ∈ vs) → wipe σ' vs = wipe σ vs
  e : ∀ j : Nat, j ∉ tl → env'[j]? = env[j]? ∧ σ'[j]? = σ[j]?
  o : ∀ j ∈ tl, ∀ s : Slot, env'[j]? = some s → isOwn s = false
  l : env'.length = env.length
theorem wipe_set {σ : Sg} {i : Nat} {v : Option V} : ∀ {vs : List Nat}, i ∈ vs → wipe (σ.set i v) vs = wipe σ vs
  | [], h => by simp at h
  | w :: vs, h => by
    unfold wipe
    by_cases hi : i ∈ vs
    · rw [wipe_set hi]
    · rcases List.mem_cons.mp h with rfl | h
      · have : ∀ vs : List Nat, (wipe (σ.set i v) vs).set i none = (wipe σ vs).set i none := fun vs => by
          induction vs with
          | nil => simp [wipe]
          | cons u us ih =>
            unfold wipe
            by_cases hu : u = i
            · subst hu; rw [ih]
            · rw [List.set_comm _ _ hu, ih, List.set_comm _ _ (Ne.symm hu)]
        exact this vs
      · exact absurd h hi
def tDG (K : PySem.W.Frag) (mg : Str → Option Value) (Z : Zx) (g : DG) (tl : List Nat) : TG := fun v σ H Q => ∃ (F G : Hp) (env : DEnv) (d : D) (n : Bool) (env' : DEnv), EnvR K mg Z F G H σ env ∧ Rp K mg (sel n G F) v d ∧ g d n env = some env' ∧ ∀ σ', EnvR K mg Z F G H σ' env' → OnlyAt σ σ' env env' tl → Q σ' H
def tDGs (K : PySem.W.Frag) (mg : Str → Option Value) (Z : Zx) (g : List DG) (tl : List Nat) : TGs := fun vs σ H Q => ∃ (F G : Hp) (env : DEnv) (ds : List D) (n : Bool) (env' : DEnv), EnvR K mg Z F G H σ env ∧ Rps K mg (sel n G F) vs ds ∧ gTs g ds n env = some env' ∧ ∀ σ', EnvR K mg Z F G H σ' env' → OnlyAt σ σ' env env' tl → Q σ' H
theorem PG.of {X : Cx} {e : Expr} {t t' : TG} (h : PG X e t) (k : ∀ v σ H Q, t' v σ H Q → t v σ H Q) : PG X e t' := ⟨fun pins s σ H v u Q I r q => h.run pins s σ H v u Q I r (k v σ H Q q)⟩
theorem PGs.of {X : Cx} {e : List Expr} {t t' : TGs} (h : PGs X e t) (k : ∀ v σ H Q, t' v σ H Q → t v σ H Q) : PGs X e t' := ⟨fun pins s σ H v u Q I r q => h.run pins s σ H v u Q I r (k v σ H Q q)⟩
theorem PG.or {X : Cx} {e : Expr} {t t' : TG} (h : PG X e t) (h' : PG X e t') : PG X e (fun v σ H Q => t v σ H Q ∨ t' v σ H Q) :=
  ⟨fun pins s σ H v u Q I r q => q.elim (fun q => h.run pins s σ H v u Q I r q) fun q => h'.run pins s σ H v u Q I r q⟩
abbrev DGt (X : Cx) (Z : Zx) (e : Expr) (g : DG) (tl : List Nat) : Prop := PG X e (tDG X.K X.mg Z g tl)
abbrev DGts (X : Cx) (Z : Zx) (e : List Expr) (g : List DG) (tl : List Nat) : Prop := PGs X e (tDGs X.K X.mg Z g tl)
section
variable {X : Cx} {Z : Zx} {W : WX} {pos : Pos}
theorem setS_F {K : PySem.W.Frag} {mg : Str → Option Value} {F G H : Hp} {σ : Sg} {env env' : DEnv} {i : Nat} {v : V} {d : D} {n : Bool} (R : EnvR K mg Z F G H σ env) (h : Rp K mg (sel n G F) v d) (e : setS env i (.fz d n) = some env') : EnvR K mg Z F G H (σ.set i (some v)) env' := by
  unfold DL.setS at e
  cases es : env[i]? with
  | none => simp only [es] at e; cases e
  | some s =>
    simp only [es] at e
    by_cases hk : okS s = true
    · rw [if_pos hk] at e
      have hiσ : i < σ.length := by rw [← R.len]; exact len_of es
      cases e
      exact R.put es (okS_io hk) (fun _ z => nomatch z) ⟨v, List.getElem?_set_self hiσ, h⟩ (fun z => nomatch z) (okS_di hk)
    · rw [if_neg hk] at e; cases e
theorem only_set {σ : Sg} {env env' : DEnv} {i : Nat} {v : Option V} {d : D} {n : Bool} (e : setS env i (.fz d n) = some env') : OnlyAt σ (σ.set i v) env env' [i] := by
  unfold DL.setS at e
  cases es : env[i]? with
  | none => simp only [es] at e; cases e
  | some s =>
    simp only [es] at e
    by_cases hk : okS s = true
    · rw [if_pos hk] at e
      cases e
      refine ⟨fun vs h => wipe_set (h i List.mem_cons_self), fun j hj => ?_, fun j hj s' e' => ?_, List.length_set⟩
      · have : i ≠ j := fun z => hj (z ▸ List.mem_cons_self)
        exact ⟨List.getElem?_set_ne this, List.getElem?_set_ne this⟩
      · have : j = i := by simpa using hj
        subst this
        rw [List.getElem?_set_self (len_of es)] at e'
        cases e'
        rfl
    · rw [if_neg hk] at e; cases e
theorem g_name (i : Nat) {x : Str} (hN : X.N.Nodup) (hi : X.N[i]? = some x := by rfl) (hx : Loc X.env.scope x := by first | exact Or.inl rfl | exact Or.inr rfl) (hf : X.fn x = true ∨ X.env.scope.names.lookup x = some .local := by first | exact .inl rfl | exact .inr rfl | assumption) : DGt X Z (.Name x pos) (gN i) [i] :=
  PG.of (pg_name hN hi hx hf) fun v σ H Q ⟨F, G, env, d, n, env', R, r, e, q⟩ => q _ (setS_F R r e) (only_set e)
theorem only_app {σ σ1 σ2 : Sg} {env env1 env2 : DEnv} {tl tls : List Nat} (a : OnlyAt σ σ1 env env1 tl) (b : OnlyAt σ1 σ2 env1 env2 tls) : OnlyAt σ σ2 env env2 (tl ++ tls) := by
  refine ⟨fun vs h => (b.w vs fun i hi => h i (List.mem_append_right _ hi)).trans (a.w vs fun i hi => h i (List.mem_append_left _ hi)), fun j hj => ?_, fun j hj s e => ?_, b.l.trans a.l⟩
  · have h1 := a.e j fun z => hj (List.mem_append_left _ z)
    have h2 := b.e j fun z => hj (List.mem_append_right _ z)
    exact ⟨h2.1.trans h1.1, h2.2.trans h1.2⟩
  · by_cases h : j ∈ tls
    · exact b.o j h s e
    · rw [(b.e j h).1] at e
      rcases List.mem_append.mp hj with z | z
      · exact a.o j z s e
      · exact absurd z h
theorem g_nil : DGts X Z [] [] [] := PGs.of pgs_nil fun v σ H Q ⟨F, G, env, ds, n, env', R, r, e, q⟩ => by
  cases ds with
  | nil => cases r; cases e; exact ⟨rfl, q _ R ⟨fun _ _ => rfl, fun _ _ => ⟨rfl, rfl⟩, fun _ h => by simp at h, rfl⟩⟩
  | cons => cases e
theorem g_cons {t : Expr} {ts : List Expr} {g : DG} {gs : List DG} {tl tls : List Nat} (h1 : DGt X Z t g tl) (h2 : DGts X Z ts gs tls) (hs : (assignEach (t :: ts) X.env).map (·.2) = assign t X.env :: (assignEach ts X.env).map (·.2) := by rfl) : DGts X Z (t :: ts) (g :: gs) (tl ++ tls) := by
  refine PGs.of (pgs_cons h1 h2 hs) fun v σ H Q ⟨F, G, env, ds, n, env', R, r, e, q⟩ => ?_
  cases ds with
  | nil => cases e
  | cons d ds =>
    cases r with
    | cons r1 r2 =>
      unfold gTs at e
      cases e1 : g d n env with
      | none => rw [e1] at e; cases e
      | some env1 =>
        rw [e1] at e
        exact ⟨_, _, rfl, F, G, env, d, n, env1, R, r1, e1, fun σ' R' o1 => ⟨F, G, env1, ds, n, env', R', r2, e, fun σ2 R2 o2 => q σ2 R2 (only_app o1 o2)⟩⟩
theorem gTs_len : ∀ {gs : List DG} {ds : List D} {n : Bool} {env env' : DEnv}, gTs gs ds n env = some env' → ds.length = gs.length
  | [], [], _, _, _, _ => rfl
  | [], _ :: _, _, _, _, e => by cases e
  | _ :: _, [], _, _, _, e => by cases e
  | g :: gs, d :: ds, n, env, env', e => by
    unfold gTs at e
    cases e1 : g d n env with
    | none => rw [e1] at e; cases e
    | some env1 => rw [e1] at e; simp [gTs_len e]
theorem g_tup {ts : List Expr} {k : Nat} {gs : List DG} {tl : List Nat} (hc : X.calm = true) (h : DGts X Z ts gs tl) (hn : (assignEach ts X.env).length = gs.length := by rfl) (hst : (assignEach ts X.env).findIdx? (·.1) = none := by rfl) : DGt X Z (.Tuple ts k pos) (gTp gs) tl := by
  refine PG.of (PG.or (pg_tup hc h hn hst) (pg_lst hc h hn hst)) fun v σ H Q ⟨F, G, env, d, n, env', R, r, e, q⟩ => ?_
  unfold gTp at e
  cases es : seqOf d with
  | none => rw [es] at e; cases e
  | some ds =>
    rw [es] at e
    simp only [Option.bind_some] at e
    obtain ⟨a, vs, rfl, hs, rs⟩ := Rv.seq (H := H) (.inl r) R.selH es
    have hl := rs.length.trans (gTs_len e)
    rcases hs with hs | hs
    · exact .inr ⟨a, vs, rfl, hs, hl, F, G, env, ds, n, env', R, rs, e, q⟩
    · exact .inl ⟨a, vs, rfl, hs, hl, F, G, env, ds, n, env', R, rs, e, q⟩

/-- a, b = e -/
def dUnp (g : DG) (w : DW) : DSt := fun env D => w env (fun t e => ∃ x, frz1 e (hold t) = some x ∧ ∃ e', g x.1 x.2.1 x.2.2 = some e' ∧ D.nx e') D.ex
/-- a, b = x, y of plain names -/
def dPar (i j : Nat) (wa : DA) : DSt := fun env D => wa env (fun ts e => ∃ d n d' n', ts = [.fz d n, .fz d' n'] ∧ ∃ e1, setS e i (.fz d n) = some e1 ∧ ∃ e2, setS e1 j (.fz d' n') = some e2 ∧ D.nx e2) D.ex
end
end DL

namespace DL
open PySem PySem.Spec L2

section
variable (K : PySem.W.Frag) (mg : Str → Option Value) (Z : Zx)
/-- an iterator yields these things, one by one -/
structure IterOk (F0 G0 : Hp) (n : Bool) (J : It) (items : List D) : Prop where
  stop : ∀ i H, Same F0 H → items.length ≤ i → J.stop i H
  go : ∀ i H d, Same F0 H → items[i]? = some d → J.go i H
  yld : ∀ i H d x H' F G env σ, items[i]? = some d → J.yld i H x H' → EnvR K mg Z F G H σ env → Up F0 G0 F G → ∃ F' G', EnvR K mg Z F' G' H' σ env ∧ Ext σ env env F G H F' G' H' ∧ Rp K mg (sel n G' F') x d
end
abbrev DI := DEnv → (List D → Bool → DEnv → Prop) → (Str → DEnv → Prop) → Prop
def tDI (K : PySem.W.Frag) (mg : Str → Option Value) (Z : Zx) (W : WX) (w : DI) : TI := fun σ H R => ∃ (F G : Hp) (env : DEnv) (P : List D → Bool → DEnv → Prop) (E : Str → DEnv → Prop), EnvR K mg Z F G H σ env ∧ w env P E ∧
  (∀ (items : List D) (n : Bool) (env' : DEnv) (F' G' H' : Hp) (J : It), P items n env' → EnvR K mg Z F' G' H' σ env' → Ext σ env env' F G H F' G' H' → IterOk K mg Z F' G' n J items → R J H') ∧ Wx K mg Z W E σ
abbrev DIe (X : Cx) (Z : Zx) (W : WX) (tg e : Expr) (w : DI) : Prop := PI X tg e (tDI X.K X.mg Z W w)
theorem PI.of {X : Cx} {tg e : Expr} {t t' : TI} (h : PI X tg e t) (k : ∀ σ H Q, t' σ H Q → t σ H Q) : PI X tg e t' := ⟨fun pins s σ H R I q => h.run pins s σ H R I (k σ H R q)⟩

/-- a list, a tuple or a text walked -/
def iAny (K : PySem.W.Frag) (tl : TE) : TI := fun σ H R => tl σ H fun x H1 => (∃ a xs, x = .ref a ∧ SqL K H1 a xs ∧ R (Itl K a) H1) ∨ (∃ a xs, x = .ref a ∧ SqT K H1 a xs ∧ R (Itt K a) H1) ∨ ∃ z, x = .str z ∧ R (Its z) H1
theorem pi_any {X : Cx} {tg l : Expr} {tl : TE} (hl : PE X l tl) : PI X tg l (iAny X.K tl) := by
  refine ⟨fun pins s σ H R I h => ?_⟩
  refine thn (hl.run pins s σ H _ I h) fun v s1 ⟨x, H1, I1, r1, q1⟩ => ?_
  rcases q1 with ⟨a, xs, rfl, hq, q⟩ | ⟨a, xs, rfl, hq, q⟩ | ⟨z, rfl, q⟩
  · cases r1
    obtain ⟨its, rv, p, hz⟩ := I1.list hq
    exact wpAny_pyIter_list p.isList (pi_one (tk := s1.toks) I1 _ (turn_list a _) ⟨_, Heap.get?_push_size _ rfl, rfl, rfl⟩ q)
  · cases r1
    obtain ⟨its, rv, p, hz⟩ := I1.tuple hq
    exact wpAny_pyIter_tuple (show s1.heap.IsTuple a its.toArray from p) (pi_one (tk := s1.toks) I1 _ (turn_tuple a _) ⟨_, Heap.get?_push_size _ rfl, rfl, rfl⟩ q)
  · obtain ⟨t, rfl⟩ := r1
    cases ha : z.cps.all (· < 128)
    · exact wpAny_pyIter_wide ha (pi_one (tk := s1.toks) I1 _ (turn_str _ z t "str_iterator" (.inr rfl)) ⟨_, Heap.get?_push_size _ rfl, rfl, rfl⟩ q)
    · exact wpAny_pyIter_ascii ha (pi_one (tk := s1.toks) I1 _ (turn_str _ z t "str_ascii_iterator" (.inl rfl)) ⟨_, Heap.get?_push_size _ rfl, rfl, rfl⟩ q)

/-- the things that are walked -/
def itemsOf : D → Option (List D)
  | .str z => some (z.cps.toList.map fun c => .str ⟨#[c]⟩)
  | d => seqOf d
def dIt (w : DW) : DI := fun env P E => w env (fun t e => ∃ x, frz1 e (hold t) = some x ∧ ∃ ds, itemsOf x.1 = some ds ∧ P ds x.2.1 x.2.2) E
section
variable {K : PySem.W.Frag} {mg : Str → Option Value} {Z : Zx} {F G H : Hp}
theorem iter_list {a : Addr} {vs : List V} {ds : List D} {n : Bool} (hs : SqL K F a vs) (r : Rps K mg (sel n G F) vs ds) : IterOk K mg Z F G n (Itl K a) ds where
  stop := fun i H s h => ⟨vs, s.seq hs, by rw [r.length]; exact h⟩
  go := fun i H d s h => by obtain ⟨v, e, _⟩ := r.get h; exact ⟨vs, v, s.seq hs, e⟩
  yld := fun i H d x H' F' G' env σ h y R u => by
    obtain ⟨rfl, f⟩ := y
    obtain ⟨v, e, rv⟩ := r.get h
    have z := f vs (R.fh.seq (u.f.seq hs))
    rw [e] at z; cases z
    exact ⟨F', G', R, .refl, rv.mono (sel_same u.f u.g)⟩
theorem iter_tup {a : Addr} {vs : List V} {ds : List D} {n : Bool} (hs : SqT K F a vs) (r : Rps K mg (sel n G F) vs ds) : IterOk K mg Z F G n (Itt K a) ds where
  stop := fun i H s h => ⟨vs, Same.seqT s hs, by rw [r.length]; exact h⟩
  go := fun i H d s h => by obtain ⟨v, e, _⟩ := r.get h; exact ⟨vs, v, Same.seqT s hs, e⟩
  yld := fun i H d x H' F' G' env σ h y R u => by
    obtain ⟨rfl, f⟩ := y
    obtain ⟨v, e, rv⟩ := r.get h
    have z := f vs (Same.seqT R.fh (Same.seqT u.f hs))
    rw [e] at z; cases z
    exact ⟨F', G', R, .refl, rv.mono (sel_same u.f u.g)⟩
theorem iter_str {z : Str} {n : Bool} : IterOk K mg Z F G n (Its z) (z.cps.toList.map fun c => .str ⟨#[c]⟩) where
  stop := fun i H s h => by show z.cps.size ≤ i; simpa using h
  go := fun i H d s h => by
    have := len_of h
    show i < z.cps.size
    simpa using this
  yld := fun i H d x H' F' G' env σ h y R u => by
    obtain ⟨rfl, c, e, rfl⟩ := y
    refine ⟨F', G', R, .refl, ?_⟩
    rw [List.getElem?_map, Array.getElem?_toList, e] at h
    cases h
    exact .str _
/-- frozen things, by their places -/
theorem Rp.seq {v : V} {d : D} {ds : List D} {B : Hp} (h : Rp K mg B v d) (e : seqOf d = some ds) : ∃ a vs, v = .ref a ∧ (SqL K B a vs ∨ SqT K B a vs) ∧ Rps K mg B vs ds := Rv.seq (H := B) (.inl h) (.refl _) e
theorem sel_seq {a : Addr} {vs : List V} {n : Bool} (R : Same G F) (h : SqL K (sel n G F) a vs ∨ SqT K (sel n G F) a vs) : SqL K F a vs ∨ SqT K F a vs :=
  h.elim (fun h => .inl ((sel_le R).seq h)) fun h => .inr (Same.seqT (sel_le R) h)
end
section
variable {X : Cx} {Z : Zx} {W : WX} {pos : Pos} {tg e : Expr} {w : DW}
theorem i_any (he : DE X Z W e w) : DIe X Z W tg e (dIt w) := by
  refine PI.of (pi_any he) fun σ H R ⟨F, G, env, P, E, Rr, w, q, qe⟩ => ?_
  refine ⟨F, G, env, _, E, Rr, w, fun t e1 F1 G1 H1 v ⟨x, ex, ds, ed, p⟩ R1 x1 r1 n1 => ?_, qe⟩
  obtain ⟨F2, G2, R2, x2, r2⟩ := RT.hold R1 x1 r1 n1
  obtain ⟨F3, G3, R3, x3, r3⟩ := RT.frz R2 r2 hold_ow ex
  obtain ⟨d, n, env3⟩ := x
  dsimp only at ed p r3 R3 x3
  unfold itemsOf at ed
  split at ed
  · cases ed
    cases (show Rp X.K X.mg _ v (.str _) from r3)
    exact .inr (.inr ⟨_, rfl, q _ n env3 F3 G3 H1 _ p R3 (x2.trans x3) iter_str⟩)
  · obtain ⟨a, vs, rfl, hs, rs⟩ := r3.seq ed
    rcases sel_seq R3.gf hs with hs | hs
    · exact .inl ⟨a, vs, rfl, R3.fh.seq hs, q _ n env3 F3 G3 H1 _ p R3 (x2.trans x3) (iter_list hs rs)⟩
    · exact .inr (.inl ⟨a, vs, rfl, Same.seqT R3.fh hs, q _ n env3 F3 G3 H1 _ p R3 (x2.trans x3) (iter_tup hs rs)⟩)

def rangeD (lo : Int) (n : Nat) : List D := (List.range n).map fun k => .int (lo + (k : Nat))
def dRange (wa : DA) : DI := fun env P E => wa env (fun ts e => (∃ j n, ts = [.fz (.int j) n] ∧ -(2 ^ 62) ≤ j ∧ j < 2 ^ 62 ∧ P (rangeD 0 j.toNat) true e)) E
def dRange2 (wa : DA) : DI := fun env P E => wa env (fun ts e => (∃ i n j m, ts = [.fz (.int i) n, .fz (.int j) m] ∧ (-(2 ^ 62) ≤ i ∧ i < 2 ^ 62 ∧ -(2 ^ 62) ≤ j ∧ j < 2 ^ 62) ∧ P (rangeD i (j - i).toNat) true e)) E
theorem iter_range {F G : Hp} {lo : Int} {m : Nat} {n : Bool} : IterOk X.K X.mg Z F G n (Itr lo m) (rangeD lo m) where
  stop := fun i H s h => by show m ≤ i; simpa [rangeD] using h
  go := fun i H d s h => by have := len_of h; show i < m; simpa [rangeD] using this
  yld := fun i H d x H' F' G' env σ h y R u => by
    obtain ⟨rfl, rfl⟩ := y
    refine ⟨F', G', R, .refl, ?_⟩
    have hl := len_of h
    unfold rangeD at h
    rw [List.getElem?_map, List.getElem?_range (by simpa [rangeD] using hl)] at h
    cases h
    exact .int _
theorem i_range {a : Expr} {wa : DA} {p : Pos} (hm : X.mg "range" = none) (ha : DAr X Z W [a] wa) (hg : Gl X "range" := by rfl) (hs : starEach [a] X.env = [(false, eval a X.env)] := by rfl) : DIe X Z W tg (.Call (.Name "range" p) [a] [] pos) (dRange wa) := by
  refine PI.of (pi_range1 hg hm ha hs) fun σ H R ⟨F, G, env, P, E, Rr, w, q, qe⟩ => ?_
  refine ⟨F, G, env, _, E, Rr, w, fun ts e1 F1 G1 H1 vs ⟨j, n, et, h1, h2, p⟩ R1 x1 r1 => ?_, qe⟩
  subst et
  match vs, r1 with
  | [v], ⟨_, r, _⟩ =>
    cases (show Rp X.K X.mg _ v (.int j) from r)
    exact ⟨j, rfl, h1, h2, q _ true e1 F1 G1 H1 _ p R1 x1 iter_range⟩
theorem i_range2 {a b : Expr} {wa : DA} {p : Pos} (hm : X.mg "range" = none) (ha : DAr X Z W [a, b] wa) (hg : Gl X "range" := by rfl) (hs : starEach [a, b] X.env = [(false, eval a X.env), (false, eval b X.env)] := by rfl) (hs2 : starEach [b] X.env = [(false, eval b X.env)] := by rfl) :
    DIe X Z W tg (.Call (.Name "range" p) [a, b] [] pos) (dRange2 wa) := by
  refine PI.of (pi_range2 hg hm ha hs hs2) fun σ H R ⟨F, G, env, P, E, Rr, w, q, qe⟩ => ?_
  refine ⟨F, G, env, _, E, Rr, w, fun ts e1 F1 G1 H1 vs ⟨i, n, j, m, et, hb, p⟩ R1 x1 r1 => ?_, qe⟩
  subst et
  match vs, r1 with
  | [v, u], ⟨_, r, _, r', _⟩ =>
    cases (show Rp X.K X.mg _ v (.int i) from r)
    cases (show Rp X.K X.mg _ u (.int j) from r')
    exact ⟨i, j, rfl, hb, q _ true e1 F1 G1 H1 _ p R1 x1 iter_range⟩
def zipD : List D → List D → List D
  | x :: xs, y :: ys => .tuple [x, y] :: zipD xs ys
  | _, _ => []
theorem zipD_get : ∀ {xs ys : List D} {i : Nat} {d : D}, (zipD xs ys)[i]? = some d → ∃ x y, xs[i]? = some x ∧ ys[i]? = some y ∧ d = .tuple [x, y]
  | [], _, _, _, h => by simp [zipD] at h
  | _ :: _, [], _, _, h => by simp [zipD] at h
  | x :: xs, y :: ys, 0, d, h => by simp [zipD] at h; exact ⟨x, y, rfl, rfl, h.symm⟩
  | x :: xs, y :: ys, i + 1, d, h => by
    obtain ⟨a, b, h1, h2, h3⟩ := zipD_get (xs := xs) (ys := ys) (i := i) (by simpa [zipD] using h)
    exact ⟨a, b, by simpa using h1, by simpa using h2, h3⟩
theorem zipD_len : ∀ {xs ys : List D}, (zipD xs ys).length = min xs.length ys.length
  | [], _ => by simp [zipD]
  | _ :: _, [] => by simp [zipD]
  | x :: xs, y :: ys => by simp only [zipD, List.length_cons, zipD_len (xs := xs) (ys := ys)]; omega
def kindSeq : D → Option (Bool × List D)
  | .list xs => some (false, xs) | .scr xs => some (false, xs) | .tuple xs => some (true, xs) | .ktup xs => some (true, xs) | _ => none
def dZip (wa : DA) : DI := fun env P E => wa env (fun ts e => ∃ x y n e', frzL e ts = some ([x, y], n, e') ∧ ∃ k xs ys, kindSeq x = some (k, xs) ∧ kindSeq y = some (k, ys) ∧ P (zipD xs ys) n e') E
theorem Rp.kind {K : PySem.W.Frag} {mg : Str → Option Value} {B : Hp} {v : V} {d : D} {k : Bool} {ds : List D} (h : Rp K mg B v d) (e : kindSeq d = some (k, ds)) : ∃ a vs, v = .ref a ∧ (if k then SqT K B a vs else SqL K B a vs) ∧ Rps K mg B vs ds := by
  cases h with
  | lst h r => cases e; exact ⟨_, _, rfl, SqL.of h, r⟩
  | scr h r => cases e; exact ⟨_, _, rfl, h, r⟩
  | tup h r => cases e; exact ⟨_, _, rfl, SqT.of h, r⟩
  | ktup h r => cases e; exact ⟨_, _, rfl, h, r⟩
  | _ => cases e
theorem lay_pair {K : PySem.W.Frag} {mg : Str → Option Value} {F G H : Hp} {σ : Sg} {env : DEnv} {t : Addr} {x y : V} {d e : D} {n : Bool} (R : EnvR K mg Z F G H σ env) (hp : H t = none) (rx : Rp K mg (sel n G F) x d) (ry : Rp K mg (sel n G F) y e) :
    ∃ F' G', EnvR K mg Z F' G' (upd H t (.tup [x, y])) σ env ∧ Ext σ env env F G H F' G' (upd H t (.tup [x, y])) ∧ Rp K mg (sel n G' F') (.ref t) (.tuple [d, e]) := by
  obtain ⟨k1, k2, k3⟩ := RT.newTup (n := n) R hp (.cons rx (.cons ry .nil))
  exact ⟨_, _, k1, k2, k3⟩
theorem i_zip {a b : Expr} {wa : DA} {p tpos : Pos} {elts : List Expr} {kk : Nat} (hm : X.mg "zip" = none) (ha : DAr X Z W [a, b] wa) (hg : Gl X "zip" := by rfl) (hs : starEach [a, b] X.env = (false, eval a X.env) :: starEach [b] X.env := by rfl)
    (hpl : (backTo pos (starEach [b] X.env)).any (·.1) = false := by rfl) : DIe X Z W (.Tuple elts kk tpos) (.Call (.Name "zip" p) [a, b] [] pos) (dZip wa) := by
  refine PI.of (RZ.pi_zipA hg hm ha hs hpl) fun σ H R ⟨F, G, env, P, E, Rr, w, q, qe⟩ => ?_
  refine ⟨F, G, env, _, E, Rr, w, fun ts e1 F1 G1 H1 vs ⟨x, y, n, e', ef, k, xs, ys, ex, ey, p⟩ R1 x1 r1 => ?_, qe⟩
  obtain ⟨F2, G2, R2, x2, r2⟩ := RTs.frz R1 r1 ef
  cases r2 with
  | cons ra rr =>
    cases rr with
    | cons rb rr =>
      cases rr
      obtain ⟨a, va, rfl, sa, qa⟩ := ra.kind ex
      obtain ⟨b, vb, rfl, sb, qb⟩ := rb.kind ey
      cases k with
      | false =>
        have sa' : SqL X.K F2 a va := (sel_le R2.gf).seq sa
        have sb' : SqL X.K F2 b vb := (sel_le R2.gf).seq sb
        refine ⟨a, b, va, vb, rfl, .inl ⟨R2.fh.seq sa', R2.fh.seq sb', q _ n e' F2 G2 H1 _ p R2 (x1.trans x2) ⟨fun i H s h => ?_, fun i H d s h => ?_, fun i H d x H' F' G' env σ h yl R u => ?_⟩⟩⟩
        · rw [zipD_len] at h
          exact ⟨va, vb, s.seq sa', s.seq sb', by rw [qa.length, qb.length]; omega⟩
        · obtain ⟨d1, d2, h1, h2, _⟩ := zipD_get h
          obtain ⟨v1, e1, _⟩ := qa.get h1
          obtain ⟨v2, e2, _⟩ := qb.get h2
          exact ⟨va, vb, v1, v2, s.seq sa', s.seq sb', e1, e2⟩
        · obtain ⟨t, w1, w2, rfl, ht, rfl, f1, f2⟩ := yl
          obtain ⟨d1, d2, h1, h2, rfl⟩ := zipD_get h
          obtain ⟨v1, e1, q1⟩ := qa.get h1
          obtain ⟨v2, e2, q2⟩ := qb.get h2
          have z1 := f1 va (R.fh.seq (u.f.seq sa'))
          have z2 := f2 vb (R.fh.seq (u.f.seq sb'))
          rw [e1] at z1; cases z1
          rw [e2] at z2; cases z2
          exact lay_pair R ht (q1.mono (sel_same u.f u.g)) (q2.mono (sel_same u.f u.g))
      | true =>
        have sa' : SqT X.K F2 a va := Same.seqT (sel_le R2.gf) sa
        have sb' : SqT X.K F2 b vb := Same.seqT (sel_le R2.gf) sb
        refine ⟨a, b, va, vb, rfl, .inr ⟨Same.seqT R2.fh sa', Same.seqT R2.fh sb', q _ n e' F2 G2 H1 _ p R2 (x1.trans x2) ⟨fun i H s h => ?_, fun i H d s h => ?_, fun i H d x H' F' G' env σ h yl R u => ?_⟩⟩⟩
        · rw [zipD_len] at h
          exact ⟨va, vb, Same.seqT s sa', Same.seqT s sb', by rw [qa.length, qb.length]; omega⟩
        · obtain ⟨d1, d2, h1, h2, _⟩ := zipD_get h
          obtain ⟨v1, e1, _⟩ := qa.get h1
          obtain ⟨v2, e2, _⟩ := qb.get h2
          exact ⟨va, vb, v1, v2, Same.seqT s sa', Same.seqT s sb', e1, e2⟩
        · obtain ⟨t, w1, w2, rfl, ht, rfl, f1, f2⟩ := yl
          obtain ⟨d1, d2, h1, h2, rfl⟩ := zipD_get h
          obtain ⟨v1, e1, q1⟩ := qa.get h1
          obtain ⟨v2, e2, q2⟩ := qb.get h2
          have z1 := f1 va (Same.seqT R.fh (Same.seqT u.f sa'))
          have z2 := f2 vb (Same.seqT R.fh (Same.seqT u.f sb'))
          rw [e1] at z1; cases z1
          rw [e2] at z2; cases z2
          exact lay_pair R ht (q1.mono (sel_same u.f u.g)) (q2.mono (sel_same u.f u.g))
def enumD (i : Nat) : List D → List D
  | [] => []
  | x :: xs => .tuple [.int (i : Nat), x] :: enumD (i + 1) xs
theorem enumD_get : ∀ {xs : List D} {k i : Nat} {d : D}, (enumD k xs)[i]? = some d → ∃ x, xs[i]? = some x ∧ d = .tuple [.int ((k + i : Nat) : Int), x]
  | [], _, _, _, h => by simp [enumD] at h
  | x :: xs, k, 0, d, h => by simp [enumD] at h; exact ⟨x, rfl, by rw [← h]; rfl⟩
  | x :: xs, k, i + 1, d, h => by
    obtain ⟨a, h1, h2⟩ := enumD_get (xs := xs) (k := k + 1) (i := i) (by simpa [enumD] using h)
    refine ⟨a, by simpa using h1, ?_⟩
    rw [h2]
    have : k + 1 + i = k + (i + 1) := by omega
    rw [this]
theorem enumD_len : ∀ {xs : List D} {k : Nat}, (enumD k xs).length = xs.length
  | [], _ => rfl
  | x :: xs, k => by simp [enumD, enumD_len (xs := xs)]
end

def dForL (g : DG) (b : DSt) (n : Bool) : List D → DEnv → DEnds → Prop
  | [], env, D => D.nx env
  | x :: xs, env, D => ∃ e1, g x n env = some e1 ∧ b e1 { D with nx := fun e => dForL g b n xs e D, ct := fun e => dForL g b n xs e D, bk := D.nx }
def dFor (w : DI) (g : DG) (b : DSt) : DSt := fun env D => w env (fun items n e => dForL g b n items e D) D.ex
section
variable {X : Cx} {Z : Zx} {W : WX} {pos : Pos} {tg iter : Expr} {w : DI} {g : DG} {tl : List Nat} {b : DSt} {body : List Stmt}
theorem s_for (hp : PassesOwn (model X.prog X.w) X.A X.env X.xe) (hc : X.calm = true) (hi : DIe X Z W tg iter w) (hg : DGt X Z tg g tl) (hb : DSs X Z W body b) (hs : ∀ x, foldedSetIterable iter X.env x = pure x := by intro _; rfl) : DS X Z W (.For tg iter body [] pos) (dFor w g b) := by
  refine PS.of (ps_for hp hc hi hg hb hs) fun D σ H ⟨F, G, env, Ds, R, w, k⟩ => ?_
  refine ⟨F, G, env, _, _, R, w, fun items n e1 F1 G1 H1 J p R1 x1 it => ?_, k.ex σ⟩
  refine ⟨fun i m σ H => ∃ F' G' env', EnvR X.K X.mg Z F' G' H σ env' ∧ Up F1 G1 F' G' ∧ m = items.length - i ∧ i ≤ items.length ∧ dForL g b n (items.drop i) env' Ds, ⟨items.length, F1, G1, e1, R1, .refl, by omega, Nat.zero_le _, by simpa using p⟩, ?_⟩
  rintro i m σ2 H2 ⟨F2, G2, e2, R2, u2, rfl, hi, p2⟩
  by_cases hlt : i < items.length
  · have ed : items[i]? = some items[i] := List.getElem?_eq_getElem hlt
    have s2 : Same F1 H2 := u2.f.trans R2.fh
    refine .inr ⟨it.go i H2 _ s2 ed, fun σ' H' => ∃ F' G' env', EnvR X.K X.mg Z F' G' H' σ' env' ∧ Up F1 G1 F' G' ∧ dForL g b n (items.drop (i + 1)) env' Ds,
      fun σ' H' ⟨F', G', e', R', u', p'⟩ => ⟨items.length - (i + 1), by omega, F', G', e', R', u', rfl, hlt, p'⟩, fun x H' y => ?_⟩
    obtain ⟨F3, G3, R3, x3, r3⟩ := it.yld i H2 _ x H' F2 G2 e2 σ2 ed y R2 u2
    rw [List.drop_eq_getElem_cons hlt] at p2
    obtain ⟨e4, eg, pb⟩ := p2
    refine ⟨F3, G3, e2, items[i], n, e4, R3, r3, eg, fun σ' R' _ => ⟨F3, G3, e4, _, R', pb, ?_⟩⟩
    have u3 : Up F1 G1 F3 G3 := u2.trans x3.up
    have go : Nx X.K X.mg Z F3 G3 (fun e => dForL g b n (items.drop (i + 1)) e Ds) (fun σ' H' => ∃ F' G' env', EnvR X.K X.mg Z F' G' H' σ' env' ∧ Up F1 G1 F' G' ∧ dForL g b n (items.drop (i + 1)) env' Ds) := fun e' F' G' H' σ' p' R' u' => ⟨F', G', e', R', u3.trans u', p'⟩
    exact ⟨go, k.rt, k.nx.mono (x1.up.trans u3), go, k.ex⟩
  · have e : i = items.length := by omega
    subst e
    rw [List.drop_length] at p2
    exact .inl ⟨it.stop _ H2 (u2.f.trans R2.fh) (Nat.le_refl _), k.nx e2 F2 G2 H2 σ2 p2 R2 (x1.up.trans u2)⟩
end
end DL

namespace DL
open PySem PySem.Spec L2

section
variable {K : PySem.W.Frag} {mg : Str → Option Value} {Z : Zx} {F G H : Hp} {σ σ' : Sg} {env env' : DEnv}
/-- other slots, where neither row has an own object -/
theorem EnvR.re (R : EnvR K mg Z F G H σ env) (hl : env'.length = env.length) (hs : σ'.length = σ.length)
    (h : ∀ j : Nat, (env'[j]? = env[j]? ∧ σ'[j]? = σ[j]?) ∨ ∃ s s' : Slot, env[j]? = some s ∧ env'[j]? = some s' ∧ isOwn s = false ∧ isOwn s' = false ∧ SlotOk K mg Z F G H σ' j s') : EnvR K mg Z F G H σ' env' := by
  have back : ∀ {j : Nat} {s : Slot}, env'[j]? = some s → isOwn s = true → env[j]? = some s ∧ σ'[j]? = σ[j]? := fun {j s} e o => by
    rcases h j with ⟨e1, e2⟩ | ⟨s0, s1, e1, e2, o1, o2, _⟩
    · exact ⟨e1 ▸ e, e2⟩
    · rw [e2] at e; cases e; rw [o2] at o; cases o
  refine ⟨R.fh, R.gf, R.f0, R.gn, R.fn, R.frame, R.dom, by rw [hl, hs]; exact R.len, fun j s e => ?_, fun i j s t a e1 o1 e2 o2 a1 a2 => ?_, fun p hp => ?_, R.iof, fun b hb => ?_, R.dif, R.tb⟩
  · rcases h j with ⟨e1, e2⟩ | ⟨s0, s1, e1, e2, o1, o2, ok⟩
    · have q := R.slot j s (e1 ▸ e)
      cases s with
      | un => trivial
      | fz d n => obtain ⟨v, q1, q2⟩ := q; exact ⟨v, by rw [e2]; exact q1, q2⟩
      | ow d n => obtain ⟨v, q1, q2⟩ := q; exact ⟨v, by rw [e2]; exact q1, q2⟩
      | io d => obtain ⟨v, q1, q2⟩ := q; exact ⟨v, by rw [e2]; exact q1, q2⟩
      | dp d => obtain ⟨v, q1, q2⟩ := q; exact ⟨v, by rw [e2]; exact q1, q2⟩
      | di d => obtain ⟨v, q1, q2⟩ := q; exact ⟨v, by rw [e2]; exact q1, q2⟩
    · rw [e2] at e; cases e; exact ok
  · obtain ⟨k1, k2⟩ := back e1 o1
    obtain ⟨k3, k4⟩ := back e2 o2
    exact R.dist i j s t a k1 o1 k3 o2 (a1.imp (fun z => k2 ▸ z) id) (a2.imp (fun z => k4 ▸ z) id)
  · obtain ⟨d, e1, e2⟩ := R.io p hp
    rcases h p.1 with ⟨q1, q2⟩ | ⟨s0, s1, q1, q2, o1, o2, _⟩
    · exact ⟨d, by rw [q1]; exact e1, by rw [q2]; exact e2⟩
    · rw [e1] at q1; cases q1; cases o1
  · obtain ⟨d, e1, e2⟩ := R.di b hb
    rcases h b.1 with ⟨q1, q2⟩ | ⟨s0, s1, q1, q2, o1, o2, _⟩
    · exact ⟨d, by rw [q1]; exact e1, by rw [q2]; exact e2⟩
    · rw [e1] at q1; cases q1; cases o1
def wipeE (env : DEnv) : List Nat → DEnv
  | [] => env
  | v :: vs => (wipeE env vs).set v .un
theorem wipeE_len : ∀ vs : List Nat, (wipeE env vs).length = env.length
  | [] => rfl
  | v :: vs => by unfold wipeE; rw [List.length_set, wipeE_len vs]
theorem wipeE_at {j : Nat} : ∀ vs : List Nat, (j ∈ vs ∧ j < env.length ∧ (wipeE env vs)[j]? = some .un) ∨ ((wipeE env vs)[j]? = env[j]? ∧ (j ∉ vs ∨ env.length ≤ j))
  | [] => .inr ⟨rfl, .inl (by simp)⟩
  | v :: vs => by
    unfold wipeE
    by_cases h : v = j
    · subst h
      by_cases hl : v < env.length
      · exact .inl ⟨List.mem_cons_self, hl, List.getElem?_set_self (by rw [wipeE_len]; exact hl)⟩
      · refine .inr ⟨?_, .inr (by omega)⟩
        rw [List.getElem?_eq_none (by rw [List.length_set, wipeE_len]; omega), List.getElem?_eq_none (by omega)]
    · rw [List.getElem?_set_ne h]
      rcases wipeE_at (j := j) vs with ⟨a, b, c⟩ | ⟨a, b⟩
      · exact .inl ⟨List.mem_cons_of_mem _ a, b, c⟩
      · refine .inr ⟨a, b.imp_left fun k z => ?_⟩
        rcases List.mem_cons.mp z with z | z
        · exact h z.symm
        · exact k z
theorem wipe_at {j : Nat} : ∀ vs : List Nat, j ∉ vs → (wipe σ vs)[j]? = σ[j]?
  | [], _ => rfl
  | v :: vs, h => by
    unfold wipe
    have h1 : v ≠ j := fun e => h (e ▸ List.mem_cons_self)
    rw [List.getElem?_set_ne h1]
    exact wipe_at vs fun z => h (List.mem_cons_of_mem _ z)
/-- no own object stands at these slots -/
def offE (env : DEnv) (vs : List Nat) : Prop := ∀ v ∈ vs, ∃ s, env[v]? = some s ∧ isOwn s = false
theorem EnvR.wipe (R : EnvR K mg Z F G H σ env) {vs : List Nat} (h : offE env vs) : EnvR K mg Z F G H (L2.wipe σ vs) (wipeE env vs) := by
  refine R.re (wipeE_len vs) (wipe_length σ vs) fun j => ?_
  rcases wipeE_at (env := env) (j := j) vs with ⟨a, b, c⟩ | ⟨a, b⟩
  · obtain ⟨s, e, o⟩ := h j a
    exact .inr ⟨s, .un, e, c, o, rfl, trivial⟩
  · refine .inl ⟨a, ?_⟩
    rcases b with b | b
    · exact wipe_at vs b
    · rw [List.getElem?_eq_none (by rw [wipe_length, ← R.len]; exact b), List.getElem?_eq_none (by rw [← R.len]; exact b)]
/-- the slots vs as they were in e0 -/
def outE (e0 env : DEnv) : List Nat → DEnv
  | [] => env
  | v :: vs => match e0[v]? with
    | some s => (outE e0 env vs).set v s
    | none => outE e0 env vs
theorem outE_len {e0 : DEnv} : ∀ vs : List Nat, (outE e0 env vs).length = env.length
  | [] => rfl
  | v :: vs => by
    unfold outE
    split
    · rw [List.length_set, outE_len vs]
    · exact outE_len vs
theorem outE_at {e0 env : DEnv} {j : Nat} (hl : e0.length = env.length) : ∀ vs : List Nat, (j ∈ vs → (outE e0 env vs)[j]? = e0[j]?) ∧ (j ∉ vs → (outE e0 env vs)[j]? = env[j]?)
  | [] => ⟨fun h => by simp at h, fun _ => rfl⟩
  | v :: vs => by
    have ih := outE_at (e0 := e0) (env := env) (j := j) hl vs
    unfold outE
    cases e : e0[v]? with
    | none =>
      refine ⟨fun h => ?_, fun h => ih.2 fun z => h (List.mem_cons_of_mem _ z)⟩
      by_cases hj : j ∈ vs
      · exact ih.1 hj
      · rcases List.mem_cons.mp h with rfl | h
        · have := List.getElem?_eq_none_iff.mp e
          rw [e]
          exact List.getElem?_eq_none (by rw [outE_len]; omega)
        · exact absurd h hj
    | some s =>
      by_cases hv : v = j
      · subst hv
        refine ⟨fun _ => ?_, fun h => absurd List.mem_cons_self h⟩
        have := len_of e
        show ((outE e0 env vs).set v s)[v]? = _
        rw [List.getElem?_set_self (by rw [outE_len]; omega), e]
      · show (j ∈ v :: vs → ((outE e0 env vs).set v s)[j]? = _) ∧ (j ∉ v :: vs → ((outE e0 env vs).set v s)[j]? = _)
        rw [List.getElem?_set_ne hv]
        refine ⟨fun h => ?_, fun h => ih.2 fun z => h (List.mem_cons_of_mem _ z)⟩
        rcases List.mem_cons.mp h with h | h
        · exact absurd h.symm hv
        · exact ih.1 h
theorem EnvR.out {F0 G0 H0 : Hp} {e0 : DEnv} (R0 : EnvR K mg Z F0 G0 H0 σ e0) (u : Up F0 G0 F G) {vs : List Nat} (h0 : offE e0 vs) (R : EnvR K mg Z F G H (L2.wipe σ vs) (wipeE env vs)) : EnvR K mg Z F G H σ (outE e0 (wipeE env vs) vs) := by
  have hl : e0.length = (wipeE env vs).length := by rw [R0.len, R.len, wipe_length]
  refine R.re (by rw [outE_len]) (by rw [wipe_length]) fun j => ?_
  by_cases hj : j ∈ vs
  · obtain ⟨s, e, o⟩ := h0 j hj
    have e2 := ((outE_at hl vs).1 hj).trans e
    have ew : (wipeE env vs)[j]? = some .un := by
      rcases wipeE_at (env := env) (j := j) vs with ⟨a, b, c⟩ | ⟨a, b⟩
      · exact c
      · rcases b with b | b
        · exact absurd hj b
        · have := len_of e
          rw [hl, wipeE_len] at this
          omega
    refine .inr ⟨.un, s, ew, e2, rfl, o, ?_⟩
    have q := R0.slot j s e
    cases s with
    | un => trivial
    | fz d n => obtain ⟨v, q1, q2⟩ := q; exact ⟨v, q1, q2.mono (sel_same u.f u.g)⟩
    | ow d n => cases o
    | io d => cases o
    | dp d => cases o
    | di d => cases o
  · exact .inl ⟨(outE_at hl vs).2 hj, (wipe_at vs hj).symm⟩
end

def dYes : DT := fun env P _ => P true env
def dLcL (g : DG) (tt : DT) (te : DW) (vs : List Nat) (n : Bool) (P : List D → Bool → DEnv → Prop) (E : Str → DEnv → Prop) : List D → List D → Bool → DEnv → Prop
  | [], acc, an, env => P acc an env
  | x :: xs, acc, an, env => ∃ e1, g x n (wipeE env vs) = some e1 ∧ tt e1 (fun b e2 => offE e2 vs ∧ (b = true → te e2 (fun t e3 => ∃ y, frz1 e3 (hold t) = some y ∧ acc.length < sizeLine ∧ offE y.2.2 vs ∧ dLcL g tt te vs n P E xs (acc ++ [y.1]) (an && y.2.1) y.2.2) E) ∧
      (b = false → dLcL g tt te vs n P E xs acc an e2)) E
def dLc (w : DI) (g : DG) (tt : DT) (te : DW) (vs : List Nat) : DW := fun env P E => w env (fun items n e0 => offE e0 vs ∧ dLcL g tt te vs n (fun ds an e => P (.ow (.list ds) an) (outE e0 (wipeE e vs) vs)) (fun _ _ => False) items [] true e0) E

section
variable {X : Cx} {Z : Zx} {W : WX}
def W0 : WX := fun _ _ _ _ => False
theorem Ext.off {σ : Sg} {e0 e1 e2 : DEnv} {F0 G0 H0 F1 G1 H1 F2 G2 H2 : Hp} {vs : List Nat} (R1 : e0.length = e1.length) (off : offE e0 vs) (x : Ext σ e0 (outE e0 (wipeE e1 vs) vs) F0 G0 H0 F1 G1 H1) (y : Ext (L2.wipe σ vs) (wipeE e1 vs) e2 F1 G1 H1 F2 G2 H2) (o2 : offE e2 vs) :
    Ext σ e0 (outE e0 (wipeE e2 vs) vs) F0 G0 H0 F2 G2 H2 := by
  have l1 : e0.length = (wipeE e1 vs).length := by rw [wipeE_len]; exact R1
  have l2 : e0.length = (wipeE e2 vs).length := by rw [wipeE_len, y.l]; exact l1
  have up : ∀ b, Own (L2.wipe σ vs) (wipeE e1 vs) b → Own σ (outE e0 (wipeE e1 vs) vs) b := fun b ⟨j, s, ej, hs, hb⟩ => by
    rcases wipeE_at (env := e1) (j := j) vs with ⟨p, q, r⟩ | ⟨p, q⟩
    · rw [r] at ej; cases ej; cases hs
    · rcases q with q | q
      · exact ⟨j, s, by rw [(outE_at l1 vs).2 q]; exact ej, hs, hb.imp (fun z => by rw [← wipe_at vs q]; exact z) id⟩
      · have := len_of ej
        rw [wipeE_len] at this
        omega
  have dn : ∀ b, Own σ (outE e0 (wipeE e2 vs) vs) b → Own (L2.wipe σ vs) e2 b := fun b ⟨j, s, ej, hs, hb⟩ => by
    by_cases hj : j ∈ vs
    · rw [(outE_at l2 vs).1 hj] at ej
      obtain ⟨s', e', o'⟩ := off j hj
      rw [ej] at e'; cases e'; rw [o'] at hs; cases hs
    · rw [(outE_at l2 vs).2 hj] at ej
      rcases wipeE_at (env := e2) (j := j) vs with ⟨p, q, r⟩ | ⟨p, q⟩
      · exact absurd p hj
      · exact ⟨j, s, by rw [← p]; exact ej, hs, hb.imp (fun z => by rw [wipe_at vs hj]; exact z) id⟩
  have no : ∀ {b u}, H0 b = some u → ¬ Own σ e0 b → ¬ Own (L2.wipe σ vs) (wipeE e1 vs) b := fun {b u} e n z => by
    rcases x.o b (up b z) with q | q
    · exact n q
    · rw [e] at q; cases q
  refine ⟨x.f.trans y.f, x.g.trans y.g, fun b u e n t => y.h b u (x.h b u e n t) (no e n) t, fun b u e => ?_, fun b u e k n => ?_, fun b z => ?_, fun i d e => ?_, ?_⟩
  · obtain ⟨u', e'⟩ := x.d b u e
    exact y.d b u' e'
  · obtain ⟨u', e'⟩ := x.d b u e
    exact y.n b u' e' (x.n b u e k n) (no e n)
  · rcases y.o b (dn b z) with q | q
    · exact x.o b (up b q)
    · exact .inr (noneB x.d q)
  · by_cases hi : i ∈ vs
    · refine ⟨d, ?_⟩
      simp only [rd, (outE_at l2 vs).1 hi]
      exact e
    · obtain ⟨d1, h1⟩ := x.r i d e
      have h1' : rd (wipeE e1 vs) (.al i) = some d1 := by
        simp only [rd, (outE_at l1 vs).2 hi] at h1
        exact h1
      obtain ⟨d2, h2⟩ := y.r i d1 h1'
      refine ⟨d2, ?_⟩
      simp only [rd, (outE_at l2 vs).2 hi]
      rcases wipeE_at (env := e2) (j := i) vs with ⟨p, q, r⟩ | ⟨p, q⟩
      · exact absurd p hi
      · rw [p]; exact h2
  · rw [outE_len, ← l2]
theorem own_out {σ : Sg} {e0 e2 : DEnv} {vs : List Nat} (l : e0.length = e2.length) (off : offE e0 vs) {b : Addr} : Own σ (outE e0 (wipeE e2 vs) vs) b → Own (L2.wipe σ vs) (wipeE e2 vs) b := fun ⟨j, s, ej, hs, hb⟩ => by
  have l2 : e0.length = (wipeE e2 vs).length := by rw [wipeE_len]; exact l
  by_cases hj : j ∈ vs
  · rw [(outE_at l2 vs).1 hj] at ej
    obtain ⟨s', e', o'⟩ := off j hj
    rw [ej] at e'; cases e'; rw [o'] at hs; cases hs
  · rw [(outE_at l2 vs).2 hj] at ej
    exact ⟨j, s, ej, hs, hb.imp (fun z => by rw [wipe_at vs hj]; exact z) id⟩
theorem wipe_wipe {σ : Sg} : ∀ {vs ws : List Nat}, (∀ v ∈ vs, v ∈ ws) → L2.wipe (L2.wipe σ vs) ws = L2.wipe σ ws
  | [], _, _ => rfl
  | v :: vs, ws, h => by
    show L2.wipe ((L2.wipe σ vs).set v none) ws = _
    rw [wipe_set (h v List.mem_cons_self), wipe_wipe fun i hi => h i (List.mem_cons_of_mem _ hi)]
theorem wipeE_wipeE {env : DEnv} {vs : List Nat} : wipeE (wipeE env vs) vs = wipeE env vs := by
  apply List.ext_getElem?
  intro j
  rcases wipeE_at (env := wipeE env vs) (j := j) vs with ⟨a, b, c⟩ | ⟨a, _⟩
  · rcases wipeE_at (env := env) (j := j) vs with ⟨a', b', c'⟩ | ⟨a', b'⟩
    · rw [c, c']
    · rcases b' with b' | b'
      · exact absurd a b'
      · rw [wipeE_len] at b; omega
  · exact a
/-- over a turn of a block: from the store to what stands behind it, without the block's own slots -/
theorem Ext.blk {σ σ4 : Sg} {e2 e4 e5 : DEnv} {F3 G3 H3 F5 G5 H5 : Hp} {vs tl : List Nat} (htl : ∀ i ∈ tl, i ∈ vs) (o : OnlyAt (L2.wipe σ vs) σ4 (wipeE e2 vs) e4 tl) (y : Ext σ4 e4 e5 F3 G3 H3 F5 G5 H5) :
    Ext (L2.wipe σ vs) (wipeE e2 vs) (wipeE e5 vs) F3 G3 H3 F5 G5 H5 ∧ ∀ b, Own σ4 e4 b → Own (L2.wipe σ vs) (wipeE e2 vs) b := by
  have own : ∀ b, Own σ4 e4 b → Own (L2.wipe σ vs) (wipeE e2 vs) b := fun b ⟨j, s, ej, hs, hb⟩ => by
    by_cases hj : j ∈ tl
    · rw [o.o j hj s ej] at hs; cases hs
    · obtain ⟨h1, h2⟩ := o.e j hj
      exact ⟨j, s, by rw [← h1]; exact ej, hs, hb.imp (fun z => by rw [← h2]; exact z) id⟩
  refine ⟨⟨y.f, y.g, fun b u e n => y.h b u e fun z => n (own b z), y.d, fun b u e k n => y.n b u e k fun z => n (own b z), fun b ⟨j, s, ej, hs, hb⟩ => ?_, fun i d e => ?_, ?_⟩, own⟩
  · rcases wipeE_at (env := e5) (j := j) vs with ⟨p, q, r⟩ | ⟨p, q⟩
    · rw [r] at ej; cases ej; cases hs
    · have hj : j ∉ vs := by
        rcases q with q | q
        · exact q
        · have := len_of ej; rw [wipeE_len] at this; omega
      have h2 := (o.e j fun z => hj (htl j z)).2
      exact (y.o b ⟨j, s, by rw [← p]; exact ej, hs, hb.imp (fun z => by rw [h2]; exact z) id⟩).imp (own b) id
  · rcases wipeE_at (env := e2) (j := i) vs with ⟨p, q, r⟩ | ⟨p, q⟩
    · simp [rd, r] at e
    · have hi : i ∉ vs := by
        rcases q with q | q
        · exact q
        · have : (wipeE e2 vs)[i]? = none := List.getElem?_eq_none (by rw [wipeE_len]; exact q)
          simp [rd, this] at e
      have e4' : rd e4 (.al i) = some d := by
        rw [← e]
        simp only [rd, (o.e i fun z => hi (htl i z)).1]
      obtain ⟨d', h⟩ := y.r i d e4'
      refine ⟨d', ?_⟩
      rcases wipeE_at (env := e5) (j := i) vs with ⟨p', q', r'⟩ | ⟨p', q'⟩
      · exact absurd p' hi
      · simp only [rd, p']
        exact h
  · rw [wipeE_len, y.l, o.l]
theorem outE_self {e0 : DEnv} {vs : List Nat} : outE e0 (wipeE e0 vs) vs = e0 := by
  apply List.ext_getElem?
  intro j
  have l : e0.length = (wipeE e0 vs).length := by rw [wipeE_len]
  by_cases hj : j ∈ vs
  · exact (outE_at l vs).1 hj
  · rw [(outE_at l vs).2 hj]
    rcases wipeE_at (env := e0) (j := j) vs with ⟨p, q, r⟩ | ⟨p, q⟩
    · exact absurd p hj
    · exact p
theorem lc_imp {w : DI} {g : DG} {tl : List Nat} {tt : DT} {te : DW} {vs : List Nat} {wi : TI} (htl : ∀ i ∈ tl, i ∈ vs) (hi : ∀ σ H R, tDI X.K X.mg Z W w σ H R → wi σ H R)
    {σ : Sg} {H : Hp} {Q : VK} (h : tD X.K X.mg Z W (dLc w g tt te vs) σ H Q) : tLc wi (tDG X.K X.mg Z g tl) (tDT X.K X.mg Z W0 tt) (tD X.K X.mg Z W0 te) vs σ H Q := by
  obtain ⟨F, G, env, P, E, R, w, q, qe⟩ := h
  refine hi _ _ _ ⟨F, G, env, _, E, R, w, fun items n e1 F1 G1 H1 J ⟨off, p⟩ R1 x1 it D hD => ?_, qe⟩
  have l1 : e1.length = e1.length := rfl
  refine ⟨fun i m H2 => ∃ F2 G2 e2 acc an vacc, EnvR X.K X.mg Z F2 G2 H2 (L2.wipe σ vs) (wipeE e2 vs) ∧ Ext σ e1 (outE e1 (wipeE e2 vs) vs) F1 G1 H1 F2 G2 H2 ∧ offE e2 vs ∧ e1.length = e2.length ∧ m = items.length - i ∧ i ≤ items.length ∧
    H2 D = some (.lst vacc) ∧ F2 D = none ∧ ¬ Own (L2.wipe σ vs) (wipeE e2 vs) D ∧ Rps X.K X.mg (sel an G2 F2) vacc acc ∧
    dLcL g tt te vs n (fun ds an e => P (.ow (.list ds) an) (outE e1 (wipeE e vs) vs)) (fun _ _ => False) (items.drop i) acc an e2, ⟨items.length, F1, G1, e1, [], true, [], ?_, ?_, off, rfl, by omega, Nat.zero_le _, upd_same, snone R1.fh hD, ?_, .nil, by simpa using p⟩, ?_⟩
  · exact (R1.wipe off).grow (same_upd hD)
  · rw [outE_self]
    exact Ext.grow (same_upd hD)
  · exact (R1.wipe off).not_own hD
  rintro i m H2 ⟨F2, G2, e2, acc, an, vacc, R2, x2, off2, l2, rfl, hi', hD2, hF2, nO, racc, p2⟩
  by_cases hlt : i < items.length
  · have ed : items[i]? = some items[i] := List.getElem?_eq_getElem hlt
    have s2 : Same F1 H2 := x2.f.trans R2.fh
    refine .inr ⟨it.go i H2 _ s2 ed, fun H' => ∃ F2 G2 e2 acc an vacc, EnvR X.K X.mg Z F2 G2 H' (L2.wipe σ vs) (wipeE e2 vs) ∧ Ext σ e1 (outE e1 (wipeE e2 vs) vs) F1 G1 H1 F2 G2 H' ∧ offE e2 vs ∧ e1.length = e2.length ∧
      H' D = some (.lst vacc) ∧ F2 D = none ∧ ¬ Own (L2.wipe σ vs) (wipeE e2 vs) D ∧ Rps X.K X.mg (sel an G2 F2) vacc acc ∧
      dLcL g tt te vs n (fun ds an e => P (.ow (.list ds) an) (outE e1 (wipeE e vs) vs)) (fun _ _ => False) (items.drop (i + 1)) acc an e2,
      fun H' ⟨F2, G2, e2, acc, an, vacc, a1, a2, a3, a4, a5, a6, a7, a8, a9⟩ => ⟨items.length - (i + 1), by omega, F2, G2, e2, acc, an, vacc, a1, a2, a3, a4, rfl, hlt, a5, a6, a7, a8, a9⟩, fun x H' y => ?_⟩
    obtain ⟨F3, G3, R3, x3, r3⟩ := it.yld i H2 _ x H' F2 G2 _ _ ed y R2 x2.up
    rw [List.drop_eq_getElem_cons hlt] at p2
    obtain ⟨e4, eg, pb⟩ := p2
    refine ⟨F3, G3, wipeE e2 vs, items[i], n, e4, R3, r3, eg, fun σ4 R4 only => ?_⟩
    have w4 : L2.wipe σ4 vs = L2.wipe σ vs := (only.w vs htl).trans (wipe_wipe fun _ h => h)
    refine ⟨w4, F3, G3, e4, _, _, R4, pb, fun b e5 F5 G5 H5 ⟨off5, pt, pf⟩ R5 x5 => ?_, fun c e' F' G' H' C z => z.elim⟩
    have hD3 : H' D = some (.lst vacc) := x3.h D _ hD2 nO (fun _ z => nomatch z)
    have hF3 : F3 D = none := x3.n D _ hD2 hF2 nO
    -- behind any part of the turn
    have on : ∀ {e6 : DEnv} {F6 G6 H6 : Hp}, EnvR X.K X.mg Z F6 G6 H6 σ4 e6 → offE e6 vs → Ext σ4 e4 e6 F3 G3 H' F6 G6 H6 → EnvR X.K X.mg Z F6 G6 H6 (L2.wipe σ vs) (wipeE e6 vs) ∧ Ext σ e1 (outE e1 (wipeE e6 vs) vs) F1 G1 H1 F6 G6 H6 ∧ e1.length = e6.length ∧
        H6 D = some (.lst vacc) ∧ F6 D = none ∧ ¬ Own (L2.wipe σ vs) (wipeE e6 vs) D := fun {e6 F6 G6 H6} R6 off6 x6 => by
      have Rw := R6.wipe off6
      rw [w4] at Rw
      obtain ⟨y, own⟩ := Ext.blk htl only x6
      have n4 : ¬ Own σ4 e4 D := fun z => nO (own D z)
      have z := Ext.off l2 off x2 (x3.trans y) (fun v hv => ?_)
      · rw [wipeE_wipeE] at z
        refine ⟨Rw, z, ?_, x6.h D _ hD3 n4 (fun _ z => nomatch z), x6.n D _ hD3 hF3 n4, fun o => (y.o D o).elim nO fun q => by rw [hD3] at q; cases q⟩
        rw [l2, x6.l, only.l, wipeE_len]
      · obtain ⟨s, es, _⟩ := off6 v hv
        rcases wipeE_at (env := e6) (j := v) vs with ⟨p, q, r⟩ | ⟨p, q⟩
        · exact ⟨.un, r, rfl⟩
        · have := len_of es
          rcases q with q | q
          · exact absurd hv q
          · omega
    cases b with
    | false =>
      dsimp only
      rw [if_neg Bool.false_ne_true]
      obtain ⟨a1, a2, a4, a5, a6, a7⟩ := on R5 off5 x5
      exact ⟨F5, G5, e5, acc, an, vacc, a1, a2, off5, a4, a5, a6, a7, racc.mono (sel_same (x3.f.trans x5.f) (x3.g.trans x5.g)), pf rfl⟩
    | true =>
      dsimp only
      rw [if_pos rfl]
      refine ⟨F5, G5, e5, _, _, R5, pt rfl, fun t e6 F6 G6 H6 vy ⟨y, ey, hl, off6, py⟩ R6 x6 r6 n6 => ?_, fun c e' F' G' H' C z => z.elim⟩
      obtain ⟨F7, G7, R7, x7, r7⟩ := RT.hold R6 x6 r6 n6
      obtain ⟨F8, G8, R8, x8, r8⟩ := RT.frz R7 r7 hold_ow ey
      have xx := x5.trans (x7.trans x8)
      obtain ⟨a1, a2, a4, a5, a6, a7⟩ := on R8 off6 xx
      have upF : Up F2 G2 F8 G8 := x3.up.trans xx.up
      refine ⟨vacc, a5, by rw [racc.length]; exact hl, F8, G8, y.2.2, acc ++ [y.1], an && y.2.1, vacc ++ [vy], ?_, ?_, off6, a4, upd_same, a6, a7, ?_, py⟩
      · refine a1.next (.refl _) (.refl _) ?_ a1.gf a1.gn a1.fn (fun b ob => ⟨(a1.own_at ob).1, fun o eo => ?_⟩) (fun b o u h0 eo => ?_) (fun b ps eo => by rw [upd_ne fun z => by rw [z, a5] at eo; cases eo]; exact eo)
        · exact fun b o eb => by
            have : b ≠ D := fun z => by subst z; rw [a6] at eb; cases eb
            rw [upd_ne this]; exact a1.fh _ _ eb
        · have : b ≠ D := fun z => a7 (z ▸ ob)
          rw [upd_ne this]; exact eo
        · have : b ≠ D := fun z => by
            subst z
            rw [R1.h0 hD] at h0; cases h0
          rw [upd_ne this]; exact eo
      · refine ⟨a2.f, a2.g, fun b o eb nb nt => ?_, fun b o eb => ?_, a2.n, a2.o, a2.r, a2.l⟩
        · have : b ≠ D := fun z => by subst z; rw [hD] at eb; cases eb
          rw [upd_ne this]; exact a2.h b o eb nb nt
        · have : b ≠ D := fun z => by subst z; rw [hD] at eb; cases eb
          rw [upd_ne this]; exact a2.d b o eb
      · exact Rps.append ((racc.mono (sel_same upF.f upF.g)).mono (sel_and R8.gf)) (.one (r8.mono (sel_and' R8.gf)))
  · have e : i = items.length := by omega
    subst e
    rw [List.drop_length] at p2
    refine .inl ⟨it.stop _ H2 (x2.f.trans R2.fh) (Nat.le_refl _), ?_⟩
    have Ro := R1.out x2.up off R2
    have nD : ¬ Own σ (outE e1 (wipeE e2 vs) vs) D := fun z => by
      exact nO (own_out l2 off z)
    have h0 : Z.H0 D = none := R1.h0 hD
    refine q _ _ F2 G2 H2 (.ref D) p2 Ro (x1.trans x2) ⟨D, rfl, hF2, .inl ⟨acc, vacc, rfl, hD2, racc⟩, nD, h0⟩ ⟨D, rfl, ?_⟩
    cases eH : H D with
    | none => rfl
    | some o => obtain ⟨u, z⟩ := x1.d _ _ eH; rw [hD] at z; cases z
end
end DL

namespace DL
open PySem PySem.Spec L2
section
variable {X : Cx} {Z : Zx} {W : WX} {pos : Pos}
theorem pts_yes : PTs X [] (tDT X.K X.mg Z W0 dYes) := ⟨fun pins s σ H Q I h => by
  obtain ⟨F, G, env, P, E, R, w, q, qe⟩ := h
  exact pts_nil.run pins s σ H Q I (q true env F G H w R .refl)⟩
theorem d_lc {elt tg iter : Expr} {ifs : List Expr} {scope : Scope} {own : List (Str × Nat)} {w : DI} {g : DG} {tl : List Nat} {tt : DT} {te : DW} (hc : X.calm = true) (hN : X.N.Nodup) (hi : DIe X Z W tg iter w) (ok : BlkOk X.N X.env.scope scope own)
    (hg : ∀ (s : Shared) (H : Hp) (C : Addr) (cl : List (Str × Addr)) (fp : List Addr), DGt (X.blk s H scope (compEnvC scope cl C X.env) fp) Z tg g tl)
    (ht : ∀ (s : Shared) (H : Hp) (C : Addr) (cl : List (Str × Addr)) (fp : List Addr), PTs (X.blk s H scope (compEnvC scope cl C X.env) fp) ifs (tDT X.K X.mg Z W0 tt))
    (he : ∀ (s : Shared) (H : Hp) (C : Addr) (cl : List (Str × Addr)) (fp : List Addr), DE (X.blk s H scope (compEnvC scope cl C X.env) fp) Z W0 elt te)
    (htl : ∀ i ∈ tl, i ∈ own.map (·.2) := by decide) (hs : ∀ x, foldedSetIterable iter X.env x = pure x := by intro _; rfl) : DE X Z W (.ListComp elt [⟨tg, iter, ifs, 0⟩] scope pos) (dLc w g tt te (own.map (·.2))) :=
  PE.of (pe_lc hc hN hi ok hg ht he hs) fun σ H Q h => lc_imp htl (fun _ _ _ q => q) h
theorem s_setLc (i : Nat) {y : Str} {py spos : Pos} {elt tg iter : Expr} {ifs : List Expr} {scope : Scope} {own : List (Str × Nat)} {w : DI} {g : DG} {tl : List Nat} {tt : DT} {te : DW} (hc : X.calm = true) (hN : X.N.Nodup) (hi : DIe X Z W tg iter w) (ok : BlkOk X.N X.env.scope scope own)
    (hg : ∀ (s : Shared) (H : Hp) (C : Addr) (cl : List (Str × Addr)) (fp : List Addr), DGt (X.blk s H scope (compEnvC scope cl C X.env) fp) Z tg g tl)
    (ht : ∀ (s : Shared) (H : Hp) (C : Addr) (cl : List (Str × Addr)) (fp : List Addr), PTs (X.blk s H scope (compEnvC scope cl C X.env) fp) ifs (tDT X.K X.mg Z W0 tt))
    (he : ∀ (s : Shared) (H : Hp) (C : Addr) (cl : List (Str × Addr)) (fp : List Addr), DE (X.blk s H scope (compEnvC scope cl C X.env) fp) Z W0 elt te)
    (hsw : swapsWith (.ListComp elt [⟨tg, iter, ifs, 0⟩] scope pos) (some (.Name y py)) spos.line X.env = pure true)
    (hy : X.N[i]? = some y := by rfl) (hyl : X.env.scope.names.lookup y = some .local := by rfl)
    (htl : ∀ i ∈ tl, i ∈ own.map (·.2) := by decide) (hs : ∀ x, foldedSetIterable iter X.env x = pure x := by intro _; rfl) : DS X Z W (.Assign [.Name y py] (.ListComp elt [⟨tg, iter, ifs, 0⟩] scope pos) spos) (dSet i (dLc w g tt te (own.map (·.2)))) :=
  PS.of (ps_setLc hc hN hy hyl hsw hi ok hg ht he hs) fun D σ H h => set_imp (fun _ _ _ q => lc_imp htl (fun _ _ _ z => z) q) h
end
end DL

namespace DL
open PySem PySem.Spec L2

/-- the list's things, the arguments', their flags; what follows: the list's new things, their flag, what is told -/
abbrev FM := List D → List D → Bool → Bool → (List D → Bool → D → Prop) → Prop
def MutD (X : Cx) (id : String) (f : FM) : Prop := ∃ r, MtR X id r ∧ ∀ (B H : Hp) (a : Addr) (vs xs : List V) (ds es : List D) (n m : Bool) (k : List D → Bool → D → Prop) (Q : VK) (S : Bool → Hp), H a = some (.lst vs) → Rps X.K X.mg (S n) vs ds → Rps X.K X.mg (S m) xs es →
  (∀ p q, Same (S p) (S (p && q)) ∧ Same (S q) (S (p && q))) → (∀ p, Same (S p) H) → f ds es n m k → (∀ ds' n' d v ws, k ds' n' d → Rps X.K X.mg (S n') ws ds' → Rp X.K X.mg (S n') v d → Q v (upd H a (.lst ws))) → r (.ref a) xs H Q
def dMut (j : Nat) (f : FM) (wa : DA) : DW := fun env P E => (∃ ds n, ownS env j = some (.list ds, n)) ∧ wa env (fun ts e1 => ∃ x, frzL e1 ts = some x ∧ ∃ ds n, ownS x.2.2 j = some (.list ds, n) ∧
  f ds x.1 n x.2.1 fun ds' n' d => P (.fz d n') (mutS x.2.2 j (.list ds') n')) E
section
variable {X : Cx} {Z : Zx} {W : WX} {pos : Pos}
/-- the heart -/
theorem mut_imp {f : FM} {r : V → List V → Hp → VK → Prop} {wa : DA} {j : Nat}
    (hf : ∀ (B H : Hp) (a : Addr) (vs xs : List V) (ds es : List D) (n m : Bool) (k : List D → Bool → D → Prop) (Q : VK) (S : Bool → Hp), H a = some (.lst vs) → Rps X.K X.mg (S n) vs ds → Rps X.K X.mg (S m) xs es →
      (∀ p q, Same (S p) (S (p && q)) ∧ Same (S q) (S (p && q))) → (∀ p, Same (S p) H) → f ds es n m k → (∀ ds' n' d v ws, k ds' n' d → Rps X.K X.mg (S n') ws ds' → Rp X.K X.mg (S n') v d → Q v (upd H a (.lst ws))) → r (.ref a) xs H Q)
    {σ : Sg} {H : Hp} {Q : VK} {T : TA → TE} (hT : ∀ (t : TA) (Q : VK), (∃ a, σ[j]? = some (some (.ref a)) ∧ (∃ xs, SqL X.K H a xs) ∧ t σ H fun xs H2 => r (.ref a) xs H2 Q) → T t σ H Q)
    (h : tD X.K X.mg Z W (dMut j f wa) σ H Q) : T (tDA X.K X.mg Z W wa) σ H Q := by
  obtain ⟨F, G, env, P, E, R, ⟨⟨d0, n0, hs⟩, w⟩, q, qe⟩ := h
  obtain ⟨a, ea, own, hF, hc⟩ := R.own hs
  have lst : ∃ xs, SqL X.K H a xs := by
    rcases hc with ⟨es, vs, h1, h2, h3⟩ | ⟨es, vs, h1, h2, h3, h4⟩ | ⟨es, vs, h1, h2, h3, h4⟩ | ⟨cn, fs, C, dx, fvs, h1, h2, h3, h4, h5⟩
    · exact ⟨vs, SqL.of h2⟩
    · cases h1
    · cases h1
    · cases h1
  refine hT _ _ ⟨a, ea, lst, F, G, env, _, E, R, w, fun ts e1 F1 G1 H1 xs ⟨x, ex, ds, n, eo, p⟩ R1 x1 r1 => ?_, qe⟩
  obtain ⟨F2, G2, R2, x2, r2⟩ := RTs.frz R1 r1 ex
  obtain ⟨a', ea', own', hF', hc'⟩ := R2.own eo
  rw [ea] at ea'; cases ea'
  rcases hc' with ⟨es, vs, h1, h2, h3⟩ | ⟨es, vs, h1, h2, h3, h4⟩ | ⟨es, vs, h1, h2, h3, h4⟩ | ⟨cn, fs, C, dx, fvs, h1, h2, h3, h4, h5⟩
  · cases h1
    refine hf F2 H1 a vs xs ds x.1 n x.2.1 _ Q (fun b => sel b G2 F2) h2 h3 r2 (fun p q => ⟨sel_and R2.gf, sel_and' R2.gf⟩) (fun p => R2.selH) p fun ds' n' d v ws pk rw rv => ?_
    obtain ⟨R3, x3⟩ := R2.mut eo ea (o' := .lst ws) (d' := .list ds') (n' := n') (.inl ⟨ds', ws, rfl, upd_same, rw⟩)
    exact q _ _ F2 G2 _ v pk R3 ((x1.trans x2).trans x3) rv trivial
  · cases h1
  · cases h1
  · cases h1
theorem d_mut {id : String} {f : FM} {name : Str} {x : Str} {e : Expr} {es : List Expr} {wa : DA} {p apos cpos : Pos} (j : Nat) (hf : MutD X id f) (slot : PySem.Slot "list" name id) (hty : typeOf (.builtin id) = pure (.type "method_descriptor")) (ha : DAr X Z W (e :: es) wa)
    (hN : X.N[j]? = some x := by rfl) (hv : Vis X.env.scope x := by first | exact Or.inl rfl | exact Or.inr (Or.inl rfl) | exact Or.inr (Or.inr rfl)) (hd : (x == ("__debug__" : Str)) = false := by decide) (hcd : (x == ("__classdict__" : Str)) = false := by decide)
    (hbase : attributeBase (.Name x p) name X.env (eval (.Name x p) X.env) = eval (.Name x p) X.env := by rfl)
    (hfew : ((backTo cpos (starEach (e :: es) X.env)).all (fun x => !x.1) && (backToKw cpos (keywordEach [] X.env)).all (fun x => x.1.isSome) && decide ((e :: es).length + ([] : List Keyword).length + (if ([] : List Keyword).isEmpty then 0 else 1) < 30)) = true := by rfl)
    (hline : (apos.endLine == cpos.line) = true := by rfl) (hs : starEach (e :: es) X.env = (false, eval e X.env) :: starEach es X.env := by rfl) (hplain : (backTo cpos (starEach es X.env)).any (·.1) = false := by rfl) :
    DE X Z W (.Call (.Attribute (.Name x p) name apos) (e :: es) [] cpos) (dMut j f wa) := by
  obtain ⟨r, hr, hk⟩ := hf
  refine PE.of (pe_bm PySem.F.plainAttrs_list slot hty hr (pe_var hN hv hd hcd) ha hbase hfew hline hs hplain) fun σ H Q h => ?_
  exact mut_imp hk (T := fun t => tBM X.K "list" r (tVar j) t) (fun t Q ⟨a, ea, ⟨xs, hx⟩, q⟩ => ⟨.ref a, ea, .inl ⟨rfl, xs, hx⟩, q⟩) h
def fApp : FM := fun ds es n m k => ∃ d, es = [d] ∧ ds.length < sizeLine ∧ k (ds ++ [d]) (n && m) .none
theorem m_app : MutD X "list.append" fApp := by
  refine ⟨rAppend, fun pins s σ H x xs v us Q => mt_append pins s σ H x xs v us Q, fun B H a vs xs ds es n m k Q S h1 h2 h3 sm sh ⟨d, ed, hl, p⟩ q => ?_⟩
  subst ed
  cases h3 with
  | cons r rr =>
    cases rr
    exact ⟨a, vs, _, rfl, rfl, h1, by rw [h2.length]; exact hl, q _ _ _ _ _ p ((h2.mono (sm n m).1).append (.one (r.mono (sm n m).2))) .non⟩
theorem Rps.erase {K : PySem.W.Frag} {mg : Str → Option Value} {B : Hp} {vs : List V} {ds : List D} (r : Rps K mg B vs ds) (i : Nat) : Rps K mg B (vs.eraseIdx i) (ds.eraseIdx i) := by
  rw [List.eraseIdx_eq_take_drop_succ, List.eraseIdx_eq_take_drop_succ]
  exact (r.take _).append (r.drop _)
def fRev : FM := fun ds es n _ k => es = [] ∧ k ds.reverse n .none
theorem m_rev : MutD X "list.reverse" fRev := by
  refine ⟨rReverse, fun pins s σ H x xs v us Q => mt_reverse pins s σ H x xs v us Q, fun B H a vs xs ds es n m k Q S h1 h2 h3 sm sh ⟨ed, p⟩ q => ?_⟩
  subst ed
  cases h3
  exact ⟨a, vs, rfl, rfl, h1, q _ _ _ _ _ p h2.rev .non⟩
end
end DL

namespace DL
open PySem PySem.Spec L2

theorem PSet.or {X : Cx} {t t' : TSet} (h : PSet X t) (h' : PSet X t') : PSet X (fun o i v H Q => t o i v H Q ∨ t' o i v H Q) := by
  intro pins s σ H o i v ov iv u Q I ro ri rv q
  rcases q with q | q
  · exact h pins s σ H o i v ov iv u Q I ro ri rv q
  · exact h' pins s σ H o i v ov iv u Q I ro ri rv q
/-- an item stored: the container, the key, the thing; what follows: the container, its flag -/
def fSetI (c k d : D) (n : Bool) (K : D → Bool → Prop) : Prop := match c with
  | .list ds => ∃ i idx, k = .int i ∧ ixN ds.length i = some idx ∧ K (.list (ds.set idx d)) n
  | .dict t kvs => fitK t k ∧ kvs.length < sizeLine ∧ K (.dict t (dput kvs k d)) n
  | _ => False
section
variable {X : Cx} {Z : Zx} {W : WX} {pos : Pos}
theorem rps_len_map {κ : Type} {kd : κ → D} {kvs : List (κ × V)} {ds : List (D × D)} (h : ds.map (·.1) = kvs.map (fun p => kd p.1)) : kvs.length = ds.length := by
  have := congrArg List.length h
  simpa using this.symm
/-- the heart of a store -/
theorem setI_imp {F G H : Hp} {σ : Sg} {e : DEnv} {j : Nat} {a : Addr} {c k d : D} {n nd m : Bool} {vk v : V} {P : DEnv → Prop} {Q : Hp → Prop} (R : EnvR X.K X.mg Z F G H σ e) (eo : ownS e j = some (c, n)) (ea : σ[j]? = some (some (.ref a)))
    (rk : Rv X.K X.mg (sel m G F) H vk k) (rv : Rp X.K X.mg (sel nd G F) v d) (p : fSetI c k d (n && nd) fun c' n' => P (mutS e j c' n'))
    (q : ∀ (e' : DEnv) (H' : Hp), P e' → EnvR X.K X.mg Z F G H' σ e' → Ext σ e e' F G H F G H' → Q H') : rSetL (.ref a) vk v H Q ∨ rSetD (.ref a) vk v H Q := by
  obtain ⟨a', ea', own, hF, hc⟩ := R.own eo
  rw [ea] at ea'; cases ea'
  have rv' := rv.mono (sel_and' (n := n) R.gf)
  unfold fSetI at p
  split at p
  · obtain ⟨i, idx, rfl, ei, p⟩ := p
    rcases hc with ⟨es, vs, h1, h2, h3⟩ | ⟨es, vs, h1, h2, h3, h4⟩ | ⟨es, vs, h1, h2, h3, h4⟩ | ⟨cn, fs, C, dx, fvs, h1, h2, h3, h4, h5⟩
    · cases h1
      refine .inl ⟨a, vs, i, idx, rfl, rk.int, h2, by rw [h3.length]; exact ei, ?_⟩
      obtain ⟨R', x'⟩ := R.mut eo ea (o' := .lst (vs.set idx v)) (d' := .list (List.set _ idx d)) (n' := n && nd) (.inl ⟨_, _, rfl, upd_same, (h3.mono (sel_and R.gf)).set rv' idx⟩)
      exact q _ _ p R' x'
    · cases h1
    · cases h1
    · cases h1
  · obtain ⟨ft, hl, p⟩ := p
    rename_i t kvs
    rcases hc with ⟨es, vs, h1, h2, h3⟩ | ⟨es, vs, h1, h2, h3, h4⟩ | ⟨es, vs, h1, h2, h3, h4⟩ | ⟨cn, fs, C, dx, fvs, h1, h2, h3, h4, h5⟩
    · cases h1
    · cases h1
      obtain ⟨kk, ek⟩ := ft
      have e2 := keyK_of ek
      subst e2
      obtain ⟨k1, k2⟩ := put_keys deq_key rv' h3 (h4.mono (sel_and R.gf))
      obtain ⟨R', x'⟩ := R.mut eo ea (o' := .dK (putK vs kk v)) (d' := .dict false (dput kvs (keyD kk) d)) (n' := n && nd) (.inr (.inl ⟨_, _, rfl, upd_same, k1, k2⟩))
      exact .inr ⟨a, _, rfl, .inl ⟨vs, kk, h2, keyV rk, by rw [rps_len_map h3]; exact hl, rfl⟩, q _ _ p R' x'⟩
    · cases h1
      obtain ⟨ks, ek⟩ := ft
      have e2 := keyT_of ek
      subst e2
      obtain ⟨b, ws, rfl, eb, rb⟩ := rk.tup
      have e3 := keysV rb
      subst e3
      obtain ⟨k1, k2⟩ := put_keys (kd := fun q : List Key => D.tuple (q.map keyD)) deq_keyT rv' h3 (h4.mono (sel_and R.gf))
      obtain ⟨R', x'⟩ := R.mut eo ea (o' := .dT (putK vs ks v)) (d' := .dict true (dput kvs (.tuple (ks.map keyD)) d)) (n' := n && nd) (.inr (.inr (.inl ⟨_, _, rfl, upd_same, k1, k2⟩)))
      exact .inr ⟨a, _, rfl, .inr ⟨vs, ks, b, h2, rfl, R.selH _ _ eb, by rw [rps_len_map (kd := fun q : List Key => D.tuple (q.map keyD)) h3]; exact hl, rfl⟩, q _ _ p R' x'⟩
    · cases h1
  · exact p.elim
def dSetI (j : Nat) (wk wv : DW) : DSt := fun env D => wv env (fun tv e1 => (∃ s, ownS e1 j = some s) ∧ wk e1 (fun tk e2 => ∃ x, frz1 e2 (hold tv) = some x ∧ ∃ c n k, ownS x.2.2 j = some (c, n) ∧ rd x.2.2 (hold tk) = some k ∧
  fSetI c k x.1 (n && x.2.1) fun c' n' => D.nx (mutS x.2.2 j c' n')) D.ex) D.ex
theorem s_setI {x : Str} {ek ev : Expr} {wk wv : DW} {p spos : Pos} (j : Nat) (hu : X.A.units + 1 < cLine) (hv : DE X Z W ev wv) (hk : DE X Z W ek wk)
    (hN : X.N[j]? = some x := by rfl) (hvis : Vis X.env.scope x := by first | exact Or.inl rfl | exact Or.inr (Or.inl rfl) | exact Or.inr (Or.inr rfl)) (hd : (x == ("__debug__" : Str)) = false := by decide) (hcd : (x == ("__classdict__" : Str)) = false := by decide)
    (ha : ∀ v, assign (.Subscript (.Name x p) ek spos) X.env v = (do
      let ov ← holding [v] (eval (.Name x p) X.env)
      let iv ← holding [v, ov] (eval ek X.env)
      standAt spos
      holding [v, ov, iv] (setItem ov iv v)
      release [v, ov, iv] []) := by intro _; rfl)
    (hs : swapsWithSole [.Subscript (.Name x p) ek spos] ev pos.line X.env = pure false := by rfl) (hw : swappedStores [.Subscript (.Name x p) ek spos] ev X.env = pure none := by rfl)
    (h1 : (assignEach [.Subscript (.Name x p) ek spos] X.env).map (·.2) = [assign (.Subscript (.Name x p) ek spos) X.env] := by rfl) : DS X Z W (.Assign [.Subscript (.Name x p) ek spos] ev pos) (dSetI j wk wv) := by
  refine PS.of (ps_asg hv (pg_sub (pe_var hN hvis hd hcd) hk (PSet.or set_list (set_dict hu)) ha) hs hw h1) fun D σ H ⟨F, G, env, Ds, R, w, k⟩ => ?_
  refine ⟨F, G, env, _, _, R, w, fun tv e1 F1 G1 H1 v ⟨⟨s, eo1⟩, pk⟩ R1 x1 r1 n1 => ?_, k.ex σ⟩
  obtain ⟨F2, G2, R2, x2, r2⟩ := RT.hold R1 x1 r1 n1
  obtain ⟨s1, s2⟩ := s
  obtain ⟨a, ea, _⟩ := R2.own eo1
  refine ⟨.ref a, ea, F2, G2, e1, _, _, R2, pk, fun tk e2 F3 G3 H3 vk ⟨y, ey, c, n, kk, eo, ek, p⟩ R3 x3 r3 n3 => ?_, k.ex σ⟩
  obtain ⟨F4, G4, R4, x4, r4⟩ := RT.hold R3 x3 r3 n3
  obtain ⟨F5, G5, R5, x5, r5⟩ := RT.frz R4 (RT.ext r2 hold_ow x4) hold_ow ey
  have rk := RT.rv R5 (RT.ext r4 hold_ow x5) ek
  refine setI_imp R5 eo ea rk r5 p fun e' H' pe R' x' => ?_
  exact k.nx e' F5 G5 H' σ pe R' ((x2.trans (x4.trans x5)).trans x').up

def dAugN (i : Nat) (f : F2) (we : DW) : DSt := fun env D => ∃ t, lookT env i = some t ∧ we env (fun te e1 => ∃ x y, rd e1 t = some x ∧ rd e1 (hold te) = some y ∧ f x y (rdn e1 t) (rdn e1 (hold te)) fun t' => ∃ e', setS e1 i t' = some e' ∧ D.nx e') D.ex
def fAddA : F2 := fun x y _ _ P => match x, y with
  | .int i, .int j => P (dI (i + j))
  | .str a, .str b => a.length + b.length ≤ sizeLine ∧ P (dS (a ++ b))
  | _, _ => False
theorem o_iadd : OpD X (inplaceOp .Add) fAddA := by
  refine ⟨_, OpR.or iop_add iop_add_str, fun Z F G H σ env v1 v2 d1 d2 n1 n2 P Q R h1 h2 hf q => ?_⟩
  unfold fAddA at hf
  split at hf
  · exact .inl ⟨_, _, h1.int, h2.int, q _ F G H _ hf R .refl (.int _) trivial⟩
  · exact .inr ⟨_, _, h1.str, h2.str, hf.1, q _ F G H _ hf.2 R .refl (.str _) trivial⟩
  · exact hf.elim
/-- an item of a list, by values -/
def tGetL : V → V → Hp → VK → Prop := fun o i H Q => ∃ p xs k v, o = .ref p ∧ i = .int k ∧ H p = some (.lst xs) ∧ atI xs k = some v ∧ Q v H
theorem get_list : PGet X tGetL := by
  intro pins s σ H o i ov iv Q I ro ri h
  obtain ⟨p, xs, k, z, rfl, rfl, hq, he, q⟩ := h
  cases ro
  obtain ⟨t, rfl⟩ := ri
  obtain ⟨its, r, pl, hz⟩ := I.list (SqL.of hq)
  obtain ⟨j, h1, h2, h3, h4, h5⟩ := atI_get he
  obtain ⟨w, ew, rw'⟩ := r.get h2
  have hl := r.length
  have hn := line63
  have fin : EP X pins σ Q w s := ⟨z, H, I, rw', q⟩
  by_cases h0 : 0 ≤ k
  · have hj : k.toNat = j := by
      rw [seqIndex_of h0 h5] at h1
      exact Option.some.inj h1
    exact wpAny_getItem_list pl.isList h0 (by omega) (by rw [hj]; simpa using ew) fin
  · have hj : (k + (its.toArray.size : Int)).toNat = j := by
      rw [seqIndex_neg (by omega) h4] at h1
      rw [List.size_toArray, ← hl]
      exact Option.some.inj h1
    exact wpAny_getItem_list_neg pl.isList (by omega) (by rw [List.size_toArray]; omega) (by omega) (by rw [hj]; simpa using ew) fin
/-- x[k] op= e of a list -/
def dAugI (j : Nat) (f : F2) (wk we : DW) : DSt := fun env D => (∃ s, ownS env j = some s) ∧ wk env (fun tk e1 => ∃ ds n i d, ownS e1 j = some (.list ds, n) ∧ rd e1 (hold tk) = some (.int i) ∧ atI ds i = some d ∧
  we e1 (fun te e2 => ∃ y, rd e2 (hold te) = some y ∧ f d y n (rdn e2 (hold te)) fun t => ∃ d' n', t = .fz d' n' ∧ ∃ c m, ownS e2 j = some (c, m) ∧ fSetI c (.int i) d' (m && n') fun c' m' => D.nx (mutS e2 j c' m')) D.ex) D.ex
theorem s_augI (j : Nat) {x : Str} {ek e : Expr} {op : Operator} {f : F2} {wk we : DW} {p tpos : Pos} (hu : X.A.units + 1 < cLine) (hf : OpD X (inplaceOp op) f) (hk : DE X Z W ek wk) (he : DE X Z W e we)
    (hN : X.N[j]? = some x := by rfl) (hvis : Vis X.env.scope x := by first | exact Or.inl rfl | exact Or.inr (Or.inl rfl) | exact Or.inr (Or.inr rfl)) (hd : (x == ("__debug__" : Str)) = false := by decide) (hcd : (x == ("__classdict__" : Str)) = false := by decide)
    (ha : ∀ ov iv new, augStore ek ov iv new = (do holding [new, ov, iv] (setItem ov iv new); release [new, ov, iv] []; pure .next) := by intros; rfl) : DS X Z W (.AugAssign (.Subscript (.Name x p) ek tpos) op e pos) (dAugI j f wk we) := by
  obtain ⟨r, hr, hf'⟩ := hf
  refine PS.of (ps_augS (pe_var hN hvis hd hcd) hk get_list he (tip := r) hr (PSet.or set_list (set_dict hu)) ha) fun D σ H ⟨F, G, env, Ds, R, ⟨⟨s, es⟩, w⟩, k⟩ => ?_
  obtain ⟨s1, s2⟩ := s
  obtain ⟨a, ea, _⟩ := R.own es
  refine ⟨.ref a, ea, F, G, env, _, _, R, w, fun tk e1 F1 G1 H1 vk ⟨ds, n, i, d, eo, ek, ed, w2⟩ R1 x1 r1 n1 => ?_, k.ex σ⟩
  obtain ⟨F2, G2, R2, x2, r2⟩ := RT.hold R1 x1 r1 n1
  have rk := RT.rv R2 r2 ek
  obtain ⟨a', ea', own, hF, hc⟩ := R2.own eo
  rw [ea] at ea'; cases ea'
  have hvk := rk.int
  subst hvk
  rcases hc with ⟨es', vs, h1, h2, h3⟩ | ⟨es', vs, h1, h2, h3, h4⟩ | ⟨es', vs, h1, h2, h3, h4⟩ | ⟨cn, fs, C, dx, fvs, h1, h2, h3, h4, h5⟩
  · cases h1
    obtain ⟨v, ev, rv⟩ := h3.atI ed
    refine ⟨a, vs, i, v, rfl, rfl, h2, ev, F2, G2, e1, _, _, R2, w2, fun te e2 F3 G3 H3 u ⟨y, ey, p⟩ R3 x3 r3 n3 => ?_, k.ex σ⟩
    obtain ⟨F4, G4, R4, x4, r4⟩ := RT.hold R3 x3 r3 n3
    have rv4 : Rp X.K X.mg (sel n G4 F4) v d := rv.mono (sel_same x4.f x4.g)
    refine hf' Z F4 G4 H3 σ e2 v u d y _ _ _ _ R4 (.inl rv4) (RT.rv R4 r4 ey) p fun t F' G' H' z ⟨d', n', et, c, m, eo', pt⟩ R' x' r' nn => ?_
    subst et
    refine setI_imp (m := true) R' eo' ea (.inl (.int i)) r' pt fun e' H'' pe R'' x'' => ?_
    exact k.nx e' F' G' H'' σ pe R'' ((x2.trans (x4.trans x')).trans x'').up
  · cases h1
  · cases h1
  · cases h1
end
end DL

namespace DL
open PySem PySem.Spec PyProof.Rows L2

/-- room for calls, and nothing is being shown -/
structure RoomG (k : Nat) (A : Around) : Prop where
  r : Room k A
  g : A.guards = some []
theorem RoomG.mono {j k : Nat} {A : Around} (h : RoomG k A) (hk : j ≤ k) : RoomG j A := ⟨h.r.mono hk, h.g⟩
structure FnG (P : Program) (w : World) (K : PySem.W.Frag) (mg : Str → Option Value) (base : Heap) (k : Nat) (f : Addr) (fd : FuncData) (ps : List Str) (sp : Sp) : Prop where
  len : ∀ vs H Q E, sp vs H Q E → vs.length = ps.length
  run : ∀ (A : Around) (outer : List Env) (s : Shared) (H : Hp) (args : Args) (us : List Value) (vs : List V) (Q : VK) (E : XK), RoomG k A → Env0 P w K mg base A outer s H → BindsTo s fd args (ps.zip us) → Vals vs us → sp vs H Q E →
    codeAny (model P w) A (.call (.ref f) args) (CR (L2.CX P w) outer P w H s Q E) s
theorem FnG.mono {P : Program} {w : World} {K : PySem.W.Frag} {mg : Str → Option Value} {base : Heap} {j k : Nat} {f : Addr} {fd : FuncData} {ps : List Str} {sp : Sp} (F : FnG P w K mg base j f fd ps sp) (h : j ≤ k) : FnG P w K mg base k f fd ps sp :=
  ⟨F.len, fun A outer s H args us vs Q E hr => F.run A outer s H args us vs Q E (hr.mono h)⟩
theorem FnG.imp {P : Program} {w : World} {K : PySem.W.Frag} {mg : Str → Option Value} {base : Heap} {k : Nat} {f : Addr} {fd : FuncData} {ps : List Str} {sp sp' : Sp} (F : FnG P w K mg base k f fd ps sp) (h : ∀ vs H Q E, sp' vs H Q E → sp vs H Q E) : FnG P w K mg base k f fd ps sp' :=
  ⟨fun vs H Q E q => F.len vs H Q E (h _ _ _ _ q), fun A outer s H args us vs Q E hr he hb hv hs => F.run A outer s H args us vs Q E hr he hb hv (h _ _ _ _ hs)⟩
section
variable {P : Program} {w : World} {K : PySem.W.Frag} {mg : Str → Option Value} {base : Heap}
/-- a def by its body -/
theorem fnG_of {k : Nat} {f : Addr} {name qual : Str} {params : Arguments} {body : List Stmt} {scope : Scope} {dV kV doc pm cdv ct oc : Value} {an od : Option Addr}
    {osl : Array (Option Value)} {N ps : List Str} {sp : Sp} (lk : K.lookup f = some ⟨oc, od, .func (PySem.W.fnOf name qual params body scope dV kV doc pm an cdv ct), osl⟩) (hcd : PySem.W.codeIn K cdv qual = true) (S : FnScope N ps scope)
    (len : ∀ vs H Q E, sp vs H Q E → vs.length = ps.length)
    (hbody : ∀ (A : Around) (outer : List Env) (s : Shared) (H : Hp) (vs : List V) (Q : VK) (E : XK), RoomG k (A.deeper (envOfC qual scope s.heap.objs.size f cdv)) → sp vs H Q E →
      ∃ t, PSs (cxOf (L2.CX P w) P w K mg base N qual scope f cdv A outer s H E) body t ∧ t { nx := fun _ H' => Q .non H', rt := Q } (start N vs) H) :
    FnG P w K mg base (k + 1) f (PySem.W.fnOf name qual params body scope dV kV doc pm an cdv ct) ps sp := by
  refine ⟨len, fun A outer s H args us vs Q E hrg e0 hb r hsp => ?_⟩
  obtain ⟨hr, hgd⟩ := hrg
  have hl := len _ _ _ _ hsp
  have KX : K.In s.heap := e0.mod.kin.keeps fun b o e => (e0.bs b o e).1
  have lim : s.heap.NoLimit := e0.mod.nolimit.keeps fun b o e => (e0.bs b o e).1
  have kinds : ∀ y ∈ ps.zip us, scope.names.lookup y.1 = some .local ∨ (scope.names.lookup y.1 = some .cell ∧ ((cellsFrom (s.heap.objs.size + 1) scope.names []).lookup y.1).isSome = true) := fun ⟨n, v⟩ hy => by
    rcases S.par n (List.of_mem_zip hy).1 with q | q
    · exact .inl q
    · exact .inr ⟨q, PySem.W.cellsFrom_some _ _ _ (.inl q)⟩
  refine codeAny_call_function hr.depth (KX _ _ lk) rfl S.co S.gen rfl (PySem.W.codeRec_of KX hcd) (hb _ _ _ _ ?_)
  refine wpAny_newFunctionEnv_cells S.kind kinds fun env he s1 x => ?_
  subst he
  refine ⟨lim.keeps x.toInCall.keep, codeAny_func ?_⟩
  obtain ⟨t, ht, hq⟩ := hbody A outer s H vs Q E ⟨hr.deeper _, hgd⟩ hsp
  have I := inv_start (CX := L2.CX P w) (E := E) S hr.hd e0 hl r x
  have fin : ∀ {σ' : L2.St} {H' : Hp} {v : V} {u : Value} {s' : Shared}, Inv (cxOf (L2.CX P w) P w K mg base N qual scope f cdv A outer s H E) [] σ' H' s' → RelV v u → Q v H' → CE outer P w H s Q u s' :=
    fun {σ' H' v u s'} J rv q => ⟨v, H', J.os, J.bare, J.base, J.hok, rv, q⟩
  refine wpAny_mono (ht.run [] s1 (start N vs) H _ I hq) (fun fl s' hs => ?_) fun e s' hs => hs
  cases fl with
  | ret u =>
    obtain ⟨v, σ', H', J, rv, q⟩ := hs
    exact fin J rv q
  | next =>
    obtain ⟨σ', H', J, q⟩ := hs
    exact fin (v := V.non) (u := Value.none) J rfl q
  | brk =>
    obtain ⟨_, _, _, q⟩ := hs
    exact False.elim q
  | cont =>
    obtain ⟨_, _, _, q⟩ := hs
    exact False.elim q
theorem okG {x qual : Str} {st : Stmt} {f : Addr} {fd : FuncData} {N ps : List Str} {k : Nat} {sp : Sp} (F : Fun K x qual st f fd) (S : FnScope N ps (defScope st)) (len : ∀ vs H Q E, sp vs H Q E → vs.length = ps.length)
    (hbody : ∀ (cdv : Value) (A : Around) (outer : List Env) (s : Shared) (H : Hp) (vs : List V) (Q : VK) (E : XK), RoomG k (A.deeper (envOfC qual (defScope st) s.heap.objs.size f cdv)) → sp vs H Q E →
      ∃ t, PSs (cxOf (L2.CX P w) P w K mg base N qual (defScope st) f cdv A outer s H E) (defBody st) t ∧ t { nx := fun _ H' => Q .non H', rt := Q } (start N vs) H) : FnG P w K mg base (k + 1) f fd ps sp := by
  obtain ⟨oc, od, kV, doc, pm, an, cdv, ct, osl, rfl, lk, hcd⟩ := F.ex
  exact fnG_of lk hcd S len fun A outer s H vs Q E hr hsp => hbody cdv A outer s H vs Q E hr hsp
end

section
variable {X : Cx} {W : WX} {k : Nat} {f C : Addr} {fd : FuncData} {ps : List Str} {sp : Sp} {dvs : List V} {ds : List Value} {x m : Str} {p pos apos : Pos} {e o : Expr} {es : List Expr} {ta : TE} {t : TA}
theorem run_g {pins : List (Addr × Obj)} {σ : L2.St} {H : Hp} {s : Shared} {Q : VK} {us : List Value} {vs : List V} (F : FnG X.prog X.w X.K X.mg X.base k f fd ps sp) (hr : RoomG k X.A) (hb : Binds X.K fd ps ds) (hd : Vals dvs ds) (tk : Takes X W)
    (I : Inv X pins σ H s) (r : Vals vs us) (h : sp (vs ++ dvs) H Q (WE W σ)) : wpAny (model X.prog X.w) X.A (call (.ref f) us) (EP X pins σ Q) X.xe s := by
  have r2 : Vals (vs ++ dvs) (us ++ ds) := r.append hd
  have hl : (us ++ ds).length = ps.length := by rw [← r2.length]; exact F.len _ _ _ _ h
  refine wpAny_call (codeAny_mono (F.run X.A X.stack s H ⟨us, []⟩ (us ++ ds) (vs ++ dvs) Q _ hr I.env0 (hb s us I.kIn hl) r2 h) fun r s' hq => ?_)
  cases r with
  | error e => exact passAt tk σ pins H s e s' I hq
  | ok fl =>
    cases fl with
    | ret u => exact I.after hq
    | next => exact False.elim hq
    | brk => exact False.elim hq
    | cont => exact False.elim hq
def tCallG (sp : Sp) (dvs : List V) (W : WX) (t : TA) : TE := fun σ H Q => t σ H fun vs H1 => sp (vs ++ dvs) H1 Q (WE W σ)
theorem pe_callG (F : FnG X.prog X.w X.K X.mg X.base k f fd ps sp) (hr : RoomG k X.A) (hg : Gl X x) (hm : X.mg x = some (.ref f)) (hk : PySem.W.keepIn X.K (.ref f) = true) (hb : Binds X.K fd ps ds) (hd : Vals dvs ds) (tk : Takes X W)
    (ha : PA X (e :: es) t) (hdb : (x == ("__debug__" : Str)) = false := by decide) (he : starEach (e :: es) X.env = (false, eval e X.env) :: starEach es X.env := by rfl) (hpl : (backTo pos (starEach es X.env)).any (·.1) = false := by rfl) :
    PE X (.Call (.Name x p) (e :: es) [] pos) (tCallG sp dvs W t) := by
  refine ⟨fun pins s σ H Q I h => ?_⟩
  refine wpAny_Call_Name_kw (ld_glob I hg hm ?_ hdb)
  exact PySem.W.callWith_K (h₀ := X.base) I.ok.mod.kin hk (thn (ha.run pos pins s σ H _ I h) fun us s1 ⟨vs, H1, I1, r, q⟩ => ⟨I1.kIn, run_g F hr hb hd tk I1 r q⟩) he hpl
def tMethG (C : Addr) (m : Str) (sp : Sp) (dvs : List V) (W : WX) (ta : TE) (t : TA) : TE := fun σ H Q => ta σ H fun x H1 => ∃ a dx fs, x = .ref a ∧ H1 a = some (.ins C dx fs) ∧ fs.lookup m = none ∧ t σ H1 fun vs H2 => sp (x :: (vs ++ dvs)) H2 Q (WE W σ)
theorem pe_methG {pl : Sem Bool} (he : PE X o ta) (c : Cls X.K C) (hm : Meth X.K C m f) (F : FnG X.prog X.w X.K X.mg X.base k f fd ps sp) (hr : RoomG k X.A) (hb : Binds X.K fd ps ds) (hd : Vals dvs ds) (tk : Takes X W) (ha : PA X (e :: es) t)
    (hst : starEach (e :: es) X.env = (false, eval e X.env) :: starEach es X.env := by rfl) (hpl : (backTo pos (starEach es X.env)).any (·.1) = false := by rfl)
    (ht : eval (.Call (.Attribute o m apos) (e :: es) [] pos) X.env = (do
      let ov ← eval o X.env
      standAt apos.atName
      let (f, first) ← holding [ov] (getMethod ov m pl)
      callWith pos f first (backTo pos (starEach (e :: es) X.env)) (backToKw pos (keywordEach [] X.env))) := by rfl) : PE X (.Call (.Attribute o m apos) (e :: es) [] pos) (tMethG C m sp dvs W ta t) := by
  refine ⟨fun pins s σ H Q I h => ?_⟩
  refine PySem.W.methodCall_KW (pl := pl) (thn (he.run pins s σ H _ I h) fun u s1 ⟨x, H1, I1, rx, a, dx, fs, ex, ea, l, q⟩ => ?_) ht
  subst ex
  obtain rfl : u = Value.ref a := rx
  refine getmeth_ok I1 ea c hm l ?_
  exact PySem.W.callWith_K (first := [.ref a]) (h₀ := X.base) I.ok.mod.kin hm.kp (thn (ha.run pos pins s1 σ H1 _ I1 q) fun us s2 ⟨vs, H2, I2, r, q2⟩ => ⟨I2.kIn, run_g (us := .ref a :: us) (vs := .ref a :: vs) F hr hb hd tk I2 (.cons rfl r) q2⟩) hst hpl
theorem make_guards {A : Around} {C : Addr} {us : List Value} {kw : List (Str × Value)} : (A.under (.builtin "type.__call__" ⟨.ref C :: us, kw⟩)).guards = A.guards := by
  first | rfl | simp [Around.under, Code.guards, Code.isGuard, pushGuards]
theorem run_makeG {pins : List (Addr × Obj)} {σ : L2.St} {H : Hp} {s : Shared} {Q : VK} {us : List Value} {vs : List V} (M : Mk X.K C f) (F : FnG X.prog X.w X.K X.mg X.base k f fd ps sp) (hr : RoomG (k + 1) X.A) (hb : Binds X.K fd ps ds) (hd : Vals dvs ds)
    (tk : Takes X W) (I : Inv X pins σ H s) (r : Vals vs us)
    (h : ∀ x dx, H x = none → H dx = none → dx ≠ x → sp (.ref x :: (vs ++ dvs)) (upd (upd H dx (.own x)) x (.ins C dx [])) (fun v H2 => v = .non ∧ Q (.ref x) H2) (WE W σ)) :
    wpAny (model X.prog X.w) X.A (call (.ref C) us) (EP X pins σ Q) X.xe s := by
  have hq := h (s.heap.objs.size + 1) s.heap.objs.size (I.hok.fresh (Nat.le_succ _)) (I.hok.fresh (Nat.le_refl _)) (Nat.ne_of_lt (Nat.lt_succ_self _))
  have I2 := Inv.made (C := C) I
  have r2 : Vals (V.ref (s.heap.objs.size + 1) :: (vs ++ dvs)) (Value.ref (s.heap.objs.size + 1) :: (us ++ ds)) := .cons rfl (r.append hd)
  have hl : (Value.ref (s.heap.objs.size + 1) :: us ++ ds).length = ps.length := by
    have e := r2.length
    rw [F.len _ _ _ _ hq] at e
    exact e.symm
  refine wpAny_call (make_map (f := f) I.kIn M.makes M.init (beq_iff_eq.mp M.fn) (codeAny_mono (F.run _ X.stack _ _ ⟨Value.ref (s.heap.objs.size + 1) :: us, []⟩ (Value.ref (s.heap.objs.size + 1) :: (us ++ ds)) _ _ _ ⟨hr.r.make C us [], by rw [make_guards]; exact hr.g⟩
    (I2.env0.make C us []) (hb _ (Value.ref (s.heap.objs.size + 1) :: us) I2.kIn hl) r2 hq) fun r s' hq' => ?_))
  cases r with
  | error e => exact passAt tk σ pins _ _ e s' I2 hq'
  | ok fl =>
    cases fl with
    | ret u =>
      obtain ⟨v, H', I3, rv, ev, q3⟩ := I2.after hq'
      subst ev
      exact ⟨rv, ⟨V.ref (s.heap.objs.size + 1), H', I3, rfl, q3⟩⟩
    | next => exact False.elim hq'
    | brk => exact False.elim hq'
    | cont => exact False.elim hq'
def tMakeG (C : Addr) (sp : Sp) (dvs : List V) (W : WX) (t : TA) : TE := fun σ H Q => t σ H fun vs H1 => ∀ x dx, H1 x = none → H1 dx = none → dx ≠ x →
  sp (.ref x :: (vs ++ dvs)) (upd (upd H1 dx (.own x)) x (.ins C dx [])) (fun v H2 => v = .non ∧ Q (.ref x) H2) (WE W σ)
theorem pe_makeG (M : Mk X.K C f) (F : FnG X.prog X.w X.K X.mg X.base k f fd ps sp) (hr : RoomG (k + 1) X.A) (hg : Gl X x) (hm : X.mg x = some (.ref C)) (hb : Binds X.K fd ps ds) (hd : Vals dvs ds) (tk : Takes X W)
    (ha : PA X (e :: es) t) (hdb : (x == ("__debug__" : Str)) = false := by decide) (he : starEach (e :: es) X.env = (false, eval e X.env) :: starEach es X.env := by rfl) (hpl : (backTo pos (starEach es X.env)).any (·.1) = false := by rfl) :
    PE X (.Call (.Name x p) (e :: es) [] pos) (tMakeG C sp dvs W t) := by
  refine ⟨fun pins s σ H Q I h => ?_⟩
  refine wpAny_Call_Name_kw (ld_glob I hg hm ?_ hdb)
  exact PySem.W.callWith_K (h₀ := X.base) I.ok.mod.kin M.kp (thn (ha.run pos pins s σ H _ I h) fun us s1 ⟨vs, H1, I1, r, q⟩ => ⟨I1.kIn, run_makeG M F hr hb hd tk I1 r q⟩) he hpl
/-- f(e, .., k = v, ..) -/
theorem run_gK {pins : List (Addr × Obj)} {σ : L2.St} {H : Hp} {s : Shared} {Q : VK} {us ws : List Value} {vs zs : List V} {ks : List Str} {g : List Value → List Value → List Value} {gV : List V → List V → List V} (F : FnG X.prog X.w X.K X.mg X.base k f fd ps sp) (hr : RoomG k X.A)
    (hb : KBinds X.K fd ps ks g gV) (tk : Takes X W) (I : Inv X pins σ H s) (r : Vals vs us) (rz : Vals zs ws) (h : sp (gV vs zs) H Q (WE W σ)) : wpAny (model X.prog X.w) X.A (call (.ref f) us (ks.zip ws)) (EP X pins σ Q) X.xe s := by
  have r2 := hb.rel r rz
  have hl : (g us ws).length = ps.length := by rw [← r2.length]; exact F.len _ _ _ _ h
  refine wpAny_call (codeAny_mono (F.run X.A X.stack s H ⟨us, ks.zip ws⟩ (g us ws) (gV vs zs) Q _ hr I.env0 (hb.to s us ws I.kIn hl) r2 h) fun r s' hq => ?_)
  cases r with
  | error e => exact passAt tk σ pins H s e s' I hq
  | ok fl =>
    cases fl with
    | ret u => exact I.after hq
    | next => exact False.elim hq
    | brk => exact False.elim hq
    | cont => exact False.elim hq
def tCallGK (sp : Sp) (gV : List V → List V → List V) (W : WX) (t tk : TA) : TE := fun σ H Q => t σ H fun vs H1 => tk σ H1 fun zs H2 => sp (gV vs zs) H2 Q (WE W σ)
theorem pe_callGK {kws : List Keyword} {ks : List Str} {tkw : TA} {g : List Value → List Value → List Value} {gV : List V → List V → List V} (F : FnG X.prog X.w X.K X.mg X.base k f fd ps sp) (hr : RoomG k X.A) (hg : Gl X x) (hm : X.mg x = some (.ref f)) (hk : PySem.W.keepIn X.K (.ref f) = true) (hb : KBinds X.K fd ps ks g gV) (tk : Takes X W)
    (ha : PA X (e :: es) t) (hkw : PK X kws tkw) (hall : (backToKw pos (keywordEach kws X.env)).all (·.1.isSome) = true := by rfl) (hks : (backToKw pos (keywordEach kws X.env)).filterMap (·.1) = ks := by rfl)
    (hdb : (x == ("__debug__" : Str)) = false := by decide) (he : starEach (e :: es) X.env = (false, eval e X.env) :: starEach es X.env := by rfl)
    (hpl : ((backTo pos (starEach (e :: es) X.env)).any (·.1) || (backToKw pos (keywordEach kws X.env)).any (·.1.isNone)) = false := by rfl) :
    PE X (.Call (.Name x p) (e :: es) kws pos) (tCallGK sp gV W t tkw) := by
  refine ⟨fun pins s σ H Q I h => ?_⟩
  refine wpAny_Call_Name_kw (ld_glob I hg hm ?_ hdb)
  refine PySem.W.callWith_KW (h₀ := X.base) I.ok.mod.kin hk hall (thn (ha.run pos pins s σ H _ I h) fun us s1 ⟨vs, H1, I1, r, q⟩ => ?_) hpl he
  refine thn (hkw.run pos pins s1 σ H1 _ I1 q) fun ws s2 ⟨zs, H2, I2, rz, q2⟩ => ⟨I2.kIn, ?_⟩
  rw [hks]
  exact run_gK F hr hb tk I2 r rz q2
end

section
variable {P : Program} {w : World} {K : PySem.W.Frag} {mg mb : Str → Option Value} {k : Nat} {fa a : Addr} {fd : FuncData} {x : Str} {sp : Sp} {s₁ : Shared} {vs : List Value} {ns : List Int}
/-- from a heap of ours in which at most the script stands -/
theorem law_from {H : Hp} (KX : K.In s₁.heap) (hns : s₁.heap.Ns mainGlobals mg) (hb : s₁.heap.Ns builtinsNs mb) (hbb : ∀ x : Str, x ≠ "__name__" → mb x = bootBuiltins x) (hlim : s₁.heap.NoLimit) (hg : s₁.gens = #[])
    (ha : s₁.heap.get? a = some { cls := .type "list", data := .seq vs.toArray }) (hr : Room k callerA) (F : ∀ base : Heap, K.In base → base.Ns mainGlobals mg → FnG P w K mg base k fa fd [x] sp) (hbind : ∀ (s : Shared) (u : Value), BindsTo s fd ⟨[u], []⟩ [(x, u)])
    (one : ∀ b u, H b = some u → b = a ∧ K.lookup a = none ∧ ∃ o ys, u = .frz o (.lst ys)) (hok : HOk P w H s₁.heap) (hq : sp [.ref a] H (fun v _ => v = .bl true) fun _ _ _ => False) :
    codeAny (model P w) callerA (.call (.ref fa) ⟨[.ref a], []⟩) (fun r s' => r = .ok (.ret (.bool true)) ∧ OldK s₁.heap s'.heap ∧ s'.os = s₁.os ∧ AllBare s'.gens) s₁ := by
  have free : ∀ {b : Addr}, (∀ u, H b ≠ some u) → H b = none := fun {b} h => by
    cases q : H b with
    | none => rfl
    | some u => exact absurd q (h u)
  have kin : K.In (hidT s₁.heap H) := fun b o e => hidT_get (KX b o e) (free fun u q => by
    obtain ⟨rfl, z, _⟩ := one b u q
    rw [z] at e
    cases e)
  have spaces : ∀ {b : Addr} {m : Str → Option Value}, s₁.heap.Ns b m → (hidT s₁.heap H).Ns b m := fun {b m} ⟨o, es, ep, e, d, r⟩ => ⟨o, es, ep, hidT_get e (free fun u q => by
    obtain ⟨rfl, _⟩ := one b u q
    rw [ha] at e
    cases e
    have d' : Data.seq vs.toArray _ = Data.dict es ep := d
    cases d'), d, r⟩
  obtain ⟨ml, l1, l2⟩ := hlim
  have md : Mod K mg (hidT s₁.heap H) := ⟨kin, spaces hns, ⟨mb, spaces hb, hbb⟩, ml, spaces l1, l2⟩
  have en : Env0 P w K mg (hidT s₁.heap H) callerA [] s₁ H := ⟨rfl, md, fun _ _ e => of_hidT e, by rw [hidT_size]; exact Nat.le_refl _, trivial, fun b z => by simp [frs] at z, hok, .of_eq hg⟩
  have go := (F _ kin (spaces hns)).run callerA [] s₁ H ⟨[.ref a], []⟩ [.ref a] [.ref a] _ _ ⟨hr, rfl⟩ en (hbind s₁ (.ref a)) (.cons rfl .nil) hq
  refine codeAny_mono go fun r s' h => ?_
  match r, h with
  | .ok (.ret u), ⟨v, H', os, bare, un, hok', r', q⟩ =>
    have q' : v = .bl true := q
    subst q'
    have eu : u = Value.bool true := r'
    subst eu
    refine ⟨rfl, OldK.of_keep fun b o e => ?_, os, bare⟩
    cases q : H b with
    | none => exact un.keep b o e q (by simp [frs]) (by simp)
    | some u =>
      obtain ⟨_, _, ob, ys, rfl⟩ := one b u q
      have e1 := (hok b _ q).1
      have e2 := (hok' b _ (un.frzs b ob _ q)).1
      rw [e] at e1
      cases e1
      exact e2
  | .error e, h =>
    obtain ⟨_, _, _, _, _, _, _, _, _, _, _, _, z⟩ := (show L2.CX P w [] H s₁ (fun _ _ _ => False) e s' from h)
    exact z.elim
theorem law_callG (KX : K.In s₁.heap) (hns : s₁.heap.Ns mainGlobals mg) (hb : s₁.heap.Ns builtinsNs mb) (hbb : ∀ x : Str, x ≠ "__name__" → mb x = bootBuiltins x) (hlim : s₁.heap.NoLimit) (hg : s₁.gens = #[])
    (ha : s₁.heap.get? a = some { cls := .type "list", data := .seq vs.toArray }) (hi : IntsAre vs ns) (hl : ns.length ≤ sizeLine) (hr : Room k callerA)
    (F : ∀ base : Heap, K.In base → base.Ns mainGlobals mg → FnG P w K mg base k fa fd [x] sp) (hbind : ∀ (s : Shared) (u : Value), BindsTo s fd ⟨[u], []⟩ [(x, u)])
    (hsp : ∀ H : Hp, (∀ b, H b = none ∨ b = a) → SqL K H a (ns.map V.int) → sp [.ref a] H (fun v _ => v = .bl true) fun _ _ _ => False) :
    codeAny (model P w) callerA (.call (.ref fa) ⟨[.ref a], []⟩) (fun r s' => r = .ok (.ret (.bool true)) ∧ OldK s₁.heap s'.heap ∧ s'.os = s₁.os ∧ AllBare s'.gens) s₁ := by
  have rv := vals_ints hi
  have len := hi.length
  cases hk : K.lookup a with
  | some o =>
    have e := KX a o hk
    rw [ha] at e
    cases e
    refine law_from (H := fun _ => none) KX hns hb hbb hlim hg ha hr F hbind (fun b u z => nomatch (show (none : Option HO) = some u from z)) (fun b u z => nomatch (show (none : Option HO) = some u from z)) (hsp _ (fun _ => .inl rfl) ?_)
    exact .inr ⟨_, vs.toArray, _, hk, rfl, rfl, rfl, by rw [List.size_toArray, len]; exact hl, by simpa using rv⟩
  | none =>
    let o : Obj := { cls := .type "list", data := .seq vs.toArray }
    have at_ : ∀ b u, upd (fun _ => none) a (HO.frz o (.lst (ns.map V.int))) b = some u → b = a ∧ u = .frz o (.lst (ns.map V.int)) := fun b u z => by
      by_cases h : b = a
      · subst h
        rw [upd_same] at z
        cases z
        exact ⟨rfl, rfl⟩
      · rw [upd_ne h] at z
        cases z
    refine law_from (H := upd (fun _ => none) a (.frz o (.lst (ns.map V.int)))) KX hns hb hbb hlim hg ha hr F hbind (fun b u z => ?_) (fun b u z => ?_) (hsp _ (fun b => ?_) (.inl (.inr ⟨o, upd_same⟩)))
    · obtain ⟨rfl, rfl⟩ := at_ b u z
      exact ⟨rfl, hk, _, _, rfl⟩
    · obtain ⟨rfl, rfl⟩ := at_ b u z
      exact ⟨ha, by rw [List.length_map]; exact hl, vs, _, rv, ha⟩
    · by_cases h : b = a
      · exact .inr h
      · exact .inl (by rw [upd_ne h])
end
/-- the goal that k_head leaves, from the law's promise -/
theorem walk_G {l : PySem.W.OpenLaw} {n k : Nat} {q : Program} {loose : List Str} {XP : (Str → Option Value) → Heap → Prop} {YP : World → Heap → Prop} {d : DefRec} {K : Params → PySem.W.Frag} {sp : World → (Str → Option Value) → Sp} {x : Str}
    (hn : l.most = some n) (hn2 : n ≤ sizeLine) (hdf : d.params.defaults = []) (hr : Room k callerA) (hY : ∀ (w : World) (h : Heap), YP w h → (K w.params).In h)
    (F : ∀ (w : World) (mg : Str → Option Value) (fa : Addr) (h : Heap), (K w.params).In h → h.Ns mainGlobals mg → mg d.name = some (.ref fa) →
      ∃ fd : FuncData, (∀ (s : Shared) (u : Value), BindsTo s fd ⟨[u], []⟩ [(x, u)]) ∧ ∀ base : Heap, (K w.params).In base → base.Ns mainGlobals mg → FnG l.prog w (K w.params) mg base k fa fd [x] (sp w mg))
    (hsp : ∀ (w : World) (mg : Str → Option Value) (H : Hp) (a : Addr) (ns : List Int), ns.length ≤ n → (∀ b, H b = none ∨ b = a) → SqL (K w.params) H a (ns.map V.int) → sp w mg [.ref a] H (fun v _ => v = .bl true) fun _ _ _ => False) :
    PySem.W.WalkO q loose XP YP l.row.toRowW d [] (fun f vs => PySem.call f vs) := by
  refine Att.attach_call hn hdf fun w s₀ s₁ mg mb fa o pm cd doc a vs ns G Y ho hd hcd hmg hobj hints hlen hg => ?_
  have KX := hY w _ Y
  obtain ⟨fd, hb, hF⟩ := F w mg fa _ KX G.T.g hmg
  exact law_callG KX G.T.g G.T.b G.T.builtins G.T.nolimit hg hobj hints (Nat.le_trans hlen hn2) hr hF hb fun H hO hS => hsp w mg H a ns hlen hO hS
end DL

namespace DL
open PySem PySem.Spec L2
open PyProof.Rows (envOfC)

/-- a def by trees: its arguments; what it hands back, what its lent arguments hold then; the errors -/
abbrev DF := List D → (T → List D → Prop) → (Str → List D → Prop) → Prop

/-- which of the lent ones own their fields -/
def hdM : List Bool → Bool
  | true :: _ => true
  | _ => false
section
variable (K : PySem.W.Frag) (mg : Str → Option Value)
/-- a lent object: its items frozen (false), its fields its own (true) -/
def OwK (k : Bool) (B H : Hp) (a : Addr) (d : D) : Prop := if k then OwD K mg B H a d else OwnC K mg B H a d
/-- arguments: data, or lent objects (true); the lent ones, all that they own -/
inductive ArgsR (F H : Hp) : List Bool → List Bool → List V → List D → List (Bool × Addr × List Addr) → List Addr → Prop
  | nil {dm} : ArgsR F H dm [] [] [] [] []
  | fz {dm ms vs ds as ls v d} : Rp K mg F v d → ArgsR F H dm.tail ms vs ds as ls → ArgsR F H dm (false :: ms) (v :: vs) (d :: ds) as ls
  | io {dm ms vs ds as ls a d} : (∀ b ∈ a :: fp d, F b = none) → OwK K mg (hdM dm) F H a d → ArgsR F H dm.tail ms vs ds as ls → ArgsR F H dm (true :: ms) (.ref a :: vs) (d :: ds) ((hdM dm, a, a :: fp d) :: as) (a :: fp d ++ ls)
inductive IosR (F H H0 : Hp) : List (Bool × Addr × List Addr) → List D → List Addr → Prop
  | nil : IosR F H H0 [] [] []
  | cons {k a l as d ds ls} : (∀ b ∈ a :: fp d, F b = none ∧ (b ∈ l ∨ H0 b = none)) → OwK K mg k F H a d → IosR F H H0 as ds ls → IosR F H H0 ((k, a, l) :: as) (d :: ds) (a :: fp d ++ ls)
/-- the heaps behind a call -/
structure Bhd (T : List (Addr × Str)) (F H : Hp) (as : List Addr) (F' G' H' : Hp) : Prop where
  f : Same F F'
  fh : Same F' H'
  gf : Same G' F'
  gn : ∀ a o, G' a = some o → H a = none
  fn : ∀ a o, F' a = some o → F a = none → H a = none
  h : ∀ a o, H a = some o → a ∉ as → (∀ ps, o ≠ .tbl ps) → H' a = some o
  d : ∀ a o, H a = some o → ∃ u, H' a = some u
  tb : ∀ p ∈ T, TabF F' H' p.1 p.2
def RRs (F' G' H' H : Hp) (v : V) : T → Prop
  | .fz d n => Rp K mg (sel n G' F') v d
  | .ow d n => ∃ a, v = .ref a ∧ F' a = none ∧ OwnC K mg (sel n G' F') H' a d ∧ H a = none
  | .dp d => ∃ a, v = .ref a ∧ OwD K mg F' H' a d ∧ (a :: fp d).Nodup ∧ ∀ b ∈ a :: fp d, F' b = none ∧ H b = none
  | .al _ => False
def spX (tbs : List (Addr × Str)) (dm ms : List Bool) (Φ : DF) : Sp := fun vs H Q E => ∃ (F : Hp) (ds : List D) (as : List (Bool × Addr × List Addr)) (ls : List Addr) (P : T → List D → Prop) (PE : Str → List D → Prop), (Same F H ∧ ∀ p ∈ tbs, TabF F H p.1 p.2) ∧ ArgsR K mg F H dm ms vs ds as ls ∧ ls.Nodup ∧ Φ ds P PE ∧
  (∀ t dio ls' F' G' H' v, P t dio → Bhd tbs F H ls F' G' H' → IosR K mg F' H' H as dio ls' → ls'.Nodup → RRs K mg F' G' H' H v t → (∀ b ∈ adT v t, b ∉ ls') → Q v H') ∧
  (∀ c dio ls' F' G' H' C, PE c dio → Bhd tbs F H ls F' G' H' → IosR K mg F' H' H as dio ls' → ls'.Nodup → mg c = some (.ref C) → E (.ref C) none H')
abbrev spD (tbs : List (Addr × Str)) (ms : List Bool) (Φ : DF) : Sp := spX K mg tbs [] ms Φ
end

def ioK : Bool → D → Slot
  | true, d => .di d
  | false, d => .io d
theorem ioK_inj {k l : Bool} {x y : D} (h : ioK k x = ioK l y) : x = y := by cases k <;> cases l <;> cases h <;> rfl
theorem ioK_fz {k : Bool} {x y : D} {n : Bool} (h : Slot.fz x n = ioK k y) : False := by cases k <;> cases h
def iniX : List Bool → List Bool → List D → DEnv
  | dm, true :: ms, d :: ds => ioK (hdM dm) d :: iniX dm.tail ms ds
  | dm, false :: ms, d :: ds => .fz d false :: iniX dm.tail ms ds
  | _, _, _ => []
/-- the slots at the entry -/
def env0X (dm ms : List Bool) (ds : List D) (n : Nat) : DEnv := iniX dm ms ds ++ List.replicate (n - ds.length) .un
def env0 (ms : List Bool) (ds : List D) (n : Nat) : DEnv := iniX [] ms ds ++ List.replicate (n - ds.length) .un
def getIo : List Bool → DEnv → Option (List D)
  | true :: ms, .io d :: e => (getIo ms e).map (d :: ·)
  | true :: ms, .di d :: e => (getIo ms e).map (d :: ·)
  | false :: ms, _ :: e => getIo ms e
  | [], _ => some []
  | _, _ => none
def bodyEnds (ms : List Bool) (P : T → List D → Prop) (PE : Str → List D → Prop) : DEnds where
  nx := fun e => ∃ dio, getIo ms e = some dio ∧ P (.fz .none true) dio
  rt := fun t e => ∃ dio, getIo ms e = some dio ∧ P t dio
  bk := fun _ => False
  ct := fun _ => False
  ex := fun c e => ∃ dio, getIo ms e = some dio ∧ PE c dio
def iosAt : Nat → List Bool → List (Bool × Addr × List Addr) → List (Nat × Bool × Addr × List Addr)
  | i, true :: ms, a :: as => (i, a) :: iosAt (i + 1) ms as
  | i, false :: ms, as => iosAt (i + 1) ms as
  | _, _, _ => []
section
variable {K : PySem.W.Frag} {mg : Str → Option Value} {F H : Hp}
theorem OwnC.nofp {B : Hp} {a : Addr} {d : D} : OwnC K mg B H a d → fp d = [] := by
  rintro (⟨ds, vs, h1, h2, h3⟩ | ⟨ds, vs, h1, h2, h3, h4⟩ | ⟨ds, vs, h1, h2, h3, h4⟩ | ⟨cn, fs, C, dx, fvs, h1, h2, h3, h4, h5⟩) <;> (subst h1; rfl)
theorem OwK.there {B : Hp} {k : Bool} {a : Addr} {d : D} (h : OwK K mg k B H a d) : ∀ b ∈ a :: fp d, ∃ o, H b = some o ∧ ∀ ps, o ≠ .tbl ps := by
  cases k with
  | true => exact OwD.there h
  | false =>
    have h' : OwnC K mg B H a d := h
    intro b hb
    rw [h'.nofp, List.mem_singleton] at hb
    subst hb
    exact h'.noTbl
theorem OwK.mono {B B' : Hp} {k : Bool} {a : Addr} {d : D} (e : Same B B') (h : OwK K mg k B H a d) : OwK K mg k B' H a d := by
  cases k with
  | true => exact OwD.mono e h
  | false => exact OwnC.mono e h
theorem iosAt_ge : ∀ {ms : List Bool} {as : List (Bool × Addr × List Addr)} {i : Nat} {p : Nat × Bool × Addr × List Addr}, p ∈ iosAt i ms as → i ≤ p.1
  | [], _, _, _, h => by simp [iosAt] at h
  | true :: ms, [], _, _, h => by simp [iosAt] at h
  | true :: ms, a :: as, i, p, h => by
    simp only [iosAt, List.mem_cons] at h
    rcases h with rfl | h
    · exact Nat.le_refl _
    · have := iosAt_ge h; omega
  | false :: ms, as, i, p, h => by
    simp only [iosAt] at h
    have := iosAt_ge h; omega
/-- what stands at a slot of the entry -/
theorem ini_at {dm ms : List Bool} {vs : List V} {ds : List D} {as : List (Bool × Addr × List Addr)} {ls : List Addr} (h : ArgsR K mg F H dm ms vs ds as ls) : ∀ (k i : Nat) (s : Slot), (iniX dm ms ds)[i]? = some s →
    (∃ v d, s = .fz d false ∧ vs[i]? = some v ∧ Rp K mg F v d) ∨ ∃ kk a d, s = ioK kk d ∧ vs[i]? = some (.ref a) ∧ (∀ b ∈ a :: fp d, F b = none ∧ b ∈ ls) ∧ OwK K mg kk F H a d ∧ (k + i, kk, a, a :: fp d) ∈ iosAt k ms as := by
  induction h with
  | nil => intro k i s e; simp [iniX] at e
  | fz r _ ih =>
    intro k i s e
    cases i with
    | zero => simp [iniX] at e; subst e; exact .inl ⟨_, _, rfl, rfl, r⟩
    | succ i =>
      rcases ih (k + 1) i s (by simpa [iniX] using e) with ⟨v, d, h1, h2, h3⟩ | ⟨kk, a, d, h1, h2, h3, h4, h5⟩
      · exact .inl ⟨v, d, h1, by simpa using h2, h3⟩
      · refine .inr ⟨kk, a, d, h1, by simpa using h2, h3, h4, ?_⟩
        have : k + 1 + i = k + (i + 1) := by omega
        rw [this] at h5
        exact h5
  | io n c _ ih =>
    intro k i s e
    cases i with
    | zero => simp [iniX] at e; subst e; exact .inr ⟨_, _, _, rfl, rfl, fun b hb => ⟨n b hb, List.mem_append_left _ hb⟩, c, List.mem_cons_self⟩
    | succ i =>
      rcases ih (k + 1) i s (by simpa [iniX] using e) with ⟨v, d, h1, h2, h3⟩ | ⟨kk, a, d, h1, h2, h3, h4, h5⟩
      · exact .inl ⟨v, d, h1, by simpa using h2, h3⟩
      · refine .inr ⟨kk, a, d, h1, by simpa using h2, fun b hb => ⟨(h3 b hb).1, List.mem_append_right _ (h3 b hb).2⟩, h4, ?_⟩
        have : k + 1 + i = k + (i + 1) := by omega
        rw [this] at h5
        exact List.mem_cons_of_mem _ h5
theorem args_len {dm ms : List Bool} {vs : List V} {ds : List D} {as : List (Bool × Addr × List Addr)} {ls : List Addr} (h : ArgsR K mg F H dm ms vs ds as ls) : vs.length = ms.length ∧ ds.length = ms.length ∧ (iniX dm ms ds).length = ms.length := by
  induction h with
  | nil => exact ⟨rfl, rfl, rfl⟩
  | fz _ _ ih => obtain ⟨h1, h2, h3⟩ := ih; simp [iniX, h1, h2, h3]
  | io _ _ _ ih => obtain ⟨h1, h2, h3⟩ := ih; simp [iniX, h1, h2, h3]
theorem ios_back {dm ms : List Bool} {vs : List V} {ds : List D} {as : List (Bool × Addr × List Addr)} {ls : List Addr} (h : ArgsR K mg F H dm ms vs ds as ls) : ∀ (k : Nat) (p : Nat × Bool × Addr × List Addr), p ∈ iosAt k ms as → ∃ i d, p.1 = k + i ∧ (iniX dm ms ds)[i]? = some (ioK p.2.1 d) ∧ vs[i]? = some (.ref p.2.2.1) ∧ (∀ b ∈ p.2.2.2, b ∈ ls) ∧ p.2.2.2 = p.2.2.1 :: fp d ∧ F p.2.2.1 = none ∧ OwK K mg p.2.1 F H p.2.2.1 d := by
  induction h with
  | nil => intro k p e; simp [iosAt] at e
  | fz r _ ih =>
    intro k p e
    obtain ⟨i, d, h1, h2, h3, h4⟩ := ih (k + 1) p (by simpa [iosAt] using e)
    exact ⟨i + 1, d, by omega, by simpa [iniX] using h2, by simpa using h3, h4⟩
  | io n c _ ih =>
    intro k p e
    simp only [iosAt, List.mem_cons] at e
    rcases e with rfl | e
    · exact ⟨0, _, rfl, rfl, rfl, fun b hb => List.mem_append_left _ hb, rfl, n _ List.mem_cons_self, c⟩
    · obtain ⟨i, d, h1, h2, h3, h4, h5⟩ := ih (k + 1) p e
      exact ⟨i + 1, d, by omega, by simpa [iniX] using h2, by simpa using h3, fun b hb => List.mem_append_right _ (h4 b hb), h5⟩
theorem ls_there {dm ms : List Bool} {vs : List V} {ds : List D} {as : List (Bool × Addr × List Addr)} {ls : List Addr} (h : ArgsR K mg F H dm ms vs ds as ls) : ∀ b ∈ ls, F b = none ∧ ∃ o, H b = some o := by
  induction h with
  | nil => intro b hb; cases hb
  | fz _ _ ih => exact ih
  | io n c _ ih =>
    intro b hb
    rcases List.mem_append.mp hb with hb | hb
    · obtain ⟨o, e, _⟩ := c.there b hb
      exact ⟨n b hb, o, e⟩
    · exact ih b hb
/-- two lent objects that share a place are one -/
theorem ini_inj {dm ms : List Bool} {vs : List V} {ds : List D} {as : List (Bool × Addr × List Addr)} {ls : List Addr} (h : ArgsR K mg F H dm ms vs ds as ls) : ls.Nodup → ∀ (i j : Nat) (k l : Bool) (d e : D) (a b c : Addr), (iniX dm ms ds)[i]? = some (ioK k d) → (iniX dm ms ds)[j]? = some (ioK l e) →
    vs[i]? = some (.ref a) → vs[j]? = some (.ref b) → c ∈ a :: fp d → c ∈ b :: fp e → i = j := by
  have mem : ∀ {dm ms vs ds as ls}, ArgsR K mg F H dm ms vs ds as ls → ∀ (i : Nat) (k : Bool) (d : D) (a : Addr), (iniX dm ms ds)[i]? = some (ioK k d) → vs[i]? = some (.ref a) → ∀ c ∈ a :: fp d, c ∈ ls := by
    intro dm ms vs ds as ls h i k d a e1 e2 c hc
    rcases ini_at h 0 i _ e1 with ⟨v, x, q, _⟩ | ⟨kk, a', d', q1, q2, q3, q4, _⟩
    · exact (ioK_fz q.symm).elim
    · have := ioK_inj q1
      subst this
      rw [e2] at q2; cases q2
      exact (q3 c hc).2
  induction h with
  | nil => intro _ i j k l d e a b c h; simp [iniX] at h
  | fz r _ ih =>
    intro nd i j k l d e a b c h1 h2 h3 h4 h5 h6
    cases i with
    | zero => simp only [iniX, List.getElem?_cons_zero, Option.some.injEq] at h1; exact (ioK_fz h1).elim
    | succ i =>
      cases j with
      | zero => simp only [iniX, List.getElem?_cons_zero, Option.some.injEq] at h2; exact (ioK_fz h2).elim
      | succ j => rw [ih nd i j k l d e a b c (by simpa [iniX] using h1) (by simpa [iniX] using h2) (by simpa using h3) (by simpa using h4) h5 h6]
  | io n k0 r ih =>
    intro nd i j k l d e a b c h1 h2 h3 h4 h5 h6
    have nd' := List.nodup_append.mp nd
    cases i with
    | zero =>
      simp only [iniX, List.getElem?_cons_zero, Option.some.injEq] at h1 h3
      have e1 := ioK_inj h1
      cases h3
      cases j with
      | zero => rfl
      | succ j =>
        have := mem r j l e b (by simpa [iniX] using h2) (by simpa using h4) c h6
        exact absurd rfl (nd'.2.2 c (by rw [e1]; exact h5) c this)
    | succ i =>
      have m1 := mem r i k d a (by simpa [iniX] using h1) (by simpa using h3) c h5
      cases j with
      | zero =>
        simp only [iniX, List.getElem?_cons_zero, Option.some.injEq] at h2 h4
        have e1 := ioK_inj h2
        cases h4
        exact absurd rfl (nd'.2.2 c (by rw [e1]; exact h6) c m1)
      | succ j => rw [ih nd'.2.1 i j k l d e a b c (by simpa [iniX] using h1) (by simpa [iniX] using h2) (by simpa using h3) (by simpa using h4) h5 h6]
theorem fp_nodup {dm ms : List Bool} {vs : List V} {ds : List D} {as : List (Bool × Addr × List Addr)} {ls : List Addr} (h : ArgsR K mg F H dm ms vs ds as ls) : ls.Nodup → ∀ (i : Nat) (k : Bool) (d : D) (a : Addr), (iniX dm ms ds)[i]? = some (ioK k d) → vs[i]? = some (.ref a) → (a :: fp d).Nodup := by
  induction h with
  | nil => intro _ i k d a e; simp [iniX] at e
  | fz r _ ih =>
    intro nd i k d a e1 e2
    cases i with
    | zero => simp only [iniX, List.getElem?_cons_zero, Option.some.injEq] at e1; exact (ioK_fz e1).elim
    | succ i => exact ih nd i k d a (by simpa [iniX] using e1) (by simpa using e2)
  | io n c _ ih =>
    intro nd i k d a e1 e2
    have nd' := List.nodup_append.mp nd
    cases i with
    | zero =>
      simp only [iniX, List.getElem?_cons_zero, Option.some.injEq] at e1 e2
      have := ioK_inj e1
      subst this
      cases e2
      exact nd'.1
    | succ i => exact ih nd'.2.1 i k d a (by simpa [iniX] using e1) (by simpa using e2)
def ioA (l : List (Nat × Bool × Addr × List Addr)) : List (Nat × Addr) := l.filterMap fun p => if p.2.1 then none else some (p.1, p.2.2.1)
def diA (l : List (Nat × Bool × Addr × List Addr)) : List (Nat × Addr × List Addr) := l.filterMap fun p => if p.2.1 then some (p.1, p.2.2) else none
theorem mem_ioA {l : List (Nat × Bool × Addr × List Addr)} {p : Nat × Addr} : p ∈ ioA l ↔ ∃ x, (p.1, false, p.2, x) ∈ l := by
  unfold ioA
  rw [List.mem_filterMap]
  constructor
  · rintro ⟨⟨i, k, a, x⟩, h1, h2⟩
    cases k
    · simp at h2; subst h2; exact ⟨x, h1⟩
    · simp at h2
  · rintro ⟨x, h⟩
    exact ⟨_, h, by simp⟩
theorem mem_diA {l : List (Nat × Bool × Addr × List Addr)} {p : Nat × Addr × List Addr} : p ∈ diA l ↔ (p.1, true, p.2) ∈ l := by
  unfold diA
  rw [List.mem_filterMap]
  constructor
  · rintro ⟨⟨i, k, a⟩, h1, h2⟩
    cases k
    · simp at h2
    · simp at h2; subst h2; exact h1
  · intro h
    exact ⟨_, h, by simp⟩
theorem iosAt_uniq : ∀ {ms : List Bool} {as : List (Bool × Addr × List Addr)} {i : Nat} {p q : Nat × Bool × Addr × List Addr}, p ∈ iosAt i ms as → q ∈ iosAt i ms as → p.1 = q.1 → p = q
  | [], _, _, _, _, h, _, _ => by simp [iosAt] at h
  | true :: ms, [], _, _, _, h, _, _ => by simp [iosAt] at h
  | true :: ms, a :: as, i, p, q, h, h', e => by
    simp only [iosAt, List.mem_cons] at h h'
    rcases h with rfl | h
    · rcases h' with rfl | h'
      · rfl
      · have := iosAt_ge h'; simp only at e; omega
    · rcases h' with rfl | h'
      · have := iosAt_ge h; simp only at e; omega
      · exact iosAt_uniq h h' e
  | false :: ms, as, i, p, q, h, h', e => iosAt_uniq (ms := ms) (i := i + 1) (by simpa [iosAt] using h) (by simpa [iosAt] using h') e
/-- the state at the entry -/
theorem start_env {tbs : List (Addr × Str)} {dm ms : List Bool} {vs : List V} {ds : List D} {as : List (Bool × Addr × List Addr)} {ls : List Addr} {N : List Str} (h : ArgsR K mg F H dm ms vs ds as ls) (nd : ls.Nodup) (s : Same F H) (hl : ms.length ≤ N.length) (ht : ∀ p ∈ tbs, TabF F H p.1 p.2) :
    EnvR K mg ⟨ioA (iosAt 0 ms as), H, F, diA (iosAt 0 ms as), ls, tbs⟩ F (fun _ => none) H (L2.start N vs) (env0X dm ms ds N.length) := by
  obtain ⟨l1, l2, l3⟩ := args_len h
  have sv : ∀ {i : Nat} {v : V}, vs[i]? = some v → (L2.start N vs)[i]? = some (some v) := fun {i v} e => by
    unfold L2.start
    rw [List.getElem?_append_left (by rw [List.length_map]; exact len_of e), List.getElem?_map, e]
    rfl
  have sl : ∀ {i : Nat} {st : Slot}, (env0X dm ms ds N.length)[i]? = some st → (iniX dm ms ds)[i]? = some st ∨ st = .un := fun {i st} e => by
    unfold env0X at e
    by_cases hi : i < (iniX dm ms ds).length
    · rw [List.getElem?_append_left hi] at e; exact .inl e
    · rw [List.getElem?_append_right (by omega), List.getElem?_replicate] at e
      split at e
      · cases e; exact .inr rfl
      · cases e
  -- the slot of a lent object
  have at' : ∀ (p : Nat × Bool × Addr × List Addr), p ∈ iosAt 0 ms as → ∃ d, (env0X dm ms ds N.length)[p.1]? = some (ioK p.2.1 d) ∧ (L2.start N vs)[p.1]? = some (some (.ref p.2.2.1)) ∧ F p.2.2.1 = none ∧ (∀ b ∈ p.2.2.2, b ∈ ls) ∧ OwK K mg p.2.1 F H p.2.2.1 d := fun p hp => by
    obtain ⟨i, d, h1, h2, h3, h4, _, h5, h6⟩ := ios_back h 0 p hp
    rw [Nat.zero_add] at h1
    refine ⟨d, ?_, by rw [h1]; exact sv h3, h5, h4, h6⟩
    rw [h1]
    unfold env0X
    rw [List.getElem?_append_left (len_of h2)]
    exact h2
  refine ⟨s, fun b o e => (by have e' : (none : Option HO) = some o := e; cases e'), .refl _, fun b o e => (by have e' : (none : Option HO) = some o := e; cases e'), fun b o e k => (by rw [show F b = none from k] at e; cases e), fun b o e k _ _ => e, fun b o e => ⟨o, e⟩, ?_, fun i st e => ?_, fun i j st t a e1 o1 e2 o2 a1 a2 => ?_, fun p hp => ?_, fun p hp => ?_, fun p hp => ?_, fun b hb => ls_there h b hb, ht⟩
  · unfold env0X L2.start
    rw [List.length_append, List.length_append, List.length_replicate, List.length_replicate, List.length_map, l3, l2, l1]
  · rcases sl e with e | rfl
    · rcases ini_at h 0 i st e with ⟨v, d, rfl, h2, h3⟩ | ⟨kk, a, d, rfl, h2, h3, h4, h5⟩
      · exact ⟨v, sv h2, h3⟩
      · rw [Nat.zero_add] at h5
        cases kk with
        | false => exact ⟨a, sv h2, (h3 a List.mem_cons_self).1, h4, mem_ioA.mpr ⟨_, h5⟩⟩
        | true => exact ⟨a, sv h2, h4, fp_nodup h nd i true d a e h2, fun b hb => ⟨(h3 b hb).1, .inr ⟨(i, a, a :: fp d), mem_diA.mpr h5, rfl, hb⟩⟩⟩
    · trivial
  · have own : ∀ {i : Nat} {st : Slot}, (env0X dm ms ds N.length)[i]? = some st → isOwn st = true → ∀ {c : Addr}, OwnAt (L2.start N vs) i st c → ∃ k a d, (iniX dm ms ds)[i]? = some (ioK k d) ∧ vs[i]? = some (.ref a) ∧ c ∈ a :: fp d := fun {i st} e o {c} ea => by
      rcases sl e with e | rfl
      · rcases ini_at h 0 i st e with ⟨v, d, rfl, h2, h3⟩ | ⟨kk, b, d, rfl, h2, h3, h4, h5⟩
        · cases o
        · refine ⟨kk, b, d, e, h2, ?_⟩
          rcases ea with ea | ea
          · rw [sv h2] at ea
            cases ea
            exact List.mem_cons_self
          · refine List.mem_cons_of_mem _ ?_
            cases kk with
            | false => cases ea
            | true => exact ea
      · cases o
    obtain ⟨l1, b1, d1, k1, k2, k3⟩ := own e1 o1 a1
    obtain ⟨l2, b2, d2, k4, k5, k6⟩ := own e2 o2 a2
    exact ini_inj h nd i j l1 l2 d1 d2 b1 b2 a k1 k4 k2 k5 k3 k6
  · obtain ⟨x, hx⟩ := mem_ioA.mp hp
    obtain ⟨d, h1, h2, h3, _, h4⟩ := at' _ hx
    exact ⟨d, h1, h2⟩
  · obtain ⟨x, hx⟩ := mem_ioA.mp hp
    obtain ⟨d, h1, h2, h3, h4⟩ := at' _ hx
    exact h3
  · obtain ⟨d, h1, h2, h3, h5, h4⟩ := at' _ (mem_diA.mp hp)
    exact ⟨d, h1, h2, h5⟩
/-- what the lent objects hold at the end -/
theorem getIo_ok {Z : Zx} {F' G' H' : Hp} {σ : Sg} {env : DEnv} {ms : List Bool} {as : List (Bool × Addr × List Addr)} (k : Nat) (R : EnvR K mg Z F' G' H' σ env) (hu : ∀ p ∈ Z.ia, ∀ q ∈ Z.ia, p.1 = q.1 → p = q) (hz : ∀ p ∈ iosAt k ms as, (p.2.1 = false → (p.1, p.2.2.1) ∈ Z.io) ∧ (p.2.1 = true → (p.1, p.2.2) ∈ Z.ia) ∧ p.2.2.1 ∈ p.2.2.2) (hl : as.length = (ms.filter id).length) : ∀ {e : DEnv} {dio : List D}, e = env.drop k → getIo ms e = some dio →
    ∃ ls, IosR K mg F' H' Z.H0 as dio ls ∧ ls.Nodup ∧ ∀ b ∈ ls, ∃ j s, k ≤ j ∧ env[j]? = some s ∧ isLent s = true ∧ OwnAt σ j s b := by
  induction ms generalizing k as with
  | nil =>
    intro e dio _ h
    cases h
    cases as with
    | nil => exact ⟨[], .nil, List.nodup_nil, fun b hb => by cases hb⟩
    | cons => simp at hl
  | cons m ms ih =>
    intro e dio ee h
    cases e with
    | nil => cases m <;> simp [getIo] at h
    | cons s e =>
      have e1 : env[k]? = some s := by
        have := congrArg (fun l : DEnv => l[0]?) ee
        simpa using this.symm
      have e2 : e = env.drop (k + 1) := by
        have := congrArg List.tail ee
        simpa using this
      cases m with
      | false =>
        simp only [getIo] at h
        obtain ⟨ls, k1, k2, k3⟩ := ih (k + 1) (fun p hp => hz p (by simpa [iosAt] using hp)) (by simpa using hl) e2 h
        exact ⟨ls, k1, k2, fun b hb => by obtain ⟨j, s, q, r⟩ := k3 b hb; exact ⟨j, s, by omega, r⟩⟩
      | true =>
        cases as with
        | nil => simp at hl
        | cons ka as =>
          obtain ⟨kk, a, l⟩ := ka
          obtain ⟨z1, z2, z3⟩ := hz (k, kk, a, l) (by simp [iosAt])
          -- the rest, and the first
          have rest : ∀ {dr : List D}, getIo ms e = some dr → ∃ ls, IosR K mg F' H' Z.H0 as dr ls ∧ ls.Nodup ∧ ∀ b ∈ ls, ∃ j s, k + 1 ≤ j ∧ env[j]? = some s ∧ isLent s = true ∧ OwnAt σ j s b := fun {dr} e3 =>
            ih (k + 1) (fun p hp => hz p (by simp [iosAt, hp])) (by simpa using hl) e2 e3
          have fin : ∀ {d : D} {dr : List D}, isLent s = true → (∀ b ∈ a :: fp d, OwnAt σ k s b) → (a :: fp d).Nodup → (∀ b ∈ a :: fp d, F' b = none ∧ (b ∈ l ∨ Z.H0 b = none)) → OwK K mg kk F' H' a d → getIo ms e = some dr →
              ∃ ls, IosR K mg F' H' Z.H0 ((kk, a, l) :: as) (d :: dr) ls ∧ ls.Nodup ∧ ∀ b ∈ ls, ∃ j s, k ≤ j ∧ env[j]? = some s ∧ isLent s = true ∧ OwnAt σ j s b := fun {d dr} hs ho hn hb hc e3 => by
            obtain ⟨ls, k1, k2, k3⟩ := rest e3
            refine ⟨a :: fp d ++ ls, .cons hb hc k1, List.nodup_append.mpr ⟨hn, k2, fun x hx y hy z => ?_⟩, fun b hb => ?_⟩
            · subst z
              obtain ⟨j, t, q1, q2, q3, q4⟩ := k3 x hy
              have := R.dist k j s t x e1 (lent_own hs) q2 (lent_own q3) (ho x hx) q4
              omega
            · rcases List.mem_append.mp hb with hb | hb
              · exact ⟨k, s, Nat.le_refl _, e1, hs, ho b hb⟩
              · obtain ⟨j, t, q, r⟩ := k3 b hb
                exact ⟨j, t, by omega, r⟩
          cases s with
          | io d =>
            simp only [getIo] at h
            cases e3 : getIo ms e with
            | none => rw [e3] at h; cases h
            | some dr =>
              rw [e3] at h
              cases h
              obtain ⟨b, h1, h2, h3, h4⟩ := R.slot k _ e1
              cases kk with
              | true =>
                obtain ⟨d', q, _⟩ := R.di _ (z2 rfl)
                rw [e1] at q; cases q
              | false =>
                obtain ⟨d', _, q2⟩ := R.io _ (z1 rfl)
                have q2' : σ[k]? = some (some (V.ref a)) := q2
                rw [h1] at q2'
                cases q2'
                have ef := h3.nofp
                refine fin rfl (fun x hx => ?_) (by rw [ef]; simp) (fun x hx => ?_) h3 e3
                · rw [ef, List.mem_singleton] at hx; subst hx; exact .inl h1
                · rw [ef, List.mem_singleton] at hx; subst hx; exact ⟨h2, .inl z3⟩
          | di d =>
            simp only [getIo] at h
            cases e3 : getIo ms e with
            | none => rw [e3] at h; cases h
            | some dr =>
              rw [e3] at h
              cases h
              obtain ⟨b, h1, h2, h3, h4⟩ := R.slot k _ e1
              cases kk with
              | false =>
                obtain ⟨d', q, _⟩ := R.io _ (z1 rfl)
                rw [e1] at q; cases q
              | true =>
                obtain ⟨d', _, q2, _⟩ := R.di _ (z2 rfl)
                have q2' : σ[k]? = some (some (V.ref a)) := q2
                rw [h1] at q2'
                cases q2'
                exact fin rfl (fun x hx => (List.mem_cons.mp hx).imp (fun z => by rw [z]; exact h1) id) h3 (fun x hx => ⟨(h4 x hx).1, (h4 x hx).2.symm.imp (fun ⟨p, hp, e, hm⟩ => by rw [hu p hp _ (z2 rfl) e] at hm; exact hm) id⟩) h2 e3
          | un => simp [getIo] at h
          | fz => simp [getIo] at h
          | ow => simp [getIo] at h
          | dp => simp [getIo] at h
theorem args_count {dm ms : List Bool} {vs : List V} {ds : List D} {as : List (Bool × Addr × List Addr)} {ls : List Addr} (h : ArgsR K mg F H dm ms vs ds as ls) : as.length = (ms.filter id).length := by
  induction h with
  | nil => rfl
  | fz _ _ ih => simpa using ih
  | io _ _ _ ih => simp [ih]
/-- behind the body -/
theorem env_bhd {Z : Zx} {F' G' H' : Hp} {σ : Sg} {env : DEnv} {ls : List Addr} (R : EnvR K mg Z F' G' H' σ env) (hF : Z.F0 = F) (hH : Z.H0 = H) (hz : ∀ p ∈ Z.io, p.2 ∈ ls) (hx : ∀ a ∈ Z.ix, a ∈ ls) : Bhd Z.T F H ls F' G' H' := by
  subst hF hH
  exact ⟨R.f0, R.fh, R.gf, R.gn, R.fn, fun a o e n t => R.frame a o e (fun p hp z => n (z ▸ hz p hp)) (fun z => n (hx a z)) t, R.dom, R.tb⟩
end
section
variable {P : Program} {w : World} {K : PySem.W.Frag} {mg : Str → Option Value} {base : Heap}
/-- THE RULE for a def by trees -/
theorem def_okX {tbs : List (Addr × Str)} {x qual : Str} {st : Stmt} {f : Addr} {fd : FuncData} {N ps : List Str} {k : Nat} {dm ms : List Bool} {Φ : DF} {b : DSt} (Fn : Fun K x qual st f fd) (S : FnScope N ps (defScope st)) (hm : ms.length = ps.length)
    (hbody : ∀ (cdv : Value) (A : Around) (outer : List Env) (s : Shared) (H : Hp) (E : XK) (Z : Zx), Z.T = tbs → RoomG k (A.deeper (envOfC qual (defScope st) s.heap.objs.size f cdv)) →
      DSs (cxOf (L2.CX P w) P w K mg base N qual (defScope st) f cdv A outer s H E) Z (fun cls d _ H => E cls d H) (defBody st) b)
    (hw : ∀ ds Q E, Φ ds Q E → b (env0X dm ms ds N.length) (bodyEnds ms Q E)) : FnG P w K mg base (k + 1) f fd ps (spX K mg tbs dm ms Φ) := by
  have hpl : ps.length ≤ N.length := by have := congrArg List.length S.pre; rw [List.length_take] at this; omega
  refine okG Fn S (fun vs H Q E h => ?_) fun cdv A outer s H vs Q E hr h => ?_
  · obtain ⟨F, ds, as, ls, P', PE, _, ha, _⟩ := h
    rw [(args_len ha).1, hm]
  · obtain ⟨F, ds, as, ls, P', PE, hs, ha, nd, hΦ, hQ, hE⟩ := h
    have inls : ∀ p ∈ iosAt 0 ms as, (∀ b ∈ p.2.2.2, b ∈ ls) ∧ p.2.2.1 ∈ p.2.2.2 := fun p hp => by
      obtain ⟨_, _, _, _, _, h4, h5, _⟩ := ios_back ha 0 p hp
      exact ⟨h4, by rw [h5]; exact List.mem_cons_self⟩
    have hz : ∀ p ∈ (⟨ioA (iosAt 0 ms as), H, F, diA (iosAt 0 ms as), ls, tbs⟩ : Zx).io, p.2 ∈ ls := fun p hp => by
      obtain ⟨x, hx⟩ := mem_ioA.mp hp
      exact (inls _ hx).1 _ (inls _ hx).2
    have hx : ∀ b ∈ (⟨ioA (iosAt 0 ms as), H, F, diA (iosAt 0 ms as), ls, tbs⟩ : Zx).ix, b ∈ ls := fun b hb => hb
    have hu : ∀ p ∈ (⟨ioA (iosAt 0 ms as), H, F, diA (iosAt 0 ms as), ls, tbs⟩ : Zx).ia, ∀ q ∈ (⟨ioA (iosAt 0 ms as), H, F, diA (iosAt 0 ms as), ls, tbs⟩ : Zx).ia, p.1 = q.1 → p = q := fun p hp q hq e => by
      have := iosAt_uniq (mem_diA.mp hp) (mem_diA.mp hq) e
      obtain ⟨p1, p2⟩ := p
      obtain ⟨q1, q2⟩ := q
      cases this
      rfl
    have hy : ∀ p ∈ iosAt 0 ms as, (p.2.1 = false → (p.1, p.2.2.1) ∈ ioA (iosAt 0 ms as)) ∧ (p.2.1 = true → (p.1, p.2.2) ∈ diA (iosAt 0 ms as)) ∧ p.2.2.1 ∈ p.2.2.2 := fun p hp => by
      obtain ⟨i, k, a, l⟩ := p
      exact ⟨fun e => mem_ioA.mpr (by cases e; exact ⟨_, hp⟩), fun e => mem_diA.mpr (by cases e; exact hp), (inls _ hp).2⟩
    have count := args_count ha
    refine ⟨_, hbody cdv A outer s H E ⟨ioA (iosAt 0 ms as), H, F, diA (iosAt 0 ms as), ls, tbs⟩ rfl hr, F, fun _ => none, env0X dm ms ds N.length, bodyEnds ms P' PE, start_env ha nd hs.1 (by omega) hs.2, hw _ _ _ hΦ, ?_, ?_, ?_, ?_, ?_⟩
    · rintro env' F' G' H' σ' ⟨dio, e, p⟩ R u
      obtain ⟨ls', k1, k2, k3⟩ := getIo_ok 0 R hu hy count rfl e
      exact hQ _ dio ls' F' G' H' .non p (env_bhd R rfl rfl hz hx) k1 k2 .non (fun b hb => by cases hb)
    · rintro t env' F' G' H' σ' v ⟨dio, e, p⟩ R r ro
      obtain ⟨ls', k1, k2, k3⟩ := getIo_ok 0 R hu hy count rfl e
      refine hQ _ dio ls' F' G' H' v p (env_bhd R rfl rfl hz hx) k1 k2 ?_ fun b hb hl => ?_
      · cases t with
        | fz d n => exact r
        | ow d n => exact r
        | al i => exact r
        | dp d => exact r
      · obtain ⟨j, s, _, q1, q2, q3⟩ := k3 b hl
        exact ro b hb j s q1 q2 q3
    · exact fun env' F' G' H' σ' z => z.elim
    · exact fun env' F' G' H' σ' z => z.elim
    · rintro σ c env' F' G' H' C ⟨dio, e, p⟩ R m
      obtain ⟨ls', k1, k2, k3⟩ := getIo_ok 0 R hu hy count rfl e
      exact hE c dio ls' F' G' H' C p (env_bhd R rfl rfl hz hx) k1 k2 m
theorem def_ok {tbs : List (Addr × Str)} {x qual : Str} {st : Stmt} {f : Addr} {fd : FuncData} {N ps : List Str} {k : Nat} {ms : List Bool} {Φ : DF} {b : DSt} (Fn : Fun K x qual st f fd) (S : FnScope N ps (defScope st)) (hm : ms.length = ps.length)
    (hbody : ∀ (cdv : Value) (A : Around) (outer : List Env) (s : Shared) (H : Hp) (E : XK) (Z : Zx), Z.T = tbs → RoomG k (A.deeper (envOfC qual (defScope st) s.heap.objs.size f cdv)) →
      DSs (cxOf (L2.CX P w) P w K mg base N qual (defScope st) f cdv A outer s H E) Z (fun cls d _ H => E cls d H) (defBody st) b)
    (hw : ∀ ds Q E, Φ ds Q E → b (env0 ms ds N.length) (bodyEnds ms Q E)) : FnG P w K mg base (k + 1) f fd ps (spD K mg tbs ms Φ) :=
  def_okX (dm := []) Fn S hm hbody hw
end
end DL

namespace DL
open PySem PySem.Spec L2

/-- the data arguments are frozen -/
def frzM (env : DEnv) : List Bool → List T → Option DEnv
  | [], [] => some env
  | true :: ms, _ :: ts => frzM env ms ts
  | false :: ms, t :: ts => (frz1 env t).bind fun y => frzM y.2.2 ms ts
  | _, _ => none
def rdF (env : DEnv) : T → Option D
  | .fz d _ => some d
  | .ow _ _ => none
  | .dp _ => none
  | .al i => match env[i]? with
    | some (.fz d _) => some d
    | _ => none
/-- what a slot has to lend -/
def ownA : Bool → DEnv → Nat → Option D
  | false, env, j => match env[j]? with
    | some (.ow d _) => some d
    | some (.io d) => some d
    | _ => none
  | true, env, j => match env[j]? with
    | some (.dp d) => some d
    | some (.di d) => some d
    | _ => none
/-- the arguments: data, the slots that are lent -/
def argMX (env : DEnv) : List Bool → List Bool → List T → Option (List D × List Nat)
  | _, [], [] => some ([], [])
  | dm, true :: ms, .al j :: ts => (ownA (hdM dm) env j).bind fun c => (argMX env dm.tail ms ts).map fun x => (c :: x.1, j :: x.2)
  | dm, false :: ms, t :: ts => (rdF env t).bind fun d => (argMX env dm.tail ms ts).map fun x => (d :: x.1, x.2)
  | _, _, _ => none
def argM (env : DEnv) (ms : List Bool) (ts : List T) : Option (List D × List Nat) := argMX env [] ms ts
/-- a lent slot behind -/
def putD (s : Slot) (d : D) (n : Bool) : Slot := match s with
  | .io _ => .io d
  | .dp _ => .dp d
  | .di _ => .di d
  | _ => .ow d n
/-- what is lent of a slot -/
def lentS (s : Slot) : Bool → D → Prop
  | false, d => (∃ n, s = .ow d n) ∨ s = .io d
  | true, d => s = .dp d ∨ s = .di d
theorem lentS_own {s : Slot} {k : Bool} {d : D} (h : lentS s k d) : isOwn s = true := by
  cases k
  · rcases h with ⟨n, rfl⟩ | rfl <;> rfl
  · rcases h with rfl | rfl <;> rfl
/-- the slots that are lent, what is lent, all that it owns -/
inductive Lnt (σ : Sg) (env : DEnv) : List Nat → List (Bool × Addr × List Addr) → List Addr → Prop
  | nil : Lnt σ env [] [] []
  | cons {j k a d s js as ls} : env[j]? = some s → lentS s k d → σ[j]? = some (some (.ref a)) → Lnt σ env js as ls → Lnt σ env (j :: js) ((k, a, a :: fp d) :: as) (a :: fp d ++ ls)
def setT (env : DEnv) : List Nat → List D → DEnv
  | j :: js, d :: ds => setT (mutS env j d false) js ds
  | _, _ => env
def uni (G G' : Hp) : Hp := fun a => match G' a with
  | some o => some o
  | none => G a
section
variable {K : PySem.W.Frag} {mg : Str → Option Value} {Z : Zx} {F G H F' G' H' : Hp} {σ : Sg} {env env' : DEnv}
theorem uni_r {G G' : Hp} : Same G' (uni G G') := fun b o e => by unfold uni; rw [e]
theorem uni_l {G G' : Hp} (h : ∀ a o, G' a = some o → G a = none) : Same G (uni G G') := fun b o e => by
  unfold uni
  cases q : G' b with
  | none => exact e
  | some u => rw [h b u q] at e; cases e
theorem mutS_at {j l : Nat} {d : D} {n : Bool} (h : j ≠ l) : (mutS env j d n)[l]? = env[l]? := by
  unfold mutS
  split <;> exact List.getElem?_set_ne h
theorem mutS_len {j : Nat} {d : D} {n : Bool} : (mutS env j d n).length = env.length := by
  unfold mutS
  split <;> exact List.length_set
theorem mutS_self {j : Nat} {d : D} {n : Bool} {s : Slot} (e : env[j]? = some s) : (mutS env j d n)[j]? = some (putD s d n) := by
  unfold mutS
  rw [e]
  cases s <;> exact List.getElem?_set_self (len_of e)
theorem setT_off {l : Nat} : ∀ {js : List Nat} {ds : List D} {env : DEnv}, l ∉ js → (setT env js ds)[l]? = env[l]?
  | [], _, _, _ => by unfold setT; rfl
  | j :: js, [], _, _ => by unfold setT; rfl
  | j :: js, d :: ds, env, h => by
    unfold setT
    rw [setT_off (fun z => h (List.mem_cons_of_mem _ z)), mutS_at fun z => h (by rw [z]; exact List.mem_cons_self)]
theorem setT_len : ∀ {js : List Nat} {ds : List D} {env : DEnv}, (setT env js ds).length = env.length
  | [], _, _ => by unfold setT; rfl
  | j :: js, [], _ => by unfold setT; rfl
  | j :: js, d :: ds, env => by unfold setT; rw [setT_len, mutS_len]
theorem Lnt.mut {js : List Nat} {as : List (Bool × Addr × List Addr)} {ls : List Addr} (h : Lnt σ env js as ls) {j : Nat} {d : D} {n : Bool} (hj : j ∉ js) : Lnt σ (mutS env j d n) js as ls := by
  induction h with
  | nil => exact .nil
  | cons e1 e2 e3 _ ih =>
    rw [List.mem_cons, not_or] at hj
    exact .cons (by rw [mutS_at hj.1]; exact e1) e2 e3 (ih hj.2)
/-- what a lent slot owned -/
theorem Lnt.at_ {js : List Nat} {as : List (Bool × Addr × List Addr)} {ls : List Addr} (R : EnvR K mg Z F G H σ env) (h : Lnt σ env js as ls) : ∀ b ∈ ls, ∃ j ∈ js, ∃ s, env[j]? = some s ∧ isOwn s = true ∧ OwnAt σ j s b := by
  induction h with
  | nil => intro b hb; cases hb
  | cons e1 e2 e3 _ ih =>
    rename_i j k a d s js as ls _
    intro b hb
    rcases List.mem_append.mp hb with hb | hb
    · refine ⟨j, List.mem_cons_self, s, e1, lentS_own e2, ?_⟩
      rcases List.mem_cons.mp hb with rfl | hb
      · exact .inl e3
      · refine .inr ?_
        cases k with
        | false =>
          have : fp d = [] := by
            have q := R.slot j s e1
            rcases e2 with ⟨n, rfl⟩ | rfl
            · obtain ⟨_, _, _, q3, _⟩ := q; exact q3.nofp
            · obtain ⟨_, _, _, q3, _⟩ := q; exact q3.nofp
          rw [this] at hb; cases hb
        | true => rcases e2 with rfl | rfl <;> exact hb
    · obtain ⟨i, hi, r⟩ := ih b hb
      exact ⟨i, List.mem_cons_of_mem _ hi, r⟩
theorem lent_nofp {j : Nat} {s : Slot} {k : Bool} {d : D} {a : Addr} (R : EnvR K mg Z F G H σ env) (e1 : env[j]? = some s) (e2 : lentS s k d) (e3 : σ[j]? = some (some (.ref a))) : (a :: fp d).Nodup ∧ (∀ b ∈ a :: fp d, F b = none ∧ OwnAt σ j s b) ∧ OwK K mg k F H a d := by
  have q := R.slot j s e1
  cases k with
  | false =>
    rcases e2 with ⟨n, rfl⟩ | rfl
    · obtain ⟨c, q1, q2, q3, _⟩ := q
      rw [e3] at q1; cases q1
      rw [q3.nofp]
      exact ⟨by simp, fun b hb => by rw [List.mem_singleton] at hb; subst hb; exact ⟨q2, .inl e3⟩, q3.mono (sel_le R.gf)⟩
    · obtain ⟨c, q1, q2, q3, _⟩ := q
      rw [e3] at q1; cases q1
      rw [q3.nofp]
      exact ⟨by simp, fun b hb => by rw [List.mem_singleton] at hb; subst hb; exact ⟨q2, .inl e3⟩, q3⟩
  | true =>
    rcases e2 with rfl | rfl
    · obtain ⟨c, q1, q2, q3, q4⟩ := q
      rw [e3] at q1; cases q1
      exact ⟨q3, fun b hb => ⟨(q4 b hb).1, (List.mem_cons.mp hb).imp (fun z => by rw [z]; exact e3) id⟩, q2⟩
    · obtain ⟨c, q1, q2, q3, q4⟩ := q
      rw [e3] at q1; cases q1
      exact ⟨q3, fun b hb => ⟨(q4 b hb).1, (List.mem_cons.mp hb).imp (fun z => by rw [z]; exact e3) id⟩, q2⟩
theorem Lnt.nodup {js : List Nat} {as : List (Bool × Addr × List Addr)} {ls : List Addr} (R : EnvR K mg Z F G H σ env) (h : Lnt σ env js as ls) (nd : js.Nodup) : ls.Nodup := by
  induction h with
  | nil => exact List.nodup_nil
  | cons e1 e2 e3 t ih =>
    have nd' := List.nodup_cons.mp nd
    obtain ⟨k1, k2, _⟩ := lent_nofp R e1 e2 e3
    refine List.nodup_append.mpr ⟨k1, ih nd'.2, fun x hx y hy z => ?_⟩
    subst z
    obtain ⟨i, hi, s, h1, h2, h3⟩ := t.at_ R x hy
    have := R.dist _ i _ s x e1 (lentS_own e2) h1 h2 (k2 x hx).2 h3
    exact nd'.1 (this ▸ hi)
/-- what stands at a lent slot behind -/
theorem setT_on {F' H' H : Hp} : ∀ {js : List Nat} {as : List (Bool × Addr × List Addr)} {ls : List Addr} {ds : List D} {ls' : List Addr} {env : DEnv} {l : Nat}, js.Nodup → Lnt σ env js as ls → IosR K mg F' H' H as ds ls' → l ∈ js →
    ∃ k a x d s, env[l]? = some s ∧ lentS s k x ∧ σ[l]? = some (some (.ref a)) ∧ (setT env js ds)[l]? = some (putD s d false) ∧ (∀ b ∈ a :: fp d, F' b = none ∧ (b ∈ a :: fp x ∨ H b = none) ∧ b ∈ ls') ∧ OwK K mg k F' H' a d ∧ (ls'.Nodup → (a :: fp d).Nodup)
  | [], _, _, _, _, _, _, _, _, _, h => by simp at h
  | j :: js, _, _, ds, _, env, l, nd, .cons e1 e2 e3 t, r, h => by
    have nd' := List.nodup_cons.mp nd
    cases r with
    | cons r1 r2 r3 =>
      rename_i a x s as ls d ds ls' 
      unfold setT
      rcases List.mem_cons.mp h with rfl | h
      · exact ⟨_, a, _, _, _, e1, e2, e3, by rw [setT_off nd'.1]; exact mutS_self e1, fun b hb => ⟨(r1 b hb).1, (r1 b hb).2, List.mem_append_left _ hb⟩, r2, fun n => (List.nodup_append.mp n).1⟩
      · have ne : j ≠ l := fun z => nd'.1 (z ▸ h)
        obtain ⟨k', a', x', d', s', h1, h2, h3, h4, h5, h6, h7⟩ := setT_on nd'.2 (t.mut nd'.1) r3 h
        exact ⟨k', a', x', d', s', by rw [mutS_at ne] at h1; exact h1, h2, h3, h4, fun b hb => ⟨(h5 b hb).1, (h5 b hb).2.1, List.mem_append_right _ (h5 b hb).2.2⟩, h6, fun n => h7 (List.nodup_append.mp n).2.1⟩
theorem putD_at {s : Slot} {k : Bool} {x d : D} {a b : Addr} {l : Nat} (h : lentS s k x) (e : σ[l]? = some (some (.ref a))) (ho : OwnAt σ l (putD s d false) b) : b ∈ a :: fp d := by
  rcases ho with ho | ho
  · rw [e] at ho; cases ho; exact List.mem_cons_self
  · refine List.mem_cons_of_mem _ ?_
    cases k with
    | false => rcases h with ⟨n, rfl⟩ | rfl <;> cases ho
    | true => rcases h with rfl | rfl <;> exact ho
theorem setT_dis {F' H' H : Hp} : ∀ {js : List Nat} {as : List (Bool × Addr × List Addr)} {ls : List Addr} {ds : List D} {ls' : List Addr} {env : DEnv}, js.Nodup → Lnt σ env js as ls → IosR K mg F' H' H as ds ls' → ls'.Nodup → ∀ (i j : Nat) (s t : Slot) (b : Addr), i ∈ js → j ∈ js →
    (setT env js ds)[i]? = some s → (setT env js ds)[j]? = some t → OwnAt σ i s b → OwnAt σ j t b → i = j
  | [], _, _, _, _, _, _, _, _, _, _, _, _, _, _, h, _, _, _, _, _ => by simp at h
  | j0 :: js, _, _, ds, _, env, nd, .cons e1 e2 e3 t0, r, n, i, j, s, t, b, hi, hj, es, et, ho, ho' => by
    have nd' := List.nodup_cons.mp nd
    cases r with
    | cons r1 r2 r3 =>
      rename_i a x s0 as ls d0 ds ls'
      have n' := List.nodup_append.mp n
      unfold setT at es et
      -- the first one's places, the others'
      have first : ∀ {u : Slot} {c : Addr}, (setT (mutS env j0 d0 false) js ds)[j0]? = some u → OwnAt σ j0 u c → c ∈ a :: fp d0 := fun {u c} e o => by
        rw [setT_off nd'.1, mutS_self e1] at e
        cases e
        exact putD_at e2 e3 o
      have rest : ∀ {l : Nat} {u : Slot} {c : Addr}, l ∈ js → (setT (mutS env j0 d0 false) js ds)[l]? = some u → OwnAt σ l u c → c ∈ ls' := fun {l u c} hl e o => by
        obtain ⟨k', a', x', d', s', h1, h2, h3, h4, h5, h6, h7⟩ := setT_on nd'.2 (t0.mut nd'.1) r3 hl
        rw [h4] at e
        cases e
        exact (h5 c (putD_at h2 h3 o)).2.2
      rcases List.mem_cons.mp hi with rfl | hi'
      · rcases List.mem_cons.mp hj with rfl | hj'
        · rfl
        · exact absurd rfl (n'.2.2 b (first es ho) b (rest hj' et ho'))
      · rcases List.mem_cons.mp hj with rfl | hj'
        · exact absurd rfl (n'.2.2 b (first et ho') b (rest hi' es ho))
        · exact setT_dis nd'.2 (t0.mut nd'.1) r3 n'.2.1 i j s t b hi' hj' es et ho ho'
/-- the slots behind a call -/
theorem EnvR.after {js : List Nat} {as : List (Bool × Addr × List Addr)} {ls : List Addr} {dio : List D} {ls' : List Addr} (R : EnvR K mg Z F G H σ env) (nd : js.Nodup) (L : Lnt σ env js as ls)
    (b : Bhd Z.T F H ls F' G' H') (r : IosR K mg F' H' H as dio ls') (nl : ls'.Nodup) : EnvR K mg Z F' (uni G G') H' σ (setT env js dio) ∧ Ext σ env (setT env js dio) F G H F' (uni G G') H' ∧ ∀ a, Own σ (setT env js dio) a → Own σ env a ∨ (H a = none ∧ a ∈ ls') := by
  have gH : ∀ a o, G' a = some o → H a = none := b.gn
  have gG : ∀ a o, G' a = some o → G a = none := fun a o e => snone R.gh (gH a o e)
  have ul : Same G (uni G G') := uni_l gG
  have ownAs : ∀ {a : Addr}, a ∈ ls → Own σ env a := fun {a} ha => by
    obtain ⟨j, _, s, e, o, k⟩ := L.at_ R a ha
    exact ⟨j, s, e, o, k⟩
  -- what a slot owned, what is new
  have own' : ∀ {l : Nat} {s : Slot}, (setT env js dio)[l]? = some s → isOwn s = true → ∃ s', env[l]? = some s' ∧ isOwn s' = true ∧ ∀ a, OwnAt σ l s a → OwnAt σ l s' a ∨ (H a = none ∧ a ∈ ls' ∧ l ∈ js) := fun {l s} e o => by
    by_cases h : l ∈ js
    · obtain ⟨k, a, x, d, s', h1, h2, h3, h4, h5, h6, h7⟩ := setT_on nd L r h
      rw [h4] at e; cases e
      refine ⟨s', h1, lentS_own h2, fun c ho => ?_⟩
      obtain ⟨k1, k2, k3⟩ := h5 c (putD_at h2 h3 ho)
      rcases k2 with k2 | k2
      · exact .inl ((lent_nofp R h1 h2 h3).2.1 c k2).2
      · exact .inr ⟨k2, k3, h⟩
    · rw [setT_off h] at e; exact ⟨s, e, o, fun _ z => .inl z⟩
  -- an owner that was not lent
  have notAs : ∀ {l : Nat} {s : Slot} {a : Addr}, l ∉ js → env[l]? = some s → isOwn s = true → OwnAt σ l s a → a ∉ ls := fun {l s a} h e o ea ha => by
    obtain ⟨j, mj, s', e', o', at'⟩ := L.at_ R a ha
    have := R.dist l j s s' a e o e' o' ea at'
    exact h (this ▸ mj)
  have stay : ∀ {l : Nat} {s : Slot} {c : Addr} {d : D}, l ∉ js → env[l]? = some s → isOwn s = true → (∀ x ∈ c :: fp d, OwnAt σ l s x) → OwK K mg true F H c d → (∀ x ∈ c :: fp d, F x = none) → ∀ x ∈ c :: fp d, F' x = none ∧ ∀ u, H x = some u → H' x = some u := fun {l s c d} h e o ho hd hf x hx => by
    have na := notAs h e o (ho x hx)
    obtain ⟨u0, eo, nt⟩ := hd.there x hx
    refine ⟨?_, fun u eu => b.h x u eu na (by rw [eo] at eu; cases eu; exact nt)⟩
    cases z : F' x with
    | none => rfl
    | some u => rw [b.fn x u z (hf x hx)] at eo; cases eo
  refine ⟨⟨b.fh, ?_, R.f0.trans b.f, ?_, ?_, ?_, ?_, by rw [setT_len]; exact R.len, ?_, ?_, ?_, R.iof, ?_, R.dif, b.tb⟩, ⟨b.f, ul, ?_, b.d, ?_, ?_, ?_, setT_len⟩, ?_⟩
  · intro c o e
    unfold uni at e
    cases q : G' c with
    | some u => rw [q] at e; cases e; exact b.gf _ _ q
    | none => rw [q] at e; exact b.f _ _ (R.gf _ _ e)
  · intro c o e
    unfold uni at e
    cases q : G' c with
    | some u => exact R.h0 (gH c u q)
    | none => rw [q] at e; exact R.gn _ _ e
  · intro c o e k
    cases q : F c with
    | some u => exact R.fn c u q k
    | none => exact R.h0 (b.fn c o e q)
  · intro c o e k k2 k3
    refine b.h c o (R.frame c o e k k2 k3) (fun hc => ?_) k3
    obtain ⟨j, mj, s, ej, oj, hj⟩ := L.at_ R c hc
    have q := R.slot j s ej
    cases s with
    | un => cases oj
    | fz => cases oj
    | dp d =>
      obtain ⟨c', h1, _, _, h4⟩ := q
      have := (h4 c ((List.mem_cons.mpr (hj.imp (fun z => by rw [z] at h1; cases h1; rfl) id)))).2
      rw [this] at e; cases e
    | di d =>
      obtain ⟨c', h1, _, _, h4⟩ := q
      rcases (h4 c ((List.mem_cons.mpr (hj.imp (fun z => by rw [z] at h1; cases h1; rfl) id)))).2 with z | ⟨p, hp, _, hm⟩
      · rw [z] at e; cases e
      · obtain ⟨_, _, _, q3⟩ := R.di p hp
        exact k2 (q3 c hm)
    | ow d n =>
      obtain ⟨c', h1, _, _, h4⟩ := q
      rcases hj with hj | hj
      · rw [hj] at h1; cases h1; rw [h4] at e; cases e
      · cases hj
    | io d =>
      obtain ⟨c', h1, _, _, h4⟩ := q
      rcases hj with hj | hj
      · rw [hj] at h1; cases h1; exact k _ h4 rfl
      · cases hj
  · intro c o e
    obtain ⟨u, e'⟩ := R.dom c o e
    exact b.d c u e'
  · intro l s e
    by_cases h : l ∈ js
    · obtain ⟨k, a, x, d, s', h1, h2, h3, h4, h5, h6, h7⟩ := setT_on nd L r h
      rw [h4] at e
      have q := R.slot l s' h1
      cases k with
      | false =>
        have h6' : OwnC K mg F' H' a d := h6
        rcases h2 with ⟨n, rfl⟩ | rfl
        · cases e
          obtain ⟨c', z1, _, _, z4⟩ := q
          rw [h3] at z1; cases z1
          exact ⟨a, h3, (h5 a List.mem_cons_self).1, h6', z4⟩
        · cases e
          obtain ⟨c', z1, _, _, z4⟩ := q
          rw [h3] at z1; cases z1
          exact ⟨a, h3, (h5 a List.mem_cons_self).1, h6', z4⟩
      | true =>
        have h6' : OwD K mg F' H' a d := h6
        rcases h2 with rfl | rfl
        · cases e
          obtain ⟨c', z1, _, _, z4⟩ := q
          rw [h3] at z1; cases z1
          refine ⟨a, h3, h6', h7 nl, fun y hy => ⟨(h5 y hy).1, ?_⟩⟩
          rcases (h5 y hy).2.1 with m | m
          · exact (z4 y m).2
          · exact R.h0 m
        · cases e
          obtain ⟨c', z1, _, _, z4⟩ := q
          rw [h3] at z1; cases z1
          refine ⟨a, h3, h6', h7 nl, fun y hy => ⟨(h5 y hy).1, ?_⟩⟩
          rcases (h5 y hy).2.1 with m | m
          · exact (z4 y m).2
          · exact .inl (R.h0 m)
    · rw [setT_off h] at e
      have q := R.slot l s e
      cases s with
      | un => trivial
      | fz d n => obtain ⟨v, q1, q2⟩ := q; exact ⟨v, q1, q2.mono (sel_same b.f ul)⟩
      | ow d n =>
        obtain ⟨c, q1, q2, q3, q4⟩ := q
        obtain ⟨o, eo⟩ := q3.there
        have na := notAs h e rfl (.inl q1)
        obtain ⟨o2, eo2, nt⟩ := q3.noTbl
        refine ⟨c, q1, ?_, (q3.mono (sel_same b.f ul)).at_ fun u eu => b.h c u eu na (by rw [eo2] at eu; cases eu; exact nt), q4⟩
        cases z : F' c with
        | none => rfl
        | some u => rw [b.fn c u z q2] at eo; cases eo
      | io d =>
        obtain ⟨c, q1, q2, q3, q4⟩ := q
        obtain ⟨o, eo⟩ := q3.there
        have na := notAs h e rfl (.inl q1)
        obtain ⟨o2, eo2, nt⟩ := q3.noTbl
        refine ⟨c, q1, ?_, (q3.mono b.f).at_ fun u eu => b.h c u eu na (by rw [eo2] at eu; cases eu; exact nt), q4⟩
        cases z : F' c with
        | none => rfl
        | some u => rw [b.fn c u z q2] at eo; cases eo
      | dp d =>
        obtain ⟨c, q1, q2, q3, q4⟩ := q
        have hb := stay h e rfl (fun x hx => (List.mem_cons.mp hx).imp (fun z => by rw [z]; exact q1) id) q2 fun x hx => (q4 x hx).1
        exact ⟨c, q1, (q2.mono b.f).at_ fun x hx => (hb x hx).2, q3, fun x hx => ⟨(hb x hx).1, (q4 x hx).2⟩⟩
      | di d =>
        obtain ⟨c, q1, q2, q3, q4⟩ := q
        have hb := stay h e rfl (fun x hx => (List.mem_cons.mp hx).imp (fun z => by rw [z]; exact q1) id) q2 fun x hx => (q4 x hx).1
        exact ⟨c, q1, (q2.mono b.f).at_ fun x hx => (hb x hx).2, q3, fun x hx => ⟨(hb x hx).1, (q4 x hx).2⟩⟩
  · intro i j s t a e1 o1 e2 o2 a1 a2
    obtain ⟨s1, k1, k2, k5⟩ := own' e1 o1
    obtain ⟨s2, k3, k4, k6⟩ := own' e2 o2
    rcases k5 _ a1 with q1 | ⟨q1, q1', q1j⟩
    · rcases k6 _ a2 with q2 | ⟨q2, _⟩
      · exact R.dist i j s1 s2 a k1 k2 k3 k4 q1 q2
      · exact (R.not_own q2 ⟨i, s1, k1, k2, q1⟩).elim
    · rcases k6 _ a2 with q2 | ⟨q2, _, q2j⟩
      · exact (R.not_own q1 ⟨j, s2, k3, k4, q2⟩).elim
      · exact setT_dis nd L r nl i j s t a q1j q2j e1 e2 a1 a2
  · intro p hp
    obtain ⟨d, e1, e2⟩ := R.io p hp
    by_cases h : p.1 ∈ js
    · obtain ⟨k, a, x, d', s', h1, h2, h3, h4, _⟩ := setT_on nd L r h
      rw [e1] at h1
      cases h1
      exact ⟨d', h4, e2⟩
    · exact ⟨d, by rw [setT_off h]; exact e1, e2⟩
  · intro p hp
    obtain ⟨d, e1, e2, e3⟩ := R.di p hp
    by_cases h : p.1 ∈ js
    · obtain ⟨k, a, x, d', s', h1, h2, h3, h4, _⟩ := setT_on nd L r h
      rw [e1] at h1
      cases h1
      exact ⟨d', h4, e2, e3⟩
    · exact ⟨d, by rw [setT_off h]; exact e1, e2, e3⟩
  · intro c o e n t
    exact b.h c o e (fun hc => n (ownAs hc)) t
  · intro c o e k n
    cases z : F' c with
    | none => rfl
    | some u => rw [b.fn c u z k] at e; cases e
  · rintro c ⟨l, s, e, o, ec⟩
    obtain ⟨s', e', o', k⟩ := own' e o
    exact (k _ ec).imp (fun z => ⟨l, s', e', o', z⟩) fun z => z.1
  · intro i d e
    by_cases h : i ∈ js
    · obtain ⟨k, a, x, d', s', h1, h2, h3, h4, _⟩ := setT_on nd L r h
      refine ⟨d', ?_⟩
      cases s' with
      | un => simp [rd, h1] at e
      | dp => simp [rd, h1] at e
      | di => simp [rd, h1] at e
      | fz => cases k <;> (rcases h2 with ⟨_, z⟩ | z <;> cases z)
      | ow d0 n0 => have h5 : (setT env js dio)[i]? = some (.ow d' false) := h4; simp [rd, h5]
      | io d0 => have h5 : (setT env js dio)[i]? = some (.io d') := h4; simp [rd, h5]
    · refine ⟨d, ?_⟩
      rw [← e]
      simp only [rd, setT_off h]
  · rintro c ⟨l, s, e, o, ec⟩
    obtain ⟨s', e', o', k⟩ := own' e o
    exact (k _ ec).imp (fun z => ⟨l, s', e', o', z⟩) fun z => ⟨z.1, z.2.1⟩
theorem RTs.frzM {ms : List Bool} {ts : List T} {vs : List V} {e : DEnv} (R : EnvR K mg Z F G H σ env) (h : RTs K mg Z F G H σ env vs ts) (ef : DL.frzM env ms ts = some e) :
    ∃ F' G', EnvR K mg Z F' G' H σ e ∧ Ext σ env e F G H F' G' H := by
  induction ts generalizing ms vs env F G with
  | nil => cases ms with
    | nil => cases ef; exact ⟨F, G, R, .refl⟩
    | cons m ms => cases m <;> cases ef
  | cons t ts ih =>
    cases vs with
    | nil => exact h.elim
    | cons v vs =>
      obtain ⟨h1, h2, h3⟩ := h
      cases ms with
      | nil => cases ef
      | cons m ms =>
        cases m with
        | true => exact ih R h3 ef
        | false =>
          unfold DL.frzM at ef
          cases e1 : frz1 env t with
          | none => rw [e1] at ef; cases ef
          | some y =>
            rw [e1] at ef
            obtain ⟨F1, G1, R1, x1, _⟩ := RT.frz R h2 h1 e1
            obtain ⟨F2, G2, R2, x2⟩ := ih R1 (h3.ext x1) ef
            exact ⟨F2, G2, R2, x1.trans x2⟩
theorem RTs.argMX {ms : List Bool} {ts : List T} {vs : List V} {dm : List Bool} {x : List D × List Nat} (R : EnvR K mg Z F G H σ env) (h : RTs K mg Z F G H σ env vs ts) (e : DL.argMX env dm ms ts = some x) :
    ∃ as ls, ArgsR K mg F H dm ms vs x.1 as ls ∧ Lnt σ env x.2 as ls := by
  induction ts generalizing ms vs x dm with
  | nil => cases ms with
    | nil =>
      cases e
      cases vs with
      | nil => exact ⟨[], [], .nil, .nil⟩
      | cons => exact h.elim
    | cons m ms => cases m <;> cases e
  | cons t ts ih =>
    cases vs with
    | nil => exact h.elim
    | cons v vs =>
      obtain ⟨h1, h2, h3⟩ := h
      cases ms with
      | nil => cases e
      | cons m ms =>
        cases m with
        | true =>
          cases t with
          | fz => cases e
          | ow => cases e
          | dp => cases e
          | al j =>
            unfold DL.argMX at e
            cases e1 : ownA (hdM dm) env j with
            | none => rw [e1] at e; cases e
            | some c =>
              rw [e1] at e
              simp only [Option.bind_some] at e
              cases e2 : DL.argMX env dm.tail ms ts with
              | none => rw [e2] at e; cases e
              | some y =>
                rw [e2] at e
                cases e
                obtain ⟨as, ls, q1, q2⟩ := ih h3 e2
                obtain ⟨hv, _⟩ := h2
                obtain ⟨s, a, es, hs, ha⟩ : ∃ s a, env[j]? = some s ∧ lentS s (hdM dm) c ∧ σ[j]? = some (some (.ref a)) := by
                  cases hk : hdM dm with
                  | false =>
                    rw [hk] at e1
                    simp only [ownA] at e1
                    cases es : env[j]? with
                    | none => rw [es] at e1; cases e1
                    | some s =>
                      rw [es] at e1
                      have q := R.slot j s es
                      cases s with
                      | ow d n => cases e1; obtain ⟨a, ea, _⟩ := q; exact ⟨_, a, rfl, .inl ⟨n, rfl⟩, ea⟩
                      | io d => cases e1; obtain ⟨a, ea, _⟩ := q; exact ⟨_, a, rfl, .inr rfl, ea⟩
                      | _ => cases e1
                  | true =>
                    rw [hk] at e1
                    simp only [ownA] at e1
                    cases es : env[j]? with
                    | none => rw [es] at e1; cases e1
                    | some s =>
                      rw [es] at e1
                      have q := R.slot j s es
                      cases s with
                      | dp d => cases e1; obtain ⟨a, ea, _⟩ := q; exact ⟨_, a, rfl, .inl rfl, ea⟩
                      | di d => cases e1; obtain ⟨a, ea, _⟩ := q; exact ⟨_, a, rfl, .inr rfl, ea⟩
                      | _ => cases e1
                rw [hv] at ha
                cases ha
                obtain ⟨k1, k2, k3⟩ := lent_nofp R es hs hv
                exact ⟨_, _, .io (fun b hb => (k2 b hb).1) k3 q1, .cons es hs hv q2⟩
        | false =>
          unfold DL.argMX at e
          cases e1 : rdF env t with
          | none => rw [e1] at e; cases e
          | some d =>
            rw [e1] at e
            simp only [Option.bind_some] at e
            cases e2 : DL.argMX env dm.tail ms ts with
            | none => rw [e2] at e; cases e
            | some y =>
              rw [e2] at e
              cases e
              obtain ⟨as, ls, q1, q2⟩ := ih h3 e2
              refine ⟨as, ls, .fz ?_ q1, q2⟩
              cases t with
              | ow => cases e1
              | dp => cases e1
              | fz d n => cases e1; exact h2.mono (sel_le R.gf)
              | al i =>
                obtain ⟨hv, _⟩ := h2
                unfold rdF at e1
                cases es : env[i]? with
                | none => simp only [es] at e1; cases e1
                | some s =>
                  simp only [es] at e1
                  cases s with
                  | fz d n =>
                    cases e1
                    obtain ⟨w, w1, w2⟩ := R.slot i _ es
                    rw [hv] at w1; cases w1
                    exact w2.mono (sel_le R.gf)
                  | _ => cases e1
theorem RTs.argM {ms : List Bool} {ts : List T} {vs : List V} {x : List D × List Nat} (R : EnvR K mg Z F G H σ env) (h : RTs K mg Z F G H σ env vs ts) (e : DL.argM env ms ts = some x) :
    ∃ as ls, ArgsR K mg F H [] ms vs x.1 as ls ∧ Lnt σ env x.2 as ls := RTs.argMX R h e
theorem RT.back {v : V} {t : T} {G' : Hp} {e : DEnv} (h : RRs K mg F' G' H' H v t) (gf : Same G' F') (no : ∀ {a : Addr}, a ∈ adT v t → H a = none → ¬ Own σ e a) (h0 : ∀ {a : Addr}, H a = none → Z.H0 a = none) : RT K mg Z F' (uni G G') H' σ e v t ∧ NewT H v t := by
  cases t with
  | al i => exact h.elim
  | dp d =>
    obtain ⟨a, rfl, h1, h2, h3⟩ := h
    exact ⟨⟨a, rfl, h1, h2, fun b hb => ⟨(h3 b hb).1, no hb (h3 b hb).2, h0 (h3 b hb).2⟩⟩, a, rfl, fun b hb => (h3 b hb).2⟩
  | fz d n =>
    refine ⟨?_, trivial⟩
    cases n with
    | false => exact h
    | true => exact Rp.mono uni_r h
  | ow d n =>
    obtain ⟨a, rfl, h1, h2, h3⟩ := h
    refine ⟨⟨a, rfl, h1, ?_, fun z => ?_, h0 h3⟩, a, rfl, h3⟩
    · cases n with
      | false => exact h2
      | true => exact h2.mono uni_r
    · exact no (by simp [adT]) h3 z
end

/-- a call by trees: arguments made ready, what the def promises, the slots behind -/
def callK (ms : List Bool) (Φ : DF) (ts : List T) (e : DEnv) (P : T → DEnv → Prop) (E : Str → DEnv → Prop) : Prop :=
  ∃ e1, frzM e ms ts = some e1 ∧ ∃ x, argM e1 ms ts = some x ∧ x.2.Nodup ∧ Φ x.1 (fun t dio => P t (setT e1 x.2 dio)) (fun c dio => E c (setT e1 x.2 dio))
/-- some of the lent ones own their fields -/
def callKX (dm ms : List Bool) (Φ : DF) (ts : List T) (e : DEnv) (P : T → DEnv → Prop) (E : Str → DEnv → Prop) : Prop :=
  ∃ e1, frzM e ms ts = some e1 ∧ ∃ x, argMX e1 dm ms ts = some x ∧ x.2.Nodup ∧ Φ x.1 (fun t dio => P t (setT e1 x.2 dio)) (fun c dio => E c (setT e1 x.2 dio))
def dCall (ms : List Bool) (Φ : DF) (wa : DA) : DW := fun env P E => wa env (fun ts e => callK ms Φ ts e P E) E
section
variable {tbs : List (Addr × Str)} {X : Cx} {Z : Zx} {W : WX} {pos p : Pos} {k : Nat} {f C : Addr} {fd : FuncData} {ps : List Str} {ms : List Bool} {Φ : DF} {ds : List Value} {x : Str} {e : Expr} {es : List Expr} {wa : DA}
/-- the heart of a call -/
theorem callKX_imp {dm : List Bool} {F G H : Hp} {σ : Sg} {env : DEnv} {P : T → DEnv → Prop} {E : Str → DEnv → Prop} {Q : VK} {ts : List T} {vs : List V} (R : EnvR X.K X.mg Z F G H σ env) (r : RTs X.K X.mg Z F G H σ env vs ts) (h : callKX dm ms Φ ts env P E)
    (q : ∀ (t : T) (env' : DEnv) (F' G' H' : Hp) (v : V), P t env' → EnvR X.K X.mg Z F' G' H' σ env' → Ext σ env env' F G H F' G' H' → RT X.K X.mg Z F' G' H' σ env' v t → NewT H v t → Q v H') (qe : Wx X.K X.mg Z W E σ) :
    spX X.K X.mg Z.T dm ms Φ vs H Q (WE W σ) := by
  obtain ⟨e1, ef, x, ea, nd, hΦ⟩ := h
  obtain ⟨F1, G1, R1, x1⟩ := RTs.frzM R r ef
  obtain ⟨as, ls, a1, a2⟩ := RTs.argMX R1 (r.ext x1) ea
  refine ⟨F1, x.1, as, ls, _, _, ⟨R1.fh, R1.tb⟩, a1, a2.nodup R1 nd, hΦ, fun t dio ls' F' G' H' v p b io nl rr ro => ?_, fun c dio ls' F' G' H' C p b io nl hm => ?_⟩
  · obtain ⟨R2, x2, o2⟩ := R1.after nd a2 b io nl
    obtain ⟨r3, n3⟩ := RT.back (σ := σ) (Z := Z) (G := G1) (e := setT e1 x.2 dio) rr b.gf (fun m z q => (o2 _ q).elim (fun q => R1.not_own z q) fun q => ro _ m q.2) fun z => R1.h0 z
    exact q t _ _ _ _ v p R2 (x1.trans x2) r3 n3
  · obtain ⟨R2, x2, o2⟩ := R1.after nd a2 b io nl
    exact qe c _ _ _ _ C p R2 hm
theorem callK_imp {F G H : Hp} {σ : Sg} {env : DEnv} {P : T → DEnv → Prop} {E : Str → DEnv → Prop} {Q : VK} {ts : List T} {vs : List V} (R : EnvR X.K X.mg Z F G H σ env) (r : RTs X.K X.mg Z F G H σ env vs ts) (h : callK ms Φ ts env P E)
    (q : ∀ (t : T) (env' : DEnv) (F' G' H' : Hp) (v : V), P t env' → EnvR X.K X.mg Z F' G' H' σ env' → Ext σ env env' F G H F' G' H' → RT X.K X.mg Z F' G' H' σ env' v t → NewT H v t → Q v H') (qe : Wx X.K X.mg Z W E σ) :
    spD X.K X.mg Z.T ms Φ vs H Q (WE W σ) := callKX_imp (dm := []) R r h q qe
theorem d_call (Fn : FnG X.prog X.w X.K X.mg X.base k f fd ps (spD X.K X.mg tbs ms Φ)) (hr : RoomG k X.A) (hg : Gl X x) (hm : X.mg x = some (.ref f)) (hk : PySem.W.keepIn X.K (.ref f) = true) (hb : Binds X.K fd ps []) (tk : Takes X W) (ha : DAr X Z W (e :: es) wa)
    (hdb : (x == ("__debug__" : Str)) = false := by decide) (he : starEach (e :: es) X.env = (false, eval e X.env) :: starEach es X.env := by rfl) (hpl : (backTo pos (starEach es X.env)).any (·.1) = false := by rfl) (ht : Z.T = tbs := by assumption) :
    DE X Z W (.Call (.Name x p) (e :: es) [] pos) (dCall ms Φ wa) := by
  subst ht
  refine PE.of (pe_callG Fn hr hg hm hk hb .nil tk ha hdb he hpl) fun σ H Q ⟨F, G, env, P, E, R, w, q, qe⟩ => ?_
  refine ⟨F, G, env, _, E, R, w, fun ts e1 F1 G1 H1 vs h R1 x1 r1 => ?_, qe⟩
  show spD X.K X.mg Z.T ms Φ (vs ++ []) H1 Q (WE W σ)
  rw [List.append_nil]
  exact callK_imp R1 r1 h (fun t e2 F2 G2 H2 v p R2 x2 r2 n2 => q t e2 F2 G2 H2 v p R2 (x1.trans x2) r2 (newT_back x1.d n2)) qe
/-- defaults of the def, as data -/
theorem d_callD {dvs : List V} {dds : List D} (Fn : FnG X.prog X.w X.K X.mg X.base k f fd ps (spD X.K X.mg tbs ms Φ)) (hr : RoomG k X.A) (hg : Gl X x) (hm : X.mg x = some (.ref f)) (hk : PySem.W.keepIn X.K (.ref f) = true) (hb : Binds X.K fd ps ds) (hd : Vals dvs ds)
    (hdd : ∀ B : Hp, Rps X.K X.mg B dvs dds) (tk : Takes X W) (ha : DAr X Z W (e :: es) wa)
    (hdb : (x == ("__debug__" : Str)) = false := by decide) (he : starEach (e :: es) X.env = (false, eval e X.env) :: starEach es X.env := by rfl) (hpl : (backTo pos (starEach es X.env)).any (·.1) = false := by rfl) (ht : Z.T = tbs := by assumption) :
    DE X Z W (.Call (.Name x p) (e :: es) [] pos) (fun env P E => wa env (fun ts e => callK ms Φ (ts ++ dds.map fun d => .fz d true) e P E) E) := by
  subst ht
  refine PE.of (pe_callG Fn hr hg hm hk hb hd tk ha hdb he hpl) fun σ H Q ⟨F, G, env, P, E, R, w, q, qe⟩ => ?_
  refine ⟨F, G, env, _, E, R, w, fun ts e1 F1 G1 H1 vs h R1 x1 r1 => ?_, qe⟩
  refine callK_imp R1 ?_ h (fun t e2 F2 G2 H2 v p R2 x2 r2 n2 => q t e2 F2 G2 H2 v p R2 (x1.trans x2) r2 (newT_back x1.d n2)) qe
  have base : ∀ {dvs : List V} {dds : List D}, Rps X.K X.mg (sel true G1 F1) dvs dds → RTs X.K X.mg Z F1 G1 H1 σ e1 dvs (dds.map fun d => T.fz d true) := fun {dvs dds} h => by
    induction dds generalizing dvs with
    | nil => cases h; trivial
    | cons d dds ih => cases h with | cons a b => exact ⟨fun _ _ z => (nomatch z), a, ih b⟩
  have app : ∀ {vs : List V} {ts : List T}, RTs X.K X.mg Z F1 G1 H1 σ e1 vs ts → RTs X.K X.mg Z F1 G1 H1 σ e1 (vs ++ dvs) (ts ++ dds.map fun d => T.fz d true) := fun {vs ts} h => by
    induction ts generalizing vs with
    | nil => cases vs with
      | nil => exact base (hdd _)
      | cons => exact h.elim
    | cons t ts ih => cases vs with
      | nil => exact h.elim
      | cons v vs => exact ⟨h.1, h.2.1, ih h.2.2⟩
  exact app r1
end
end DL

namespace DL
open PySem PySem.Spec L2

def rdL (env : DEnv) : List T → Option (List (D × Bool))
  | [] => some []
  | t :: ts => (rd env t).bind fun d => (rdL env ts).map fun xs => (d, rdn env t) :: xs
def RvL (K : PySem.W.Frag) (mg : Str → Option Value) (F G H : Hp) : List V → List (D × Bool) → Prop
  | [], [] => True
  | v :: vs, x :: xs => Rv K mg (sel x.2 G F) H v x.1 ∧ RvL K mg F G H vs xs
  | _, _ => False
theorem RTs.rvL {K : PySem.W.Frag} {mg : Str → Option Value} {Z : Zx} {F G H : Hp} {σ : Sg} {env : DEnv} {vs : List V} {ts : List T} {xs : List (D × Bool)} (R : EnvR K mg Z F G H σ env) (h : RTs K mg Z F G H σ env vs ts) (e : rdL env ts = some xs) : RvL K mg F G H vs xs := by
  induction ts generalizing vs xs with
  | nil =>
    cases e
    cases vs with
    | nil => trivial
    | cons => exact h.elim
  | cons t ts ih =>
    cases vs with
    | nil => exact h.elim
    | cons v vs =>
      obtain ⟨h1, h2, h3⟩ := h
      unfold rdL at e
      cases e1 : rd env t with
      | none => rw [e1] at e; cases e
      | some d =>
        rw [e1] at e
        simp only [Option.bind_some] at e
        cases e2 : rdL env ts with
        | none => rw [e2] at e; cases e
        | some ys =>
          rw [e2] at e
          cases e
          exact ⟨RT.rv R h2 e1, ih h3 e2⟩
abbrev FC := List (D × Bool) → (T → Prop) → Prop
def CallD (X : Cx) (c : Value) (f : FC) : Prop := ∃ r : List V → Hp → VK → Prop, CallR X c r ∧
  ∀ (Z : Zx) (F G H : Hp) (σ : Sg) (env : DEnv) (vs : List V) (xs : List (D × Bool)) (P : T → Prop) (Q : VK),
    EnvR X.K X.mg Z F G H σ env → RvL X.K X.mg F G H vs xs → f xs P → After X Z F G H σ env P Q → r vs H Q
def dCB (f : FC) (wa : DA) : DW := fun env P E => wa env (fun ts e => ∃ xs, rdL e ts = some xs ∧ f xs fun t => P t e) E
section
variable {X : Cx} {Z : Zx} {W : WX} {pos p : Pos} {x : Str} {e : Expr} {es : List Expr} {wa : DA} {f : FC}
theorem callB_imp {r : List V → Hp → VK → Prop} (hf : ∀ (Z : Zx) (F G H : Hp) (σ : Sg) (env : DEnv) (vs : List V) (xs : List (D × Bool)) (P : T → Prop) (Q : VK),
    EnvR X.K X.mg Z F G H σ env → RvL X.K X.mg F G H vs xs → f xs P → After X Z F G H σ env P Q → r vs H Q) {σ : Sg} {H : Hp} {Q : VK} (h : tD X.K X.mg Z W (dCB f wa) σ H Q) : tCB r (tDA X.K X.mg Z W wa) σ H Q := by
  obtain ⟨F, G, env, P, E, R, w, q, qe⟩ := h
  refine ⟨F, G, env, _, E, R, w, fun ts e1 F1 G1 H1 vs ⟨xs, ex, p⟩ R1 x1 r1 => ?_, qe⟩
  exact hf Z F1 G1 H1 σ e1 vs xs _ _ R1 (RTs.rvL R1 r1 ex) p fun t F' G' H' v pt R' x' r' n' => q t e1 F' G' H' v pt R' (x1.trans x') r' (newT_back x1.d n')
theorem d_callB {id : String} (hc : CallD X (.builtin id) f) (hm : X.mg x = none) (ha : DAr X Z W (e :: es) wa) (hg : Gl X x := by rfl) (hv : bootBuiltins x = some (.builtin id) := by rfl) (hn : x ≠ "__name__" := by decide) (hdb : (x == ("__debug__" : Str)) = false := by decide)
    (he : starEach (e :: es) X.env = (false, eval e X.env) :: starEach es X.env := by rfl) (hpl : (backTo pos (starEach es X.env)).any (·.1) = false := by rfl) : DE X Z W (.Call (.Name x p) (e :: es) [] pos) (dCB f wa) := by
  obtain ⟨r, hr, hf⟩ := hc
  exact PE.of (pe_callB hr hg hm hv ha hn hdb he hpl) fun σ H Q h => callB_imp hf h
theorem d_callTy {id : String} (hc : CallD X (.type id) f) (hm : X.mg x = none) (ha : DAr X Z W (e :: es) wa) (hg : Gl X x := by rfl) (hv : bootBuiltins x = some (.type id) := by rfl) (hn : x ≠ "__name__" := by decide) (hdb : (x == ("__debug__" : Str)) = false := by decide)
    (he : starEach (e :: es) X.env = (false, eval e X.env) :: starEach es X.env := by rfl) (hpl : (backTo pos (starEach es X.env)).any (·.1) = false := by rfl) : DE X Z W (.Call (.Name x p) (e :: es) [] pos) (dCB f wa) := by
  obtain ⟨r, hr, hf⟩ := hc
  exact PE.of (pe_callTy hr hg hm hv ha hn hdb he hpl) fun σ H Q h => callB_imp hf h
end

section
variable {X : Cx}
theorem rvL1 {K : PySem.W.Frag} {mg : Str → Option Value} {F G H : Hp} {vs : List V} {d : D} {n : Bool} (h : RvL K mg F G H vs [(d, n)]) : ∃ v, vs = [v] ∧ Rv K mg (sel n G F) H v d := by
  match vs, h with
  | [v], ⟨h, _⟩ => exact ⟨v, rfl, h⟩
theorem rvL2 {K : PySem.W.Frag} {mg : Str → Option Value} {F G H : Hp} {vs : List V} {d e : D} {n m : Bool} (h : RvL K mg F G H vs [(d, n), (e, m)]) : ∃ v u, vs = [v, u] ∧ Rv K mg (sel n G F) H v d ∧ Rv K mg (sel m G F) H u e := by
  match vs, h with
  | [v, u], ⟨h, h', _⟩ => exact ⟨v, u, rfl, h, h'⟩
def lenD : D → Option Nat
  | .dict _ kvs => some kvs.length
  | d => (seqOf d).map (·.length)
def fLen : FC := fun xs P => ∃ d n, xs = [(d, n)] ∧ ((∃ k, lenD d = some k ∧ P (dI (k : Nat))) ∨ ∃ z, d = .str z ∧ z.length ≤ sizeLine ∧ P (dI (z.length : Nat)))
theorem c_len : CallD X (.builtin "len") fLen := by
  refine ⟨_, CallR.or call_len_seq (CallR.or call_len_str (CallR.or call_lenD call_len_dT)), fun Z F G H σ env vs xs P Q R h ⟨d, n, ex, hf⟩ q => ?_⟩
  subst ex
  obtain ⟨v, rfl, rv⟩ := rvL1 h
  have fin : ∀ i : Int, P (dI i) → Q (.int i) H := fun i p => q _ F G H _ p R .refl (.int _) trivial
  rcases hf with ⟨k, ek, p⟩ | ⟨z, rfl, hz, p⟩
  · have seqs : ∀ ds : List D, seqOf d = some ds → k = ds.length → ∃ a ws, [v] = [V.ref a] ∧ (SqL X.K H a ws ∨ SqT X.K H a ws) ∧ Q (.int (ws.length : Nat)) H := fun ds es ek' => by
      obtain ⟨a, ws, rfl, hs, r⟩ := rv.seq R.selH es
      refine ⟨a, ws, rfl, hs, ?_⟩
      rw [r.length, ← ek']
      exact fin _ p
    cases d with
    | dict t kvs =>
      cases ek
      cases t with
      | false =>
        obtain ⟨a, ks, rfl, h1, h2, h3⟩ := rv.dictK R.selH
        have hl := congrArg List.length h2
        simp only [List.length_map] at hl
        rw [hl] at p
        exact .inr (.inr (.inl ⟨a, ks, rfl, h1, fin _ p⟩))
      | true =>
        obtain ⟨a, ks, rfl, h1, h2, h3⟩ := rv.dictT R.selH
        have hl := congrArg List.length h2
        simp only [List.length_map] at hl
        rw [hl] at p
        exact .inr (.inr (.inr ⟨a, ks, rfl, h1, fin _ p⟩))
    | list xs => cases ek; exact .inl (seqs _ rfl rfl)
    | scr xs => cases ek; exact .inl (seqs _ rfl rfl)
    | tuple xs => cases ek; exact .inl (seqs _ rfl rfl)
    | ktup xs => cases ek; exact .inl (seqs _ rfl rfl)
    | _ => cases ek
  · exact .inr (.inl ⟨z, by rw [rv.str], hz, fin _ p⟩)
/-- two ints -/
def fII (g : Int → Int → Int) : FC := fun xs P => ∃ i n j m, xs = [(.int i, n), (.int j, m)] ∧ P (dI (g i j))
theorem c_min (hc : X.calm = true) : CallD X (.builtin "min") (fII fun i j => if j < i then j else i) := by
  refine ⟨_, call_min2 hc, fun Z F G H σ env vs xs P Q R h ⟨i, n, j, m, ex, p⟩ q => ?_⟩
  subst ex
  obtain ⟨v, u, rfl, r1, r2⟩ := rvL2 h
  exact ⟨i, j, by rw [r1.int, r2.int], q _ F G H _ p R .refl (.int _) trivial⟩
theorem c_max (hc : X.calm = true) : CallD X (.builtin "max") (fII fun i j => if j > i then j else i) := by
  refine ⟨_, call_max2 hc, fun Z F G H σ env vs xs P Q R h ⟨i, n, j, m, ex, p⟩ q => ?_⟩
  subst ex
  obtain ⟨v, u, rfl, r1, r2⟩ := rvL2 h
  exact ⟨i, j, by rw [r1.int, r2.int], q _ F G H _ p R .refl (.int _) trivial⟩
def fInt : FC := fun xs P => (∃ i n, xs = [(.int i, n)] ∧ P (dI i)) ∨ (∃ k n, xs = [(.bool k, n)] ∧ P (dI (if k then 1 else 0))) ∨ ∃ a n i, xs = [(.str a, n)] ∧ PySem.intText? a = some i ∧ a.length ≤ 640 ∧ P (dI i)
theorem c_int : CallD X (.type "int") fInt := by
  refine ⟨_, CallR.or call_int1 call_int_str, fun Z F G H σ env vs xs P Q R h hf q => ?_⟩
  have fin : ∀ i : Int, P (dI i) → Q (.int i) H := fun i p => q _ F G H _ p R .refl (.int _) trivial
  rcases hf with ⟨i, n, ex, p⟩ | ⟨k, n, ex, p⟩ | ⟨a, n, i, ex, hi, hl, p⟩
  · subst ex; obtain ⟨v, rfl, r1⟩ := rvL1 h; exact .inl (.inl ⟨i, by rw [r1.int], fin _ p⟩)
  · subst ex; obtain ⟨v, rfl, r1⟩ := rvL1 h; exact .inl (.inr ⟨k, by rw [r1.bl], fin _ p⟩)
  · subst ex; obtain ⟨v, rfl, r1⟩ := rvL1 h; exact .inr ⟨a, i, by rw [r1.str], hi, hl, fin _ p⟩
/-- the items of a list -/
def listOf : D → Option (List D)
  | .list xs => some xs | .scr xs => some xs | _ => none
theorem Rv.listL {K : PySem.W.Frag} {mg : Str → Option Value} {B H : Hp} {v : V} {d : D} {ds : List D} (h : Rv K mg B H v d) (s : Same B H) (e : listOf d = some ds) : ∃ a vs, v = .ref a ∧ SqL K H a vs ∧ Rps K mg B vs ds := by
  cases d <;> first
    | (cases e; done)
    | (cases e
       first
         | (obtain ⟨a, vs, h1, h2, h3⟩ := h.list s; exact ⟨a, vs, h1, SqL.of h2, h3⟩)
         | (obtain ⟨a, vs, h1, h2, h3⟩ := h.scr; exact ⟨a, vs, h1, s.seq h2, h3⟩))
theorem rps_ints {K : PySem.W.Frag} {mg : Str → Option Value} {B : Hp} : ∀ {vs : List V} {ns : List Int}, Rps K mg B vs (ns.map D.int) → vs = ns.map V.int
  | _, [], .nil => rfl
  | _, n :: ns, .cons h r => by cases h; rw [rps_ints r]; rfl
theorem ints_rps {K : PySem.W.Frag} {mg : Str → Option Value} {B : Hp} : ∀ {ns : List Int}, Rps K mg B (ns.map V.int) (ns.map D.int)
  | [] => .nil
  | n :: ns => .cons (.int n) ints_rps
def fSum : FC := fun xs P => ∃ (d : D) (n : Bool) (ns : List Int), xs = [(d, n)] ∧ seqOf d = some (ns.map D.int) ∧ P (dI ns.sum)
/-- sum(xs) of a list or a tuple of ints -/
def rSumA (K : PySem.W.Frag) : List V → Hp → VK → Prop := fun vs H Q => ∃ (a : Addr) (ns : List Int), vs = [V.ref a] ∧ (SqL K H a (ns.map V.int) ∨ SqT K H a (ns.map V.int)) ∧ Q (.int ns.sum) H
open PyProof.Rows PySem.Calls PyProof.V in
theorem sum_rawT {prog : Program} {w : World} {A : Around} {E : Value → Shared → Prop} {s : Shared} {l : Addr} {its : List Value} {ns : List Int} {Q : Value → Shared → Prop} (hh : A.handled = none) (hl : s.heap.IsTuple l its.toArray) (hi : IntsAre its ns)
    (h : ∀ h' tk t', (∀ b o, s.heap.get? b = some o → h'.get? b = some o) → Q (.int ns.sum t') { s with heap := h', toks := tk }) : wpAny (model prog w) A (call (.builtin "sum") [.ref l]) Q E s := by
  obtain ⟨xs, e⟩ := hi.allInts.items
  have hn : numsOf (intItems xs).toList = ns := by rw [← e]; exact hi.numsOf
  rw [nums_intItems] at hn
  rw [e] at hl
  refine PySem.W.ktm_sumG hh hl fun h' tk t' hk => ?_
  have := h h' tk t' hk
  rw [preSum_eq, List.take_of_length_le (by simp), hn]; exact this
open PyProof.Rows PySem.Calls PyProof.V in
theorem cr_sumA (hc : X.calm = true) : CallR X (.builtin "sum") (rSumA X.K) := by
  intro pins s σ H vs us Q I r h
  obtain ⟨a, ns, rfl, hs, q⟩ := h
  rw [Vals.ref1 r]
  rcases hs with hs | hs
  · obtain ⟨its, rv, hl, _⟩ := I.list hs
    exact sum_raw (I.ok.hd hc) hl.isList rv.ints fun h' tk t' hk => ⟨.int _, H, I.kept hk, ⟨_, rfl⟩, q⟩
  · obtain ⟨its, rv, hl, _⟩ := I.tuple hs
    exact sum_rawT (I.ok.hd hc) (show s.heap.IsTuple a its.toArray from hl) rv.ints fun h' tk t' hk => ⟨.int _, H, I.kept hk, ⟨_, rfl⟩, q⟩
theorem c_sum (hc : X.calm = true) : CallD X (.builtin "sum") fSum := by
  refine ⟨_, cr_sumA hc, fun Z F G H σ env vs xs P Q R h ⟨d, n, ns, ex, el, p⟩ q => ?_⟩
  subst ex
  obtain ⟨v, rfl, r1⟩ := rvL1 h
  obtain ⟨a, ws, rfl, h1, h2⟩ := r1.seq R.selH el
  rw [rps_ints h2] at h1
  exact ⟨a, ns, rfl, h1, q _ F G H _ p R .refl (.int _) trivial⟩
/-- list(x), tuple(x) -/
def fList : FC := fun xs P => ∃ (d : D) (n : Bool) (ds : List D), xs = [(d, n)] ∧ seqOf d = some ds ∧ P (.ow (.list ds) n)
theorem c_list : CallD X (.type "list") fList := by
  refine ⟨_, call_list_of, fun Z F G H σ env vs xs P Q R h ⟨d, n, ds, ex, el, p⟩ q => ?_⟩
  subst ex
  obtain ⟨v, rfl, r1⟩ := rvL1 h
  obtain ⟨a, ws, rfl, h1, h2⟩ := r1.seq R.selH el
  refine ⟨a, ws, rfl, h1, fun p' hp => ?_⟩
  obtain ⟨k1, k2, k3, k4⟩ := RT.newList (n := n) R hp h2
  exact q _ _ _ _ _ p k1 k2 k3 k4
def fTuple : FC := fun xs P => ∃ d n, xs = [(d, n)] ∧ ((∃ ds, listOf d = some ds ∧ P (.fz (.tuple ds) n)) ∨ ∃ ds, d = .tuple ds ∧ P (.fz (.tuple ds) n))
theorem c_tuple : CallD X (.type "tuple") fTuple := by
  refine ⟨_, call_tuple_of, fun Z F G H σ env vs xs P Q R h ⟨d, n, ex, hf⟩ q => ?_⟩
  subst ex
  obtain ⟨v, rfl, r1⟩ := rvL1 h
  rcases hf with ⟨ds, el, p⟩ | ⟨ds, rfl, p⟩
  · obtain ⟨a, ws, rfl, h1, h2⟩ := r1.listL R.selH el
    refine ⟨a, ws, rfl, .inl ⟨h1, fun p' hp => ?_⟩⟩
    obtain ⟨k1, k2, k3⟩ := RT.newTup (n := n) R hp h2
    exact q _ _ _ _ _ p k1 k2 k3 trivial
  · obtain ⟨a, ws, rfl, h1, h2⟩ := r1.tup
    exact ⟨a, ws, rfl, .inr ⟨SqT.of (R.selH _ _ h1), q _ F G H _ p R .refl (.tup h1 h2) trivial⟩⟩
end

def tyN : D → Option String
  | .none => some "NoneType" | .bool _ => some "bool" | .int _ => some "int" | .str _ => some "str" | .list _ => some "list" | .scr _ => some "list" | .tuple _ => some "tuple" | .ktup _ => some "tuple" | .dict _ _ => some "dict" | _ => none
def isiN (t c : String) : Bool := t == c || (t == "bool" && c == "int")
def tyNs : List String := ["NoneType", "bool", "int", "str", "list", "tuple", "dict"]
def clNs : List String := ["bool", "int", "str", "list", "tuple", "dict"]
theorem kit_all : (tyNs.all fun t => clNs.all fun c => kitB t c == some (isiN t c)) = true := by decide +kernel
theorem kit_at {t c : String} (ht : t ∈ tyNs) (hc : c ∈ clNs) : kitB t c = some (isiN t c) := by
  have h := kit_all
  rw [List.all_eq_true] at h
  have h2 := h t ht
  rw [List.all_eq_true] at h2
  exact of_decide_eq_true (by simpa using h2 c hc)
theorem tyN_mem {d : D} {t : String} (h : tyN d = some t) : t ∈ tyNs := by
  cases d <;> first | (cases h; done) | (cases h; decide)
section
variable {X : Cx} {Z : Zx} {W : WX} {pos p p2 : Pos} {x c : Str} {e : Expr} {w : DW} {C : String}
theorem TyX.ofK {K : PySem.W.Frag} {H : Hp} {a : Addr} {xs : List V} (h : SqL K H a xs) : TyX K H (.ref a) (.type "list") := by
  rcases h with h | h
  · rcases h with h | ⟨o, h⟩
    · exact .base (.lst h)
    · exact .base (.frz h)
  · obtain ⟨o, its, n, h1, h2, _⟩ := h
    exact .kList h1 h2
theorem TyX.ofT {K : PySem.W.Frag} {H : Hp} {a : Addr} {xs : List V} (h : SqT K H a xs) : TyX K H (.ref a) (.type "tuple") := by
  rcases h with h | h
  · rcases h with h | ⟨o, h⟩
    · exact .base (.tup h)
    · exact .fTuple h
  · obtain ⟨o, its, n, h1, h2, _⟩ := h
    exact .kTuple h1 h2
theorem Rv.ty {K : PySem.W.Frag} {mg : Str → Option Value} {B H : Hp} {v : V} {d : D} {t : String} (h : Rv K mg B H v d) (s : Same B H) (e : tyN d = some t) : TyX K H v (.type t) := by
  cases d with
  | none => cases e; rw [h.non]; exact .base .non
  | bool b => cases e; rw [h.bl]; exact .base (.bl _)
  | int b => cases e; rw [h.int]; exact .base (.int _)
  | str b => cases e; rw [h.str]; exact .base (.str _)
  | list xs => cases e; obtain ⟨a, vs, rfl, h1, _⟩ := h.list s; exact .base (.lst h1)
  | scr xs => cases e; obtain ⟨a, vs, rfl, h1, _⟩ := h.scr; exact TyX.ofK (s.seq h1)
  | tuple xs => cases e; obtain ⟨a, vs, rfl, h1, _⟩ := h.tup; exact .base (.tup (s _ _ h1))
  | ktup xs => cases e; obtain ⟨a, vs, rfl, h1, _⟩ := h.ktup; exact TyX.ofT (Same.seqT s h1)
  | dict t kvs =>
    cases e
    cases t with
    | false => obtain ⟨a, vs, rfl, h1, _⟩ := h.dictK s; exact .base (.dK h1)
    | true => obtain ⟨a, vs, rfl, h1, _⟩ := h.dictT s; exact .base (.dT h1)
  | _ => cases e
/-- isinstance(e, C) -/
def dIsi (C : String) (w : DW) : DW := fun env P E => w env (fun t e => ∃ d, rd e (hold t) = some d ∧ ∃ k, tyN d = some k ∧ P (dB (isiN k C)) e) E
theorem d_isi {iz : Str} (hz : iz = ("isinstance" : Str)) (hC : C ∈ clNs) (hm : X.mg iz = none) (hmC : X.mg c = none) (he : DE X Z W e w) (hg : Gl X iz := by rfl) (hgC : Gl X c := by rfl) (hv : bootBuiltins iz = some (.builtin "isinstance") := by rfl) (hvC : bootBuiltins c = some (.type C) := by rfl)
    (hnC : c ≠ "__name__" := by decide) (hdC : (c == ("__debug__" : Str)) = false := by decide)
    (hs1 : starEach [e, .Name c p2] X.env = (false, eval e X.env) :: starEach [.Name c p2] X.env := by rfl) (hs2 : starEach [.Name c p2] X.env = (false, eval (.Name c p2) X.env) :: starEach [] X.env := by rfl)
    (hpl : (backTo pos (starEach [.Name c p2] X.env)).any (·.1) = false := by rfl) : DE X Z W (.Call (.Name iz p) [e, .Name c p2] [] pos) (dIsi C w) := by
  subst hz
  refine PE.of (pe_callB call_isi hg hm hv (pa_cons he (pa_cons (pe_bltn hgC hmC hvC (v := .ty C) rfl hnC hdC) pa_nil hs2) hs1) (by decide) (by decide) hs1 hpl) fun σ H Q ⟨F, G, env, P, E, R, w, q, qe⟩ => ?_
  refine ⟨F, G, env, _, E, R, w, fun t e1 F1 G1 H1 v ⟨d, ed, k, ek, p⟩ R1 x1 r1 n1 => ?_, qe⟩
  obtain ⟨F2, G2, R2, x2, r2⟩ := RT.hold R1 x1 r1 n1
  have rv := RT.rv R2 r2 ed
  exact ⟨v, .ty C, .type k, .type C, isiN k C, rfl, .ty C, Rv.ty rv R2.selH ek, kit_ty (kit_at (tyN_mem ek) hC), q _ _ _ _ _ _ p R2 x2 (.bl _) trivial⟩
end
end DL

namespace DL
open PySem PySem.Spec PyProof.Rows L2

end DL

namespace DL
open PySem PySem.Spec L2
def dDcL (g : DG) (tt : DT) (tk tv : DW) (vs : List Nat) (n : Bool) (P : List (D × D) → Bool → DEnv → Prop) (E : Str → DEnv → Prop) : List D → List (D × D) → Bool → DEnv → Prop
  | [], acc, an, env => P acc an env
  | x :: xs, acc, an, env => ∃ e1, g x n (wipeE env vs) = some e1 ∧ tt e1 (fun b e2 => offE e2 vs ∧ (b = true → tk e2 (fun t e3 => ∃ k m, hold t = .fz k m ∧ (∃ kk, keyK k = some kk) ∧
      tv e3 (fun t' e4 => ∃ y, frz1 e4 (hold t') = some y ∧ acc.length < sizeLine ∧ offE y.2.2 vs ∧ dDcL g tt tk tv vs n P E xs (dput acc k y.1) (an && y.2.1) y.2.2) E) E) ∧
      (b = false → dDcL g tt tk tv vs n P E xs acc an e2)) E
def dDc (w : DI) (g : DG) (tt : DT) (tk tv : DW) (vs : List Nat) : DW := fun env P E => w env (fun items n e0 => offE e0 vs ∧ dDcL g tt tk tv vs n (fun ds an e => P (.ow (.dict false ds) an) (outE e0 (wipeE e vs) vs)) (fun _ _ => False) items [] true e0) E
section
variable {X : Cx} {Z : Zx} {W : WX}
end
section
variable {X : Cx} {Z : Zx} {W : WX} {pos : Pos}
end
end DL

namespace DL
open PySem PySem.Spec L2

section
variable {X : Cx} {Z : Zx} {W : WX}
end

def tyOk (T : String) (d : D) : Prop := match d with
  | .str _ => T = "str"
  | .list _ => T = "list"
  | .scr _ => T = "list"
  | .dict _ _ => T = "dict"
  | _ => False
theorem tyOk_v {K : PySem.W.Frag} {mg : Str → Option Value} {B H : Hp} {v : V} {d : D} {T : String} (h : Rv K mg B H v d) (s : Same B H) (e : tyOk T d) : tyV K T v H := by
  cases d with
  | str x => rw [h.str]; exact e
  | list xs => obtain ⟨a, vs, rfl, h1, _⟩ := h.list s; exact .inl ⟨e, vs, SqL.of h1⟩
  | scr xs => obtain ⟨a, vs, rfl, h1, _⟩ := h.scr; exact .inl ⟨e, vs, s.seq h1⟩
  | dict t kvs =>
    cases t with
    | false => obtain ⟨a, vs, rfl, h1, _⟩ := h.dictK s; exact .inr (.inr (.inl ⟨e, .inl ⟨vs, h1⟩⟩))
    | true => obtain ⟨a, vs, rfl, h1, _⟩ := h.dictT s; exact .inr (.inr (.inl ⟨e, .inr ⟨vs, h1⟩⟩))
  | _ => exact e.elim
abbrev FB := D × Bool → List (D × Bool) → (T → Prop) → Prop
def MtD (X : Cx) (id : String) (f : FB) : Prop := ∃ r : V → List V → Hp → VK → Prop, MtR X id r ∧
  ∀ (Z : Zx) (F G H : Hp) (σ : Sg) (env : DEnv) (v : V) (x : D × Bool) (vs : List V) (xs : List (D × Bool)) (P : T → Prop) (Q : VK),
    EnvR X.K X.mg Z F G H σ env → Rv X.K X.mg (sel x.2 G F) H v x.1 → RvL X.K X.mg F G H vs xs → f x xs P → After X Z F G H σ env P Q → r v vs H Q
def dBM (T : String) (f : FB) (w : DW) (wa : DA) : DW := fun env P E => w env (fun t e1 => (∃ d, rd e1 (hold t) = some d ∧ tyOk T d) ∧ wa e1 (fun ts e2 => ∃ x, rd e2 (hold t) = some x ∧ ∃ xs, rdL e2 ts = some xs ∧ f (x, rdn e2 (hold t)) xs fun t' => P t' e2) E) E
section
variable {X : Cx} {Z : Zx} {W : WX} {o e : Expr} {es : List Expr} {w : DW} {wa : DA} {f : FB} {T id : String} {name : Str} {apos cpos : Pos}
theorem d_bm (hf : MtD X id f) (pa : PlainAttrs T) (slot : PySem.Slot T name id) (hty : typeOf (.builtin id) = pure (.type "method_descriptor")) (ho : DE X Z W o w) (ha : DAr X Z W (e :: es) wa)
    (hbase : attributeBase o name X.env (eval o X.env) = eval o X.env := by rfl)
    (hfew : ((backTo cpos (starEach (e :: es) X.env)).all (fun x => !x.1) && (backToKw cpos (keywordEach [] X.env)).all (fun x => x.1.isSome) && decide ((e :: es).length + ([] : List Keyword).length + (if ([] : List Keyword).isEmpty then 0 else 1) < 30)) = true := by rfl)
    (hline : (apos.endLine == cpos.line) = true := by rfl) (hs : starEach (e :: es) X.env = (false, eval e X.env) :: starEach es X.env := by rfl) (hplain : (backTo cpos (starEach es X.env)).any (·.1) = false := by rfl) :
    DE X Z W (.Call (.Attribute o name apos) (e :: es) [] cpos) (dBM T f w wa) := by
  obtain ⟨r, hr, hk⟩ := hf
  refine PE.of (pe_bm pa slot hty hr ho ha hbase hfew hline hs hplain) fun σ H Q ⟨F, G, env, P, E, R, w, q, qe⟩ => ?_
  refine ⟨F, G, env, _, E, R, w, fun t e1 F1 G1 H1 v ⟨⟨d, ed, et⟩, p⟩ R1 x1 r1 n1 => ?_, qe⟩
  obtain ⟨F2, G2, R2, x2, r2⟩ := RT.hold R1 x1 r1 n1
  refine ⟨tyOk_v (RT.rv R2 r2 ed) R2.selH et, F2, G2, e1, _, E, R2, p, fun ts e3 F3 G3 H3 vs ⟨x, ex, xs, exs, p3⟩ R3 x3 r3 => ?_, qe⟩
  refine hk Z F3 G3 H3 σ e3 v (x, _) vs xs _ _ R3 (RT.rv R3 (RT.ext r2 hold_ow x3) ex) (RTs.rvL R3 r3 exs) p3 fun t F' G' H' v pt R' x' r' n' => ?_
  exact q t e3 F' G' H' v pt R' ((x2.trans x3).trans x') r' (newT_back (x2.trans x3).d n')
end
section
variable {X : Cx}
def fCount : FB := fun x xs P => ∃ a b n, x.1 = .str a ∧ xs = [(.str b, n)] ∧ P (dI (Txt.count a b))
end

/-- own slots are hidden, those of js stand as data -/
def quietS (k : Bool) : Slot → Slot
  | .fz d _ => .fz d false
  | .un => .un
  | .ow d _ => if k then .fz d false else .un
  | .io d => if k then .fz d false else .un
  | .dp d => if k then .fz (er d) false else .un
  | .di d => if k then .fz (er d) false else .un
def quiet (js : List Nat) : Nat → DEnv → DEnv
  | _, [] => []
  | i, s :: e => quietS (decide (i ∈ js)) s :: quiet js (i + 1) e
/-- the result does not lean on what was lent -/
def quietT : T → Option T
  | .fz d n => if n || gnd d then some (.fz d true) else none
  | .ow d n => if n then some (.ow d true) else none
  | .al _ => none
  | .dp _ => none
def dQuiet (js : List Nat) (w : DW) : DW := fun env P E => w (quiet js 0 env) (fun t e => ∃ t', quietT t = some t' ∧ P t' env) (fun c _ => E c env)
theorem quiet_at {js : List Nat} : ∀ {e : DEnv} {k i : Nat} {s : Slot}, (quiet js k e)[i]? = some s → s = .un ∨ ∃ d, s = .fz d false ∧ ∃ s', e[i]? = some s' ∧ ((∃ n, s' = .fz d n) ∨ (k + i ∈ js ∧ ((∃ n, s' = .ow d n) ∨ s' = .io d ∨ ∃ x, d = er x ∧ (s' = .dp x ∨ s' = .di x))))
  | [], k, i, s, h => by simp [quiet, quietS] at h
  | c :: e, k, 0, s, h => by
    cases c with
    | un => simp [quiet, quietS] at h; exact .inl h.symm
    | fz d n => simp [quiet, quietS] at h; exact .inr ⟨d, h.symm, _, rfl, .inl ⟨n, rfl⟩⟩
    | ow d n =>
      simp [quiet, quietS] at h
      by_cases hk : k ∈ js
      · rw [if_pos hk] at h; exact .inr ⟨d, h.symm, _, rfl, .inr ⟨by simpa using hk, .inl ⟨n, rfl⟩⟩⟩
      · rw [if_neg hk] at h; exact .inl h.symm
    | io d =>
      simp [quiet, quietS] at h
      by_cases hk : k ∈ js
      · rw [if_pos hk] at h; exact .inr ⟨d, h.symm, _, rfl, .inr ⟨by simpa using hk, .inr (.inl rfl)⟩⟩
      · rw [if_neg hk] at h; exact .inl h.symm
    | dp d =>
      simp [quiet, quietS] at h
      by_cases hk : k ∈ js
      · rw [if_pos hk] at h; exact .inr ⟨er d, h.symm, _, rfl, .inr ⟨by simpa using hk, .inr (.inr ⟨d, rfl, .inl rfl⟩)⟩⟩
      · rw [if_neg hk] at h; exact .inl h.symm
    | di d =>
      simp [quiet, quietS] at h
      by_cases hk : k ∈ js
      · rw [if_pos hk] at h; exact .inr ⟨er d, h.symm, _, rfl, .inr ⟨by simpa using hk, .inr (.inr ⟨d, rfl, .inr rfl⟩)⟩⟩
      · rw [if_neg hk] at h; exact .inl h.symm
  | c :: e, k, i + 1, s, h => by
    have h' : (quiet js (k + 1) e)[i]? = some s := by cases c <;> simpa [quiet, quietS] using h
    have e1 : k + 1 + i = k + (i + 1) := by omega
    rcases quiet_at h' with z | ⟨d, z1, s', z2, z3⟩
    · exact .inl z
    · rw [e1] at z3
      exact .inr ⟨d, z1, s', by simpa using z2, z3⟩
theorem quiet_len {js : List Nat} : ∀ {e : DEnv} {k : Nat}, (quiet js k e).length = e.length
  | [], _ => rfl
  | c :: e, k => by cases c <;> simp [quiet, quietS, quiet_len (e := e)]
open Classical in
/-- the slots' own objects, laid over the frozen ones -/
noncomputable def overO (js : List Nat) (σ : Sg) (env : DEnv) (H F : Hp) : Hp := fun a => if (∃ i ∈ js, ∃ s, env[i]? = some s ∧ isOwn s = true ∧ OwnAt σ i s a) then H a else F a
section
variable {K : PySem.W.Frag} {mg : Str → Option Value} {Z : Zx} {F G H F1 G1 H1 : Hp} {σ : Sg} {env e1 : DEnv} {js : List Nat}
theorem EnvR.over (R : EnvR K mg Z F G H σ env) : Same F (overO js σ env H F) := fun a o e => by
  unfold overO
  split
  · rename_i h
    obtain ⟨i, _, s, h1, h2, h3⟩ := h
    exact R.fh _ _ e
  · exact e
theorem EnvR.quiet (R : EnvR K mg Z F G H σ env) : EnvR K mg ⟨[], H, overO js σ env H F, [], [], Z.T⟩ (overO js σ env H F) (fun _ => none) H σ (DL.quiet js 0 env) := by
  have no : ∀ {i : Nat} {s : Slot}, (DL.quiet js 0 env)[i]? = some s → isOwn s = true → False := fun {i s} e o => by
    rcases quiet_at e with rfl | ⟨d, rfl, _⟩ <;> cases o
  refine ⟨fun a o e => ?_, fun b o e => (by have e' : (none : Option HO) = some o := e; cases e'), .refl _, fun b o e => (by have e' : (none : Option HO) = some o := e; cases e'), fun b o e k => ?_, fun b o e k _ _ => e, fun b o e => ⟨o, e⟩, ?_, fun i st e => ?_,
    fun i j st t a e1 o1 e2 o2 a1 a2 => (no e1 o1).elim, fun p hp => (by simp at hp), fun p hp => (by simp at hp), fun b hb => (by cases hb), fun b hb => (by cases hb), fun p hp => (R.tb p hp).keep R.over fun _ e => e⟩
  · unfold overO at e
    split at e
    · exact e
    · exact R.fh _ _ e
  · have k' : overO js σ env H F b = none := k
    rw [k'] at e; cases e
  · rw [quiet_len]; exact R.len
  · rcases quiet_at e with rfl | ⟨d, rfl, s', es, h⟩
    · trivial
    · have q := R.slot i s' es
      rw [Nat.zero_add] at h
      rcases h with ⟨n, rfl⟩ | ⟨hi, h⟩
      · obtain ⟨v, q1, q2⟩ := q
        exact ⟨v, q1, (q2.mono (sel_le R.gf)).mono R.over⟩
      · have go : ∀ {a : Addr} {B : Hp}, σ[i]? = some (some (.ref a)) → isOwn s' = true → Same B F → OwnC K mg B H a d → SlotOk K mg ⟨[], H, overO js σ env H F, [], [], Z.T⟩ (overO js σ env H F) (fun _ => none) H σ i (.fz d false) := fun {a B} ea o s c => by
          obtain ⟨u, eu⟩ := c.there
          refine ⟨.ref a, ea, c.rp eu (s.trans R.over) ?_⟩
          show overO js σ env H F a = some u
          unfold overO
          rw [if_pos ⟨i, hi, s', es, o, .inl ea⟩]
          exact eu
        have god : ∀ {a : Addr} {x : D}, σ[i]? = some (some (.ref a)) → isOwn s' = true → fpS s' = fp x → d = er x → OwD K mg F H a x → SlotOk K mg ⟨[], H, overO js σ env H F, [], [], Z.T⟩ (overO js σ env H F) (fun _ => none) H σ i (.fz d false) := fun {a x} ea o ef ed c => by
          subst ed
          have r := c.1.er (B' := overO js σ env H F) R.over fun b hb u eu => by
            show overO js σ env H F b = some u
            unfold overO
            rw [if_pos ⟨i, hi, s', es, o, (show b = a ∨ b ∈ fp x by simpa [fp] using hb).imp (fun z => by rw [z]; exact ea) fun z => by rw [ef]; exact z⟩]
            exact eu
          exact ⟨.ref a, ea, r⟩
        rcases h with ⟨n, rfl⟩ | rfl | ⟨x, ed, rfl | rfl⟩
        · obtain ⟨a, q1, q2, q3, q4⟩ := q
          exact go q1 rfl (sel_le R.gf) q3
        · obtain ⟨a, q1, q2, q3, q4⟩ := q
          exact go q1 rfl (.refl _) q3
        · obtain ⟨a, q1, q2, q3, q4⟩ := q
          exact god q1 rfl rfl ed q2
        · obtain ⟨a, q1, q2, q3, q4⟩ := q
          exact god q1 rfl rfl ed q2
open Classical in
/-- what was known, what is new, and the code objects -/
noncomputable def cdU (F F1 G1 : Hp) : Hp := fun a => if ∃ q, F1 a = some (LamX.CodeO a q) then F1 a else uni F G1 a
theorem codeO_own {B H : Hp} {a c : Addr} {d : D} {q : Str} (h : OwnC K mg B H a d) (e : H a = some (LamX.CodeO c q)) : False := by
  unfold LamX.CodeO at e
  rcases h with ⟨ds, vs, h1, h2, h3⟩ | ⟨ds, vs, h1, h2, h3, h4⟩ | ⟨ds, vs, h1, h2, h3, h4⟩ | ⟨cn, fs, C, dx, fvs, h1, h2, h3, h4, h5⟩ <;> (rw [h2] at e; cases e)
theorem EnvR.own_noCode (R : EnvR K mg Z F G H σ env) {a c : Addr} {q : Str} (h : Own σ env a) (e : H a = some (LamX.CodeO c q)) : False := by
  obtain ⟨i, s, ei, hs, ha⟩ := h
  have k := R.slot i s ei
  have vv : ∀ {b : Addr} {d : D}, OwD K mg F H b d → σ[i]? = some (some (.ref b)) → (σ[i]? = some (some (.ref a)) ∨ a ∈ fp d) → False := fun {b d} hd e1 ha => by
    have hm : a ∈ fp (.own b d) := by
      rcases ha with ha | ha
      · rw [ha] at e1; cases e1; simp [fp]
      · simp [fp, ha]
    obtain ⟨o, e2, e3⟩ := hd.1.thereX a hm
    rw [e] at e2; cases e2
    exact e3 _ rfl
  cases s with
  | un => cases hs
  | fz => cases hs
  | ow d n =>
    obtain ⟨b, e1, _, e3, _⟩ := k
    rcases ha with ha | ha
    · rw [ha] at e1; cases e1; exact codeO_own e3 e
    · cases ha
  | io d =>
    obtain ⟨b, e1, _, e3, _⟩ := k
    rcases ha with ha | ha
    · rw [ha] at e1; cases e1; exact codeO_own e3 e
    · cases ha
  | dp d => obtain ⟨b, e1, e2, _⟩ := k; exact vv e2 e1 ha
  | di d => obtain ⟨b, e1, e2, _⟩ := k; exact vv e2 e1 ha
theorem EnvR.loud (R : EnvR K mg Z F G H σ env) (R1 : EnvR K mg ⟨[], H, overO js σ env H F, [], [], Z.T⟩ F1 G1 H1 σ e1) : EnvR K mg Z (cdU F F1 G1) (uni G G1) H1 σ env ∧ Ext σ env env F G H (cdU F F1 G1) (uni G G1) H1 := by
  have gH : ∀ a o, G1 a = some o → H a = none := R1.gn
  have hH : ∀ a o, H a = some o → (∀ ps, o ≠ .tbl ps) → H1 a = some o := fun a o e t => R1.frame a o e (fun p hp => by simp at hp) (fun hp => by cases hp) t
  have f1 : Same F F1 := R.over.trans R1.f0
  have fl : Same F (cdU F F1 G1) := fun a o e => by
    unfold cdU
    split
    · exact f1 _ _ e
    · exact uni_l (fun a o e => snone R.fh (gH a o e)) _ _ e
  have gl : Same G (uni G G1) := uni_l fun a o e => snone R.gh (gH a o e)
  -- a code object that is new to F is new to H
  have cd : ∀ {a q}, F1 a = some (LamX.CodeO a q) → F a = some (LamX.CodeO a q) ∨ H a = none := fun {a q} e => by
    cases k : overO js σ env H F a with
    | none => exact .inr (R1.fn a _ e k)
    | some o =>
      have e2 := R1.f0 _ _ k
      rw [e] at e2; cases e2
      unfold overO at k
      split at k
      · rename_i hh
        obtain ⟨i, hi, s, es, o, at'⟩ := hh
        exact (R.own_noCode ⟨i, s, es, o, at'⟩ k).elim
      · exact .inl k
  have fo : ∀ {a o}, cdU F F1 G1 a = some o → (G1 a = some o ∨ F a = some o) ∨ (H a = none ∧ F1 a = some o ∧ ∃ q, F1 a = some (LamX.CodeO a q)) := fun {a o} e => by
    unfold cdU at e
    split at e
    · rename_i hh
      obtain ⟨q, hq⟩ := hh
      rcases cd hq with z | z
      · rw [e] at hq; cases hq; exact .inl (.inr z)
      · exact .inr ⟨z, e, q, hq⟩
    · unfold uni at e
      cases q : G1 a with
      | some u => rw [q] at e; exact .inl (.inl e)
      | none => rw [q] at e; exact .inl (.inr e)
  refine ⟨R.nextT fl gl (fun a o e => ?_) (fun a o e => ?_) (fun a o e => ?_) (fun a o e k => ?_) (fun a ow => ⟨?_, fun o e => hH a o e (by obtain ⟨_, u, e', t⟩ := R.own_atT ow; rw [e] at e'; cases e'; exact t)⟩) (fun a o u _ e => hH a o e) R1.dom (fun p hp => ?_), fl, gl, fun b o e _ => hH b o e, R1.dom, fun b o e k _ => ?_, fun _ h => .inl h, fun _ d h => ⟨d, h⟩, rfl⟩
  · rcases fo e with (q | q) | ⟨_, q, _⟩
    · exact R1.gh _ _ q
    · exact R1.fh _ _ (f1 _ _ q)
    · exact R1.fh _ _ q
  · have e1 : F1 a = some o := by
      unfold uni at e
      cases q : G1 a with
      | some u => rw [q] at e; cases e; exact R1.gf _ _ q
      | none => rw [q] at e; exact f1 _ _ (R.gf _ _ e)
    unfold cdU
    split
    · exact e1
    · unfold uni at e ⊢
      cases q : G1 a with
      | some u => rw [q] at e; exact e
      | none => rw [q] at e; exact R.gf _ _ e
  · unfold uni at e
    cases q : G1 a with
    | some u => exact R.h0 (gH a u q)
    | none => rw [q] at e; exact R.gn _ _ e
  · rcases fo e with (q | q) | ⟨q, _⟩
    · exact R.h0 (gH a o q)
    · exact R.fn _ _ q k
    · exact R.h0 q
  · obtain ⟨h1, u, h2⟩ := R.own_at ow
    cases q : cdU F F1 G1 a with
    | none => rfl
    | some o =>
      rcases fo q with (q | q) | ⟨q, _⟩
      · rw [gH a o q] at h2; cases h2
      · rw [h1] at q; cases q
      · rw [q] at h2; cases h2
  · obtain ⟨ps, e1, e2, e3⟩ := R1.tb p hp
    refine ⟨ps, e1, e2, fun pos cv hc => ?_⟩
    obtain ⟨c, e4, e5⟩ := e3 pos cv hc
    refine ⟨c, e4, ?_⟩
    unfold cdU
    rw [if_pos ⟨_, e5⟩]
    exact e5
  · cases q : cdU F F1 G1 b with
    | none => rfl
    | some u =>
      rcases fo q with (q | q) | ⟨q, _⟩
      · rw [gH b u q] at e; cases e
      · rw [k] at q; cases q
      · rw [q] at e; cases e
end
theorem quietT_new {t t' : T} {v : V} {H : Hp} (e : quietT t = some t') (n : NewT H v t) : NewT H v t' := by
  cases t' with
  | fz d m => trivial
  | al i => trivial
  | dp d =>
    cases t with
    | al i => cases e
    | dp d' => cases e
    | fz d m => by_cases hn : (m || gnd d) = true <;> simp [quietT, hn] at e
    | ow d m => by_cases hn : m = true <;> simp [quietT, hn] at e
  | ow d m =>
    cases t with
    | al i => cases e
    | dp d' => cases e
    | fz d m => by_cases hn : (m || gnd d) = true <;> simp [quietT, hn] at e
    | ow d' m' => exact n
section
variable {X : Cx} {Z : Zx} {W : WX} {e : Expr} {w : DW}
/-- own objects of the slots js are read as data, whatever e does; nothing of them stays -/
theorem d_quiet {tbs : List (Addr × Str)} (js : List Nat) (h : ∀ Z' : Zx, Z'.T = tbs → DE X Z' W e w) (ht : Z.T = tbs := by assumption) : DE X Z W e (dQuiet js w) := by
  refine ⟨fun pins s σ H Q I ⟨F, G, env, P, E, R, w, q, qe⟩ => ?_⟩
  refine (h ⟨[], H, overO js σ env H F, [], [], Z.T⟩ ht).run pins s σ H Q I ⟨overO js σ env H F, fun _ => none, DL.quiet js 0 env, _, _, R.quiet, w, fun t e1 F1 G1 H1 v ⟨t', et, p⟩ R1 x1 r1 n1 => ?_, fun c e1 F1 G1 H1 C p R1 hm => ?_⟩
  · obtain ⟨R2, x2⟩ := R.loud R1
    refine q t' env _ _ H1 v p R2 x2 ?_ ?_
    · cases t with
      | al i => cases et
      | dp d => cases et
      | fz d n =>
        unfold quietT at et
        have r : Rp X.K X.mg (sel n G1 F1) v d := r1
        by_cases hn : (n || gnd d) = true
        · simp only [hn, if_true, Option.some.injEq] at et
          subst et
          show Rp X.K X.mg (uni G G1) v d
          cases n with
          | true => exact Rp.mono uni_r r
          | false => exact r.gnd (by simpa using hn)
        · simp only [hn] at et
          cases et
      | ow d n =>
        unfold quietT at et
        cases n with
        | false => cases et
        | true =>
          cases et
          obtain ⟨a, rfl, h1, h2, h3, h4⟩ := r1
          have h4' : H a = none := h4
          refine ⟨a, rfl, ?_, h2.mono uni_r, fun z => ?_, R.h0 h4'⟩
          · cases z : cdU F F1 G1 a with
            | none => rfl
            | some u =>
              unfold cdU at z
              split at z
              · rw [h1] at z; cases z
              · unfold uni at z
                cases y : G1 a with
                | some w => rw [R1.gf _ _ y] at h1; cases h1
                | none => rw [y] at z; rw [R.fh _ _ z] at h4'; cases h4'
          · obtain ⟨_, u, h5⟩ := R.own_at z
            rw [h4'] at h5; cases h5
    · exact quietT_new et n1
  · obtain ⟨R2, x2⟩ := R.loud R1
    exact qe c env _ _ H1 C p R2 hm
end
end DL

namespace DL
open PySem PySem.Spec L2

theorem RoomG.u65 {k : Nat} {A : Around} (r : RoomG k A) : A.units + 65 < cLine := by have := r.r.un; omega
theorem RoomG.u64 {k : Nat} {A : Around} (r : RoomG k A) : A.units + 64 < cLine := by have := r.r.un; omega
theorem RoomG.u1 {k : Nat} {A : Around} (r : RoomG k A) : A.units + 1 < cLine := by have := r.r.un; omega
theorem RoomG.u0 {k : Nat} {A : Around} (r : RoomG k A) : A.units < cLine := by have := r.r.un; omega

abbrev fSub : F2 := fI (fun _ _ => True) fun i j => dI (i - j)
abbrev fFdv : F2 := fI CDivW fun i j => dI (i / j)
abbrev fMod : F2 := fI (fun _ j => 0 < j) fun i j => dI (i % j)
abbrev fPow : F2 := fI CPow fun i j => dI (i ^ j.toNat)
abbrev fLe : F2 := fOrd (fun i j => decide (i ≤ j)) fun i j => !decide (j.cps.toList < i.cps.toList)
abbrev fGt : F2 := fOrd (fun i j => decide (j < i)) fun i j => decide (j.cps.toList < i.cps.toList)
abbrev fGe : F2 := fOrd (fun i j => decide (j ≤ i)) fun i j => !decide (i.cps.toList < j.cps.toList)
abbrev fMin : FC := fII fun i j => if j < i then j else i
abbrev fMax : FC := fII fun i j => if j > i then j else i

/-- a def of the module that is called by its name -/
structure FD (P : Program) (w : World) (K : PySem.W.Frag) (mg : Str → Option Value) (tbs : List (Addr × Str)) (base : Heap) (k : Nat) (x : Str) (n : Nat) (ms : List Bool) (Φ : DF) : Prop where
  ex : ∃ (f : Addr) (fd : FuncData) (ps : List Str), FnG P w K mg base k f fd ps (spD K mg tbs ms Φ) ∧ mg x = some (.ref f) ∧ PySem.W.keepIn K (.ref f) = true ∧ Binds K fd ps [] ∧ ps.length = n
theorem FD.mono {tbs : List (Addr × Str)} {P : Program} {w : World} {K : PySem.W.Frag} {mg : Str → Option Value} {base : Heap} {j k : Nat} {x : Str} {n : Nat} {ms : List Bool} {Φ : DF} (h : FD P w K mg tbs base j x n ms Φ) (hk : j ≤ k) : FD P w K mg tbs base k x n ms Φ := by
  obtain ⟨f, fd, ps, h1, h2⟩ := h.ex
  exact ⟨f, fd, ps, h1.mono hk, h2⟩
theorem FD.of {tbs : List (Addr × Str)} {P : Program} {w : World} {K : PySem.W.Frag} {mg : Str → Option Value} {base : Heap} {k : Nat} {x : Str} {ms : List Bool} {Φ : DF} {f : Addr} {fd : FuncData} {ps : List Str} (F : FnG P w K mg base k f fd ps (spD K mg tbs ms Φ)) (hm : mg x = some (.ref f)) (hk : PySem.W.keepIn K (.ref f) = true) (hb : Binds K fd ps []) : FD P w K mg tbs base k x ps.length ms Φ :=
  ⟨f, fd, ps, F, hm, hk, hb, rfl⟩
section
variable {X : Cx} {Z : Zx} {W : WX} {pos p : Pos} {k n : Nat} {ms : List Bool} {Φ : DF} {x : Str} {e : Expr} {es : List Expr} {wa : DA}
theorem d_callF {tbs : List (Addr × Str)} (C : FD X.prog X.w X.K X.mg tbs X.base k x n ms Φ) (hr : RoomG k X.A) (tk : Takes X W) (ha : DAr X Z W (e :: es) wa) (hg : Gl X x := by rfl)
    (hdb : (x == ("__debug__" : Str)) = false := by decide) (he : starEach (e :: es) X.env = (false, eval e X.env) :: starEach es X.env := by rfl) (hpl : (backTo pos (starEach es X.env)).any (·.1) = false := by rfl) (ht : Z.T = tbs := by assumption) :
    DE X Z W (.Call (.Name x p) (e :: es) [] pos) (dCall ms Φ wa) := by
  obtain ⟨f, fd, ps, h1, h2, h3, h4, _⟩ := C.ex
  exact d_call h1 hr hg h2 h3 h4 tk ha hdb he hpl ht
/-- int and str constants of the module's top -/
def GInt (mg : Str → Option Value) (x : Str) (i : Int) : Prop := ∃ t, mg x = some (.int i t)
def GStr (mg : Str → Option Value) (x : Str) (z : Str) : Prop := ∃ t, mg x = some (.str z t)
theorem d_gint {i : Int} (h : GInt X.mg x i) (hg : Gl X x := by rfl) (hdb : (x == ("__debug__" : Str)) = false := by decide) : DE X Z W (.Name x pos) (dC (.int i)) := by
  obtain ⟨t, h⟩ := h
  exact d_glob (v := .int i) hg h ⟨t, rfl⟩ (fun _ => .int i) hdb
theorem d_gstr {z : Str} (h : GStr X.mg x z) (hg : Gl X x := by rfl) (hdb : (x == ("__debug__" : Str)) = false := by decide) : DE X Z W (.Name x pos) (dC (.str z)) := by
  obtain ⟨t, h⟩ := h
  exact d_glob (v := .str z) hg h ⟨t, rfl⟩ (fun _ => .str z) hdb
theorem pts_oneD {c : Expr} {tt : DT} (h : DTe X Z W0 c tt) : PTs X [c] (tDT X.K X.mg Z W0 tt) := pts_one h
end
/-- the law's promise -/
def Law (n : Nat) : DF := fun ds Q _ => ∃ ns : List Int, ns.length ≤ n ∧ ds = [.scr (ns.map .int)] ∧ Q (.fz (.bool true) true) []
theorem law_sp {tbs : List (Addr × Str)} {K : PySem.W.Frag} {mg : Str → Option Value} {n : Nat} {H : Hp} {a : Addr} {ns : List Int} (hl : ns.length ≤ n) (hS : SqL K H a (ns.map V.int)) : (∀ p ∈ tbs, TabF H H p.1 p.2) → spD K mg tbs [false] (Law n) [.ref a] H (fun v _ => v = .bl true) fun _ _ _ => False := by
  intro ht
  refine ⟨H, [.scr (ns.map .int)], [], [], fun t _ => t = .fz (.bool true) true, fun _ _ => False, ⟨.refl _, ht⟩, .fz (.scr hS ints_rps) .nil, List.nodup_nil, ⟨ns, hl, rfl, rfl⟩, fun t dio ls' F' G' H' v et b io nl r ro => ?_, fun _ _ _ _ _ _ _ z => z.elim⟩
  subst et
  exact Rp.bl' r
end DL

namespace DL
open PySem PySem.Spec PyProof.Rows L2
def revS (z : Str) : Str := ⟨z.cps.toList.reverse.toArray⟩
theorem picked_rev (z : Str) : (Builtin.Str.strSliceIndices none none (-1) z.length).filterMap (z.cps[·]?) = z.cps.toList.reverse := by
  unfold Builtin.Str.strSliceIndices
  show (sliceRange ((z.length : Int) - 1) (-1) (-1)).filterMap (z.cps[·]?) = _
  rw [PySem.W.krv_sliceRange, PySem.W.krv_range, List.filterMap_reverse]
  congr 1
  exact PySem.W.krv_all z.cps
section
variable {X : Cx} {Z : Zx} {W : WX} {pos p1 p2 p3 : Pos} {e : Expr} {w : DW} {k : Nat}
def tRevS (te : TE) : TE := fun σ H Q => te σ H fun x H1 => ∃ z, x = .str z ∧ z.length ≤ sizeLine ∧ Q (.str (revS z)) H1
theorem pe_revS {te : TE} (he : PE X e te) : PE X (.Subscript e (.Slice none none (some (.UnaryOp .USub (.Constant (.int 1) k p1) p2)) p3) pos) (tRevS te) := by
  refine ⟨fun pins s σ H Q I h => ?_⟩
  refine Subscript_ (thn (he.run pins s σ H _ I h) fun v s1 ⟨x, H1, I1, r1, z, ex, hz, q⟩ => ?_)
  subst ex
  obtain ⟨t, rfl⟩ := r1
  have one : PO X (some (.UnaryOp .USub (.Constant (.int 1) k p1) p2)) (tPart (tUn (rU fun i => .int (-i)) (tC (.int 1)))) := po_some (pe_un un_neg pe_int)
  refine wpAny_Slice (thn (po_none.run pins s1 σ H1 (fun o H2 => o = none ∧ H2 = H1) I1 ⟨rfl, rfl⟩) fun vl s2 ⟨l, H2, I2, pl, el, e2⟩ => ?_)
  subst el e2
  refine thn (po_none.run pins s2 σ H2 (fun o H3 => o = none ∧ H3 = H2) I2 ⟨rfl, rfl⟩) fun vu s3 ⟨u, H3, I3, pu, eu, e3⟩ => ?_
  subst eu e3
  refine thn (one.run pins s3 σ H3 (fun o H4 => o = some (-1) ∧ H4 = H3) I3 ⟨1, rfl, -1, rfl, rfl, rfl⟩) fun vs s4 ⟨o, H4, I4, ps, eo, e4⟩ => ?_
  subst eo e4
  have I5 : Inv X pins σ H4 { s4 with heap := s4.heap.push { cls := .type "slice", data := .fields #[vl, vu, vs] } } := I4.kept (t' := s4.toks) fun b ob q => Heap.get?_push_of_some _ q
  show wpAny (model X.prog X.w) X.A (subscriptTail e (.Slice none none (some (.UnaryOp .USub (.Constant (.int 1) k p1) p2)) p3) (.str z t) (.ref s4.heap.objs.size)) (EP X pins σ Q) X.xe { s4 with heap := s4.heap.push { cls := .type "slice", data := .fields #[vl, vu, vs] } }
  refine tail_any (ops := [.str z t, .ref s4.heap.objs.size]) (typeIs_str _ _ _) PySem.F.slot_str_getitem.lookup ?_ (by with_unfolding_all rfl)
  obtain ⟨l', rfl, el⟩ := IsPart.raw pl
  obtain ⟨u', rfl, eu⟩ := IsPart.raw pu
  obtain ⟨s', rfl, es⟩ := IsPart.raw ps
  obtain ⟨os, h1, h2, h3⟩ : ∃ os, _ := Heap.IsSliceOf.new s4.heap (partValue l') (partValue u') (partValue s')
  refine wpAny_getItem_str_slice (l := l') (u := u') (st := s') ⟨os, h1, h2, h3⟩ ?_ ?_
  · cases s' with
    | none => cases es
    | some p => obtain ⟨i, t'⟩ := p; cases es; rfl
  · have e1 : ((s'.map (·.1)).getD 1) = -1 := by rw [es]; rfl
    have e2 : slicePicked z l' u' s' = Builtin.Str.strSliceIndices none none (-1) z.length := by unfold slicePicked; rw [el, eu, e1]
    have e3 : sliceMade z t l' u' s' = Made.str (revS z) := by
      unfold sliceMade
      rw [e1, e2]
      rw [if_neg (by simp)]
      unfold revS
      rw [picked_rev]
    rw [e3]
    have hl : (revS z).length = z.length := by
      show z.cps.toList.reverse.toArray.size = z.cps.size
      simp
    exact ⟨by rw [hl]; exact hz, .str (revS z), H4, I5.tok _, ⟨_, rfl⟩, q⟩
def dRevS (w : DW) : DW := fun env P E => w env (fun t e => ∃ z n, t = .fz (.str z) n ∧ z.length ≤ sizeLine ∧ P (dS (revS z)) e) E
theorem d_revS (h : DE X Z W e w) : DE X Z W (.Subscript e (.Slice none none (some (.UnaryOp .USub (.Constant (.int 1) k p1) p2)) p3) pos) (dRevS w) := by
  refine PE.of (pe_revS h) fun σ H Q ⟨F, G, env, P, E, R, w, q, qe⟩ => ?_
  refine ⟨F, G, env, _, E, R, w, fun t e1 F1 G1 H1 v ⟨z, n, et, hz, p⟩ R1 x1 r1 n1 => ?_, qe⟩
  subst et
  cases (show Rp X.K X.mg _ v (.str z) from r1)
  exact ⟨z, rfl, hz, q _ _ _ _ _ _ p R1 x1 (.str _) trivial⟩
def dRevL (w : DW) : DW := fun env P E => w env (fun t e => ∃ x ds, rd e (hold t) = some x ∧ listOf x = some ds ∧ P (.ow (.list ds.reverse) (rdn e (hold t))) e) E
theorem d_revL (h : DE X Z W e w) : DE X Z W (.Subscript e (.Slice none none (some (.UnaryOp .USub (.Constant (.int 1) k p1) p2)) p3) pos) (dRevL w) := by
  refine PE.of (pe_revL h) fun σ H Q ⟨F, G, env, P, E, R, w, q, qe⟩ => ?_
  refine ⟨F, G, env, _, E, R, w, fun t e1 F1 G1 H1 v ⟨x, ds, ex, el, p⟩ R1 x1 r1 n1 => ?_, qe⟩
  obtain ⟨F2, G2, R2, x2, r2⟩ := RT.hold R1 x1 r1 n1
  obtain ⟨a, vs, rfl, h1, h2⟩ := (RT.rv R2 r2 ex).listL R2.selH el
  refine ⟨a, vs, rfl, h1, fun p' hp => ?_⟩
  obtain ⟨k1, k2, k3, k4⟩ := RT.newList R2 hp h2.rev
  exact q _ _ _ _ _ _ p k1 (x2.trans k2) k3 (newT_back x2.d k4)
end
end DL
namespace DL
open PySem PySem.Spec L2
def dOrE (a b : DW) : DW := fun env P E => a env P E ∨ b env P E
section
variable {X : Cx} {Z : Zx} {W : WX} {e tg : Expr}
theorem d_or {a b : DW} (ha : DE X Z W e a) (hb : DE X Z W e b) : DE X Z W e (dOrE a b) := ⟨fun pins s σ H Q I ⟨F, G, env, P, E, R, w, q⟩ => w.elim (fun w => ha.run pins s σ H Q I ⟨F, G, env, P, E, R, w, q⟩) fun w => hb.run pins s σ H Q I ⟨F, G, env, P, E, R, w, q⟩⟩
end
end DL
namespace DL
open PySem PySem.Spec L2
def rMulS : R2 := fun x y H Q => ∃ z n, x = .str z ∧ y = .int n ∧ MulOk z n ∧ Q (.str (Txt.mul z n)) H
theorem op_mulS {X : Cx} : OpR X (binaryOp .Mult) rMulS := by
  intro pins s σ H x y v u Q I rx ry h
  obtain ⟨z, n, rfl, rfl, ok, q⟩ := h
  obtain ⟨t, rfl⟩ := rx
  obtain ⟨t', rfl⟩ := ry
  exact SB.mul ok fun t2 k => ⟨.str (Txt.mul z n), H, I.tok _, ⟨_, rfl⟩, q⟩
def fMulA : F2 := fun x y n m P => match x, y with
  | .str z, .int k => MulOk z k ∧ P (dS (Txt.mul z k))
  | .tuple xs, .int k => xs ≠ [] ∧ 2 ≤ k ∧ k ≤ 1000 ∧ xs.length ≤ 1000 ∧ P (.fz (.tuple (List.replicate k.toNat xs).flatten) n)
  | x, y => fMul x y n m P
theorem o_mulA {X : Cx} : OpD X (binaryOp .Mult) fMulA := by
  obtain ⟨r, hr, hf⟩ := o_mul (X := X)
  refine ⟨_, OpR.or op_mulS (OpR.or op_repT hr), fun Z F G H σ env v1 v2 d1 d2 n1 n2 P Q R h1 h2 h q => ?_⟩
  unfold fMulA at h
  split at h
  · exact .inl ⟨_, _, h1.str, h2.int, h.1, q _ F G H _ h.2 R .refl (.str _) trivial⟩
  · obtain ⟨z1, z2, z3, z4, p⟩ := h
    obtain ⟨a, vs, rfl, ha, ra⟩ := h1.tup
    have e1 := ra.length
    refine .inr (.inl ⟨a, _, vs, rfl, h2.int, SqT.of (R.selH _ _ ha), (fun z => z1 (by subst z; exact List.length_eq_zero_iff.mp (by rw [← e1]; rfl))), z2, z3, by rw [e1]; exact z4, fun p' hp => ?_⟩)
    obtain ⟨k1, k2, k3⟩ := RT.newTup (n := n1) R hp (Rps.flat ra _)
    exact q _ _ _ _ _ p k1 k2 k3 trivial
  · exact .inr (.inr (hf Z F G H σ env v1 v2 _ _ n1 n2 P Q R h1 h2 h q))
end DL

namespace DL
open PySem PySem.Spec L2
/-- a comprehension over these items -/
def LcOk (g : DG) (tt : DT) (te : DW) (vs : List Nat) (n : Bool) (P : T → DEnv → Prop) (items : List D) (e0 : DEnv) : Prop :=
  offE e0 vs ∧ dLcL g tt te vs n (fun ds an e => P (.ow (.list ds) an) (outE e0 (wipeE e vs) vs)) (fun _ _ => False) items [] true e0
def DcOk (g : DG) (tt : DT) (tk tv : DW) (vs : List Nat) (n : Bool) (P : T → DEnv → Prop) (items : List D) (e0 : DEnv) : Prop :=
  offE e0 vs ∧ dDcL g tt tk tv vs n (fun ds an e => P (.ow (.dict false ds) an) (outE e0 (wipeE e vs) vs)) (fun _ _ => False) items [] true e0
section
variable {env e' : DEnv} {P : T → DEnv → Prop} {PB : Bool → DEnv → Prop} {PL : List T → DEnv → Prop} {PI : List D → Bool → DEnv → Prop} {PO : Option Int → DEnv → Prop} {E : Str → DEnv → Prop} {Ds : DEnds} {a b c : DSt} {w w2 w3 : DW} {ta tb : DT} {wa : DA} {i j : Nat} {t : T} {d : D} {f f' : F2} {fc : FC} {fb : FB} {wi : DI} {g : DG}
theorem x_seq (h : a env { Ds with nx := fun e => b e Ds }) : dSeq a b env Ds := h
theorem x_skip (h : Ds.nx env) : dSkip env Ds := h
theorem x_brk (h : Ds.bk env) : dBrk env Ds := h
theorem x_cnt (h : Ds.ct env) : dCnt env Ds := h
theorem x_exp (h : w env (fun _ e => Ds.nx e) Ds.ex) : dExp w env Ds := h
theorem x_ret (h : w env (fun t e => ∃ t', retT e t = some t' ∧ Ds.rt t' e) Ds.ex) : dRet w env Ds := h
theorem x_retN (h : Ds.rt (.fz .none true) env) : dRetN env Ds := h
theorem x_if (h : ta env (fun k e => (k = true → a e Ds) ∧ (k = false → b e Ds)) Ds.ex) : dIf ta a b env Ds := h
theorem x_set (h : w env (fun t e => ∃ e', setS e i t = some e' ∧ Ds.nx e') Ds.ex) : dSet i w env Ds := h
theorem x_setI (h : w2 env (fun tv e1 => (∃ s, ownS e1 j = some s) ∧ w e1 (fun tk e2 => ∃ x, frz1 e2 (hold tv) = some x ∧ ∃ c n k, ownS x.2.2 j = some (c, n) ∧ rd x.2.2 (hold tk) = some k ∧
  fSetI c k x.1 (n && x.2.1) fun c' n' => Ds.nx (mutS x.2.2 j c' n')) Ds.ex) Ds.ex) : dSetI j w w2 env Ds := h
theorem x_for (h : wi env (fun items n e => dForL g b n items e Ds) Ds.ex) : dFor wi g b env Ds := h
theorem x_unp (h : w env (fun t e => ∃ x, frz1 e (hold t) = some x ∧ ∃ e', g x.1 x.2.1 x.2.2 = some e' ∧ Ds.nx e') Ds.ex) : dUnp g w env Ds := h
theorem x_par (h : wa env (fun ts e => ∃ d n d' n', ts = [.fz d n, .fz d' n'] ∧ ∃ e1, setS e i (.fz d n) = some e1 ∧ ∃ e2, setS e1 j (.fz d' n') = some e2 ∧ Ds.nx e2) Ds.ex) : dPar i j wa env Ds := h
theorem x_augN (e1 : lookT env i = some t) (h : w env (fun te e1 => ∃ x y, rd e1 t = some x ∧ rd e1 (hold te) = some y ∧ f x y (rdn e1 t) (rdn e1 (hold te)) fun t' => ∃ e', setS e1 i t' = some e' ∧ Ds.nx e') Ds.ex) : dAugN i f w env Ds := ⟨t, e1, h⟩
theorem x_c (h : P (.fz d true) env) : dC d env P E := h
theorem x_var (e1 : lookT env i = some t) (h : P t env) : dVar i env P E := ⟨t, e1, h⟩
theorem x_op (h : w env (fun ta env1 => w2 env1 (fun tb env2 => ∃ x y, rd env2 (hold ta) = some x ∧ rd env2 (hold tb) = some y ∧ f x y (rdn env2 (hold ta)) (rdn env2 (hold tb)) fun t => P t env2) E) E) : dOp f w w2 env P E := h
theorem x_rd2 {x y : D} {ea eb : Option D} {R : D → D → Prop} (e1 : ea = some x) (e2 : eb = some y) (h : R x y) : ∃ x y, ea = some x ∧ eb = some y ∧ R x y := ⟨x, y, e1, e2, h⟩
theorem x_ex {α : Type} {x : α} {ea : Option α} {R : α → Prop} (e1 : ea = some x) (h : R x) : ∃ x, ea = some x ∧ R x := ⟨x, e1, h⟩
theorem x_tb (h : w env (fun t env1 => ∃ b n, t = .fz (.bool b) n ∧ PB b env1) E) : dTB w env PB E := h
theorem x_andT (h : ta env (fun c env1 => (c = true → tb env1 PB E) ∧ (c = false → PB false env1)) E) : dAndT ta tb env PB E := h
theorem x_orT (h : ta env (fun c env1 => (c = true → PB true env1) ∧ (c = false → tb env1 PB E)) E) : dOrT ta tb env PB E := h
theorem x_notT (h : ta env (fun c env1 => PB (!c) env1) E) : dNotT ta env PB E := h
theorem x_andV (h : w env (fun t env1 => ∃ c n, t = .fz (.bool c) n ∧ (c = true → w2 env1 P E) ∧ (c = false → P (dB false) env1)) E) : dAndV w w2 env P E := h
theorem x_orV (h : w env (fun t env1 => ∃ c n, t = .fz (.bool c) n ∧ (c = true → P (dB true) env1) ∧ (c = false → w2 env1 P E)) E) : dOrV w w2 env P E := h
theorem x_notV (h : w env (fun t env1 => ∃ c n, t = .fz (.bool c) n ∧ P (dB (!c)) env1) E) : dNotV w env P E := h
theorem x_ife (h : ta env (fun k env1 => (k = true → w env1 P E) ∧ (k = false → w2 env1 P E)) E) : dIfE ta w w2 env P E := h
theorem x_neg (h : w env (fun t env1 => ∃ i n, t = .fz (.int i) n ∧ P (dI (-i)) env1) E) : dNeg w env P E := h
theorem x_chain (h : w env (fun ta env1 => w2 env1 (fun tb env2 => ∃ x y, rd env2 (hold ta) = some x ∧ rd env2 (hold tb) = some y ∧
  f x y (rdn env2 (hold ta)) (rdn env2 (hold tb)) fun t => ∃ k n, t = .fz (.bool k) n ∧ (k = true → w3 env2 (fun tc env3 => ∃ y' z, rd env3 (hold tb) = some y' ∧ rd env3 (hold tc) = some z ∧
    f' y' z (rdn env3 (hold tb)) (rdn env3 (hold tc)) fun t' => P t' env3) E) ∧ (k = false → P (dB false) env2)) E) E) : dChain f f' w w2 w3 env P E := h
theorem x_nil (h : PL [] env) : dNil env PL E := h
theorem x_cons (h : w env (fun t env1 => wa env1 (fun ts env2 => PL (hold t :: ts) env2) E) E) : dCons w wa env PL E := h
theorem x_tup (h : wa env (fun ts env1 => ∃ x, frzL env1 ts = some x ∧ x.1.length ≤ sizeLine ∧ P (.fz (.tuple x.1) x.2.1) x.2.2) E) : dTup wa env P E := h
theorem x_lst (h : wa env (fun ts env1 => ∃ x, frzL env1 ts = some x ∧ x.1.length ≤ sizeLine ∧ P (.ow (.list x.1) x.2.1) x.2.2) E) : dLst wa env P E := h
theorem x_cb (h : wa env (fun ts e => ∃ xs, rdL e ts = some xs ∧ fc xs fun t => P t e) E) : dCB fc wa env P E := h
theorem x_call {ms : List Bool} {Φ : DF} (h : wa env (fun ts e => callK ms Φ ts e P E) E) : dCall ms Φ wa env P E := h
theorem x_isi {C : String} (h : w env (fun t e => ∃ d, rd e (hold t) = some d ∧ ∃ k, tyN d = some k ∧ P (dB (isiN k C)) e) E) : dIsi C w env P E := h
theorem x_bm {T' : String} (h : w env (fun t e1 => (∃ d, rd e1 (hold t) = some d ∧ tyOk T' d) ∧ wa e1 (fun ts e2 => ∃ x, rd e2 (hold t) = some x ∧ ∃ xs, rdL e2 ts = some xs ∧ fb (x, rdn e2 (hold t)) xs fun t' => P t' e2) E) E) : dBM T' fb w wa env P E := h
theorem x_sl {lo hi : DO} (h : w env (fun t env1 => lo env1 (fun l env2 => hi env2 (fun u env3 => ∃ x, rd env3 (hold t) = some x ∧ fSl x l u (rdn env3 (hold t)) fun t' => P t' env3) E) E) E) : dSl w lo hi env P E := h
theorem x_no (h : PO none env) : dNo env PO E := h
theorem x_pt (h : w env (fun t env1 => ∃ i n, t = .fz (.int i) n ∧ PO (some i) env1) E) : dPt w env PO E := h
theorem x_it (h : w env (fun t e => ∃ x, frz1 e (hold t) = some x ∧ ∃ ds, itemsOf x.1 = some ds ∧ PI ds x.2.1 x.2.2) E) : dIt w env PI E := h
theorem x_range (h : wa env (fun ts e => (∃ j n, ts = [.fz (.int j) n] ∧ -(2 ^ 62) ≤ j ∧ j < 2 ^ 62 ∧ PI (rangeD 0 j.toNat) true e)) E) : dRange wa env PI E := h
theorem x_range2 (h : wa env (fun ts e => (∃ i n j m, ts = [.fz (.int i) n, .fz (.int j) m] ∧ (-(2 ^ 62) ≤ i ∧ i < 2 ^ 62 ∧ -(2 ^ 62) ≤ j ∧ j < 2 ^ 62) ∧ PI (rangeD i (j - i).toNat) true e)) E) : dRange2 wa env PI E := h
theorem x_lc {tt : DT} {te : DW} {vs : List Nat} (h : wi env (fun items n e0 => LcOk g tt te vs n P items e0) E) : dLc wi g tt te vs env P E := h
theorem x_dc {tt : DT} {tk tv : DW} {vs : List Nat} (h : wi env (fun items n e0 => DcOk g tt tk tv vs n P items e0) E) : dDc wi g tt tk tv vs env P E := h
theorem x_mut {f : FM} {ds : List D} {n : Bool} (h0 : ownS env j = some (.list ds, n)) (h : wa env (fun ts e1 => ∃ x, frzL e1 ts = some x ∧ ∃ ds n, ownS x.2.2 j = some (.list ds, n) ∧ f ds x.1 n x.2.1 fun ds' n' d => P (.fz d n') (mutS x.2.2 j (.list ds') n')) E) : dMut j f wa env P E := ⟨⟨ds, n, h0⟩, h⟩
theorem x_quiet {js : List Nat} (h : w (quiet js 0 env) (fun t e => ∃ t', quietT t = some t' ∧ P t' env) (fun c _ => E c env)) : dQuiet js w env P E := h
theorem x_bool {k m : Bool} {R : Bool → Prop} (h : R k) : ∃ b n, T.fz (.bool k) m = T.fz (.bool b) n ∧ R b := ⟨k, m, rfl, h⟩
theorem x_t {p q : Prop} (h : p) : (true = true → p) ∧ (true = false → q) := ⟨fun _ => h, fun z => nomatch z⟩
theorem x_f {p q : Prop} (h : q) : (false = true → p) ∧ (false = false → q) := ⟨fun z => (nomatch z), fun _ => h⟩
theorem x_addI {i j : Int} {n m : Bool} {R : T → Prop} (h : R (dI (i + j))) : fAdd (.int i) (.int j) n m R := h
theorem x_addA {i j : Int} {n m : Bool} {R : T → Prop} (h : R (dI (i + j))) : fAddA (.int i) (.int j) n m R := h
theorem x_fI {C : Int → Int → Prop} {k : Int → Int → T} {i j : Int} {n m : Bool} {R : T → Prop} (hc : C i j) (h : R (k i j)) : fI C k (.int i) (.int j) n m R := ⟨i, j, rfl, rfl, hc, h⟩
theorem x_fI0 {k : Int → Int → T} {i j : Int} {n m : Bool} {R : T → Prop} (h : R (k i j)) : fI (fun _ _ => True) k (.int i) (.int j) n m R := ⟨i, j, rfl, rfl, trivial, h⟩
theorem x_mulI {i j : Int} {n m : Bool} {R : T → Prop} (hc : CMulW i j) (h : R (dI (i * j))) : fMulA (.int i) (.int j) n m R := ⟨hc, h⟩
theorem x_ltI {i j : Int} {n m : Bool} {R : T → Prop} (h : R (dB (decide (i < j)))) : fLt (.int i) (.int j) n m R := h
theorem x_ordI {k : Int → Int → Bool} {ks : Str → Str → Bool} {i j : Int} {n m : Bool} {R : T → Prop} (h : R (dB (k i j))) : fOrd k ks (.int i) (.int j) n m R := h
theorem x_eqI {i j : Int} {n m : Bool} {R : T → Prop} (h : R (dB (decide (i = j)))) : fEq (.int i) (.int j) n m R := by
  refine ⟨rfl, rfl, ?_⟩
  have e : deq (.int i) (.int j) = decide (i = j) := by
    first | rfl | (unfold deq; simp [D.pd, PyData.eqv])
  rw [e]; exact h
theorem x_ixL {ds : List D} {i : Int} {d : D} {n m : Bool} {R : T → Prop} (e : atI ds i = some d) (h : R (.fz d n)) : fIx (.list ds) (.int i) n m R := ⟨ds, d, rfl, e, h⟩
theorem x_ixT {ds : List D} {i : Int} {d : D} {n m : Bool} {R : T → Prop} (e : atI ds i = some d) (h : R (.fz d n)) : fIx (.tuple ds) (.int i) n m R := ⟨ds, d, rfl, e, h⟩
theorem x_lenL {ds : List D} {n : Bool} {R : T → Prop} (h : R (dI (ds.length : Nat))) : fLen [(.list ds, n)] R := ⟨_, _, rfl, .inl ⟨_, rfl, h⟩⟩
theorem x_lenC {ds : List D} {n : Bool} {R : T → Prop} (h : R (dI (ds.length : Nat))) : fLen [(.scr ds, n)] R := ⟨_, _, rfl, .inl ⟨_, rfl, h⟩⟩
theorem x_lenT {ds : List D} {n : Bool} {R : T → Prop} (h : R (dI (ds.length : Nat))) : fLen [(.tuple ds, n)] R := ⟨_, _, rfl, .inl ⟨_, rfl, h⟩⟩
theorem x_II {k : Int → Int → Int} {i j : Int} {n m : Bool} {R : T → Prop} (h : R (dI (k i j))) : fII k [(.int i, n), (.int j, m)] R := ⟨i, n, j, m, rfl, h⟩
theorem x_setL {ds : List D} {i : Int} {d : D} {n : Bool} {R : D → Bool → Prop} {idx : Nat} (e : ixN ds.length i = some idx) (h : R (.list (ds.set idx d)) n) : fSetI (.list ds) (.int i) d n R := ⟨i, idx, rfl, e, h⟩
end
end DL
namespace DL
open PySem PySem.Spec L2
theorem log2_le {n k : Nat} (h : n < 2 ^ (k + 1)) : n.log2 ≤ k := by
  rcases Nat.eq_zero_or_pos n with rfl | hp
  · simp
  · have := (Nat.log2_lt (by omega : n ≠ 0) (k := k + 1)).mpr h
    omega
/-- * of factors of at most 200 bits -/
theorem cmul {i j : Int} (h1 : -(2 ^ 200) < i) (h2 : i < 2 ^ 200) (h3 : -(2 ^ 200) < j) (h4 : j < 2 ^ 200) : CMulW i j := by
  unfold CMulW
  have e1 : i.natAbs < 2 ^ (199 + 1) := by omega
  have e2 : j.natAbs < 2 ^ (199 + 1) := by omega
  have := log2_le e1
  have := log2_le e2
  omega
end DL
namespace DL
open PySem PySem.Spec L2
theorem cdiv {i j : Int} (h1 : 0 < j) (h2 : j < 2 ^ 200) : CDivW i j := by
  refine ⟨h1, ?_⟩
  have e : j.natAbs < 2 ^ (199 + 1) := by omega
  have := log2_le e
  omega
end DL
namespace DL
open PySem PySem.Spec L2
theorem x_boolB {k : Bool} {R : Bool → Prop} (h : R k) : ∃ b n, dB k = T.fz (.bool b) n ∧ R b := ⟨k, true, rfl, h⟩
theorem x_int {i : Int} {m : Bool} {R : Int → Prop} (h : R i) : ∃ j n, T.fz (.int i) m = T.fz (.int j) n ∧ R j := ⟨i, m, rfl, h⟩
theorem x_intI {i : Int} {R : Int → Prop} (h : R i) : ∃ j n, dI i = T.fz (.int j) n ∧ R j := ⟨i, true, rfl, h⟩
theorem x_strS {z : Str} {m : Bool} {R : Str → Prop} (h : R z) : ∃ y n, T.fz (.str z) m = T.fz (.str y) n ∧ R y := ⟨z, m, rfl, h⟩
theorem x_strD {z : Str} {R : Str → Prop} (h : R z) : ∃ y n, dS z = T.fz (.str y) n ∧ R y := ⟨z, true, rfl, h⟩
/-- a test whose answer is not known -/
theorem x_dec {c : Prop} [Decidable c] {p q : Prop} (h1 : c → p) (h2 : ¬ c → q) : (decide c = true → p) ∧ (decide c = false → q) := ⟨fun z => h1 (of_decide_eq_true z), fun z => h2 (of_decide_eq_false z)⟩
theorem x_decN {c : Prop} [Decidable c] {p q : Prop} (h1 : ¬ c → p) (h2 : c → q) : ((!decide c) = true → p) ∧ ((!decide c) = false → q) := ⟨fun z => h1 (by simpa using z), fun z => h2 (by simpa using z)⟩
end DL
namespace DL
open PySem PySem.Spec L2
theorem x_own {α : Type} {s : α} {ea : Option α} {p : Prop} (e : ea = some s) (h : p) : (∃ s, ea = some s) ∧ p := ⟨⟨s, e⟩, h⟩
theorem x_set3 {c k : D} {n : Bool} {ea : Option (D × Bool)} {eb : Option D} {R : D → Bool → D → Prop} (e1 : ea = some (c, n)) (e2 : eb = some k) (h : R c n k) : ∃ c n k, ea = some (c, n) ∧ eb = some k ∧ R c n k := ⟨c, n, k, e1, e2, h⟩
theorem x_own2 {ds : List D} {n : Bool} {ea : Option (D × Bool)} {R : List D → Bool → Prop} (e1 : ea = some (.list ds, n)) (h : R ds n) : ∃ ds n, ea = some (.list ds, n) ∧ R ds n := ⟨ds, n, e1, h⟩
theorem x_ty {p q : Prop} (h1 : p) (h : q) : p ∧ q := ⟨h1, h⟩
end DL
namespace DL
open PySem PySem.Spec L2
theorem x_nd {l : List Nat} {p : Prop} (h1 : l.Nodup) (h : p) : l.Nodup ∧ p := ⟨h1, h⟩
end DL
namespace DL
open PySem PySem.Spec L2
theorem x_p18 {n m : Bool} {R : T → Prop} (h : R (dI 1000000000000000000)) : fPow (.int 10) (.int 18) n m R :=
  ⟨10, 18, rfl, rfl, ⟨by decide, by decide, by decide⟩, by
    have e : (10 : Int) ^ (18 : Int).toNat = 1000000000000000000 := by decide
    show R (dI ((10 : Int) ^ (18 : Int).toNat))
    rw [e]; exact h⟩
end DL
namespace DL
open PySem PySem.Spec L2
theorem x_tt {k : Bool} {p q : Prop} (e : k = true) (h : p) : (k = true → p) ∧ (k = false → q) := ⟨fun _ => h, fun z => by rw [e] at z; cases z⟩
theorem x_ff {k : Bool} {p q : Prop} (e : k = false) (h : q) : (k = true → p) ∧ (k = false → q) := ⟨fun z => (by rw [e] at z; cases z), fun _ => h⟩
end DL
namespace DL
open PySem PySem.Spec L2
theorem x_while {c : DT} {b : DSt} {env : DEnv} {Ds : DEnds} (I : Nat → DEnv → Prop) (m0 : Nat) (h0 : I m0 env) (h : ∀ m e, I m e → c e (fun k e1 => (k = true → b e1 { Ds with nx := fun e' => ∃ m', m' < m ∧ I m' e', ct := fun e' => ∃ m', m' < m ∧ I m' e', bk := Ds.nx }) ∧ (k = false → Ds.nx e1)) Ds.ex) : dWhile c b env Ds := ⟨I, m0, h0, h⟩
theorem x_chr {z : Str} {c : Nat} {neg n m : Bool} {R : T → Prop} (h : R (dB (neg != decide (c ∈ z.cps.toList)))) : fIn neg (.str ⟨#[c]⟩) (.str z) n m R := ⟨c, rfl, h⟩
theorem x_cnt1 {z y : Str} {n m : Bool} {R : T → Prop} (h : R (dI (Txt.count z y))) : fCount (.str z, n) [(.str y, m)] R := ⟨z, y, m, rfl, rfl, h⟩
end DL
namespace DL
open PySem PySem.Spec L2
theorem setT0 (env : DEnv) : setT env [] [] = env := rfl
end DL

namespace DL
open PySem PySem.Spec L2
theorem for_ind {g : DG} {b : DSt} {n : Bool} {D' : DEnds} (I : List D → DEnv → Prop) (step : ∀ x xs e (K : DEnv → Prop), I (x :: xs) e → (∀ e', I xs e' → K e') → ∃ e1, g x n e = some e1 ∧ b e1 { D' with nx := K, ct := K, bk := D'.nx }) (done : ∀ e, I [] e → D'.nx e) :
    ∀ {items : List D} {env : DEnv}, I items env → dForL g b n items env D'
  | [], env, h => done env h
  | x :: xs, env, h => step x xs env _ h fun e' h' => for_ind I step done h'
theorem lc_ind {g : DG} {tt : DT} {te : DW} {vs : List Nat} {n : Bool} {P : List D → Bool → DEnv → Prop} {E : Str → DEnv → Prop} (I : List D → List D → Bool → DEnv → Prop)
    (step : ∀ x xs acc an e (K : D → Bool → DEnv → Prop) (K2 : DEnv → Prop), I (x :: xs) acc an e → (∀ d m e', acc.length < sizeLine → offE e' vs → I xs (acc ++ [d]) (an && m) e' → K d m e') → (∀ e', I xs acc an e' → K2 e') →
      ∃ e1, g x n (wipeE e vs) = some e1 ∧ tt e1 (fun b e2 => offE e2 vs ∧ (b = true → te e2 (fun t e3 => ∃ y, frz1 e3 (hold t) = some y ∧ K y.1 y.2.1 y.2.2) E) ∧ (b = false → K2 e2)) E)
    (done : ∀ acc an e, I [] acc an e → P acc an e) : ∀ {items acc : List D} {an : Bool} {env : DEnv}, I items acc an env → dLcL g tt te vs n P E items acc an env
  | [], acc, an, env, h => done acc an env h
  | x :: xs, acc, an, env, h => step x xs acc an env (fun d m e' => acc.length < sizeLine ∧ offE e' vs ∧ dLcL g tt te vs n P E xs (acc ++ [d]) (an && m) e') (fun e' => dLcL g tt te vs n P E xs acc an e') h
    (fun d m e' h1 h2 h3 => ⟨h1, h2, lc_ind I step done h3⟩) fun e' h' => lc_ind I step done h'
theorem off1 {e : DEnv} {v : Nat} {s : Slot} (h : e[v]? = some s) (o : isOwn s = false) : offE e [v] := fun w hw => by
  rw [List.mem_singleton.mp hw]
  exact ⟨s, h, o⟩
theorem off2 {e : DEnv} {v w : Nat} {s t : Slot} (h : e[v]? = some s) (o : isOwn s = false) (h' : e[w]? = some t) (o' : isOwn t = false) : offE e [v, w] := fun x hx => by
  rcases List.mem_cons.mp hx with rfl | hx
  · exact ⟨s, h, o⟩
  · rw [List.mem_singleton.mp hx]; exact ⟨t, h', o'⟩
/-- a comprehension that changes nothing: map and filter -/
theorem x_lcfm {α : Type} {g : DG} {tt : DT} {te : DW} {vs : List Nat} {n : Bool} {P : T → DEnv → Prop} {items : List D} {e0 : DEnv} (src : List α) (em : α → D) (fm : α → Option D) (hi : items = src.map em) (h0 : offE e0 vs) (hl : src.length ≤ sizeLine)
    (hs : ∀ a ∈ src, ∀ (K : D → Bool → DEnv → Prop) (K2 : DEnv → Prop), (∀ d e, fm a = some d → offE e vs → wipeE e vs = wipeE e0 vs → K d true e) → (∀ e, fm a = none → offE e vs → wipeE e vs = wipeE e0 vs → K2 e) →
      ∃ e1, g (em a) n (wipeE e0 vs) = some e1 ∧ tt e1 (fun b e2 => offE e2 vs ∧ (b = true → te e2 (fun t e3 => ∃ y, frz1 e3 (hold t) = some y ∧ K y.1 y.2.1 y.2.2) (fun _ _ => False)) ∧ (b = false → K2 e2)) (fun _ _ => False))
    (hP : P (.ow (.list (src.filterMap fm)) true) e0) : LcOk g tt te vs n P items e0 := by
  refine ⟨h0, ?_⟩
  subst hi
  refine lc_ind (fun rest acc an e => ∃ d r, src = d ++ r ∧ rest = r.map em ∧ acc = d.filterMap fm ∧ an = true ∧ wipeE e vs = wipeE e0 vs ∧ offE e vs) ?_ ?_ ⟨[], src, rfl, rfl, rfl, rfl, rfl, h0⟩
  · rintro x xs acc an e K K2 ⟨d, r, e1, e2, e3, e4, e5, e6⟩ h1 h2
    cases r with
    | nil => cases e2
    | cons a r =>
      cases e2
      subst e3 e4
      rw [e5]
      have hsr : src = (d ++ [a]) ++ r := by rw [e1]; simp
      refine hs a (by rw [e1]; simp) K K2 (fun y e' hf ho hw => h1 y true e' ?_ ho ⟨d ++ [a], r, hsr, rfl, by simp [List.filterMap_append, hf], rfl, hw, ho⟩) fun e' hf ho hw => h2 e' ⟨d ++ [a], r, hsr, rfl, by simp [List.filterMap_append, hf], rfl, hw, ho⟩
      have hd := List.length_filterMap_le fm d
      have hl' : d.length + (r.length + 1) ≤ sizeLine := by rw [e1] at hl; simpa using hl
      omega
  · rintro acc an e ⟨d, r, e1, e2, e3, e4, e5, e6⟩
    have : r = [] := by simpa using e2.symm
    subst this
    rw [List.append_nil] at e1
    subst e1 e3 e4
    rw [e5, outE_self]
    exact hP
/-- any comprehension, by an invariant -/
theorem x_lcI {g : DG} {tt : DT} {te : DW} {vs : List Nat} {n : Bool} {P : T → DEnv → Prop} {items : List D} {e0 : DEnv} (I : List D → List D → Bool → DEnv → Prop) (h0 : offE e0 vs) (hI : I items [] true e0)
    (step : ∀ x xs acc an e (K : D → Bool → DEnv → Prop) (K2 : DEnv → Prop), I (x :: xs) acc an e → (∀ d m e', acc.length < sizeLine → offE e' vs → I xs (acc ++ [d]) (an && m) e' → K d m e') → (∀ e', I xs acc an e' → K2 e') →
      ∃ e1, g x n (wipeE e vs) = some e1 ∧ tt e1 (fun b e2 => offE e2 vs ∧ (b = true → te e2 (fun t e3 => ∃ y, frz1 e3 (hold t) = some y ∧ K y.1 y.2.1 y.2.2) (fun _ _ => False)) ∧ (b = false → K2 e2)) (fun _ _ => False))
    (done : ∀ acc an e, I [] acc an e → P (.ow (.list acc) an) (outE e0 (wipeE e vs) vs)) : LcOk g tt te vs n P items e0 := ⟨h0, lc_ind I step done hI⟩
end DL

namespace DL
open PySem PySem.Spec L2
theorem deq_int (i j : Int) : deq (.int i) (.int j) = decide (i = j) := by
  show PyData.eqv (.int i) (.int j) = _
  unfold PyData.eqv
  by_cases h : i = j <;> simp [h]
theorem deq_str (a b : Str) : deq (.str a) (.str b) = decide (a = b) := by
  show PyData.eqv (.str a) (.str b) = _
  unfold PyData.eqv
  by_cases h : a = b <;> simp [h]
theorem okD_int (i : Int) : okD (.int i) = true := rfl
theorem ok_ints : ∀ a : List Int, plns (a.map .int) = true ∧ PyData.canLayAll0 (D.pds (a.map .int)) = true ∧ PyData.depthAll (D.pds (a.map .int)) = 0
  | [] => ⟨rfl, rfl, rfl⟩
  | x :: a => by
    obtain ⟨h1, h2, h3⟩ := ok_ints a
    refine ⟨by simpa [plns, pln] using h1, by simpa [D.pds, D.pd, PyData.canLayAll0, PyData.canLay0] using h2, by simp [D.pds, D.pd, PyData.depthAll, PyData.depth, h3]⟩
theorem okD_ints (a : List Int) : okD (.list (a.map .int)) = true := by
  obtain ⟨h1, h2, h3⟩ := ok_ints a
  unfold okD SeqAt.shaped
  simp [pln, h1, D.pd, PyData.canLay0, h2, PyData.depth, h3]
section
variable {n m : Bool} {R : T → Prop}
end
theorem atI_get {α : Type} {l : List α} {i : Nat} {c : α} (h : l[i]? = some c) : atI l (i : Int) = some c := atI_nat h
theorem setS_ok {env : DEnv} {i : Nat} {s : Slot} {d : D} {n : Bool} (e : env[i]? = some s) (o : okS s = true) : setS env i (.fz d n) = some (env.set i (.fz d n)) := by
  unfold setS
  rw [e]
  simp [o]
theorem setS_ow {env : DEnv} {i : Nat} {s : Slot} {d : D} {n : Bool} (e : env[i]? = some s) (o : okS s = true) : setS env i (.ow d n) = some (env.set i (.ow d n)) := by
  unfold setS
  rw [e]
  simp [o]
end DL
namespace DL
open PySem PySem.Spec L2
theorem rangeD_succ {lo : Int} {n : Nat} : rangeD lo (n + 1) = .int lo :: rangeD (lo + 1) n := by
  unfold rangeD
  rw [List.range_succ_eq_map, List.map_cons, List.map_map]
  congr 1
  · simp
  · apply List.map_congr_left
    intro k _
    show D.int (lo + ((k + 1 : Nat) : Int)) = D.int (lo + 1 + (k : Nat))
    congr 1
    omega
theorem rangeD_map {lo : Nat} {n : Nat} : rangeD (lo : Int) n = (List.range' lo n).map fun k : Nat => D.int (k : Int) := by
  induction n generalizing lo with
  | zero => rfl
  | succ n ih =>
    rw [rangeD_succ, List.range'_succ, List.map_cons, ← ih (lo := lo + 1)]
    rfl
section
variable {a b : Int} {n m : Bool} {ts : List T}
theorem x_rng {R : Int → Prop} (e : ts = [.fz (.int a) n]) (h1 : -(2 ^ 62) ≤ a) (h2 : a < 2 ^ 62) (h : R a) : ∃ j n, ts = [.fz (.int j) n] ∧ -(2 ^ 62) ≤ j ∧ j < 2 ^ 62 ∧ R j := ⟨a, n, e, h1, h2, h⟩
theorem x_rng2 {R : Int → Int → Prop} (e : ts = [.fz (.int a) n, .fz (.int b) m]) (hb : -(2 ^ 62) ≤ a ∧ a < 2 ^ 62 ∧ -(2 ^ 62) ≤ b ∧ b < 2 ^ 62) (h : R a b) : ∃ i n j m, ts = [.fz (.int i) n, .fz (.int j) m] ∧ (-(2 ^ 62) ≤ i ∧ i < 2 ^ 62 ∧ -(2 ^ 62) ≤ j ∧ j < 2 ^ 62) ∧ R i j := ⟨a, n, b, m, e, hb, h⟩
end
end DL
namespace DL
open PySem PySem.Spec L2
theorem fmap_some {α β : Type} (f : α → β) : ∀ l : List α, l.filterMap (fun a => some (f a)) = l.map f
  | [] => rfl
  | x :: l => by rw [List.filterMap_cons, List.map_cons, fmap_some f l]
theorem fmap_if {α β : Type} (p : α → Bool) (f : α → β) : ∀ l : List α, l.filterMap (fun a => if p a = true then some (f a) else none) = (l.filter p).map f
  | [] => rfl
  | x :: l => by
    rw [List.filterMap_cons, List.filter_cons, fmap_if p f l]
    cases p x <;> simp
end DL
namespace DL
open PySem PySem.Spec L2
end DL
namespace DL
open PySem PySem.Spec L2
end DL

namespace DL
open PySem PySem.Spec PyProof.Rows L2
/-- a set that is being made, of whole numbers -/
def sIns (S : Int → Bool) (k : Int) : Int → Bool := fun j => S j || decide (j = k)
def sNum (S : Int → Bool) (k : Int) (n : Nat) : Nat := if S k = true then n else n + 1
section
variable {X : Cx}
theorem setI_add {pn : List (Addr × Obj)} {τ : Sg} {hp : Hp} {st : Shared} {E : Value → Shared → Prop} {D : Addr} {S : Int → Bool} {n : Nat} {k : Int} {tk : Tok} {Q : Value → Shared → Prop} (inv : Inv X pn τ hp st) (at_ : hp D = some (SetO X.w D S n)) (few : n + 1 < scanBound)
    (on : ∀ st', Inv X pn τ (upd hp D (SetO X.w D (sIns S k) (sNum S k n))) st' → Q .none st') : wpAny (model X.prog X.w) X.A (call (.builtin "set.add") [.ref D, .int k tk]) Q E st := by
  refine setR_add (setO_get inv at_) few fun h2 but made => on _ ?_
  have there : ∃ u, h2.get? D = some u := by
    obtain ⟨ob, _, _, _, q, _⟩ := id made
    exact ⟨ob, q⟩
  exact inv.write (e := D) (t' := st.toks + 1) (by rw [at_]; trivial) (.inl rfl) (fun b u ne hu => (but.2 b ne).trans hu) there (setO_new made)
/-- {e for x in xs if t}, e a whole number: D the new set -/
def tScI (w : World) (wi : TI) (g : TG) (tt : TT) (te : TE) (vs : List Nat) : TE := fun σ H Q => wi σ H fun J H1 => ∀ D, H1 D = none → ∃ W : Nat → Nat → Hp → Prop, (∃ m, W 0 m (upd H1 D (SetO w D (fun _ => false) 0))) ∧ ∀ i m H, W i m H →
  (J.stop i H ∧ Q (.ref D) H) ∨
  (J.go i H ∧ ∃ Nx : Hp → Prop, (∀ H', Nx H' → ∃ m', m' < m ∧ W (i + 1) m' H') ∧ ∀ x H', J.yld i H x H' → g x (wipe σ vs) H' fun σ2 H2 => wipe σ2 vs = wipe σ vs ∧ tt σ2 H2 fun b H3 =>
    if b = true then te σ2 H3 fun y H4 => ∃ (k : Int) (S : Int → Bool) (n : Nat), y = .int k ∧ H4 D = some (SetO w D S n) ∧ n + 1 < scanBound ∧ Nx (upd H4 D (SetO w D (sIns S k) (sNum S k n))) else Nx H3)
abbrev Blk (X : Cx) (scope : Scope) (F : Cx → Prop) : Prop := ∀ (s : Shared) (H : Hp) (C : Addr) (cl : List (Str × Addr)) (fp : List Addr), F (X.blk s H scope (compEnvC scope cl C X.env) fp)
theorem scI_run {pn : List (Addr × Obj)} {st : Shared} {τ : Sg} {hp : Hp} {Q : VK} {elt tg iter : Expr} {ifs : List Expr} {scope : Scope} {own : List (Str × Nat)} {pos pos' : Pos} {wi : TI} {g : TG} {tt : TT} {te : TE} {use : Option (Value → Sem Unit)} {Qf : Value → Shared → Prop}
    (hc : X.calm = true) (hN : X.N.Nodup) (inv : Inv X pn τ hp st) (hi : PI X tg iter wi) (ok : BlkOk X.N X.env.scope scope own) (hg : Blk X scope fun Y => PG Y tg g) (ht : Blk X scope fun Y => PTs Y ifs tt) (he : Blk X scope fun Y => PE Y elt te)
    (hs : ∀ x, foldedSetIterable iter X.env x = pure x) (hw : tScI X.w wi g tt te (own.map (·.2)) τ hp Q)
    (out : ∀ D C s' m H', Inv X pn τ H' s' → Q (.ref D) H' → s'.heap.Ns C m → FpOk X pn H' C → compPost (model X.prog X.w) X.A X.xe use Qf (.ref D) C (.ok .next) s') :
    wpAny (model X.prog X.w) X.A (comprehension (.SetComp elt [⟨tg, iter, ifs, 0⟩] scope pos) scope X.env pos' (newSet (.type "set")) false (eval iter X.env) use) Qf X.xe st := by
  have cells : ∀ y ∈ scope.names, y.2 = .free → ∃ c, X.env.cells.lookup y.1 = some c := fun y my e => (ok.free y my e).elim (fun k => inv.ok.has _ (.inl k)) fun k => inv.ok.has _ (.inr k)
  refine wpAny_comprehension_free (use := use) rfl hs (closure_ok cells) ok.kind (fun y my e => by rw [ok.uniq y my, e]) ?_
  refine thn (hi.run pn st τ hp _ inv hw) fun xv t1 hx => thn hx fun itv t2 ⟨it, fp, tn, J, K2, e, J2, T, on2, apart, q⟩ => ?_
  subst e
  refine PpSet.newSet_ok (newEnv_comp ?_)
  generalize eD : t2.heap.objs.size = D
  have unD : K2 D = none := J2.hok.fresh (Nat.le_of_eq eD)
  obtain ⟨W, ⟨m0, start⟩, turn⟩ := q D unD
  generalize eO : ({ cls := .type "set", dict := none, data := .set #[] 0 (.fresh 0 0 (!X.w.params.followText "set-order")) } : Obj) = O
  have fresh : SetR X.w (t2.heap.push O) t2.heap.objs.size (fun _ => false) 0 := by rw [← eO]; exact setR_fresh X.w
  generalize e3 : ({ t2 with heap := t2.heap.push O } : Shared) = t3
  have h3 : t3.heap = t2.heap.push O := by rw [← e3]
  have J3 : Inv X pn τ (upd K2 D (SetO X.w D (fun _ => false) 0)) t3 := by
    rw [← e3]
    exact J2.laid (t' := t2.toks) (fun b o e => Heap.get?_push_of_some _ e) (Nat.le_of_eq eD) (by rw [← eD]; exact setO_new fresh)
  have less : ∀ b ∈ fp, b < t2.heap.objs.size := fun b hb => let ⟨o, e, _⟩ := T.obj _ _ on2 b hb; Heap.lt_size e
  have apart3 : ∀ b ∈ fp, FpOk X pn (upd K2 D (SetO X.w D (fun _ => false) 0)) b ∧ b < t3.heap.objs.size := fun b hb => by
    have lt := less b hb
    have ne : b ≠ D := by rw [← eD]; exact Nat.ne_of_lt lt
    exact ⟨⟨by rw [upd_ne ne]; exact (apart b hb).1, (apart b hb).2⟩, by rw [h3, Heap.size_push]; exact Nat.lt_succ_of_lt lt⟩
  have on3 : tn 0 t3.heap := T.keep _ _ _ on2 fun b _ o e => by rw [h3]; exact Heap.get?_push_of_some _ e
  have J4 := block_start J3 ok hN apart3
  generalize eK : upd K2 D (SetO X.w D (fun _ => false) 0) = K3 at J3 J4 start apart3
  generalize eC : t3.heap.objs.size = C at J4 ⊢
  generalize eL : cellsFrom (C + 1) scope.names (cloFrom X.env.cells scope.names []) = L at J4 ⊢
  have pg := hg t3 K3 C L fp
  have pt := ht t3 K3 C L fp
  have pe := he t3 K3 C L fp
  have none3 : ∀ b ∈ fp, K3 b = none := fun b hb => (apart3 b hb).1.1
  show codeAny _ _ (.compStart (.SetComp elt [⟨tg, iter, ifs, 0⟩] scope pos) 0 (.ref it) (.ref D) (compEnvC scope L C X.env)) (compPost (model X.prog X.w) X.A X.xe use Qf (.ref D) C) { t3 with heap := pushCells (t3.heap.push { cls := .type "dict", data := .dict #[] }) scope.names }
  generalize ec : compEnvC scope L C X.env = ce at J4 pg pt pe ⊢
  have locC : ce.locals = C := by rw [← ec]; rfl
  generalize e4 : ({ t3 with heap := pushCells (t3.heap.push { cls := .type "dict", data := .dict #[] }) scope.names } : Shared) = t4 at J4 ⊢
  have on4 : tn 0 t4.heap := T.keep _ _ _ on3 fun b _ o e => by rw [← e4]; exact pushCells_keeps _ _ _ _ (Heap.get?_push_of_some _ e)
  have free : ∀ {τ' : Sg} {H' : Hp} {s' : Shared}, Inv (X.blk t3 K3 scope ce fp) [] τ' H' s' → (∀ b ∈ fp, H' b = none) → ∀ b ∈ fp, FpOk (X.blk t3 K3 scope ce fp) [] H' b := fun I' hn b hb => by
    obtain ⟨z1, z2⟩ := I'.ok.exf b hb
    exact ⟨hn b hb, z1, I'.ok.exfs b hb, .inl hb, fun x c e => z2 x c e, fun p hp => by simp at hp⟩
  have loop : codeAny (model X.prog X.w) X.A (.compLoop (.SetComp elt [⟨tg, iter, ifs, 0⟩] scope pos) 0 (.ref it) (.ref D) ce) (compPost (model X.prog X.w) X.A X.xe use Qf (.ref D) C) t4 := by
    refine PpSet.compLoopS_any (fun n s' => ∃ i H', Inv (X.blk t3 K3 scope ce fp) [] (L2.wipe τ (own.map (·.2))) H' s' ∧ tn i s'.heap ∧ (∀ b ∈ fp, H' b = none) ∧ W i n H') ?_ m0 ⟨0, K3, J4, on4, none3, start⟩
    rintro n t5 ⟨i, K5, J5, on5, none5, w5⟩
    rcases turn i n K5 w5 with ⟨stop, qq⟩ | ⟨go, Nx, later, step⟩
    · refine thnF (T.done (X.blk t3 K3 scope ce fp) rfl rfl rfl hc i [] t5 _ K5 (fun _ _ => False) J5 (free J5 none5) on5 stop) fun r t6 ⟨er, J6⟩ => ?_
      subst er
      have J7 : Inv X pn τ K5 t6 := J3.call' (ch := fp) J6.os J6.base J6.hok J6.bare fun b hb => by
        obtain ⟨_, z1, z2, z3, z4, z5⟩ := (apart3 b hb).1
        exact ⟨z3, z1, z4, z5⟩
      have unC : K5 C = none := by rw [← locC]; exact J6.free
      obtain ⟨mm, at_, _⟩ := J6.loc
      have at2 : t6.heap.Ns C mm := by rw [← locC]; exact at_
      exact out D C t6 mm K5 J7 qq at2 (J3.fpOk (Nat.le_of_eq eC) unC)
    · refine thnF (T.item (X.blk t3 K3 scope ce fp) rfl rfl rfl hc i [] t5 _ K5 (fun _ _ => False) J5 (free J5 none5) on5 go) fun r t6 ⟨u, er, h6⟩ => ?_
      subst er
      refine thnF h6 fun _ t7 ⟨x, K7, J7, r7, y7, on7, none7⟩ => ?_
      refine thnF (pg.run _ t7 _ K7 x u _ (J7.pinned (free J7 none7) (T.obj _ _ on7)) r7 (step x K7 y7)) fun _ t8 ⟨τ8, K8, J8, w8, q8⟩ => ?_
      refine thnF (pt.run _ t8 τ8 K8 _ J8 q8) fun b t9 ⟨K9, J9, q9⟩ => ?_
      have fin : ∀ {s' : Shared} {H' : Hp}, Inv (X.blk t3 K3 scope ce fp) ([] ++ pinsAt fp t7.heap) τ8 H' s' → Nx H' → ∃ m, m < n ∧ ∃ i H', Inv (X.blk t3 K3 scope ce fp) [] (L2.wipe τ (own.map (·.2))) H' s' ∧ tn i s'.heap ∧ (∀ b ∈ fp, H' b = none) ∧ W i m H' := fun {s' H'} I' nx => by
        obtain ⟨m', lt, w'⟩ := later H' nx
        have pinned : ∀ b ∈ fp, ∀ o, t7.heap.get? b = some o → s'.heap.get? b = some o ∧ H' b = none := fun b hb o e => by
          have z := I'.pin (b, o) (List.mem_append_right _ (List.mem_append_right _ (mem_pinsAt hb e)))
          exact ⟨z.1, z.2.1⟩
        have len : (L2.wipe τ (own.map (·.2))).length = τ8.length := by rw [← w8, wipe_length]
        refine ⟨m', lt, i + 1, H', (I'.unpinned (pins := [])).weak len (fun j v e => ?_), T.keep _ _ _ on7 fun b hb o e => (pinned b hb o e).1, fun b hb => ?_, w'⟩
        · rw [← w8] at e; exact (wipe_some e).1
        · obtain ⟨o, e, _⟩ := T.obj _ _ on7 b hb; exact (pinned b hb o e).2
      cases b with
      | false =>
        rw [if_neg Bool.false_ne_true] at q9 ⊢
        exact fin J9 q9
      | true =>
        rw [if_pos rfl] at q9 ⊢
        refine thnF (pe.run _ t9 τ8 K9 _ J9 q9) fun z t10 ⟨yv, K10, J10, r10, k, S0, n0, ey, at10, few, nx⟩ => ?_
        subst ey
        obtain ⟨tk, ez⟩ := (show ∃ t, z = Value.int k t from r10)
        subst ez
        exact setI_add (X := X.blk t3 K3 scope ce fp) J10 at10 few fun t11 J11 => fin J11 nx
  exact PpSet.codeAny_compStart_set loop (T.self X.A 0 _ _ _ on4 loop)
theorem pe_scI {elt tg iter : Expr} {ifs : List Expr} {scope : Scope} {own : List (Str × Nat)} {pos : Pos} {wi : TI} {g : TG} {tt : TT} {te : TE} (hc : X.calm = true) (hN : X.N.Nodup) (hi : PI X tg iter wi) (ok : BlkOk X.N X.env.scope scope own)
    (hg : Blk X scope fun Y => PG Y tg g) (ht : Blk X scope fun Y => PTs Y ifs tt) (he : Blk X scope fun Y => PE Y elt te) (hs : ∀ x, foldedSetIterable iter X.env x = pure x := by intro _; rfl) : PE X (.SetComp elt [⟨tg, iter, ifs, 0⟩] scope pos) (tScI X.w wi g tt te (own.map (·.2))) := by
  refine ⟨fun pn st τ hp Q inv hw => ?_⟩
  rw [PpSet.eval_SetComp]
  refine scI_run hc hN inv hi ok hg ht he hs hw fun D C s' m H' I' q at_ f => ⟨m, at_, fun h2 but => ?_⟩
  obtain ⟨f0, f1, f2, f3, f4, f5⟩ := f
  exact ⟨.ref D, H', I'.turned (t' := s'.toks) (fun b o hb e => (but.2 b hb).trans e) f0 f1 f3 f4 f5, rfl, q⟩
end
section
variable {P : Program} {w : World} {A : Around} {E : Value → Shared → Prop} {st : Shared}
theorem mem_iv {vs : List Value} : (∀ v ∈ vs, ∃ i t, v = Value.int i t) → IntsAre vs (vs.map SrtO.iv) := fun h => by
  induction vs with
  | nil => exact .nil
  | cons v vs ih =>
    obtain ⟨i, t, rfl⟩ := h v List.mem_cons_self
    exact .cons i t (ih fun u hu => h u (List.mem_cons_of_mem _ hu))
theorem sorted_setN {a : Addr} {S : Int → Bool} {n : Nat} {Q : Value → Shared → Prop} (have_ : SetR w st.heap a S n) (calm : A.handled = none)
    (on : ∀ st' p (out : List Value) (c : Nat) (ns : List Int), (∀ b o, st.heap.get? b = some o → st'.heap.get? b = some o) → st'.gens = st.gens → st'.os = st.os → st.heap.objs.size ≤ p →
      st'.heap.get? p = some (seqObj "list" out.toArray c) → IntsAre out ns → ns.Pairwise (· ≤ ·) → ns.Nodup → (∀ k, k ∈ ns ↔ S k = true) → ns.length < scanBound → Q (.ref p) st') : wpAny (model P w) A (call (.builtin "sorted") [.ref a]) Q E st := by
  obtain ⟨ob, es, ep, tb, at_, exact_, dat, good, uniq, mem, few, fits, num, ris, led⟩ := have_
  refine Calls.call_function_entry kind_sorted plain_sorted entry_sorted (args_sorted1 _) ?_
  unfold Builtin.«sorted»
  refine wpAny_bind (m := checkCount "sorted" 1 1 _) (wpAny_pure ?_)
  refine wpAny_bind ?_
  refine collect_set (A := A.in1) calm ⟨ob, at_, exact_.1, dat⟩ fits few ris led fun s1 vs keep1 size1 g1 o1 perm1 => ?_
  have len : vs.length < scanBound := by rw [perm1.length_eq, List.length_map, Array.length_toList]; exact few
  have fit : vs.length ≤ sizeLine := Nat.le_trans (Nat.le_of_lt len) (by decide)
  have whole : ∀ v ∈ vs, ∃ i t, v = Value.int i t := fun v hv => by
    obtain ⟨e, he, q⟩ := List.mem_map.mp (perm1.mem_iff.mp hv)
    obtain ⟨k, tk, z, _⟩ := good e he
    exact ⟨k, tk, by rw [← q]; exact z⟩
  have are := mem_iv whole
  have keys : es.toList.map (fun e => SrtO.iv e.2) = es.toList.map keyOf := List.map_congr_left fun e he => by
    obtain ⟨k, tk, z, _⟩ := good e he
    show SrtO.iv e.2 = keyOf e
    unfold keyOf
    rw [z]
    rfl
  have permK : (vs.map SrtO.iv).Perm (es.toList.map keyOf) := by
    have z := perm1.map SrtO.iv
    rw [List.map_map] at z
    exact keys ▸ z
  refine wpAny_bind (wpAny_newList ?_ fit)
  have laid : (s1.heap.push (seqObj "list" vs.toArray 0)).get? s1.heap.objs.size = some (seqObj "list" vs.toArray 0) := Heap.get?_push_size _ rfl
  refine wpAny_bind (wpAny_holding ?_)
  refine wpAny_call_entry slot_list_sort ⟨_, laid, rfl⟩ entry_list_sort ?_ (args_list_sort _)
  refine SrtO.list_sort_ord SrtO.swo_int laid fit (fun two => SrtO.ints_sortable are two) fun out h1 h2 => ⟨_, rfl, ?_⟩
  obtain ⟨k1, k2, k3⟩ := SrtO.ints_out are h1 h2
  obtain ⟨c, hc⟩ := sortedHeap_at (vs := vs) (out := out.toArray) laid
  have pk := k2.trans permK
  refine wpAny_pure ⟨_, rfl, on _ s1.heap.objs.size out c _ (fun b u e => ?_) g1 o1 size1 hc k1 k3 (pk.nodup_iff.mpr uniq) (fun k => by rw [pk.mem_iff, ← mem k]) ?_⟩
  · have q := keep1 b u e
    have lt := Heap.lt_size q
    show (sortedHeap (s1.heap.push (seqObj "list" vs.toArray 0)) s1.heap.objs.size vs out.toArray).get? b = some u
    rw [sortedHeap_old (Nat.ne_of_lt lt) (by rw [size_push']; exact Nat.lt_succ_of_lt lt)]
    exact Heap.get?_push_of_some _ q
  · rw [k2.length_eq, List.length_map]; exact len
end
def rSortedN (w : World) : List V → Hp → VK → Prop := fun vs H Q => ∃ (a : Addr) (S : Int → Bool) (n : Nat), vs = [V.ref a] ∧ H a = some (SetO w a S n) ∧
  ∀ (ns : List Int) (p : Addr), ns.Pairwise (· ≤ ·) → ns.Nodup → (∀ k : Int, k ∈ ns ↔ S k = true) → H p = none → Q (.ref p) (upd H p (.lst (ns.map V.int)))
theorem cr_sortedN {X : Cx} (hc : X.calm = true) : CallR X (.builtin "sorted") (rSortedN X.w) := by
  intro pn st τ hp vs us Q inv r ⟨a, S, n, ev, at_, q⟩
  subst ev
  rw [Vals.ref1 r]
  refine sorted_setN (setO_get inv at_) (inv.ok.hd hc) fun s2 p out c ns keep g o size got whole le nd mem few => ?_
  have len : (ns.map V.int).length ≤ sizeLine := by rw [List.length_map]; exact Nat.le_trans (Nat.le_of_lt few) (by decide)
  have un : hp p = none := inv.hok.fresh size
  have J : Inv X pn τ (upd hp p (.lst (ns.map V.int))) { st with heap := s2.heap, gens := s2.gens, drawn := s2.drawn, toks := s2.toks } :=
    inv.call (ch := []) (Un.laid keep size un) (inv.hok.laid keep size ⟨len, out, c, vals_of_ints whole, got⟩) (by rw [g]; exact inv.bare) (fun _ z => nomatch z)
  obtain ⟨h2, g2, d2, t2, os2⟩ := s2
  cases o
  exact ⟨.ref p, _, J, rfl, q ns p le nd mem un⟩
end DL

namespace DL
open PySem PySem.Spec L2
def dScL (g : DG) (tt : DT) (te : DW) (vs : List Nat) (n : Bool) (P : List Int → DEnv → Prop) (E : Str → DEnv → Prop) : List D → List Int → DEnv → Prop
  | [], acc, env => P acc env
  | x :: xs, acc, env => ∃ e1, g x n (wipeE env vs) = some e1 ∧ tt e1 (fun b e2 => offE e2 vs ∧ (b = true → te e2 (fun t e3 => ∃ k m, hold t = .fz (.int k) m ∧ acc.length + 1 < scanBound ∧ offE e3 vs ∧ dScL g tt te vs n P E xs (acc ++ [k]) e3) E) ∧
      (b = false → dScL g tt te vs n P E xs acc e2)) E
/-- a set over these items, sorted -/
def ScOk (g : DG) (tt : DT) (te : DW) (vs : List Nat) (n : Bool) (P : T → DEnv → Prop) (items : List D) (e0 : DEnv) : Prop :=
  offE e0 vs ∧ dScL g tt te vs n (fun acc e => ∀ ys : List Int, ys.Pairwise (· ≤ ·) → ys.Nodup → (∀ k, k ∈ ys ↔ k ∈ acc) → P (.ow (.list (ys.map .int)) true) (outE e0 (wipeE e vs) vs)) (fun _ _ => False) items [] e0
def dSortSc (w : DI) (g : DG) (tt : DT) (te : DW) (vs : List Nat) : DW := fun env P E => w env (fun items n e0 => ScOk g tt te vs n P items e0) E
section
variable {X : Cx} {Z : Zx} {W : WX}
theorem sc_imp {w : DI} {g : DG} {tl : List Nat} {tt : DT} {te : DW} {vs : List Nat} {wi : TI} (htl : ∀ i ∈ tl, i ∈ vs) (hi : ∀ σ H R, tDI X.K X.mg Z W w σ H R → wi σ H R)
    {σ : Sg} {H : Hp} {Q : VK} (h : tD X.K X.mg Z W (dSortSc w g tt te vs) σ H Q) : tScI X.w wi (tDG X.K X.mg Z g tl) (tDT X.K X.mg Z W0 tt) (tD X.K X.mg Z W0 te) vs σ H (fun v H1 => rSortedN X.w [v] H1 Q) := by
  obtain ⟨F, G, env, P, E, R, w, q, qe⟩ := h
  refine hi _ _ _ ⟨F, G, env, _, E, R, w, fun items n e1 F1 G1 H1 J ⟨off, p⟩ R1 x1 it D hD => ?_, qe⟩
  have l1 : e1.length = e1.length := rfl
  refine ⟨fun i m H2 => ∃ F2 G2 e2 acc num, EnvR X.K X.mg Z F2 G2 H2 (L2.wipe σ vs) (wipeE e2 vs) ∧ Ext σ e1 (outE e1 (wipeE e2 vs) vs) F1 G1 H1 F2 G2 H2 ∧ offE e2 vs ∧ e1.length = e2.length ∧ m = items.length - i ∧ i ≤ items.length ∧
    H2 D = some (SetO X.w D (fun k => decide (k ∈ acc)) num) ∧ F2 D = none ∧ ¬ Own (L2.wipe σ vs) (wipeE e2 vs) D ∧ num ≤ acc.length ∧
    dScL g tt te vs n (fun acc e => ∀ ys : List Int, ys.Pairwise (· ≤ ·) → ys.Nodup → (∀ k, k ∈ ys ↔ k ∈ acc) → P (.ow (.list (ys.map .int)) true) (outE e1 (wipeE e vs) vs)) (fun _ _ => False) (items.drop i) acc e2, ⟨items.length, F1, G1, e1, [], 0, ?_, ?_, off, rfl, by omega, Nat.zero_le _, ?_, snone R1.fh hD, ?_, Nat.le_refl _, by simpa using p⟩, ?_⟩
  · exact (R1.wipe off).grow (same_upd hD)
  · rw [outE_self]
    exact Ext.grow (same_upd hD)
  · rw [upd_same]
    have e0 : (fun k : Int => decide (k ∈ ([] : List Int))) = fun _ => false := by funext k; simp
    rw [e0]
  · exact (R1.wipe off).not_own hD
  rintro i m H2 ⟨F2, G2, e2, acc, num, R2, x2, off2, l2, rfl, hi', hD2, hF2, nO, racc, p2⟩
  by_cases hlt : i < items.length
  · have ed : items[i]? = some items[i] := List.getElem?_eq_getElem hlt
    have s2 : Same F1 H2 := x2.f.trans R2.fh
    refine .inr ⟨it.go i H2 _ s2 ed, fun H' => ∃ F2 G2 e2 acc num, EnvR X.K X.mg Z F2 G2 H' (L2.wipe σ vs) (wipeE e2 vs) ∧ Ext σ e1 (outE e1 (wipeE e2 vs) vs) F1 G1 H1 F2 G2 H' ∧ offE e2 vs ∧ e1.length = e2.length ∧
      H' D = some (SetO X.w D (fun k => decide (k ∈ acc)) num) ∧ F2 D = none ∧ ¬ Own (L2.wipe σ vs) (wipeE e2 vs) D ∧ num ≤ acc.length ∧
      dScL g tt te vs n (fun acc e => ∀ ys : List Int, ys.Pairwise (· ≤ ·) → ys.Nodup → (∀ k, k ∈ ys ↔ k ∈ acc) → P (.ow (.list (ys.map .int)) true) (outE e1 (wipeE e vs) vs)) (fun _ _ => False) (items.drop (i + 1)) acc e2,
      fun H' ⟨F2, G2, e2, acc, num, a1, a2, a3, a4, a5, a6, a7, a8, a9⟩ => ⟨items.length - (i + 1), by omega, F2, G2, e2, acc, num, a1, a2, a3, a4, rfl, hlt, a5, a6, a7, a8, a9⟩, fun x H' y => ?_⟩
    obtain ⟨F3, G3, R3, x3, r3⟩ := it.yld i H2 _ x H' F2 G2 _ _ ed y R2 x2.up
    rw [List.drop_eq_getElem_cons hlt] at p2
    obtain ⟨e4, eg, pb⟩ := p2
    refine ⟨F3, G3, wipeE e2 vs, items[i], n, e4, R3, r3, eg, fun σ4 R4 only => ?_⟩
    have w4 : L2.wipe σ4 vs = L2.wipe σ vs := (only.w vs htl).trans (wipe_wipe fun _ h => h)
    refine ⟨w4, F3, G3, e4, _, _, R4, pb, fun b e5 F5 G5 H5 ⟨off5, pt, pf⟩ R5 x5 => ?_, fun c e' F' G' H' C z => z.elim⟩
    have hD3 : H' D = some (SetO X.w D (fun k => decide (k ∈ acc)) num) := x3.h D _ hD2 nO (fun _ z => nomatch z)
    have hF3 : F3 D = none := x3.n D _ hD2 hF2 nO
    -- behind any part of the turn
    have on : ∀ {e6 : DEnv} {F6 G6 H6 : Hp}, EnvR X.K X.mg Z F6 G6 H6 σ4 e6 → offE e6 vs → Ext σ4 e4 e6 F3 G3 H' F6 G6 H6 → EnvR X.K X.mg Z F6 G6 H6 (L2.wipe σ vs) (wipeE e6 vs) ∧ Ext σ e1 (outE e1 (wipeE e6 vs) vs) F1 G1 H1 F6 G6 H6 ∧ e1.length = e6.length ∧
        H6 D = some (SetO X.w D (fun k => decide (k ∈ acc)) num) ∧ F6 D = none ∧ ¬ Own (L2.wipe σ vs) (wipeE e6 vs) D := fun {e6 F6 G6 H6} R6 off6 x6 => by
      have Rw := R6.wipe off6
      rw [w4] at Rw
      obtain ⟨y, own⟩ := Ext.blk htl only x6
      have n4 : ¬ Own σ4 e4 D := fun z => nO (own D z)
      have z := Ext.off l2 off x2 (x3.trans y) (fun v hv => ?_)
      · rw [wipeE_wipeE] at z
        refine ⟨Rw, z, ?_, x6.h D _ hD3 n4 (fun _ z => nomatch z), x6.n D _ hD3 hF3 n4, fun o => (y.o D o).elim nO fun q => by rw [hD3] at q; cases q⟩
        rw [l2, x6.l, only.l, wipeE_len]
      · obtain ⟨s, es, _⟩ := off6 v hv
        rcases wipeE_at (env := e6) (j := v) vs with ⟨p, q, r⟩ | ⟨p, q⟩
        · exact ⟨.un, r, rfl⟩
        · have := len_of es
          rcases q with q | q
          · exact absurd hv q
          · omega
    cases b with
    | false =>
      dsimp only
      rw [if_neg Bool.false_ne_true]
      obtain ⟨a1, a2, a4, a5, a6, a7⟩ := on R5 off5 x5
      exact ⟨F5, G5, e5, acc, num, a1, a2, off5, a4, a5, a6, a7, racc, pf rfl⟩
    | true =>
      dsimp only
      rw [if_pos rfl]
      refine ⟨F5, G5, e5, _, _, R5, pt rfl, fun t e6 F6 G6 H6 vy ⟨k, mk, ek, hl, off6, py⟩ R6 x6 r6 n6 => ?_, fun c e' F' G' H' C z => z.elim⟩
      have rk : Rp X.K X.mg (sel mk G6 F6) vy (.int k) := by
        cases t with
        | fz d n => cases ek; exact r6
        | ow d n =>
          cases ek
          obtain ⟨a, _, _, hc, _⟩ := r6
          rcases hc with ⟨_, _, z, _⟩ | ⟨_, _, z, _⟩ | ⟨_, _, z, _⟩ | ⟨_, _, _, _, _, z, _⟩ <;> cases z
        | al i => cases ek
        | dp d => cases ek
      cases rk
      have xx := x5.trans x6
      obtain ⟨a1, a2, a4, a5, a6, a7⟩ := on R6 off6 xx
      have eS : sIns (fun j => decide (j ∈ acc)) k = fun j => decide (j ∈ acc ++ [k]) := by
        funext j
        unfold sIns
        by_cases h1 : j ∈ acc <;> by_cases h2 : j = k <;> simp [h1, h2]
      refine ⟨k, _, num, rfl, a5, by omega, F6, G6, e6, acc ++ [k], sNum (fun j => decide (j ∈ acc)) k num, ?_, ?_, off6, a4, by rw [upd_same, eS], a6, a7, ?_, py⟩
      · refine a1.next (.refl _) (.refl _) ?_ a1.gf a1.gn a1.fn (fun b ob => ⟨(a1.own_at ob).1, fun o eo => ?_⟩) (fun b o u h0 eo => ?_) (fun b ps eo => by rw [upd_ne fun z => by rw [z, a5] at eo; cases eo]; exact eo)
        · exact fun b o eb => by
            have : b ≠ D := fun z => by subst z; rw [a6] at eb; cases eb
            rw [upd_ne this]; exact a1.fh _ _ eb
        · have : b ≠ D := fun z => a7 (z ▸ ob)
          rw [upd_ne this]; exact eo
        · have : b ≠ D := fun z => by
            subst z
            rw [R1.h0 hD] at h0; cases h0
          rw [upd_ne this]; exact eo
      · refine ⟨a2.f, a2.g, fun b o eb nb nt => ?_, fun b o eb => ?_, a2.n, a2.o, a2.r, a2.l⟩
        · have : b ≠ D := fun z => by subst z; rw [hD] at eb; cases eb
          rw [upd_ne this]; exact a2.h b o eb nb nt
        · have : b ≠ D := fun z => by subst z; rw [hD] at eb; cases eb
          rw [upd_ne this]; exact a2.d b o eb
      · unfold sNum
        rw [List.length_append, List.length_cons, List.length_nil]
        split <;> omega
  · have e : i = items.length := by omega
    subst e
    rw [List.drop_length] at p2
    refine .inl ⟨it.stop _ H2 (x2.f.trans R2.fh) (Nat.le_refl _), ?_⟩
    have Ro := R1.out x2.up off R2
    have nD : ¬ Own σ (outE e1 (wipeE e2 vs) vs) D := fun z => nO (own_out l2 off z)
    have h0 : Z.H0 D = none := R1.h0 hD
    refine ⟨D, _, num, rfl, hD2, fun ys p le nd mem hp => ?_⟩
    obtain ⟨k1, k2, k3, k4⟩ := RT.newList (n := true) Ro hp (ints_rps (ns := ys))
    exact q _ _ _ _ _ _ (p2 ys le nd fun k => by rw [mem k]; simp) k1 ((x1.trans x2).trans k2) k3 (newT_back (x1.trans x2).d k4)
end
section
variable {X : Cx} {Z : Zx} {W : WX} {pos spos p : Pos}
theorem d_sortSc {x : Str} {elt tg iter : Expr} {ifs : List Expr} {scope : Scope} {own : List (Str × Nat)} {w : DI} {g : DG} {tl : List Nat} {tt : DT} {te : DW} (hx : x = ("sorted" : Str)) (hm : X.mg x = none) (hc : X.calm = true) (hN : X.N.Nodup) (hi : DIe X Z W tg iter w) (ok : BlkOk X.N X.env.scope scope own)
    (hg : Blk X scope fun Y => DGt Y Z tg g tl) (ht : Blk X scope fun Y => PTs Y ifs (tDT X.K X.mg Z W0 tt)) (he : Blk X scope fun Y => DE Y Z W0 elt te)
    (htl : ∀ i ∈ tl, i ∈ own.map (·.2) := by decide) (hs : ∀ x, foldedSetIterable iter X.env x = pure x := by intro _; rfl) (hgl : Gl X x := by rfl) (hv : bootBuiltins x = some (.builtin "sorted") := by rfl)
    (hst : starEach [.SetComp elt [⟨tg, iter, ifs, 0⟩] scope spos] X.env = (false, eval (.SetComp elt [⟨tg, iter, ifs, 0⟩] scope spos) X.env) :: starEach [] X.env := by rfl) (hpl : (backTo pos (starEach [] X.env)).any (·.1) = false := by rfl) :
    DE X Z W (.Call (.Name x p) [.SetComp elt [⟨tg, iter, ifs, 0⟩] scope spos] [] pos) (dSortSc w g tt te (own.map (·.2))) := by
  subst hx
  refine PE.of (pe_callB (cr_sortedN hc) hgl hm hv (pa_cons (pe_scI (g := tDG X.K X.mg Z g tl) (te := tD X.K X.mg Z W0 te) hc hN hi ok hg ht he hs) pa_nil hst) (by decide) (by decide) hst hpl) fun σ H Q h => ?_
  exact sc_imp htl (fun _ _ _ z => z) h
end
/-- by an invariant -/
theorem sc_ind {g : DG} {tt : DT} {te : DW} {vs : List Nat} {n : Bool} {P : List Int → DEnv → Prop} {E : Str → DEnv → Prop} (I : List D → List Int → DEnv → Prop)
    (step : ∀ x xs acc e (K : Int → DEnv → Prop) (K2 : DEnv → Prop), I (x :: xs) acc e → (∀ k e', acc.length + 1 < scanBound → offE e' vs → I xs (acc ++ [k]) e' → K k e') → (∀ e', I xs acc e' → K2 e') →
      ∃ e1, g x n (wipeE e vs) = some e1 ∧ tt e1 (fun b e2 => offE e2 vs ∧ (b = true → te e2 (fun t e3 => ∃ k m, hold t = .fz (.int k) m ∧ K k e3) E) ∧ (b = false → K2 e2)) E)
    (done : ∀ acc e, I [] acc e → P acc e) : ∀ {items : List D} {acc : List Int} {env : DEnv}, I items acc env → dScL g tt te vs n P E items acc env
  | [], acc, env, h => done acc env h
  | x :: xs, acc, env, h => step x xs acc env (fun k e' => acc.length + 1 < scanBound ∧ offE e' vs ∧ dScL g tt te vs n P E xs (acc ++ [k]) e') (fun e' => dScL g tt te vs n P E xs acc e') h
    (fun k e' h1 h2 h3 => ⟨h1, h2, sc_ind I step done h3⟩) fun e' h' => sc_ind I step done h'
/-- sorted({f(x) for x in xs}) of a plain f -/
theorem x_scfm {α : Type} {g : DG} {te : DW} {vs : List Nat} {n : Bool} {P : T → DEnv → Prop} {items : List D} {e0 : DEnv} (src : List α) (em : α → D) (fm : α → Int) (hi : items = src.map em) (h0 : offE e0 vs) (hl : src.length + 1 < scanBound)
    (hs : ∀ a ∈ src, ∀ (K : Int → DEnv → Prop), (∀ e, offE e vs → wipeE e vs = wipeE e0 vs → K (fm a) e) → ∃ e1, g (em a) n (wipeE e0 vs) = some e1 ∧ offE e1 vs ∧ te e1 (fun t e3 => ∃ k m, hold t = .fz (.int k) m ∧ K k e3) (fun _ _ => False))
    (hP : ∀ ys : List Int, ys.Pairwise (· ≤ ·) → ys.Nodup → (∀ k, k ∈ ys ↔ k ∈ src.map fm) → P (.ow (.list (ys.map .int)) true) e0) : ScOk g dYes te vs n P items e0 := by
  refine ⟨h0, ?_⟩
  subst hi
  refine sc_ind (fun rest acc e => ∃ d r, src = d ++ r ∧ rest = r.map em ∧ acc = d.map fm ∧ wipeE e vs = wipeE e0 vs) ?_ ?_ ⟨[], src, rfl, rfl, rfl, rfl⟩
  · rintro x xs acc e K K2 ⟨d, r, e1, e2, e3, e5⟩ h1 h2
    cases r with
    | nil => cases e2
    | cons a r =>
      cases e2
      subst e3
      rw [e5]
      have hsr : src = (d ++ [a]) ++ r := by rw [e1]; simp
      obtain ⟨e', g1, g2, g3⟩ := hs a (by rw [e1]; simp) K fun e' ho hw => h1 (fm a) e' (by have hl' := hl; rw [e1] at hl'; simp at hl'; rw [List.length_map]; omega) ho ⟨d ++ [a], r, hsr, rfl, by simp, hw⟩
      exact ⟨e', g1, g2, fun _ => g3, fun z => (nomatch z)⟩
  · rintro acc e ⟨d, r, e1, e2, e3, e5⟩
    have : r = [] := by simpa using e2.symm
    subst this
    rw [List.append_nil] at e1
    subst e1 e3
    intro ys k1 k2 k3
    rw [e5, outE_self]
    exact hP ys k1 k2 k3
end DL

namespace DL
open PySem PySem.Spec L2
def putA (f : Str) (d : D) : List (Str × D) → List (Str × D)
  | [] => [(f, d)]
  | (g, x) :: r => if g = f then (g, d) :: r else (g, x) :: putA f d r
theorem putA_names {f : Str} {d : D} {v : V} : ∀ {fs : List (Str × D)} {gs : List (Str × V)}, fs.map (·.1) = gs.map (·.1) → (putA f d fs).map (·.1) = (putF f v gs).map (·.1)
  | [], [], _ => rfl
  | [], _ :: _, h => by simp at h
  | _ :: _, [], h => by simp at h
  | (a, x) :: fs, (b, y) :: gs, h => by
    simp only [List.map_cons, List.cons.injEq] at h
    obtain ⟨h1, h2⟩ := h
    subst h1
    unfold putA putF
    by_cases e : a = f
    · simp [e, h2]
    · rw [if_neg e, if_neg e, List.map_cons, List.map_cons, putA_names (v := v) h2]
theorem putA_rps {K : PySem.W.Frag} {mg : Str → Option Value} {B : Hp} {f : Str} {d : D} {v : V} (hv : Rp K mg B v d) : ∀ {fs : List (Str × D)} {gs : List (Str × V)}, fs.map (·.1) = gs.map (·.1) → Rps K mg B (gs.map (·.2)) (fs.map (·.2)) → Rps K mg B ((putF f v gs).map (·.2)) ((putA f d fs).map (·.2))
  | [], [], _, _ => .cons hv .nil
  | [], _ :: _, h, _ => by simp at h
  | _ :: _, [], h, _ => by simp at h
  | (a, x) :: fs, (b, y) :: gs, h, r => by
    simp only [List.map_cons, List.cons.injEq] at h
    obtain ⟨h1, h2⟩ := h
    subst h1
    cases r with
    | cons r1 r2 =>
      unfold putA putF
      by_cases e : a = f
      · rw [if_pos e, if_pos e]; exact .cons hv r2
      · rw [if_neg e, if_neg e]; exact .cons r1 (putA_rps hv h2 r2)
/-- what is known of a class: its fields are no names of the class -/
def ClsOk (K : PySem.W.Frag) (mg : Str → Option Value) (cn : Str) (fs : List Str) : Prop := ∃ C, mg cn = some (.ref C) ∧ Cls K C ∧ ∀ f ∈ fs, NoAttr K C f
theorem Rv.obj {K : PySem.W.Frag} {mg : Str → Option Value} {B H : Hp} {v : V} {cn : Str} {fs : List (Str × D)} (h : Rv K mg B H v (.obj cn fs)) (s : Same B H) : ∃ a C dx fvs, v = .ref a ∧ H a = some (.ins C dx fvs) ∧ mg cn = some (.ref C) ∧ fs.map (·.1) = fvs.map (·.1) ∧ Rps K mg B (fvs.map (·.2)) (fs.map (·.2)) := by
  rcases h with h | ⟨a, rfl, h⟩
  · cases h with
    | obj hm hF hk hr => exact ⟨_, _, _, _, rfl, s _ _ hF, hm, hk, hr⟩
  · rcases h with ⟨es, vs, h1, h2, h3⟩ | ⟨es, vs, h1, h2, h3, h4⟩ | ⟨es, vs, h1, h2, h3, h4⟩ | ⟨cn', fs', C, dx, fvs, h1, h2, h3, h4, h5⟩
    · cases h1
    · cases h1
    · cases h1
    · cases h1; exact ⟨a, C, dx, fvs, rfl, h2, h3, h4, h5⟩
/-- e.f, e an object, held or one's own -/
def dAtt (cn f : Str) (w : DW) : DW := fun env P E => w env (fun t e => ∃ fs d, rd e (hold t) = some (.obj cn fs) ∧ fs.lookup f = some d ∧ P (.fz d (rdn e (hold t))) e) E
section
variable {X : Cx} {Z : Zx} {W : WX} {pos pos' p : Pos} {o e v : Expr} {es : List Expr} {w wv : DW} {wa : DA} {cn f m x : Str} {fl : List Str}
theorem d_att (hc : ClsOk X.K X.mg cn fl) (hf : f ∈ fl) (ha : DE X Z W o w) (hb : attributeBase o f X.env (eval o X.env) = eval o X.env := by rfl) : DE X Z W (.Attribute o f pos) (dAtt cn f w) := by
  refine PE.of (pe_fld ha hb) fun σ H Q ⟨F, G, env, P, E, R, w, q, qe⟩ => ?_
  refine ⟨F, G, env, _, E, R, w, fun t env1 F1 G1 H1 v1 ⟨fs, d, er, el, p1⟩ R1 x1 r1 n1 => ?_, qe⟩
  obtain ⟨F2, G2, R2, x2, r2⟩ := RT.hold R1 x1 r1 n1
  obtain ⟨a, C, dx, fvs, rfl, h1, h2, h3, h4⟩ := (RT.rv R2 r2 er).obj R2.selH
  obtain ⟨C', c1, c2, c3⟩ := hc
  rw [c1] at h2
  cases h2
  obtain ⟨u, eu, ru⟩ := lookup_rps h3 h4 el
  exact ⟨a, _, dx, fvs, u, rfl, h1, c2, c3 f hf, eu, q _ _ _ _ _ _ p1 R2 x2 ru trivial⟩
/-- x.f = e, x one's own object -/
def dSetA (cn f : Str) (j : Nat) (wv : DW) : DSt := fun env D => wv env (fun tv e1 => ∃ x, frz1 e1 (hold tv) = some x ∧ ∃ fs n, ownS x.2.2 j = some (.obj cn fs, n) ∧ fs.length < 1000 ∧ D.nx (mutS x.2.2 j (.obj cn (putA f x.1 fs)) (n && x.2.1))) D.ex
theorem s_setA (j : Nat) (hc : ClsOk X.K X.mg cn fl) (hf : f ∈ fl) (hv : DE X Z W v wv) (hs : swapsWith v (some (.Attribute (.Name x p) f pos')) pos.line X.env = pure false := by rfl)
    (hN : X.N[j]? = some x := by rfl) (hvis : Vis X.env.scope x := by first | exact Or.inl rfl | exact Or.inr (Or.inl rfl) | exact Or.inr (Or.inr rfl)) (hd : (x == ("__debug__" : Str)) = false := by decide) (hcd : (x == ("__classdict__" : Str)) = false := by decide) :
    DS X Z W (.Assign [.Attribute (.Name x p) f pos'] v pos) (dSetA cn f j wv) := by
  refine PS.of (ps_fld (pe_var hN hvis hd hcd) hv hs) fun D σ H ⟨F, G, env, Ds, R, w, k⟩ => ?_
  refine ⟨F, G, env, _, _, R, w, fun tv e1 F1 G1 H1 u ⟨y, ey, fs, n, eo, hl, p⟩ R1 x1 r1 n1 => ?_, k.ex σ⟩
  obtain ⟨F2, G2, R2, x2, r2⟩ := RT.hold R1 x1 r1 n1
  obtain ⟨F3, G3, R3, x3, r3⟩ := RT.frz R2 r2 hold_ow ey
  obtain ⟨a, ea, own, hF, hcc⟩ := R3.own eo
  obtain ⟨C', c1, c2, c3⟩ := hc
  rcases hcc with ⟨_, _, z, _⟩ | ⟨_, _, z, _⟩ | ⟨_, _, z, _⟩ | ⟨cn', fs', C, dx, fvs, h1, h2, h3, h4, h5⟩
  · cases z
  · cases z
  · cases z
  · cases h1
    rw [c1] at h3
    cases h3
    refine ⟨.ref a, ea, a, _, dx, fvs, rfl, h2, c2, c3 f hf, by have := congrArg List.length h4; simp at this; omega, ?_⟩
    have rv' := r3.mono (sel_and' (n := n) R3.gf)
    obtain ⟨R', x'⟩ := R3.mut eo ea (o' := .ins _ dx (putF f u fvs)) (d' := .obj cn (putA f y.1 fs)) (n' := n && y.2.1) (.inr (.inr (.inr ⟨cn, _, _, dx, _, rfl, upd_same, c1, putA_names h4, putA_rps rv' h4 (h5.mono (sel_and R3.gf))⟩)))
    exact k.nx _ F3 G3 _ σ p R' ((x2.trans x3).trans x').up

/-- a method of a class -/
structure MD (P : Program) (w : World) (K : PySem.W.Frag) (mg : Str → Option Value) (tbs : List (Addr × Str)) (base : Heap) (k : Nat) (cn m : Str) (n : Nat) (ms : List Bool) (Φ : DF) : Prop where
  ex : ∃ (C f : Addr) (fd : FuncData) (ps : List Str), FnG P w K mg base k f fd ps (spD K mg tbs ms Φ) ∧ mg cn = some (.ref C) ∧ Cls K C ∧ Meth K C m f ∧ Binds K fd ps [] ∧ ps.length = n
theorem MD.mono {tbs : List (Addr × Str)} {P : Program} {w : World} {K : PySem.W.Frag} {mg : Str → Option Value} {base : Heap} {j k : Nat} {cn m : Str} {n : Nat} {ms : List Bool} {Φ : DF} (h : MD P w K mg tbs base j cn m n ms Φ) (hk : j ≤ k) : MD P w K mg tbs base k cn m n ms Φ := by
  obtain ⟨C, f, fd, ps, h1, h2⟩ := h.ex
  exact ⟨C, f, fd, ps, h1.mono hk, h2⟩
def dMeth (cn m : Str) (ms : List Bool) (Φ : DF) (w : DW) (wa : DA) : DW := fun env P E => w env (fun t e1 => (∃ fs, rd e1 (hold t) = some (.obj cn fs) ∧ fs.lookup m = none) ∧ wa e1 (fun ts e2 => callK ms Φ (hold t :: ts) e2 P E) E) E
theorem fs_none {m : Str} : ∀ {fs : List (Str × D)} {gs : List (Str × V)}, fs.map (·.1) = gs.map (·.1) → fs.lookup m = none → gs.lookup m = none
  | [], [], _, _ => rfl
  | [], _ :: _, h, _ => by simp at h
  | _ :: _, [], h, _ => by simp at h
  | (a, x) :: fs, (b, y) :: gs, h, l => by
    simp only [List.map_cons, List.cons.injEq] at h
    obtain ⟨h1, h2⟩ := h
    subst h1
    rw [List.lookup_cons] at l ⊢
    cases e : m == a with
    | true => rw [e] at l; cases l
    | false => rw [e] at l; exact fs_none h2 l
variable {k n : Nat} {ms : List Bool} {Φ : DF} {apos : Pos} {pl : Sem Bool}
theorem d_meth {tbs : List (Addr × Str)} (M : MD X.prog X.w X.K X.mg tbs X.base k cn m n ms Φ) (hr : RoomG k X.A) (tk : Takes X W) (ho : DE X Z W o w) (ha : DAr X Z W (e :: es) wa)
    (hst : starEach (e :: es) X.env = (false, eval e X.env) :: starEach es X.env := by rfl) (hpl : (backTo pos (starEach es X.env)).any (·.1) = false := by rfl)
    (ht : eval (.Call (.Attribute o m apos) (e :: es) [] pos) X.env = (do
      let ov ← eval o X.env
      standAt apos.atName
      let (f, first) ← holding [ov] (getMethod ov m pl)
      callWith pos f first (backTo pos (starEach (e :: es) X.env)) (backToKw pos (keywordEach [] X.env))) := by rfl) (ht : Z.T = tbs := by assumption) : DE X Z W (.Call (.Attribute o m apos) (e :: es) [] pos) (dMeth cn m ms Φ w wa) := by
  subst ht
  obtain ⟨C, f, fd, ps, h1, h2, h3, h4, h5, _⟩ := M.ex
  refine PE.of (pe_methG ho h3 h4 h1 hr h5 .nil tk ha hst hpl ht) fun σ H Q ⟨F, G, env, P, E, R, w, q, qe⟩ => ?_
  refine ⟨F, G, env, _, E, R, w, fun t e1 F1 G1 H1 v ⟨⟨fs, er, el⟩, pa⟩ R1 x1 r1 n1 => ?_, qe⟩
  obtain ⟨F2, G2, R2, x2, r2⟩ := RT.hold R1 x1 r1 n1
  obtain ⟨a, C', dx, fvs, rfl, k1, k2, k3, k4⟩ := (RT.rv R2 r2 er).obj R2.selH
  rw [h2] at k2
  cases k2
  refine ⟨a, dx, fvs, rfl, k1, fs_none k3 el, F2, G2, e1, _, E, R2, pa, fun ts e2 F3 G3 H3 vs hK R3 x3 r3 => ?_, qe⟩
  show spD X.K X.mg Z.T ms Φ (.ref a :: (vs ++ [])) H3 Q (WE W σ)
  rw [List.append_nil]
  exact callK_imp (ts := hold t :: ts) R3 ⟨hold_ow, RT.ext r2 hold_ow x3, r3⟩ hK (fun t e4 F4 G4 H4 u p R4 x4 r4 n4 => q t e4 F4 G4 H4 u p R4 ((x2.trans x3).trans x4) r4 (newT_back (x2.trans x3).d n4)) qe
/-- a class with an __init__ of its own -/
structure KD (P : Program) (w : World) (K : PySem.W.Frag) (mg : Str → Option Value) (tbs : List (Addr × Str)) (base : Heap) (k : Nat) (cn : Str) (ms : List Bool) (Φ : DF) : Prop where
  ex : ∃ (C f : Addr) (fd : FuncData) (ps : List Str), FnG P w K mg base k f fd ps (spD K mg tbs (true :: ms) Φ) ∧ mg cn = some (.ref C) ∧ Mk K C f ∧ Binds K fd ps []
theorem KD.mono {tbs : List (Addr × Str)} {P : Program} {w : World} {K : PySem.W.Frag} {mg : Str → Option Value} {base : Heap} {j k : Nat} {cn : Str} {ms : List Bool} {Φ : DF} (h : KD P w K mg tbs base j cn ms Φ) (hk : j ≤ k) : KD P w K mg tbs base k cn ms Φ := by
  obtain ⟨C, f, fd, ps, h1, h2⟩ := h.ex
  exact ⟨C, f, fd, ps, h1.mono hk, h2⟩
def dMake (cn : Str) (ms : List Bool) (Φ : DF) (wa : DA) : DW := fun env P E => wa env (fun ts e => ∃ e1, frzM e ms ts = some e1 ∧ ∃ x, argM e1 ms ts = some x ∧ x.2 = [] ∧
  Φ (.obj cn [] :: x.1) (fun t dio => ∃ n d, t = .fz .none n ∧ dio = [d] ∧ P (.ow d false) e1) (fun c _ => E c e1)) E
theorem args_up {K : PySem.W.Frag} {mg : Str → Option Value} {F H H' : Hp} {ms : List Bool} {vs : List V} {ds : List D} {as : List (Bool × Addr × List Addr)} {ls : List Addr} {dm : List Bool} (h : ArgsR K mg F H dm ms vs ds as ls) (e : as = []) : ArgsR K mg F H' dm ms vs ds [] [] := by
  induction h with
  | nil => exact .nil
  | fz r _ ih => exact .fz r (ih e)
  | io => cases e
theorem d_make {tbs : List (Addr × Str)} (M : KD X.prog X.w X.K X.mg tbs X.base k x ms Φ) (hr : RoomG (k + 1) X.A) (tk : Takes X W) (ha : DAr X Z W (e :: es) wa) (hg : Gl X x := by rfl)
    (hdb : (x == ("__debug__" : Str)) = false := by decide) (he : starEach (e :: es) X.env = (false, eval e X.env) :: starEach es X.env := by rfl) (hpl : (backTo pos (starEach es X.env)).any (·.1) = false := by rfl) (ht : Z.T = tbs := by assumption) :
    DE X Z W (.Call (.Name x p) (e :: es) [] pos) (dMake x ms Φ wa) := by
  subst ht
  obtain ⟨C, f, fd, ps, h1, h2, h3, h5⟩ := M.ex
  refine PE.of (pe_makeG h3 h1 hr hg h2 h5 .nil tk ha hdb he hpl) fun σ H Q ⟨F, G, env, P, E, R, w, q, qe⟩ => ?_
  refine ⟨F, G, env, _, E, R, w, fun ts e1 F1 G1 H1 vs ⟨e2, ef, y, ea, ey, hΦ⟩ R1 x1 r1 => ?_, qe⟩
  obtain ⟨F2, G2, R2, x2⟩ := RTs.frzM R1 r1 ef
  obtain ⟨as, ls, a1, a2⟩ := RTs.argM R2 (r1.ext x2) ea
  rw [ey] at a2
  cases a2
  intro a dx na nd ne
  rw [List.append_nil]
  have up : Same H1 (upd (upd H1 dx (.own a)) a (.ins C dx [])) := (same_upd nd).trans (same_upd (by rw [upd_ne (Ne.symm ne)]; exact na))
  have hF : F2 a = none := snone R2.fh na
  have bhd : ∀ {F' G' H' : Hp}, Bhd Z.T F2 (upd (upd H1 dx (.own a)) a (.ins C dx [])) [a] F' G' H' → Bhd Z.T F2 H1 [] F' G' H' := fun b =>
    ⟨b.f, b.fh, b.gf, fun c o e => snone up (b.gn c o e), fun c o e k => snone up (b.fn c o e k), fun c o e _ t => b.h c o (up _ _ e) (by rw [List.mem_singleton]; exact ne_of_none e na) t, fun c o e => b.d c o (up _ _ e), b.tb⟩
  refine ⟨F2, .obj x [] :: y.1, [(false, a, [a])], [a], _, _, ⟨R2.fh.trans up, fun p hp => (R2.tb p hp).keep (.refl _) fun ps e => up _ _ e⟩, ArgsR.io (dm := []) (d := .obj x []) (fun b hb => by rw [show fp (.obj x []) = [] from rfl, List.mem_singleton] at hb; subst hb; exact hF) (show OwnC X.K X.mg F2 _ a (.obj x []) from .inr (.inr (.inr ⟨x, [], C, dx, [], rfl, upd_same, h2, rfl, .nil⟩))) (args_up a1 rfl), List.nodup_cons.mpr ⟨by simp, List.nodup_nil⟩, hΦ, fun t dio ls' F' G' H' v ⟨n, d, et, ed, p⟩ b io nl rr ro => ?_, fun c dio ls' F' G' H' C' p b io nl hm => ?_⟩
  · subst et ed
    cases io with
    | cons i1 i2 i3 =>
      obtain ⟨R3, x3, o3⟩ := R2.after (js := []) (as := []) (dio := []) List.nodup_nil .nil (bhd b) .nil List.nodup_nil
      have i2' : OwnC X.K X.mg F' H' a d := i2
      have i1' := (i1 a List.mem_cons_self).1
      have en : v = .non := by cases (show Rp X.K X.mg _ v .none from rr); rfl
      refine ⟨en, q _ _ _ _ _ _ p R3 ((x1.trans x2).trans x3) ⟨a, rfl, i1', i2', fun o => (o3 a o).elim (R2.not_own na) fun z => (by cases z.2), R2.h0 na⟩ ⟨a, rfl, ?_⟩⟩
      cases eH : H a with
      | none => rfl
      | some o => obtain ⟨u, z⟩ := (x1.trans x2).d _ _ eH; rw [na] at z; cases z
  · obtain ⟨R3, x3, o3⟩ := R2.after (js := []) (as := []) (dio := []) List.nodup_nil .nil (bhd b) .nil List.nodup_nil
    exact qe c _ _ _ _ C' p R3 hm
end
end DL

namespace DL
open PySem PySem.Spec PyProof.Rows L2
mutual
theorem noDict : ∀ d : D, pln d = true → d.pd.hasDict = false
  | .none, _ => rfl
  | .bool _, _ => rfl
  | .int _, _ => rfl
  | .str _, _ => rfl
  | .list xs, h => by show PyData.hasDictAll _ = false; exact noDicts xs (by simpa [pln] using h)
  | .tuple xs, h => by show PyData.hasDictAll _ = false; exact noDicts xs (by simpa [pln] using h)
  | .ktup xs, h => by show PyData.hasDictAll _ = false; exact noDicts xs (by simpa [pln] using h)
  | .dict _ _, h => by simp [pln] at h
  | .obj _ _, h => by simp [pln] at h
  | .exc _, h => by simp [pln] at h
  | .scr _, h => by simp [pln] at h
  | .lk _, h => by simp [pln] at h
  | .two _ _ _ _, h => by simp [pln] at h
theorem noDicts : ∀ ds : List D, plns ds = true → PyData.hasDictAll (D.pds ds) = false
  | [], _ => rfl
  | d :: ds, h => by
    simp [plns] at h
    show (PyData.hasDict d.pd || PyData.hasDictAll (D.pds ds)) = false
    rw [noDict d h.1, noDicts ds h.2]
    rfl
end
def rRepr (K : PySem.W.Frag) : List V → Hp → VK → Prop := fun xs H Q => ∃ x d, xs = [x] ∧ Dp K H x d ∧ d.showable = true ∧ d.hasDict = false ∧ d.depth ≤ 64 ∧ d.shown.length ≤ sizeLine ∧ Q (.str d.shown) H
theorem cr_repr {X : Cx} {k : Nat} (hr : RoomG k X.A) : CallR X (.builtin "repr") (rRepr X.K) := by
  intro pn st τ hp vs us Q inv r ⟨x, d, ev, dp, hs, hn, hd, hl, q⟩
  subst ev
  obtain ⟨u, eu, rx⟩ := vals1 r
  subst eu
  obtain ⟨as, rd⟩ := Dp.reads inv d x u dp rx
  have back : ∀ t h' tk, (∀ b o, st.heap.get? b = some o → h'.get? b = some o) → EP X pn τ Q (.str d.shown t) { st with heap := h', toks := tk } := fun t h' tk kp =>
    ⟨.str d.shown, hp, inv.kept (t' := tk) kp, ⟨t, rfl⟩, q⟩
  have same : ∀ t tk, EP X pn τ Q (.str d.shown t) { st with toks := tk } := fun t tk => back t st.heap tk fun _ _ e => e
  cases dp with
  | non => cases rx; exact PySem.P.repr_of_none (same _ _)
  | bl b => cases rx; exact PySem.P.repr_of_bool (same _ _)
  | int i => obtain ⟨t, rfl⟩ := rx; exact PySem.P.repr_of_int (by simpa [PyData.showable] using hs) (same _ _)
  | str z => obtain ⟨t, rfl⟩ := rx; exact PySem.P.repr_of_str (same _ _) hl
  | lst _ _ => cases rx; exact repr_of_reads' rd hs (PyData.noDict_hsm hn) hr.g (by have := hr.u65; omega) (fun _ _ e => e) (fun h' t tk kp => back t h' tk kp) hl
  | tup _ _ => cases rx; exact repr_of_reads' rd hs (PyData.noDict_hsm hn) hr.g (by have := hr.u65; omega) (fun _ _ e => e) (fun h' t tk kp => back t h' tk kp) hl
def fRepr : FC := fun xs P => ∃ d n, xs = [(d, n)] ∧ pln d = true ∧ d.pd.showable = true ∧ d.pd.depth ≤ 64 ∧ d.pd.shown.length ≤ sizeLine ∧ P (dS d.pd.shown)
theorem c_repr {X : Cx} {k : Nat} (hr : RoomG k X.A) : CallD X (.builtin "repr") fRepr := by
  refine ⟨_, cr_repr hr, fun Z F G H σ env vs xs P Q R h ⟨d, n, ex, h1, h2, h3, h4, p⟩ q => ?_⟩
  subst ex
  obtain ⟨v, rfl, r1⟩ := rvL1 h
  exact ⟨v, d.pd, rfl, (r1.rp R.selH).dp h1, h2, noDict d h1, h3, h4, q _ F G H _ p R .refl (.str _) trivial⟩
end DL

namespace DL
open PySem PySem.Spec PyProof.Rows L2
theorem enumT_new (l : Addr) (items : Array Value) (n : Nat) (dd : Option Addr) (sl : Array (Option Value)) :
    Meets (Builtin.«enumerate.__new__» ⟨[.type "enumerate", .ref l], []⟩) (fun _ R s => s.heap.get? l = some { cls := .type "tuple", dict := dd, data := .seq items n, slots := sl } ∧
      R (.ok (.ret (.ref (s.heap.push { cls := .type "tuple_iterator", data := .fields #[.ref l, .int 0 0] }).objs.size)))
        { s with heap := (s.heap.push { cls := .type "tuple_iterator", data := .fields #[.ref l, .int 0 0] }).push { cls := .type "enumerate", data := .fields #[.none, .bool false, .ref s.heap.objs.size, rawInt 0, .none, .none] } }) :=
  .of_wp fun prog w A R s ⟨hl, h⟩ => by
    obtain ⟨hp, g, d, tk, os⟩ := s
    have hsub := sub_enumerate
    have ht : Heap.IsTuple (Shared.heap ⟨hp, g, d, tk, os⟩) l items := ⟨_, hl, rfl, n, rfl⟩
    wp_walk using wpAny_loadPart' hl
    refine wpAny_stack_any fun st => wpAny_pure ?_
    split
    · rename_i c _ _ _ _ _
      cases (c == Value.type "enumerate") <;> (wp_walk using wpAny_loadPart' hl, wpAny_pyIter_tuple ht; exact ⟨_, rfl, h⟩)
    · wp_walk using wpAny_loadPart' hl, wpAny_pyIter_tuple ht
      exact ⟨_, rfl, h⟩
theorem call_enumT {prog : Program} {w : World} {A : Around} {E : Value → Shared → Prop} {s : Shared} {l : Addr} {items : Array Value} {Q : Value → Shared → Prop} (ht : s.heap.IsTuple l items)
    (on : ∀ h', IsEnum h' (s.heap.objs.size + 1) s.heap.objs.size 0 .none → h'.IsTupleIter s.heap.objs.size l 0 → (∀ b o, s.heap.get? b = some o → h'.get? b = some o) → Q (.ref (s.heap.objs.size + 1)) { s with heap := h' }) :
    wpAny (model prog w) A (call (.type "enumerate") [.ref l]) Q E s := by
  obtain ⟨⟨c, dd, dt, sl⟩, at_, hc, n, hd⟩ := ht
  dsimp only at hc hd
  subst hc hd
  refine callType_new F.called_enumerate (by decide) (F.typeCall_enumerate_1 _) (F.newCall_enumerate_1 _) (fun obj => F.args_object_init_2 obj _) F.entry_enumerate_new (enumT_new l items n dd sl) ⟨at_, ?_⟩
  generalize eO : ({ cls := .type "tuple_iterator", data := .fields #[.ref l, .int 0 0] } : Obj) = O
  have hz : (s.heap.push O).objs.size = s.heap.objs.size + 1 := Heap.size_push ..
  show _ ∧ _
  rw [hz]
  have first : s.heap.objs.size < (s.heap.push O).objs.size := by rw [hz]; exact Nat.lt_succ_self _
  have en := Heap.get?_push_size (s.heap.push O) (o := { cls := .type "enumerate", data := .fields #[.none, .bool false, .ref s.heap.objs.size, rawInt 0, .none, .none] }) rfl
  rw [hz] at en
  have it0 : (s.heap.push O).get? s.heap.objs.size = some O := Heap.get?_push_size _ (by rw [← eO]; rfl)
  exact ⟨⟨_, en, rfl⟩, on _ en ⟨_, Heap.get?_push_of_some _ it0, by rw [← eO], by rw [← eO]; rfl⟩ fun b o e => Heap.get?_push_of_some _ (Heap.get?_push_of_some _ e)⟩
/-- the tuple at a, each item in a new pair -/
def Itet (K : PySem.W.Frag) (a : Addr) : It :=
  ⟨fun i H => ∃ (xs : List V) (x : V), SqT K H a xs ∧ xs[i]? = some x, fun i H v H' => ∃ T x, v = .ref T ∧ H T = none ∧ H' = upd H T (.tup [.int (i : Nat), x]) ∧ ∀ xs, SqT K H a xs → xs[i]? = some x, fun i H => ∃ xs : List V, SqT K H a xs ∧ xs.length ≤ i⟩
theorem enum_endT {prog : Program} {w : World} {A : Around} {E : Value → Shared → Prop} {s : Shared} {e it t : Addr} {items : Array Value} {i : Nat} {k : Int} {old : Value} {Q : Option Value → Shared → Prop} (hh : A.in1.handled = none)
    (he : IsEnum s.heap e it k old) (hit : s.heap.IsTupleIter it t i) (ht : s.heap.IsTuple t items) (hi : items.size ≤ i) (hQ : ∀ h', Heap.ExtBut it s.heap h' → Q none { s with heap := h' }) : wpAny (model prog w) A (pyNext (.ref e)) Q E s := by
  have ty : s.TypeIs (.ref e) "enumerate" := ⟨_, he, rfl⟩
  unfold pyNext
  apply wpAny_bind
  apply wpAny_attempt
  refine wpAny_callSpecial?_slot (name := Str.ofString "__next__") ty F.slot_enumerate_next ?_
  refine wpAny_call_entry F.slot_enumerate_next ty F.entry_enumerate_next ?_ (F.args_enumerate_next_1 _)
  show wpAny _ _ (field (.ref e) 2 >>= _) _ _ _
  apply wpAny_bind
  refine wpAny_field he rfl (x := .ref it) rfl ?_
  apply wpAny_bind
  refine wpAny_nextOf_tuple_end hh hit ht (Array.getElem?_eq_none hi) fun h' b ext ⟨o, ho, hc⟩ => ?_
  apply wpAny_bind
  refine wpAny_isInstance (T := "StopIteration") (b := true) ⟨o, ho, hc⟩ isSubtype_stop ?_
  exact wpAny_pure (hQ _ ext)
theorem turn_enumT {P : Program} {w : World} {K : PySem.W.Frag} {elts : List Expr} {kk : Nat} {tpos : Pos} (a e it : Addr) :
    Turn P w K (.Tuple elts kk tpos) (Itet K a) [e, it] e (fun i h => (∃ old, IsEnum h e it ((i : Nat) : Int) old) ∧ h.IsTupleIter it a i ∧ e ≠ it) where
  mem := by simp
  obj := fun i h st b hb => by
    obtain ⟨⟨old, he⟩, ⟨o, ho, hc, hd⟩, _⟩ := st
    have e' : b = e ∨ b = it := by simpa using hb
    rcases e' with z | z
    · rw [z]; exact ⟨_, he, fun v q => nomatch q⟩
    · rw [z]; exact ⟨o, ho, fun v q => by rw [hd] at q; cases q⟩
  keep := fun i h h' st k => let ⟨⟨old, he⟩, ⟨o, ho, hc, hd⟩, hne⟩ := st; ⟨⟨old, k e (by simp) _ he⟩, ⟨o, k it (by simp) _ ho, hc, hd⟩, hne⟩
  item := by
    intro X hP hw hK hc i pins s σ H E I hf st hg
    subst hP hw hK
    obtain ⟨⟨old, he⟩, hit, hne⟩ := st
    obtain ⟨xs, x, hq, hx⟩ := hg
    obtain ⟨its, rv, p, hz⟩ := I.tuple hq
    obtain ⟨u, hu, ru⟩ := rv.get hx
    have hel : e < s.heap.objs.size := Heap.lt_size he
    have hil : it < s.heap.objs.size := by obtain ⟨_, q, _⟩ := hit; exact Heap.lt_size q
    have pt : s.heap.IsTuple a its.toArray := p
    have hta : a ≠ it := fun z => by
      obtain ⟨o1, q1, c1, _⟩ := hit
      obtain ⟨o2, q2, c2, _⟩ := pt
      rw [z, q1] at q2
      cases q2
      rw [c1] at c2
      exact absurd c2 (by decide)
    have hea : e ≠ a := fun z => by
      obtain ⟨o2, q2, c2, _⟩ := pt
      rw [← z, he] at q2
      cases q2
      exact absurd (show Value.type "enumerate" = Value.type "tuple" from c2) (by decide)
    have D := Draws.tuple (prog := X.prog) (w := X.w) (A := X.A.in1) (show X.A.in1.handled = none from I.ok.hd hc) it a hta its.toArray
    have lt : i < its.toArray.size := by rw [List.size_toArray]; exact (List.getElem?_eq_some_iff.mp hu).1
    refine wpAny_pyNext_enum_itemD D he ⟨hit, pt⟩ lt hne (by simp [hne, hea]) fun y h' tk hy ho hst' hT hsz hk => ?_
    have ey : y = u := by
      rw [List.getElem?_toArray, hu] at hy
      exact (Option.some.inj hy).symm
    subst ey
    obtain ⟨hit', _⟩ := hst'
    refine ⟨_, rfl, wpAny_letOwnedTupleGo_enum (s := { s with heap := h', toks := tk + 1 }) ho fun h'' he' sb => ?_⟩
    have hT2 : h''.get? s.heap.objs.size = some { cls := .type "tuple", data := .seq #[.int i tk, y] } := (sb.2 _ (Nat.ne_of_gt hel)).trans hT
    have new : ObjOk X.prog X.w (upd H s.heap.objs.size (.tup [.int (i : Nat), x])) h'' s.heap.objs.size (.tup [.int (i : Nat), x]) :=
      ⟨by show 2 ≤ sizeLine; decide, [.int i tk, y], .cons ⟨_, rfl⟩ (.cons ru .nil), ⟨_, hT2, rfl, _, rfl⟩⟩
    have I1 : Inv X pins σ (upd H s.heap.objs.size (.tup [.int (i : Nat), x])) { s with heap := h'', toks := tk + 1 } :=
      I.turnedNew (ch := [e, it]) (fun b ob hb q => (sb.2 b (fun z => hb (by simp [z]))).trans (hk b ob (fun z => hb (by simp [z])) (fun z => hb (by simp [z])) q)) hf (Nat.le_refl _) new
    refine ⟨.ref s.heap.objs.size, _, I1, rfl, ⟨_, x, rfl, I.hok.fresh (Nat.le_refl _), rfl, fun ys hy => ?_⟩, ⟨⟨y, ?_⟩, ?_, hne⟩, fun b hb => ?_⟩
    · have := I.tuple_inj hy hq
      rw [this]; exact hx
    · have e1 : ((i + 1 : Nat) : Int) = (i : Int) + 1 := by omega
      rw [e1]; exact he'
    · obtain ⟨o, ho2, hc2, hd2⟩ := hit'
      exact ⟨o, (sb.2 it (Ne.symm hne)).trans ho2, hc2, hd2⟩
    · have hb' : b < s.heap.objs.size := by
        have e' : b = e ∨ b = it := by simpa using hb
        rcases e' with z | z
        · rw [z]; exact hel
        · rw [z]; exact hil
      rw [upd_ne (Nat.ne_of_lt hb')]
      exact (hf b hb).1
  done := by
    intro X hP hw hK hc i pins s σ H E I hf st hg
    subst hP hw hK
    obtain ⟨⟨old, he⟩, hit, hne⟩ := st
    obtain ⟨xs, hq, hx⟩ := hg
    obtain ⟨its, rv, p, hz⟩ := I.tuple hq
    obtain ⟨f0, f1, f2, f3, f4, f5⟩ := hf it (by simp)
    have hl := rv.length
    exact enum_endT (show X.A.in1.handled = none from I.ok.hd hc) he hit (show s.heap.IsTuple a its.toArray from p) (by rw [List.size_toArray]; omega) fun h' eb => ⟨rfl, I.turned (t' := s.toks) (fun b o hb q => eb b o hb q) f0 f1 f3 f4 f5⟩
  self := fun A i s Q E st h => let ⟨⟨_, he⟩, _⟩ := st; wpAny_pyIter_enum he h
def iEnumT (K : PySem.W.Frag) (ta : TA) : TI := fun σ H R => ta σ H fun vs H1 => ∃ a xs, vs = [.ref a] ∧ SqT K H1 a xs ∧ R (Itet K a) H1
theorem pi_enumT {X : Cx} {e : Expr} {ta : TA} {p pos tpos : Pos} {elts : List Expr} {kk : Nat} (hg : Gl X "enumerate") (hm : X.mg "enumerate" = none) (ha : PA X [e] ta) (hs : starEach [e] X.env = [(false, eval e X.env)] := by rfl) :
    PI X (.Tuple elts kk tpos) (.Call (.Name "enumerate" p) [e] [] pos) (iEnumT X.K ta) := by
  refine ⟨fun pins s σ H R I h => ?_⟩
  refine Call_ (ld_blt I hg hm boot_enumerate (PyProof.Rows.callWith_type1 (thn (ha.run pos pins s σ H _ I h) fun us s1 ⟨vs, H1, I1, r1, a, xs, ex, hq, q⟩ => ?_) hs rfl))
  subst ex
  rw [Vals.ref1 r1]
  obtain ⟨its, rv, p', hz⟩ := I1.tuple hq
  refine call_enumT (show s1.heap.IsTuple a its.toArray from p') fun h' he hit hk => wpAny_pyIter_enum he ?_
  have I2 : Inv X pins σ H1 { s1 with heap := h' } := I1.kept (t' := s1.toks) hk
  refine ⟨s1.heap.objs.size + 1, [s1.heap.objs.size + 1, s1.heap.objs.size], _, _, H1, rfl, I2, turn_enumT a (s1.heap.objs.size + 1) s1.heap.objs.size, ⟨⟨.none, he⟩, hit, Nat.succ_ne_self _⟩, fun b hb => ?_, q⟩
  have hle : s1.heap.objs.size ≤ b := by
    have e' : b = s1.heap.objs.size + 1 ∨ b = s1.heap.objs.size := by simpa using hb
    rcases e' with z | z
    · rw [z]; exact Nat.le_succ _
    · rw [z]; exact Nat.le_refl _
  exact I1.fpOk hle (I1.hok.fresh hle)
/-- enumerate of a tuple -/
def dEnumT (wa : DA) : DI := fun env P E => wa env (fun ts e => ∃ x n e', frzL e ts = some ([x], n, e') ∧ ∃ xs, kindSeq x = some (true, xs) ∧ P (enumD 0 xs) n e') E
theorem i_enumT {X : Cx} {Z : Zx} {W : WX} {a : Expr} {wa : DA} {p pos tpos : Pos} {elts : List Expr} {kk : Nat} (hm : X.mg "enumerate" = none) (ha : DAr X Z W [a] wa) (hg : Gl X "enumerate" := by rfl) (hs : starEach [a] X.env = [(false, eval a X.env)] := by rfl) :
    DIe X Z W (.Tuple elts kk tpos) (.Call (.Name "enumerate" p) [a] [] pos) (dEnumT wa) := by
  refine PI.of (pi_enumT hg hm ha hs) fun σ H R ⟨F, G, env, P, E, Rr, w, q, qe⟩ => ?_
  refine ⟨F, G, env, _, E, Rr, w, fun ts e1 F1 G1 H1 vs ⟨x, n, e', ef, xs, ex, p⟩ R1 x1 r1 => ?_, qe⟩
  obtain ⟨F2, G2, R2, x2, r2⟩ := RTs.frz R1 r1 ef
  cases r2 with
  | cons ra rr =>
    cases rr
    obtain ⟨a, va, rfl, sa, qa⟩ := ra.kind ex
    have sa' : SqT X.K F2 a va := Same.seqT (sel_le R2.gf) sa
    refine ⟨a, va, rfl, Same.seqT R2.fh sa', q _ n e' F2 G2 H1 _ p R2 (x1.trans x2) ⟨fun i H s h => ?_, fun i H d s h => ?_, fun i H d x H' F' G' env σ h yl R u => ?_⟩⟩
    · rw [enumD_len] at h
      exact ⟨va, Same.seqT s sa', by rw [qa.length]; exact h⟩
    · obtain ⟨d1, h1, _⟩ := enumD_get h
      obtain ⟨v1, e1, _⟩ := qa.get h1
      exact ⟨va, v1, Same.seqT s sa', e1⟩
    · obtain ⟨t, w1, rfl, ht, rfl, f1⟩ := yl
      obtain ⟨d1, h1, rfl⟩ := enumD_get h
      obtain ⟨v1, e1, q1⟩ := qa.get h1
      have z1 := f1 va (Same.seqT R.fh (Same.seqT u.f sa'))
      rw [e1] at z1; cases z1
      have e0 : ((0 + i : Nat) : Int) = (i : Nat) := by rw [Nat.zero_add]
      rw [e0]
      exact lay_pair R ht (.int _) (q1.mono (sel_same u.f u.g))

theorem Rv.up {K : PySem.W.Frag} {mg : Str → Option Value} {B H H' : Hp} {v : V} {d : D} (h : Rv K mg B H v d) (s : Same B H) (u : Same H H') : Rv K mg B H' v d := by
  rcases h with h | ⟨a, e, h⟩
  · exact .inl h
  · exact .inr ⟨a, e, h.at_ fun o eo => u _ _ eo⟩
def dIsi2 (C C' : String) (w : DW) : DW := fun env P E => w env (fun t e => ∃ d, rd e (hold t) = some d ∧ ∃ k, tyN d = some k ∧ P (dB (isiN k C || isiN k C')) e) E
theorem d_isi2 {X : Cx} {Z : Zx} {W : WX} {pos p p2 p3 p4 : Pos} {kk : Nat} {iz c c' : Str} {C C' : String} {e : Expr} {w : DW} (hz : iz = ("isinstance" : Str)) (hC : C ∈ clNs) (hC' : C' ∈ clNs) (hm : X.mg iz = none) (hmC : X.mg c = none) (hmC' : X.mg c' = none) (he : DE X Z W e w)
    (hg : Gl X iz := by rfl) (hgC : Gl X c := by rfl) (hgC' : Gl X c' := by rfl) (hv : bootBuiltins iz = some (.builtin "isinstance") := by rfl) (hvC : bootBuiltins c = some (.type C) := by rfl) (hvC' : bootBuiltins c' = some (.type C') := by rfl)
    (hnC : c ≠ "__name__" := by decide) (hdC : (c == ("__debug__" : Str)) = false := by decide) (hnC' : c' ≠ "__name__" := by decide) (hdC' : (c' == ("__debug__" : Str)) = false := by decide)
    (hs1 : starEach [e, .Tuple [.Name c p2, .Name c' p3] kk p4] X.env = (false, eval e X.env) :: starEach [.Tuple [.Name c p2, .Name c' p3] kk p4] X.env := by rfl)
    (hs2 : starEach [.Tuple [.Name c p2, .Name c' p3] kk p4] X.env = (false, eval (.Tuple [.Name c p2, .Name c' p3] kk p4) X.env) :: starEach [] X.env := by rfl)
    (hs3 : starEach [.Name c p2, .Name c' p3] X.env = (false, eval (.Name c p2) X.env) :: starEach [.Name c' p3] X.env := by rfl) (hs4 : starEach [.Name c' p3] X.env = (false, eval (.Name c' p3) X.env) :: starEach [] X.env := by rfl)
    (hpl : (backTo pos (starEach [.Tuple [.Name c p2, .Name c' p3] kk p4] X.env)).any (·.1) = false := by rfl) : DE X Z W (.Call (.Name iz p) [e, .Tuple [.Name c p2, .Name c' p3] kk p4] [] pos) (dIsi2 C C' w) := by
  subst hz
  refine PE.of (pe_callB call_isiT hg hm hv (pa_cons he (pa_cons (pe_tup (pa_cons (pe_bltn hgC hmC hvC (v := .ty C) rfl hnC hdC) (pa_cons (pe_bltn hgC' hmC' hvC' (v := .ty C') rfl hnC' hdC') pa_nil hs4) hs3)) pa_nil hs2) hs1) (by decide) (by decide) hs1 hpl) fun σ H Q ⟨F, G, env, P, E, R, w, q, qe⟩ => ?_
  refine ⟨F, G, env, _, E, R, w, fun t e1 F1 G1 H1 v ⟨d, ed, k, ek, p⟩ R1 x1 r1 n1 => ?_, qe⟩
  obtain ⟨F2, G2, R2, x2, r2⟩ := RT.hold R1 x1 r1 n1
  have rv := RT.rv R2 r2 ed
  refine ⟨by show 2 ≤ sizeLine; decide, fun tp np => ?_⟩
  have up : Same H1 (upd H1 tp (.tup [.ty C, .ty C'])) := same_upd np
  have R3 := R2.grow up
  have kit : PySem.W.kitAny X.K (.type k) [.type C, .type C'] = some (isiN k C || isiN k C') := by
    refine kitAny_cons (kit_ty (kit_at (tyN_mem ek) hC)) (fun e0 => ?_) fun e1 => by rw [e1]; rfl
    rw [e0, Bool.false_or]
    exact kitAny_cons (kit_ty (kit_at (tyN_mem ek) hC')) (fun e2 => by rw [e2]; exact kitAny_nil) fun e2 => e2
  refine ⟨v, tp, [.ty C, .ty C'], .type k, [.type C, .type C'], _, rfl, upd_same, .cons (.ty C) (.cons (.ty C') .nil), ?_, kit, q _ _ _ _ _ _ p R3 (x2.trans (Ext.grow up)) (.bl _) trivial⟩
  exact Rv.ty (Rv.up rv R2.selH up) (R2.selH.trans up) ek
end DL

namespace DL
open PySem PySem.Spec L2
structure FDK (P : Program) (w : World) (K : PySem.W.Frag) (mg : Str → Option Value) (tbs : List (Addr × Str)) (base : Heap) (k : Nat) (x : Str) (n : Nat) (ks : List Str) (ms : List Bool) (Φ : DF) : Prop where
  ex : ∃ (f : Addr) (fd : FuncData) (ps : List Str), FnG P w K mg base k f fd ps (spD K mg tbs ms Φ) ∧ mg x = some (.ref f) ∧ PySem.W.keepIn K (.ref f) = true ∧ (∃ ds, Vals [.non] ds ∧ Binds K fd ps ds) ∧ KBinds K fd ps ks (fun us ws => if us.length + 1 = n then us ++ ws else []) (fun vs zs => if vs.length + 1 = n then vs ++ zs else []) ∧ ps.length = n
theorem FDK.mono {tbs : List (Addr × Str)} {P : Program} {w : World} {K : PySem.W.Frag} {mg : Str → Option Value} {base : Heap} {j k : Nat} {x : Str} {n : Nat} {ks : List Str} {ms : List Bool} {Φ : DF} (h : FDK P w K mg tbs base j x n ks ms Φ) (hk : j ≤ k) : FDK P w K mg tbs base k x n ks ms Φ := by
  obtain ⟨f, fd, ps, h1, h2⟩ := h.ex
  exact ⟨f, fd, ps, h1.mono hk, h2⟩
def dCallD (ms : List Bool) (Φ : DF) (dds : List D) (wa : DA) : DW := fun env P E => wa env (fun ts e => callK ms Φ (ts ++ dds.map fun d => .fz d true) e P E) E
def dCallK (ms : List Bool) (Φ : DF) (wa : DA) (we : DW) : DW := fun env P E => wa env (fun ts e1 => we e1 (fun t e2 => callK ms Φ (ts ++ [hold t]) e2 P E) E) E
theorem RTs.app {K : PySem.W.Frag} {mg : Str → Option Value} {Z : Zx} {F G H : Hp} {σ : Sg} {env : DEnv} : ∀ {ts us : List T} {vs ws : List V}, RTs K mg Z F G H σ env vs ts → RTs K mg Z F G H σ env ws us → RTs K mg Z F G H σ env (vs ++ ws) (ts ++ us)
  | [], us, [], ws, _, h => h
  | [], _, _ :: _, _, h, _ => h.elim
  | _ :: _, _, [], _, h, _ => h.elim
  | t :: ts, us, v :: vs, ws, h, h' => ⟨h.1, h.2.1, RTs.app h.2.2 h'⟩
section
variable {X : Cx} {Z : Zx} {W : WX} {pos p kpos : Pos} {k n : Nat} {ks : List Str} {ms : List Bool} {Φ : DF} {x y : Str} {e ev : Expr} {es : List Expr} {wa : DA} {we : DW}
theorem d_callFD {tbs : List (Addr × Str)} (C : FDK X.prog X.w X.K X.mg tbs X.base k x n ks ms Φ) (hr : RoomG k X.A) (tk : Takes X W) (ha : DAr X Z W (e :: es) wa) (hg : Gl X x := by rfl)
    (hdb : (x == ("__debug__" : Str)) = false := by decide) (he : starEach (e :: es) X.env = (false, eval e X.env) :: starEach es X.env := by rfl) (hpl : (backTo pos (starEach es X.env)).any (·.1) = false := by rfl) (ht : Z.T = tbs := by assumption) :
    DE X Z W (.Call (.Name x p) (e :: es) [] pos) (dCallD ms Φ [.none] wa) := by
  obtain ⟨f, fd, ps, h1, h2, h3, ⟨ds, hd, hb⟩, _, _⟩ := C.ex
  exact d_callD (dds := [.none]) h1 hr hg h2 h3 hb hd (fun _ => .cons .non .nil) tk ha hdb he hpl ht
theorem d_callFK {tbs : List (Addr × Str)} (C : FDK X.prog X.w X.K X.mg tbs X.base k x n [y] ms Φ) (hr : RoomG k X.A) (tk : Takes X W) (ha : DAr X Z W (e :: es) wa) (hv : DE X Z W ev we) (hg : Gl X x := by rfl)
    (hall : (backToKw pos (keywordEach [⟨some y, ev, kpos⟩] X.env)).all (·.1.isSome) = true := by rfl) (hks : (backToKw pos (keywordEach [⟨some y, ev, kpos⟩] X.env)).filterMap (·.1) = [y] := by rfl)
    (hdb : (x == ("__debug__" : Str)) = false := by decide) (he : starEach (e :: es) X.env = (false, eval e X.env) :: starEach es X.env := by rfl)
    (hpl : ((backTo pos (starEach (e :: es) X.env)).any (·.1) || (backToKw pos (keywordEach [⟨some y, ev, kpos⟩] X.env)).any (·.1.isNone)) = false := by rfl) (ht : Z.T = tbs := by assumption) :
    DE X Z W (.Call (.Name x p) (e :: es) [⟨some y, ev, kpos⟩] pos) (dCallK ms Φ wa we) := by
  subst ht
  obtain ⟨f, fd, ps, h1, h2, h3, _, hb, hn⟩ := C.ex
  refine PE.of (pe_callGK h1 hr hg h2 h3 hb tk ha (pk_cons hv pk_nil) hall hks hdb he hpl) fun σ H Q ⟨F, G, env, P, E, R, w, q, qe⟩ => ?_
  refine ⟨F, G, env, _, E, R, w, fun ts e1 F1 G1 H1 vs w2 R1 x1 r1 => ?_, qe⟩
  refine ⟨F1, G1, e1, _, E, R1, w2, fun t e2 F2 G2 H2 v hK R2 x2 r2 n2 => ?_, qe⟩
  obtain ⟨F3, G3, R3, x3, r3⟩ := RT.hold R2 x2 r2 n2
  have hsp : spD X.K X.mg Z.T ms Φ (vs ++ [v]) H2 Q (WE W σ) := by
    refine callK_imp (ts := ts ++ [hold t]) (vs := vs ++ [v]) R3 (RTs.app (r1.ext x3) ⟨hold_ow, r3, trivial⟩) hK (fun t' e4 F4 G4 H4 u p R4 x4 r4 n4 => ?_) qe
    exact q t' e4 F4 G4 H4 u p R4 ((x1.trans x3).trans x4) r4 (newT_back (x1.trans x3).d n4)
  have hl := h1.len _ _ _ _ hsp
  rw [List.length_append, hn] at hl
  have hl : vs.length + 1 = n := hl
  show spD X.K X.mg Z.T ms Φ (if vs.length + 1 = n then vs ++ [v] else []) H2 Q (WE W σ)
  rw [if_pos hl]
  exact hsp
end
end DL

namespace DL
open PySem PySem.Spec L2
section
variable {env e' : DEnv} {P : T → DEnv → Prop} {PB : Bool → DEnv → Prop} {PL : List T → DEnv → Prop} {PI : List D → Bool → DEnv → Prop} {E : Str → DEnv → Prop} {Ds : DEnds} {w w2 w3 : DW} {wa : DA} {i j : Nat} {t : T} {d : D} {wi : DI} {g : DG} {f : F2} {ms : List Bool} {Φ : DF}
theorem x_att {cn at' : Str} (h : w env (fun t e => ∃ fs d, rd e (hold t) = some (.obj cn fs) ∧ fs.lookup at' = some d ∧ P (.fz d (rdn e (hold t))) e) E) : dAtt cn at' w env P E := h
theorem x_meth {cn m : Str} (h : w env (fun t e1 => (∃ fs, rd e1 (hold t) = some (.obj cn fs) ∧ fs.lookup m = none) ∧ wa e1 (fun ts e2 => callK ms Φ (hold t :: ts) e2 P E) E) E) : dMeth cn m ms Φ w wa env P E := h
theorem x_make {cn : Str} (h : wa env (fun ts e => ∃ e1, frzM e ms ts = some e1 ∧ ∃ x, argM e1 ms ts = some x ∧ x.2 = [] ∧
  Φ (.obj cn [] :: x.1) (fun t dio => ∃ n d, t = .fz .none n ∧ dio = [d] ∧ P (.ow d false) e1) (fun c _ => E c e1)) E) : dMake cn ms Φ wa env P E := h
theorem x_setA {cn at' : Str} (h : w env (fun tv e1 => ∃ x, frz1 e1 (hold tv) = some x ∧ ∃ fs n, ownS x.2.2 j = some (.obj cn fs, n) ∧ fs.length < 1000 ∧ Ds.nx (mutS x.2.2 j (.obj cn (putA at' x.1 fs)) (n && x.2.1))) Ds.ex) : dSetA cn at' j w env Ds := h
theorem x_sortSc {tt : DT} {te : DW} {vs : List Nat} (h : wi env (fun items n e0 => ScOk g tt te vs n P items e0) E) : dSortSc wi g tt te vs env P E := h
theorem x_isi2 {C C' : String} (h : w env (fun t e => ∃ d, rd e (hold t) = some d ∧ ∃ k, tyN d = some k ∧ P (dB (isiN k C || isiN k C')) e) E) : dIsi2 C C' w env P E := h
theorem x_enumT (h : wa env (fun ts e => ∃ x n e', frzL e ts = some ([x], n, e') ∧ ∃ xs, kindSeq x = some (true, xs) ∧ PI (enumD 0 xs) n e') E) : dEnumT wa env PI E := h
theorem x_zip (h : wa env (fun ts e => ∃ x y n e', frzL e ts = some ([x, y], n, e') ∧ ∃ k xs ys, kindSeq x = some (k, xs) ∧ kindSeq y = some (k, ys) ∧ PI (zipD xs ys) n e') E) : dZip wa env PI E := h
theorem x_callD {dds : List D} (h : wa env (fun ts e => callK ms Φ (ts ++ dds.map fun d => .fz d true) e P E) E) : dCallD ms Φ dds wa env P E := h
theorem x_callKK (h : wa env (fun ts e1 => w e1 (fun t e2 => callK ms Φ (ts ++ [hold t]) e2 P E) E) E) : dCallK ms Φ wa w env P E := h
theorem x_augI {ds : List D} {n : Bool} (h0 : ownS env j = some (.list ds, n)) (h : w env (fun tk e1 => ∃ ds n i d, ownS e1 j = some (.list ds, n) ∧ rd e1 (hold tk) = some (.int i) ∧ atI ds i = some d ∧
  w2 e1 (fun te e2 => ∃ y, rd e2 (hold te) = some y ∧ f d y n (rdn e2 (hold te)) fun t => ∃ d' n', t = .fz d' n' ∧ ∃ c m, ownS e2 j = some (c, m) ∧ fSetI c (.int i) d' (m && n') fun c' m' => Ds.nx (mutS e2 j c' m')) Ds.ex) Ds.ex) : dAugI j f w w2 env Ds := ⟨⟨_, h0⟩, h⟩
theorem x_augI2 {ea : Option (D × Bool)} {ek : Option D} {ds : List D} {n : Bool} {i : Int} {d : D} {R : List D → Bool → Int → D → Prop} (h1 : ea = some (.list ds, n)) (h2 : ek = some (.int i)) (h3 : atI ds i = some d) (h : R ds n i d) :
    ∃ ds n i d, ea = some (.list ds, n) ∧ ek = some (.int i) ∧ atI ds i = some d ∧ R ds n i d := ⟨ds, n, i, d, h1, h2, h3, h⟩
theorem x_augI3 {d : D} {n : Bool} {R : D → Bool → Prop} (h : R d n) : ∃ d' n', T.fz d n = .fz d' n' ∧ R d' n' := ⟨d, n, rfl, h⟩
theorem x_fz {cn : Str} {fs : List (Str × D)} {d : D} {at' : Str} {eo : Option D} {R : List (Str × D) → D → Prop} (h1 : eo = some (.obj cn fs)) (h2 : fs.lookup at' = some d) (h : R fs d) : ∃ fs d, eo = some (.obj cn fs) ∧ fs.lookup at' = some d ∧ R fs d := ⟨fs, d, h1, h2, h⟩
end
end DL

namespace DL
open PySem PySem.Spec L2
/-- plain, layable, at most n deep -/
def OkN (n : Nat) (d : D) : Prop := pln d = true ∧ PyData.canLay0 d.pd = true ∧ d.pd.depth ≤ n
theorem OkN.ok {n : Nat} {d : D} (h : OkN n d) (hn : n ≤ 64) : okD d = true := by
  obtain ⟨h1, h2, h3⟩ := h
  unfold okD SeqAt.shaped
  rw [h1, h2, decide_eq_true (by omega : d.pd.depth ≤ 64)]
  rfl
theorem OkN.mono {n m : Nat} {d : D} (h : OkN n d) (hn : n ≤ m) : OkN m d := ⟨h.1, h.2.1, Nat.le_trans h.2.2 hn⟩
theorem okn_int (i : Int) : OkN 0 (.int i) := ⟨rfl, rfl, Nat.le_refl _⟩
theorem okns {n : Nat} : ∀ {ds : List D}, (∀ d ∈ ds, OkN n d) → plns ds = true ∧ PyData.canLayAll0 (D.pds ds) = true ∧ PyData.depthAll (D.pds ds) ≤ n
  | [], _ => ⟨rfl, rfl, Nat.zero_le _⟩
  | x :: ds, h => by
    obtain ⟨a1, a2, a3⟩ := h x (by simp)
    obtain ⟨b1, b2, b3⟩ := okns (ds := ds) fun d hd => h d (by simp [hd])
    refine ⟨by simp [plns, a1, b1], by simp [D.pds, PyData.canLayAll0, a2, b2], ?_⟩
    simp only [D.pds, PyData.depthAll]
    omega
theorem okn_list {n : Nat} {ds : List D} (h : ∀ d ∈ ds, OkN n d) : OkN (n + 1) (.list ds) := by
  obtain ⟨b1, b2, b3⟩ := okns h
  refine ⟨by simp [pln, b1], by simp [D.pd, PyData.canLay0, b2], ?_⟩
  simp only [D.pd, PyData.depth]
  omega
theorem okn_tuple {n : Nat} {ds : List D} (h : ∀ d ∈ ds, OkN n d) : OkN (n + 1) (.tuple ds) := by
  obtain ⟨b1, b2, b3⟩ := okns h
  refine ⟨by simp [pln, b1], by simp [D.pd, PyData.canLay0, b2], ?_⟩
  simp only [D.pd, PyData.depth]
  omega
theorem deq_nil {xs : List D} : deq (.list xs) (.list []) = decide (xs = []) := by
  cases xs with
  | nil => rfl
  | cons x xs => rfl
end DL

namespace DL
open PySem PySem.Spec L2
abbrev veTl : List Value := [.type "ValueError", .type "Exception", .type "BaseException", .type "object"]
/-- an exception class of the module under ValueError -/
structure XC (K : PySem.W.Frag) (mg : Str → Option Value) (cn : Str) : Prop where
  ex : ∃ C, mg cn = some (.ref C) ∧ PySem.W.excIn K C veTl "ValueError.__new__" = true ∧ PySem.W.keepIn K (.ref C) = true ∧ PySem.W.subIn K (.ref C) (.type "BaseException") = some true ∧ PySem.W.typeIn K (.ref C) = some (.type "type")
def dRaise (cn : Str) : DSt := fun env D => D.ex cn env
section
variable {X : Cx} {Z : Zx} {W : WX} {p p2 p3 pos : Pos}
theorem s_raise {cn m : Str} {j : Nat} (C : XC X.K X.mg cn) (hc : X.calm = true) (tk : Takes X W) (hg : Gl X cn := by rfl) (hdb : (cn == ("__debug__" : Str)) = false := by decide) :
    DS X Z W (.Raise (some (.Call (.Name cn p) [.Constant (.str m) j p2] [] p3)) none pos) (dRaise cn) := by
  obtain ⟨C, hm, hx, hk, hb, ht⟩ := C.ex
  refine PS.of (ps_raise hc tk (pmk_own PySem.F.excBase_ValueError hx hm hk (raises_own hb ht) hg hdb)) fun D σ H ⟨F, G, env, Ds, R, w, k⟩ => ?_
  exact k.ex σ cn env F G H C w R hm
theorem x_raise {env : DEnv} {D : DEnds} {cn : Str} (h : D.ex cn env) : dRaise cn env D := h
end
end DL

namespace DL
open PySem PySem.Spec L2
theorem small {k : Nat} (h : k ≤ 10000) : k ≤ sizeLine := Nat.le_trans h (by decide)
theorem smallL {k : Nat} (h : Nat.ble k 100 = true) : k ≤ sizeLine := small (by have := Nat.le_of_ble_eq_true h; omega)
theorem x_revL {env : DEnv} {P : T → DEnv → Prop} {E : Str → DEnv → Prop} {w w2 : DW} (h : w2 env (fun t e => ∃ x ds, rd e (hold t) = some x ∧ listOf x = some ds ∧ P (.ow (.list ds.reverse) (rdn e (hold t))) e) E) : dOrE (dRevS w) (dRevL w2) env P E := .inr h
theorem smallLt {k : Nat} (h : k < 10000) : k < sizeLine := Nat.lt_of_lt_of_le h (by decide)
theorem x_pw {a b r : Int} {n m : Bool} {R : T → Prop} (hc : CPow a b) (e : a ^ b.toNat = r) (h : R (dI r)) : fPow (.int a) (.int b) n m R :=
  ⟨a, b, rfl, rfl, hc, by show R (dI (a ^ b.toNat)); rw [e]; exact h⟩
theorem atI_last {α : Type} {l : List α} {x : α} : atI (l ++ [x]) (-1) = some x := by
  unfold atI ixN
  rw [if_neg (by decide), List.length_append, List.length_singleton, if_pos (by omega)]
  show (l ++ [x])[_]? = _
  rw [show (((-1 : Int) + ((l.length + 1 : Nat) : Int)).toNat) = l.length by omega]
  simp
theorem cut_tail {α : Type} {l : List α} : cutL l (some 1) none = l.tail := by
  have e : HT.sIx l.length 0 (some 1) = min 1 l.length := by
    unfold HT.sIx
    rfl
  unfold cutL
  rw [e]
  show (l.drop (min 1 l.length)).take (l.length - min 1 l.length) = l.tail
  cases l with
  | nil => rfl
  | cons a r => simp [show min 1 (r.length + 1) = 1 by omega]
theorem sIx_nat {n d k : Nat} : HT.sIx n d (some (k : Int)) = min k n := by
  unfold HT.sIx
  show (if ((k : Nat) : Int) < 0 then _ else min (k : Int).toNat n) = _
  rw [if_neg (by omega)]
  simp
theorem cut_to {α : Type} {l : List α} {k : Nat} : cutL l none (some (k : Int)) = l.take k := by
  have e1 : HT.sIx l.length 0 none = 0 := rfl
  unfold cutL
  rw [e1, sIx_nat, List.drop_zero, Nat.sub_zero, Nat.min_def]
  split
  · rfl
  · rw [List.take_of_length_le (Nat.le_refl _), List.take_of_length_le (by omega)]
theorem zipD_map {α β : Type} {f : α → D} {g : β → D} : ∀ {xs : List α} {ys : List β}, zipD (xs.map f) (ys.map g) = (xs.zip ys).map fun p => .tuple [f p.1, g p.2]
  | [], _ => rfl
  | _ :: _, [] => rfl
  | x :: xs, y :: ys => by
    show D.tuple [f x, g y] :: zipD (xs.map f) (ys.map g) = _
    rw [zipD_map]
    rfl
theorem x_p_10_12 {n m : Bool} {R : T → Prop} (h : R (dI 1000000000000)) : fPow (.int 10) (.int 12) n m R := x_pw ⟨by decide, by decide, by decide⟩ (by decide) h
theorem x_p_10_15 {n m : Bool} {R : T → Prop} (h : R (dI 1000000000000000)) : fPow (.int 10) (.int 15) n m R := x_pw ⟨by decide, by decide, by decide⟩ (by decide) h
theorem x_p_10_20 {n m : Bool} {R : T → Prop} (h : R (dI 100000000000000000000)) : fPow (.int 10) (.int 20) n m R := x_pw ⟨by decide, by decide, by decide⟩ (by decide) h
theorem x_p_10_29 {n m : Bool} {R : T → Prop} (h : R (dI 100000000000000000000000000000)) : fPow (.int 10) (.int 29) n m R := x_pw ⟨by decide, by decide, by decide⟩ (by decide) h
theorem x_p_10_30 {n m : Bool} {R : T → Prop} (h : R (dI 1000000000000000000000000000000)) : fPow (.int 10) (.int 30) n m R := x_pw ⟨by decide, by decide, by decide⟩ (by decide) h
theorem x_p_10_39 {n m : Bool} {R : T → Prop} (h : R (dI 1000000000000000000000000000000000000000)) : fPow (.int 10) (.int 39) n m R := x_pw ⟨by decide, by decide, by decide⟩ (by decide) h
theorem x_p_10_40 {n m : Bool} {R : T → Prop} (h : R (dI 10000000000000000000000000000000000000000)) : fPow (.int 10) (.int 40) n m R := x_pw ⟨by decide, by decide, by decide⟩ (by decide) h
theorem x_p_10_60 {n m : Bool} {R : T → Prop} (h : R (dI 1000000000000000000000000000000000000000000000000000000000000)) : fPow (.int 10) (.int 60) n m R := x_pw ⟨by decide, by decide, by decide⟩ (by decide) h
theorem x_p_10_9 {n m : Bool} {R : T → Prop} (h : R (dI 1000000000)) : fPow (.int 10) (.int 9) n m R := x_pw ⟨by decide, by decide, by decide⟩ (by decide) h
theorem x_p_2_40 {n m : Bool} {R : T → Prop} (h : R (dI 1099511627776)) : fPow (.int 2) (.int 40) n m R := x_pw ⟨by decide, by decide, by decide⟩ (by decide) h
theorem x_p_2_60 {n m : Bool} {R : T → Prop} (h : R (dI 1152921504606846976)) : fPow (.int 2) (.int 60) n m R := x_pw ⟨by decide, by decide, by decide⟩ (by decide) h
theorem x_p_2_63 {n m : Bool} {R : T → Prop} (h : R (dI 9223372036854775808)) : fPow (.int 2) (.int 63) n m R := x_pw ⟨by decide, by decide, by decide⟩ (by decide) h
theorem x_p_2_64 {n m : Bool} {R : T → Prop} (h : R (dI 18446744073709551616)) : fPow (.int 2) (.int 64) n m R := x_pw ⟨by decide, by decide, by decide⟩ (by decide) h
theorem x_p_3_60 {n m : Bool} {R : T → Prop} (h : R (dI 42391158275216203514294433201)) : fPow (.int 3) (.int 60) n m R := x_pw ⟨by decide, by decide, by decide⟩ (by decide) h
theorem okS_of {s : Slot} (h : isOwn s = false) : okS s = true := by cases s <;> first | rfl | exact Bool.noConfusion h
end DL

namespace DL
open PySem PySem.Spec L2
def fEqS : F2 := fun x y _ _ P => ∃ a b, x = .str a ∧ y = .str b ∧ P (dB (decide (a = b)))
def fNeS : F2 := fun x y _ _ P => ∃ a b, x = .str a ∧ y = .str b ∧ P (dB (!decide (a = b)))
section
variable {X : Cx}
theorem o_neS : OpD X (compareOp .NotEq) fNeS := by
  refine ⟨_, op_ne, fun Z F G H σ env v1 v2 d1 d2 n1 n2 P Q R h1 h2 ⟨a, b, e1, e2, p⟩ q => ?_⟩
  subst e1 e2
  rw [h1.str, h2.str]
  refine ⟨rfl, ?_⟩
  have e : decide (V.str a = V.str b) = decide (a = b) := by by_cases h : a = b <;> simp [h]
  rw [e]
  exact q _ F G H _ p R .refl (.bl _) trivial
end
theorem x_neSz {a b : Str} {n m : Bool} {R : T → Prop} (e : b = a) (h : R (dB false)) : fNeS (.str a) (.str b) n m R := ⟨a, b, rfl, rfl, by rw [decide_eq_true e.symm]; exact h⟩
theorem x_neS0 {a : Str} {n m : Bool} {R : T → Prop} (h : R (dB false)) : fNeS (.str a) (.str a) n m R := ⟨a, a, rfl, rfl, by rw [decide_eq_true rfl]; exact h⟩
theorem x_eqS0 {a : Str} {n m : Bool} {R : T → Prop} (h : R (dB true)) : fEqS (.str a) (.str a) n m R := ⟨a, a, rfl, rfl, by rw [decide_eq_true rfl]; exact h⟩
/-- data that can be shown: so deep, of such a weight -/
structure ShN (n w : Nat) (d : D) : Prop where
  pl : pln d = true
  sh : d.pd.showable = true
  dp : d.pd.depth ≤ n
  lv : d.pd.leavesShort 64 = true
  wt : d.pd.weight ≤ w
theorem ShN.mono {n n' w w' : Nat} {d : D} (h : ShN n w d) (hn : n ≤ n') (hw : w ≤ w') : ShN n' w' d := ⟨h.pl, h.sh, Nat.le_trans h.dp hn, h.lv, Nat.le_trans h.wt hw⟩
theorem shn_int {i : Int} (h1 : -(10 ^ 60) < i) (h2 : i < 10 ^ 60) : ShN 0 210 (.int i) := by
  have hn : i.natAbs < 10 ^ 60 := by omega
  have hb : i.natAbs < 2 ^ (208 + 1) := by omega
  have hl := log2_le hb
  refine ⟨rfl, ?_, Nat.le_refl _, ?_, ?_⟩
  · show decide (i.natAbs.log2 < 1920) = true
    exact decide_eq_true (by omega)
  · show decide ((PyData.shown (.int i)).length ≤ 64) = true
    refine decide_eq_true ?_
    have e := int_text_length_le10 (k := 60) (by decide) hn
    show (Str.ofString (toString i)).length ≤ 64
    rw [ofString_length]
    omega
  · show (if i == 0 then 0 else i.natAbs.log2 + 1) ≤ 210
    split <;> omega
theorem shn_str {z : Str} {w : Nat} (h : ∀ c ∈ z.cps.toList, c < 0x110000) (hw : z.length ≤ w) : ShN 0 w (.str z) := by
  refine ⟨rfl, rfl, Nat.le_refl _, ?_, hw⟩
  show (z.cps.toList.all fun c => decide (c < 16 ^ 8)) = true
  rw [List.all_eq_true]
  intro c hc
  have := h c hc
  exact decide_eq_true (by omega)
theorem shns {n w : Nat} : ∀ {ds : List D}, (∀ d ∈ ds, ShN n w d) → plns ds = true ∧ PyData.showableAll (D.pds ds) = true ∧ PyData.depthAll (D.pds ds) ≤ n ∧ PyData.leavesShortAll 64 (D.pds ds) = true ∧ PyData.weightAll (D.pds ds) ≤ ds.length * (w + 1)
  | [], _ => ⟨rfl, rfl, Nat.zero_le _, rfl, Nat.zero_le _⟩
  | x :: ds, h => by
    obtain ⟨a1, a2, a3, a4, a5⟩ := h x (by simp)
    obtain ⟨b1, b2, b3, b4, b5⟩ := shns (ds := ds) fun d hd => h d (by simp [hd])
    refine ⟨by simp [plns, a1, b1], by simp [D.pds, PyData.showableAll, a2, b2], ?_, by simp [D.pds, PyData.leavesShortAll, a4, b4], ?_⟩
    · simp only [D.pds, PyData.depthAll]; omega
    · simp only [D.pds, PyData.weightAll, List.length_cons]
      rw [Nat.succ_mul]
      omega
theorem shn_list {n w : Nat} {ds : List D} (h : ∀ d ∈ ds, ShN n w d) : ShN (n + 1) (ds.length * (w + 1)) (.list ds) := by
  obtain ⟨b1, b2, b3, b4, b5⟩ := shns h
  refine ⟨by simp [pln, b1], by simp [D.pd, PyData.showable, b2], ?_, by simp [D.pd, PyData.leavesShort, b4], by simpa [D.pd, PyData.weight] using b5⟩
  simp only [D.pd, PyData.depth]; omega
theorem shn_tuple {n w : Nat} {ds : List D} (h : ∀ d ∈ ds, ShN n w d) : ShN (n + 1) (ds.length * (w + 1)) (.tuple ds) := by
  obtain ⟨b1, b2, b3, b4, b5⟩ := shns h
  refine ⟨by simp [pln, b1], by simp [D.pd, PyData.showable, b2], ?_, by simp [D.pd, PyData.leavesShort, b4], by simpa [D.pd, PyData.weight] using b5⟩
  simp only [D.pd, PyData.depth]; omega
theorem x_repr {d : D} {k : Bool} {n w : Nat} {R : T → Prop} (hd : ShN n w d) (hn : n ≤ 60) (hw : w ≤ 254000) (h : R (dS d.pd.shown)) : fRepr [(d, k)] R := by
  refine ⟨d, k, rfl, hd.pl, hd.sh, by have := hd.dp; omega, ?_, h⟩
  have h1 := PyData.shown_le 64 (by decide) d.pd hd.lv
  have h2 := hd.wt
  rw [sizeLine_eq]
  omega
section
variable {tbs : List (Addr × Str)} {P : Program} {w : World} {K : PySem.W.Frag} {mg : Str → Option Value} {base : Heap} {k : Nat} {ms : List Bool} {Φ : DF} {f C : Addr} {fd : FuncData} {ps : List Str}
/-- a contract that nobody keeps and nobody calls -/
theorem MD.of {cn m : Str} (F : FnG P w K mg base k f fd ps (spD K mg tbs ms Φ)) (hm : mg cn = some (.ref C)) (hc : Cls K C) (mt : Meth K C m f) (hb : Binds K fd ps []) : MD P w K mg tbs base k cn m ps.length ms Φ := ⟨C, f, fd, ps, F, hm, hc, mt, hb, rfl⟩
theorem KD.of {cn : Str} (F : FnG P w K mg base k f fd ps (spD K mg tbs (true :: ms) Φ)) (hm : mg cn = some (.ref C)) (mk : Mk K C f) (hb : Binds K fd ps []) : KD P w K mg tbs base k cn ms Φ := ⟨C, f, fd, ps, F, hm, mk, hb⟩
theorem FDK.of {x : Str} {ks : List Str} (F : FnG P w K mg base k f fd ps (spD K mg tbs ms Φ)) (hm : mg x = some (.ref f)) (hk : PySem.W.keepIn K (.ref f) = true) (hd : ∃ ds, Vals [.non] ds ∧ Binds K fd ps ds)
    (hb : KBinds K fd ps ks (fun us ws => if us.length + 1 = ps.length then us ++ ws else []) (fun vs zs => if vs.length + 1 = ps.length then vs ++ zs else [])) : FDK P w K mg tbs base k x ps.length ks ms Φ := ⟨f, fd, ps, F, hm, hk, hd, hb, rfl⟩
theorem kb_of {ks : List Str} (h : ∀ us ws : List Value, us.length + 1 = ps.length → ws.length = 1 → bindArgs fd ⟨us, ks.zip ws⟩ = pure (ps.zip (us ++ ws))) (hp : 1 ≤ ps.length) : KBinds K fd ps ks (fun us ws => if us.length + 1 = ps.length then us ++ ws else []) (fun vs zs => if vs.length + 1 = ps.length then vs ++ zs else []) := by
  refine ⟨fun s us ws X hl => ?_, fun {vs us zs ws} r1 r2 => ?_⟩
  · by_cases h1 : us.length + 1 = ps.length
    · rw [if_pos h1] at hl ⊢
      rw [List.length_append] at hl
      exact .of_eq (h us ws h1 (by omega))
    · rw [if_neg h1] at hl
      simp at hl
      omega
  · rw [← r1.length]
    by_cases h1 : vs.length + 1 = ps.length
    · rw [if_pos h1, if_pos h1]; exact r1.append r2
    · rw [if_neg h1, if_neg h1]; exact .nil
end
end DL

namespace DL
open PySem PySem.Spec L2
/-- a tuple of constants of the module's top -/
def GTup (K : PySem.W.Frag) (mg : Str → Option Value) (x : Str) (ds : List D) : Prop := ∃ (T : Addr) (vs : List V), mg x = some (.ref T) ∧ (∃ (o : Obj) (its : Array Value) (n : Nat), K.lookup T = some o ∧ o.cls = .type "tuple" ∧ o.data = .seq its n ∧ its.size ≤ sizeLine ∧ Vals vs its.toList) ∧ ∀ F : Hp, Rps K mg F vs ds
section
variable {X : Cx} {Z : Zx} {W : WX} {pos : Pos}
end
mutual
/-- plain data equal themselves -/
theorem deq_self : ∀ d : D, pln d = true → PyData.eqv d.pd d.pd = true
  | .none, _ => by simp [D.pd, PyData.eqv]
  | .bool _, _ => by simp [D.pd, PyData.eqv]
  | .int _, _ => by simp [D.pd, PyData.eqv]
  | .str _, _ => by simp [D.pd, PyData.eqv]
  | .list xs, h => by
    show PyData.eqv (.list (D.pds xs)) (.list (D.pds xs)) = true
    unfold PyData.eqv
    exact deqs_self xs (by simpa [pln] using h)
  | .tuple xs, h => by
    show PyData.eqv (.tuple (D.pds xs)) (.tuple (D.pds xs)) = true
    unfold PyData.eqv
    exact deqs_self xs (by simpa [pln] using h)
  | .ktup xs, h => by
    show PyData.eqv (.tuple (D.pds xs)) (.tuple (D.pds xs)) = true
    unfold PyData.eqv
    exact deqs_self xs (by simpa [pln] using h)
  | .dict _ _, h => by simp [pln] at h
  | .obj _ _, h => by simp [pln] at h
  | .exc _, h => by simp [pln] at h
  | .scr _, h => by simp [pln] at h
  | .lk _, h => by simp [pln] at h
  | .two _ _ _ _, h => by simp [pln] at h
theorem deqs_self : ∀ ds : List D, plns ds = true → PyData.eqvAll (D.pds ds) (D.pds ds) = true
  | [], _ => rfl
  | d :: ds, h => by
    simp only [plns, Bool.and_eq_true] at h
    show (PyData.eqv d.pd d.pd && PyData.eqvAll (D.pds ds) (D.pds ds)) = true
    rw [deq_self d h.1, deqs_self ds h.2]
    rfl
end
/-- a comprehension that changes nothing: map and filter -/
theorem x_lcfn {α : Type} {g : DG} {tt : DT} {te : DW} {vs : List Nat} {n : Bool} {P : T → DEnv → Prop} {items : List D} {e0 : DEnv} (src : List α) (em : α → D) (fm : α → Option D) (hi : items = src.map em) (h0 : offE e0 vs) (hl : src.length ≤ sizeLine)
    (hs : ∀ a ∈ src, ∀ (K : D → Bool → DEnv → Prop) (K2 : DEnv → Prop), (∀ d m e, fm a = some d → offE e vs → wipeE e vs = wipeE e0 vs → K d m e) → (∀ e, fm a = none → offE e vs → wipeE e vs = wipeE e0 vs → K2 e) →
      ∃ e1, g (em a) n (wipeE e0 vs) = some e1 ∧ tt e1 (fun b e2 => offE e2 vs ∧ (b = true → te e2 (fun t e3 => ∃ y, frz1 e3 (hold t) = some y ∧ K y.1 y.2.1 y.2.2) (fun _ _ => False)) ∧ (b = false → K2 e2)) (fun _ _ => False))
    (hP : ∀ m, P (.ow (.list (src.filterMap fm)) m) e0) : LcOk g tt te vs n P items e0 := by
  refine ⟨h0, ?_⟩
  subst hi
  refine lc_ind (fun rest acc an e => ∃ d r, src = d ++ r ∧ rest = r.map em ∧ acc = d.filterMap fm ∧ wipeE e vs = wipeE e0 vs ∧ offE e vs) ?_ ?_ ⟨[], src, rfl, rfl, rfl, rfl, h0⟩
  · rintro x xs acc an e K K2 ⟨d, r, e1, e2, e3, e5, e6⟩ h1 h2
    cases r with
    | nil => cases e2
    | cons a r =>
      cases e2
      subst e3
      rw [e5]
      have hsr : src = (d ++ [a]) ++ r := by rw [e1]; simp
      refine hs a (by rw [e1]; simp) K K2 (fun y m e' hf ho hw => h1 y m e' ?_ ho ⟨d ++ [a], r, hsr, rfl, by simp [List.filterMap_append, hf], hw, ho⟩) fun e' hf ho hw => h2 e' ⟨d ++ [a], r, hsr, rfl, by simp [List.filterMap_append, hf], hw, ho⟩
      have hd := List.length_filterMap_le fm d
      have hl' : d.length + (r.length + 1) ≤ sizeLine := by rw [e1] at hl; simpa using hl
      omega
  · rintro acc an e ⟨d, r, e1, e2, e3, e5, e6⟩
    have : r = [] := by simpa using e2.symm
    subst this
    rw [List.append_nil] at e1
    subst e1 e3
    rw [e5, outE_self]
    exact hP _
end DL

namespace DL
open PySem PySem.Spec L2
def dTryO (L : List (Str × Bool)) (b s : DSt) : DSt := fun env D => b env { D with ex := fun c e => match L.lookup c with
  | some true => s e { D with ex := fun _ _ => False }
  | some false => D.ex c e
  | none => False }
section
variable {K : PySem.W.Frag} {mg : Str → Option Value} {Z : Zx} {F G H F' G' H' : Hp} {σ σ' : Sg} {env env' : DEnv}
end
section
variable {X : Cx} {Z : Zx} {W : WX} {np pos pos' : Pos} {cn : Str} {L : List (Str × Bool)} {body suite : List Stmt} {b₀ : Stmt} {b s : DSt}
theorem x_tryO {env : DEnv} {D : DEnds} (h : b env { D with ex := fun c e => match L.lookup c with
  | some true => s e { D with ex := fun _ _ => False }
  | some false => D.ex c e
  | none => False }) : dTryO L b s env D := h
end
end DL

namespace DL
open PySem PySem.Spec PyProof.Rows L2
def byIx {α : Type} (xs : List α) (ix : List Nat) : List α := ix.filterMap (xs[·]?)
/-- what a slice with a step picks -/
def pickL {α : Type} (xs : List α) (lo hi st : Option Int) : List α :=
  byIx xs (sliceRange (sliceBounds lo hi st xs.length).1 (sliceBounds lo hi st xs.length).2.1 (sliceBounds lo hi st xs.length).2.2)
section
variable {X : Cx} {e : Expr} {lo hi : Option Expr} {te : TE} {tl th : TO} {k : Nat} {p1 p2 p3 pos : Pos}
end
def dStp (wa : DW) (wl wh : DO) : DW := fun env P E => wa env (fun t env1 => wl env1 (fun l env2 => wh env2 (fun u env3 => ∃ x ds, rd env3 (hold t) = some x ∧ listOf x = some ds ∧ P (.ow (.list (pickL ds l u (some (-1)))) (rdn env3 (hold t))) env3) E) E) E
section
variable {X : Cx} {Z : Zx} {W : WX} {e : Expr} {lo hi : Option Expr} {wa : DW} {wl wh : DO} {k : Nat} {p1 p2 p3 pos : Pos}
theorem x_stp {env : DEnv} {P : T → DEnv → Prop} {E : Str → DEnv → Prop} (h : wa env (fun t env1 => wl env1 (fun l env2 => wh env2 (fun u env3 => ∃ x ds, rd env3 (hold t) = some x ∧ listOf x = some ds ∧ P (.ow (.list (pickL ds l u (some (-1)))) (rdn env3 (hold t))) env3) E) E) E) : dStp wa wl wh env P E := h
end
end DL

namespace DL
open PySem PySem.Spec L2
/-- {}, with keys that are tuples (t) or not -/
def dDct (t : Bool) : DW := fun env P _ => P (.ow (.dict t []) true) env
section
variable {X : Cx} {Z : Zx} {W : WX} {pos : Pos}
theorem d_dct {t : Bool} : DE X Z W (.Dict [] [] pos) (dDct t) := by
  cases t with
  | false =>
    refine PE.of pe_dnewK fun σ H Q ⟨F, G, env, P, E, R, w, q, qe⟩ p hp => ?_
    obtain ⟨k1, k2, k3, k4⟩ := RT.newOwn (o := .dK []) (d := .dict false []) (n := true) R hp (.inr (.inl ⟨[], [], rfl, upd_same, rfl, .nil⟩))
    exact q _ _ _ _ _ _ w k1 k2 k3 k4
  | true =>
    refine PE.of pe_dnewT fun σ H Q ⟨F, G, env, P, E, R, w, q, qe⟩ p hp => ?_
    obtain ⟨k1, k2, k3, k4⟩ := RT.newOwn (o := .dT []) (d := .dict true []) (n := true) R hp (.inr (.inr (.inl ⟨[], [], rfl, upd_same, rfl, .nil⟩)))
    exact q _ _ _ _ _ _ w k1 k2 k3 k4
end
section
variable {X : Cx} {Z : Zx} {W : WX} {o e : Expr} {apos cpos : Pos} {wa wk : DW}
end
end DL

namespace DL
open PySem PySem.Spec PyProof.Rows L2
/-- an empty set's object -/
abbrev setO0 (w : World) : Obj := { cls := .type "set", dict := none, data := .set #[] 0 (.fresh 0 0 (!w.params.followText "set-order")) }
section
variable {P : Program} {w : World} {A : Around} {E : Value → Shared → Prop} {st : Shared}
set_option maxRecDepth 100000 in
set_option maxHeartbeats 3200000 in
theorem set_of_listI {ad : Addr} {its : Array Value} (ks : List Int) {Q : Value → Shared → Prop} (calm : A.handled = none) (isl : st.heap.IsList ad its) (are : IntsAre its.toList ks) (few : ks.length + 1 < scanBound)
    (on : ∀ (hp2 : Heap) (tk c : Nat), SetR w hp2 st.heap.objs.size (fun j => decide (j ∈ ks)) c → c ≤ ks.length → (∀ b o, st.heap.get? b = some o → hp2.get? b = some o) → Q (.ref st.heap.objs.size) { st with heap := hp2, toks := tk }) :
    wpAny (model P w) A (call (.type "set") [.ref ad]) Q E st := by
  have sizes : its.size = ks.length := by
    have z := IntsAre.length are
    rwa [Array.length_toList] at z
  obtain ⟨c0, tl0, mro0⟩ := F.called_set.mro
  have made0 := F.called_set.made
  have sub0 := F.called_set.sub
  refine wpAny_call (codeAny_of_tree ?_)
  show wpAny _ _ (callAny (.type "set") _) _ _ _
  refine wpAny_pure ⟨Code.quiet_builtin _ (by decide +kernel), ?_⟩
  refine codeAny_builtin F.entry_type_call ?_
  rw [Around.under_plain (weight_type_call_type "set" [.ref ad] []) rfl]
  have n1 := F.called_set.notType
  have n2 := F.called_set.canCreate
  have n3 := F.typeCall_set_1 (.ref ad)
  repeat (any_goals (first | assumption | wp_step))
  refine codeAny_mono (code_set_led1 (.ref ad) (E := E) (Q₁ := fun ob s₁ => ob = .ref st.heap.objs.size ∧ s₁ = { st with heap := st.heap.push (setO0 w) }) ⟨rfl, rfl⟩) fun r s₁ ans => ?_
  cases r with
  | error e => exact ans
  | ok fl =>
    cases fl with
    | ret ob =>
      obtain ⟨rfl, rfl⟩ := ans
      have got : (st.heap.push (setO0 w)).get? st.heap.objs.size = some (setO0 w) := Heap.get?_push_size _ rfl
      have typ : Shared.TypeIs { st with heap := st.heap.push (setO0 w) } (.ref st.heap.objs.size) "set" := ⟨_, got, rfl⟩
      have look0 := F.called_set.init.lookup
      have bind0 := F.called_set.init.bind (.ref st.heap.objs.size)
      repeat (any_goals (first | assumption | wp_step))
      refine codeAny_mono (codeAny_call_builtin (R := wants (fun r s₂ => r = .none ∧ ∃ hp2 tk c, s₂ = { st with heap := hp2, toks := tk } ∧ SetR w hp2 st.heap.objs.size (fun j => decide (j ∈ ks)) c ∧ c ≤ ks.length ∧
          (∀ b o, st.heap.get? b = some o → hp2.get? b = some o)) E) F.called_set.init.plain F.entry_set_init (check_set_init_1 typ ?_)) fun r₂ s₂ ans₂ => ?_
      · obtain ⟨ol, hol, hcl, nl, hdl⟩ := isl
        obtain ⟨ocls, odict, odata, oslots⟩ := ol
        simp only at hcl hdl
        subst hcl; subst hdl
        have hol2 : (st.heap.push (setO0 w)).get? ad = some { cls := .type "list", dict := odict, data := .seq its nl, slots := oslots } := Heap.get?_push_of_some _ hol
        have s1 := F.sub_list_set
        have s2 := F.sub_list_frozenset
        have s3 : (Value.type "list" == Value.type "dict") = false := by decide
        have isl1 : (st.heap.push (setO0 w)).IsList ad its := ⟨_, hol2, rfl, nl, rfl⟩
        unfold Builtin.«set.__init__» noKeywords Builtin.Frozenset.updateFrom
        generalize hPI : pyIter = PI
        wp_walk
        subst hPI
        refine wpAny_pyIter_list isl1 ?_
        refine wpAny_bind (wpAny_runValue ?_)
        have lt0 : ad < st.heap.objs.size := Heap.lt_size hol
        have calm3 : A.in1.in1.in1.handled = none := by simp [calm]
        have ne0 : ad ≠ (st.heap.push (setO0 w)).objs.size := by
          rw [Heap.size_push]; exact Nat.ne_of_lt (Nat.lt_succ_of_lt lt0)
        have notin : st.heap.objs.size ∉ [(st.heap.push (setO0 w)).objs.size, ad] := by
          rw [Heap.size_push]
          simp only [List.mem_cons, List.mem_singleton, List.not_mem_nil, or_false, not_or]
          exact ⟨Nat.ne_of_lt (Nat.lt_succ_self _), Nat.ne_of_gt lt0⟩
        have vals : ∀ (i : Nat) (v : Value), its[i]? = some v → ∃ k t, ks[i]? = some k ∧ v = .int k t := fun i v hv => by
          have hi : i < ks.length := by rw [← sizes]; exact (Array.getElem?_eq_some_iff.mp hv).1
          obtain ⟨t, e⟩ := IntsAre.int_at are i v (by rw [Array.getElem?_toList]; exact hv)
          refine ⟨ks[i], t, List.getElem?_eq_getElem hi, ?_⟩
          rw [e, List.getD_eq_getElem?_getD, List.getElem?_eq_getElem hi]
          rfl
        refine set_update_ints ((Walks.list calm3 _ ad ne0 its).toS) st.heap.objs.size notin ks sizes few vals (its.size - 0) 0 _ (by omega) (Nat.zero_le _) ⟨⟨_, Heap.get?_push_size _ rfl, rfl, rfl⟩, (isl1.push _)⟩ ?c0 ?cR
        case c0 =>
          have got2 : ((st.heap.push (setO0 w)).push { cls := .type "list_iterator", data := .fields #[.ref ad, .int 0 0] }).get? st.heap.objs.size = some (setO0 w) := Heap.get?_push_of_some _ got
          exact ⟨0, Nat.le_refl 0, setR_new_at got2⟩
        case cR =>
          intro st3 c3 mv le3 set3
          obtain ⟨hp2, g2, d2, tk2, os2⟩ := st3
          have eg : g2 = st.gens := mv.gens
          have ed : d2 = st.drawn := mv.drawn
          have eo : os2 = st.os := mv.os
          subst eg; subst ed; subst eo
          show wpAny _ _ _ _ _ _
          refine wpAny_pure ?_
          show wpAny _ _ (ret Value.none) _ _ _
          rw [sizes] at le3
          refine wpAny_pure ⟨rfl, hp2, tk2, c3, rfl, set3, le3, fun b o e => ?_⟩
          have b0 : b < st.heap.objs.size := Heap.lt_size e
          have b1 : b ≠ st.heap.objs.size := Nat.ne_of_lt b0
          have b2 : b ≠ (st.heap.push (setO0 w)).objs.size := by
            rw [Heap.size_push]; exact Nat.ne_of_lt (Nat.lt_succ_of_lt b0)
          refine mv.heap b o ?_ (Heap.get?_push_of_some _ (Heap.get?_push_of_some _ e))
          simp only [List.mem_cons, List.mem_singleton, List.not_mem_nil, or_false, not_or]
          exact ⟨b1, b2⟩
      · cases r₂ with
        | error e => exact ans₂
        | ok fl₂ =>
          cases fl₂ with
          | ret r =>
            obtain ⟨rfl, hp2, tk, c3, rfl, set3, le3, keep3⟩ := ans₂
            repeat (any_goals (first | assumption | wp_step))
            exact on _ _ _ set3 le3 keep3
          | _ => exact ans₂.elim
    | _ => exact ans.elim
end
/-- how many unlike ones -/
def uniq : List Int → List Int
  | [] => []
  | k :: ks => if k ∈ ks then uniq ks else k :: uniq ks
theorem nodup_le : ∀ {a b : List Int}, a.Nodup → (∀ k ∈ a, k ∈ b) → a.length ≤ b.length
  | [], _, _, _ => Nat.zero_le _
  | x :: a, b, hn, hs => by
    obtain ⟨h1, h2⟩ := List.nodup_cons.mp hn
    have hx := hs x (by simp)
    have ih := nodup_le (a := a) (b := b.erase x) h2 fun k hk => (List.mem_erase_of_ne (fun e : k = x => h1 (by rw [← e]; exact hk))).mpr (hs k (by simp [hk]))
    rw [List.length_erase_of_mem hx] at ih
    have := List.length_pos_of_mem hx
    rw [List.length_cons]
    omega
theorem nodup_len {a b : List Int} (ha : a.Nodup) (hb : b.Nodup) (h : ∀ k, k ∈ a ↔ k ∈ b) : a.length = b.length :=
  Nat.le_antisymm (nodup_le ha fun k hk => (h k).mp hk) (nodup_le hb fun k hk => (h k).mpr hk)
section
variable {X : Cx} {a : Expr} {ta : TE} {p p2 q pos : Pos}
/-- sorted(set(e)) -/
def tSortU (K : PySem.W.Frag) (ta : TE) : TE := fun τ hp R => ta τ hp fun x hp1 => ∃ (ad : Addr) (ks : List Int), x = .ref ad ∧ SqL K hp1 ad (ks.map V.int) ∧ ks.length ≤ 4000 ∧
  ∀ (ys : List Int) (p : Addr), ys.Pairwise (· ≤ ·) → ys.Nodup → (∀ k, k ∈ ys ↔ k ∈ ks) → hp1 p = none → R (.ref p) (upd hp1 p (.lst (ys.map V.int)))
theorem pe_sortU (gl : Gl X "sorted") (ml : X.mg "sorted" = none) (gs : Gl X "set") (ms : X.mg "set" = none) (hc : X.calm = true) (ha : PE X a ta)
    (na : starEach [a] X.env = (false, eval a X.env) :: starEach [] X.env := by rfl) : PE X (.Call (.Name "sorted" p) [.Call (.Name "set" p2) [a] [] q] [] pos) (tSortU X.K ta) := by
  refine ⟨fun pn st τ hp R J hyp => ?_⟩
  refine Call_ (ld_blt J gl ml (u := .builtin "sorted") (by rfl) ?_)
  refine callWith_builtin1 (args_cons ?_ rfl) rfl rfl
  refine Call_ (ld_blt J gs ms boot_set ?_)
  refine callWith_type1 (args_cons (thn (ha.run pn st τ hp _ J hyp) fun v st1 ⟨x, hp1, J1, rx, y1⟩ => args_nil ?_) na) na rfl
  obtain ⟨ad, ks, rfl, hx, hl, y⟩ := y1
  cases rx
  obtain ⟨its, ri, hlist, hsz⟩ := J1.list hx
  refine set_of_listI ks (J1.ok.hd hc) hlist.isList (by simpa using RZ.intsAre_vals ri) (by unfold scanBound; omega) fun hp2 tk c hS hcl keep => ?_
  refine args_nil ?_
  have J2 : Inv X pn τ hp1 { st1 with heap := hp2, toks := tk } := J1.kept keep
  refine sorted_setN hS (J2.ok.hd hc) fun s2 p out c ns keep2 g o size got whole le nd mem few => ?_
  have len : (ns.map V.int).length ≤ sizeLine := by rw [List.length_map]; exact Nat.le_trans (Nat.le_of_lt few) (by decide)
  have nw : hp1 p = none := J2.hok.fresh size
  have J3 : Inv X pn τ (upd hp1 p (.lst (ns.map V.int))) { ({ st1 with heap := hp2, toks := tk } : Shared) with heap := s2.heap, gens := s2.gens, drawn := s2.drawn, toks := s2.toks } :=
    J2.call (ch := []) (Un.laid keep2 size nw) (J2.hok.laid keep2 size ⟨len, out, c, vals_of_ints whole, got⟩) (by rw [g]; exact J2.bare) (fun _ z => nomatch z)
  obtain ⟨h2, g2, d2, t2, os2⟩ := s2
  cases o
  exact ⟨.ref p, _, J3, rfl, y ns p le nd (fun k => by rw [mem k]; simp) nw⟩
end
def dLenU (w : DW) : DW := fun env P E => w env (fun t e => ∃ (x : D) (ks : List Int), rd e (hold t) = some x ∧ listOf x = some (ks.map D.int) ∧ ks.length ≤ 4000 ∧ P (dI ((uniq ks).length : Nat)) e) E
def dSortU (w : DW) : DW := fun env P E => w env (fun t e => ∃ (x : D) (ks : List Int), rd e (hold t) = some x ∧ listOf x = some (ks.map D.int) ∧ ks.length ≤ 4000 ∧ ∀ ys : List Int, ys.Pairwise (· ≤ ·) → ys.Nodup → (∀ k, k ∈ ys ↔ k ∈ ks) → P (.ow (.list (ys.map .int)) true) e) E
section
variable {X : Cx} {Z : Zx} {W : WX} {e : Expr} {w : DW} {p p2 q pos : Pos}
theorem d_sortU (hc : X.calm = true) (ml : X.mg "sorted" = none) (ms : X.mg "set" = none) (h : DE X Z W e w) (gl : Gl X "sorted" := by rfl) (gs : Gl X "set" := by rfl)
    (na : starEach [e] X.env = (false, eval e X.env) :: starEach [] X.env := by rfl) : DE X Z W (.Call (.Name "sorted" p) [.Call (.Name "set" p2) [e] [] q] [] pos) (dSortU w) := by
  refine PE.of (pe_sortU gl ml gs ms hc h na) fun σ H Q ⟨F, G, env, P, E, R, w, q, qe⟩ => ?_
  refine ⟨F, G, env, _, E, R, w, fun t e1 F1 G1 H1 v ⟨x, ks, ex, el, hl, p⟩ R1 x1 r1 n1 => ?_, qe⟩
  obtain ⟨F2, G2, R2, x2, r2⟩ := RT.hold R1 x1 r1 n1
  obtain ⟨a, vs, rfl, h1, h2⟩ := (RT.rv R2 r2 ex).listL R2.selH el
  rw [rps_ints h2] at h1
  refine ⟨a, ks, rfl, h1, hl, fun ys p' le nd mem hp => ?_⟩
  obtain ⟨k1, k2, k3, k4⟩ := RT.newList (n := true) R2 hp (ints_rps (ns := ys))
  exact q _ _ _ _ _ _ (p ys le nd mem) k1 (x2.trans k2) k3 (newT_back x2.d k4)
theorem x_lenU {env : DEnv} {P : T → DEnv → Prop} {E : Str → DEnv → Prop} (h : w env (fun t e => ∃ (x : D) (ks : List Int), rd e (hold t) = some x ∧ listOf x = some (ks.map D.int) ∧ ks.length ≤ 4000 ∧ P (dI ((uniq ks).length : Nat)) e) E) : dLenU w env P E := h
theorem x_sortU {env : DEnv} {P : T → DEnv → Prop} {E : Str → DEnv → Prop} (h : w env (fun t e => ∃ (x : D) (ks : List Int), rd e (hold t) = some x ∧ listOf x = some (ks.map D.int) ∧ ks.length ≤ 4000 ∧ ∀ ys : List Int, ys.Pairwise (· ≤ ·) → ys.Nodup → (∀ k, k ∈ ys ↔ k ∈ ks) → P (.ow (.list (ys.map .int)) true) e) E) : dSortU w env P E := h
end
section
variable {X : Cx}
end
end DL

namespace DL
open PySem PySem.Spec PyProof.Rows L2
section
variable {X : Cx} {e es : Expr} {lo hi : Option Expr} {te ts : TE} {tl th : TO} {p3 pos : Pos}
end
def dStpG (wa : DW) (wl wh : DO) (ws : DW) : DW := fun env P E => wa env (fun t env1 => wl env1 (fun l env2 => wh env2 (fun u env3 => ws env3 (fun ts env4 => ∃ i n x ds, ts = .fz (.int i) n ∧ i ≠ 0 ∧ rd env4 (hold t) = some x ∧ listOf x = some ds ∧ P (.ow (.list (pickL ds l u (some i))) (rdn env4 (hold t))) env4) E) E) E) E
section
variable {X : Cx} {Z : Zx} {W : WX} {e es : Expr} {lo hi : Option Expr} {wa ws : DW} {wl wh : DO} {p3 pos : Pos}
theorem x_stpG {env : DEnv} {P : T → DEnv → Prop} {E : Str → DEnv → Prop} (h : wa env (fun t env1 => wl env1 (fun l env2 => wh env2 (fun u env3 => ws env3 (fun ts env4 => ∃ i n x ds, ts = .fz (.int i) n ∧ i ≠ 0 ∧ rd env4 (hold t) = some x ∧ listOf x = some ds ∧ P (.ow (.list (pickL ds l u (some i))) (rdn env4 (hold t))) env4) E) E) E) E) : dStpG wa wl wh ws env P E := h
end
end DL

namespace DL
open PySem PySem.Spec PyProof.Rows L2
section
variable {X : Cx} {pins : List (Addr × Obj)} {τ : Sg} {hp : Hp} {sI st : Shared} {B : Heap}
end
section
variable {X : Cx} {x n : Str} {c : Value} {i : Nat} {body suite : List Stmt} {b₀ : Stmt} {np pos pos' : Pos} {tb : WX → TS} {ts : TS} {Wout : WX}
end
/-- try: b except X as n: s, slot i is n's -/
def dTryA (L : List (Str × Bool)) (i : Nat) (b s : DSt) : DSt := fun env D => b env { D with ex := fun c e => match L.lookup c with
  | some true => ∃ e1, setS e i (.fz (.exc c) true) = some e1 ∧ s e1 { nx := fun e' => offE e' [i] ∧ D.nx (wipeE e' [i]), rt := D.rt, bk := fun e' => offE e' [i] ∧ D.bk (wipeE e' [i]), ct := fun e' => offE e' [i] ∧ D.ct (wipeE e' [i]), ex := fun _ _ => False }
  | some false => D.ex c e
  | none => False }
section
variable {X : Cx} {Z : Zx} {W : WX} {np pos pos' : Pos} {cn n : Str} {i : Nat} {L : List (Str × Bool)} {body suite : List Stmt} {b₀ : Stmt} {b s : DSt}
theorem x_tryA {env : DEnv} {D : DEnds} (h : b env { D with ex := fun c e => match L.lookup c with
  | some true => ∃ e1, setS e i (.fz (.exc c) true) = some e1 ∧ s e1 { nx := fun e' => offE e' [i] ∧ D.nx (wipeE e' [i]), rt := D.rt, bk := fun e' => offE e' [i] ∧ D.bk (wipeE e' [i]), ct := fun e' => offE e' [i] ∧ D.ct (wipeE e' [i]), ex := fun _ _ => False }
  | some false => D.ex c e
  | none => False }) : dTryA L i b s env D := h
end
end DL

namespace DL
open PySem PySem.Spec L2
section
variable {b n m : Bool} {R : T → Prop}
theorem x_isNN (h : R (dB (!b))) : fIs b .none .none n m R := by cases b <;> exact h
theorem x_isNI {i : Int} (h : R (dB b)) : fIs b (.int i) .none n m R := by cases b <;> exact h
theorem x_isNS {z : Str} (h : R (dB b)) : fIs b (.str z) .none n m R := by cases b <;> exact h
theorem x_isNT {ds : List D} (h : R (dB b)) : fIs b (.tuple ds) .none n m R := by cases b <;> exact h
theorem x_isNL {ds : List D} (h : R (dB b)) : fIs b (.list ds) .none n m R := by cases b <;> exact h
theorem x_isND {t : Bool} {ds : List (D × D)} (h : R (dB b)) : fIs b (.dict t ds) .none n m R := by cases b <;> exact h
theorem x_isNE {c : Str} (h : R (dB b)) : fIs b (.exc c) .none n m R := by cases b <;> exact h
theorem x_neBB {p q : Bool} (h : R (dB (xor p q))) : fNe (.bool p) (.bool q) n m R := by
  refine ⟨rfl, rfl, ?_⟩
  have e : (!deq (.bool p) (.bool q)) = xor p q := by cases p <;> cases q <;> rfl
  rw [e]
  exact h
theorem x_eqBB {p q : Bool} (h : R (dB (!xor p q))) : fEq (.bool p) (.bool q) n m R := by
  refine ⟨rfl, rfl, ?_⟩
  have e : deq (.bool p) (.bool q) = !xor p q := by cases p <;> cases q <;> rfl
  rw [e]
  exact h
end
end DL

namespace DL
open PySem PySem.Spec PyProof.Rows L2
section
mutual
/-- what a value is to be read as; a dict is empty, and no sys.modules -/
inductive RdE (h : Heap) : Value → PyData → Prop
  | non : RdE h .none .none
  | bl (b : Bool) : RdE h (.bool b) (.bool b)
  | int (i : Int) (t : Tok) : RdE h (.int i t) (.int i)
  | str (x : Str) (t : Tok) : RdE h (.str x t) (.str x)
  | lst {ad : Addr} {ob : Obj} {us : Array Value} {n : Nat} {ds : List PyData} : h.get? ad = some ob → ob.cls = .type "list" → ob.data = .seq us n → RdEs h us.toList ds → RdE h (.ref ad) (.list ds)
  | tup {ad : Addr} {ob : Obj} {us : Array Value} {n : Nat} {ds : List PyData} : h.get? ad = some ob → ob.cls = .type "tuple" → ob.data = .seq us n → RdEs h us.toList ds → RdE h (.ref ad) (.tuple ds)
  | dct {ad : Addr} {ob : Obj} {n : Nat} : h.get? ad = some ob → ob.cls = .type "dict" → ob.data = .dict #[] n → (ad == sysModules) = false → RdE h (.ref ad) (.dict [])
inductive RdEs (h : Heap) : List Value → List PyData → Prop
  | nil : RdEs h [] []
  | cons {u : Value} {us : List Value} {d : PyData} {ds : List PyData} : RdE h u d → RdEs h us ds → RdEs h (u :: us) (d :: ds)
end
variable {h : Heap} {P : Program} {w : World}
mutual
theorem RdE.reads : ∀ {u : Value} {d : PyData}, RdE h u d → ∃ as, Reads h u d as
  | _, _, .non => ⟨_, .none⟩
  | _, _, .bl b => ⟨_, .bool b⟩
  | _, _, .int i t => ⟨_, .int i t⟩
  | _, _, .str x t => ⟨_, .str x t⟩
  | _, _, .lst a b c r => by obtain ⟨as, q⟩ := RdEs.reads r; exact ⟨_, .list a b c q⟩
  | _, _, .tup a b c r => by obtain ⟨as, q⟩ := RdEs.reads r; exact ⟨_, .tuple a b c q⟩
  | _, _, .dct a b c _ => ⟨_, .dict a b c .nil .nil⟩
theorem RdEs.reads : ∀ {us : List Value} {ds : List PyData}, RdEs h us ds → ∃ as, ReadsAll h us ds as
  | _, _, .nil => ⟨_, .nil⟩
  | _, _, .cons r rs => by
    obtain ⟨as, q⟩ := RdE.reads r
    obtain ⟨bs, q2⟩ := RdEs.reads rs
    exact ⟨_, .cons q q2⟩
end
theorem shown_dct0 : (PyData.dict []).shown = dictText [] := by simp only [PyData.shown, PyData.shownKv]
mutual
theorem RdE.shows : ∀ {u : Value} {d : PyData}, RdE h u d → d.showable = true → d.shown.length ≤ sizeLine → ∃ bs, ReadAtMost h d.depth bs ∧ ReprK P w bs h d.depth u d.shown
  | _, _, .non, _, _ => ⟨[], (fun _ z => nomatch z), by simp only [PyData.shown]; exact .of_is ReprIs.none _ _ _⟩
  | _, _, .bl b, _, _ => ⟨[], (fun _ z => nomatch z), by simp only [PyData.shown]; exact .of_is (ReprIs.bool b) _ _ _⟩
  | _, _, .int i t, hs, _ => ⟨[], (fun _ z => nomatch z), by simp only [PyData.shown]; exact .of_is (ReprIs.int t (by simpa [PyData.showable] using hs)) _ _ _⟩
  | _, _, .str x t, _, hz => ⟨[], (fun _ z => nomatch z), by simp only [PyData.shown]; exact .of_is (ReprIs.str x t (by simpa only [PyData.shown] using hz)) _ _ _⟩
  | _, _, .lst (ad := ad) (us := us) (ds := ds) a b c r, hs, hz => by
    have size : (listText (PyData.shownAll ds)).length ≤ sizeLine := by simpa only [PyData.shown] using hz
    obtain ⟨bs, most, all⟩ := RdEs.shows r (by simpa [PyData.showable] using hs) (fun t ht => Nat.le_trans (listText_mem_le ht) size)
    obtain ⟨as, ra⟩ := r.reads
    have rr : Reads h (.ref ad) (.list ds) _ := .list a b c ra
    have notin : ad ∉ bs := not_mem_of_deeper rr (by simp only [PyData.depth]; omega) most
    refine ⟨ad :: bs, ReadAtMost.cons rr (by simp only [PyData.depth]; omega) most, ?_⟩
    simp only [PyData.depth, PyData.shown]
    obtain ⟨us⟩ := us
    cases us with
    | nil =>
      have r' : RdEs h [] ds := r
      cases r'
      simp only [PyData.shownAll, listText_nil]
      exact ReprK.listEmpty a b c
    | cons x us => exact ReprK.list a b c notin (by simpa using all.length_eq) (fun i y e => all.item i y (by simpa using e))
  | _, _, .tup (ad := ad) (ds := ds) a b c r, hs, hz => by
    have size : (tupleText (PyData.shownAll ds)).length ≤ sizeLine := by simpa only [PyData.shown] using hz
    obtain ⟨bs, most, all⟩ := RdEs.shows r (by simpa [PyData.showable] using hs) (fun t ht => Nat.le_trans (tupleText_mem_le ht) size)
    obtain ⟨as, ra⟩ := r.reads
    have rr : Reads h (.ref ad) (.tuple ds) _ := .tuple a b c ra
    have notin : ad ∉ bs := not_mem_of_deeper rr (by simp only [PyData.depth]; omega) most
    refine ⟨ad :: bs, ReadAtMost.cons rr (by simp only [PyData.depth]; omega) most, ?_⟩
    simp only [PyData.depth, PyData.shown]
    exact ReprK.tuple a b c notin all
  | _, _, .dct (ad := ad) a b c e, hs, hz => by
    have rr : Reads h (.ref ad) (.dict []) _ := .dict a b c .nil .nil
    refine ⟨[ad], ReadAtMost.cons rr (Nat.zero_le _) (fun _ z => nomatch z), ?_⟩
    rw [shown_dct0]
    simp only [PyData.depth, PyData.depthKv]
    exact ReprK.dict (as := []) a b c e (fun z => nomatch z) (ReprEntriesK.of_two [] _ _ .nil .nil)
theorem RdEs.shows : ∀ {us : List Value} {ds : List PyData}, RdEs h us ds → PyData.showableAll ds = true → (∀ t ∈ PyData.shownAll ds, t.length ≤ sizeLine) →
    ∃ bs, ReadAtMost h (PyData.depthAll ds) bs ∧ ReprAllK P w bs h (PyData.depthAll ds) us (PyData.shownAll ds)
  | _, _, .nil, _, _ => ⟨[], (fun _ z => nomatch z), by simp only [PyData.shownAll]; exact .nil⟩
  | _, _, .cons (d := d) (ds := ds) r rs, hs, hz => by
    have both : d.showable = true ∧ PyData.showableAll ds = true := by simpa [PyData.showableAll] using hs
    obtain ⟨b1, m1, k1⟩ := RdE.shows r both.1 (hz _ (by simp only [PyData.shownAll]; exact List.mem_cons_self ..))
    obtain ⟨b2, m2, k2⟩ := RdEs.shows rs both.2 (fun t ht => hz t (by simp only [PyData.shownAll]; exact List.mem_cons_of_mem _ ht))
    refine ⟨b1 ++ b2, fun b hb => ?_, ?_⟩
    · simp only [PyData.depthAll]
      rcases List.mem_append.mp hb with hb | hb
      · obtain ⟨d', as', r', le⟩ := m1 b hb
        exact ⟨d', as', r', Nat.le_trans le (Nat.le_max_left _ _)⟩
      · obtain ⟨d', as', r', le⟩ := m2 b hb
        exact ⟨d', as', r', Nat.le_trans le (Nat.le_max_right _ _)⟩
    · simp only [PyData.depthAll, PyData.shownAll]
      exact .cons ((k1.more fun b hb => List.mem_append_left _ hb).level_le (Nat.le_max_left _ _)) (k2.more_le (fun b hb => List.mem_append_right _ hb) (Nat.le_max_right _ _))
end
end
mutual
/-- plain data, dicts empty -/
def pld : D → Bool
  | .none => true | .bool _ => true | .int _ => true | .str _ => true
  | .list xs => plds xs | .tuple xs => plds xs | .ktup xs => plds xs | .dict _ kvs => kvs.isEmpty | _ => false
def plds : List D → Bool
  | [] => true
  | x :: xs => pld x && plds xs
end
section
variable {X : Cx} {pins : List (Addr × Obj)} {τ : Sg} {hp : Hp} {st : Shared}
mutual
theorem Rp.rde (J : Inv X pins τ hp st) : ∀ {v : V} {d : D} {u : Value}, Rp X.K X.mg hp v d → pld d = true → RelV v u → RdE st.heap u d.pd
  | _, _, _, .non, _, r => by cases r; exact .non
  | _, _, _, .bl b, _, r => by cases r; exact .bl b
  | _, _, _, .int i, _, r => by obtain ⟨t, rfl⟩ := r; exact .int i t
  | _, _, _, .str x, _, r => by obtain ⟨t, rfl⟩ := r; exact .str x t
  | _, _, _, .lst hh q, p, r => by
    cases r
    obtain ⟨its, rv, ⟨o, n, ho, hc, _, hd⟩, _⟩ := J.list (SqL.of hh)
    exact .lst ho hc hd (Rps.rde J q (by simpa [pld] using p) rv)
  | _, _, _, .scr hh q, p, _ => by simp [pld] at p
  | _, _, _, .tup hh q, p, r => by
    cases r
    obtain ⟨its, rv, ⟨o, ho, hc, n, hd⟩, _⟩ := J.tuple (SqT.of hh)
    exact .tup ho hc hd (Rps.rde J q (by simpa [pld] using p) rv)
  | _, _, _, .ktup hh q, p, r => by
    cases r
    obtain ⟨its, rv, ⟨o, ho, hc, n, hd⟩, _⟩ := J.tuple hh
    exact .tup ho hc hd (Rps.rde J q (by simpa [pld] using p) rv)
  | _, _, _, .dK (kvs := kvs) (ds := ds) hh k q, p, r => by
    cases r
    have e0 : ds = [] := by simpa [pld] using p
    subst e0
    have e1 : kvs = [] := by simpa using k.symm
    subst e1
    obtain ⟨_, hs, vs, rel, o, es, ep, ho, hc, hd, hrest⟩ := J.hok _ _ hh
    have e2 : es = #[] := by
      have z := hrest.2.1
      cases rel
      generalize hl : es.toList = l at z
      cases z
      simpa using hl
    subst e2
    exact .dct ho hc.1 hd hs
  | _, _, _, .dT (kvs := kvs) (ds := ds) hh k q, p, r => by
    cases r
    have e0 : ds = [] := by simpa [pld] using p
    subst e0
    have e1 : kvs = [] := by simpa using k.symm
    subst e1
    obtain ⟨_, hs, xs, rel, o, es, ep, ho, hc, hd, hk, _⟩ := J.hok _ _ hh
    cases rel
    have e2 : es = #[] := by simpa using hk
    subst e2
    exact .dct ho hc.1 hd hs
  | _, _, _, .obj _ _ _ _, p, _ => by simp [pld] at p
  | _, _, _, .exc _ _, p, _ => by simp [pld] at p
  | _, _, _, .lk _ _ _, p, _ => by simp [pld] at p
theorem Rps.rde (J : Inv X pins τ hp st) : ∀ {vs : List V} {ds : List D} {us : List Value}, Rps X.K X.mg hp vs ds → plds ds = true → Vals vs us → RdEs st.heap us (D.pds ds)
  | _, _, _, .nil, _, r => by cases r; exact .nil
  | _, _, _, .cons h q, p, r => by
    simp only [plds, Bool.and_eq_true] at p
    cases r with
    | cons r1 r2 => exact .cons (Rp.rde J h p.1 r1) (Rps.rde J q p.2 r2)
end
end
/-- data that can be shown, dicts within empty -/
structure ShE (n w : Nat) (d : D) : Prop where
  pl : pld d = true
  sh : d.pd.showable = true
  dp : d.pd.depth ≤ n
  lv : d.pd.leavesShort 64 = true
  wt : d.pd.weight ≤ w
mutual
theorem pld_of : ∀ d : D, pln d = true → pld d = true
  | .none, _ => rfl
  | .bool _, _ => rfl
  | .int _, _ => rfl
  | .str _, _ => rfl
  | .list xs, h => plds_of xs h
  | .tuple xs, h => plds_of xs h
  | .ktup xs, h => plds_of xs h
  | .dict _ _, h => nomatch h
  | .obj _ _, h => nomatch h
  | .exc _, h => nomatch h
  | .scr _, h => nomatch h
  | .lk _, h => nomatch h
  | .two _ _ _ _, h => nomatch h
theorem plds_of : ∀ ds : List D, plns ds = true → plds ds = true
  | [], _ => rfl
  | d :: ds, h => by
    simp only [plns, Bool.and_eq_true] at h
    simp only [plds, Bool.and_eq_true]
    exact ⟨pld_of d h.1, plds_of ds h.2⟩
end
theorem ShN.e {n w : Nat} {d : D} (h : ShN n w d) : ShE n w d := ⟨pld_of d h.pl, h.sh, h.dp, h.lv, h.wt⟩
theorem ShE.mono {n n' w w' : Nat} {d : D} (h : ShE n w d) (hn : n ≤ n') (hw : w ≤ w') : ShE n' w' d := ⟨h.pl, h.sh, Nat.le_trans h.dp hn, h.lv, Nat.le_trans h.wt hw⟩
end DL

namespace DL
open PySem PySem.Spec PyProof.Rows L2
section
variable {K : PySem.W.Frag}
end
/-- what is known of the classes that can be held, asked whether they stand under one -/
structure XI (K : PySem.W.Frag) (mg : Str → Option Value) (cn : Str) (L : List (Str × Bool)) : Prop where
  ex : ∃ D, mg cn = some (.ref D) ∧ ∀ c b C, L.lookup c = some b → mg c = some (.ref C) → ExcC K C ∧ PySem.W.kitOne K (.ref C) (.ref D) = some b
theorem Rv.exc {K : PySem.W.Frag} {mg : Str → Option Value} {B H : Hp} {v : V} {c : Str} (h : Rv K mg B H v (.exc c)) (s : Same B H) : ∃ a C, v = .ref a ∧ mg c = some (.ref C) ∧ H a = some (ExcAt C a) := by
  rcases h with h | ⟨a, rfl, h⟩
  · cases h with
    | exc m h => exact ⟨_, _, rfl, m, s _ _ h⟩
  · rcases h with ⟨es, vs, h1, h2, h3⟩ | ⟨es, vs, h1, h2, h3, h4⟩ | ⟨es, vs, h1, h2, h3, h4⟩ | ⟨cn, fs, C, dx, fvs, h1, h2, h3, h4, h5⟩ <;> cases h1
section
variable {X : Cx} {Z : Zx} {W : WX} {pos p p2 p3 : Pos} {e : Expr} {w : DW} {cn : Str} {L : List (Str × Bool)} {kk : Nat}
/-- the classes of a tuple, each with its answers -/
inductive XIs (X : Cx) : List Expr → List (List (Str × Bool)) → Prop
  | nil : XIs X [] []
  | cons {cn : Str} {p : Pos} {L : List (Str × Bool)} {es : List Expr} {Ls : List (List (Str × Bool))} : XI X.K X.mg cn L → Gl X cn → (cn == ("__debug__" : Str)) = false → starEach (.Name cn p :: es) X.env = (false, eval (.Name cn p) X.env) :: starEach es X.env → XIs X es Ls → XIs X (.Name cn p :: es) (L :: Ls)
end
end DL

namespace DL
open PySem PySem.Spec PyProof.Rows
section
variable {prog : Program} {w : World} {A : Around} {E : Value → Shared → Prop} {s : Shared}
end
end DL
namespace DL
open PySem PySem.Spec PyProof.Rows L2
section
variable {X : Cx} {e : Expr} {lo hi : Option Expr} {te : TE} {tl th : TO} {k : Nat} {p1 p2 p3 pos : Pos}
end
section
variable {X : Cx} {Z : Zx} {W : WX} {e : Expr} {lo hi : Option Expr} {wa : DW} {wl wh : DO} {k : Nat} {p1 p2 p3 pos : Pos}
end
end DL

namespace DL
open PySem PySem.Spec L2
section
variable {K : PySem.W.Frag} {mg : Str → Option Value} {Z : Zx} {F G H F' G' H' : Hp} {σ : Sg} {env env' : DEnv}
end
section
variable {X : Cx} {Z : Zx} {W : WX} {pos p : Pos} {k n : Nat} {f : Addr} {fd : FuncData} {ps : List Str} {ms : List Bool} {Φ : DF} {x : Str} {e : Expr} {es : List Expr} {w1 : DW} {wr : DA}
end
end DL

namespace DL
open PySem PySem.Spec PyProof.Rows L2
section
variable {prog : Program} {w : World} {A : Around} {R : Result → Shared → Prop} {s : Shared} {elt t0 i0 t1 i1 : Expr} {ifs0 ifs1 : List Expr} {scope : Scope} {pos : Pos} {it acc : Value} {env : Env}
end
section
variable {X : Cx}
end
end DL

namespace DL
open PySem PySem.Spec L2
section
variable {X : Cx} {Z : Zx} {W : WX}
end
section
variable {X : Cx} {Z : Zx} {W : WX} {pos spos p : Pos}
end
end DL

namespace DL
open PySem PySem.Spec L2
def GTupX (K : PySem.W.Frag) (mg : Str → Option Value) (x : Str) (ds : List D) : Prop := ∃ (T : Addr) (vs : List V), mg x = some (.ref T) ∧ (∃ (o : Obj) (its : Array Value) (n : Nat), K.lookup T = some o ∧ o.cls = .type "tuple" ∧ o.dict = none ∧ o.data = .seq its n ∧ its.size ≤ sizeLine ∧ Vals vs its.toList) ∧ ∀ F : Hp, Rps K mg F vs ds
theorem GTupX.tup {K : PySem.W.Frag} {mg : Str → Option Value} {x : Str} {ds : List D} (h : GTupX K mg x ds) : GTup K mg x ds := by
  obtain ⟨T, vs, h1, ⟨o, its, n, a, b, c, d, e, f⟩, h3⟩ := h
  exact ⟨T, vs, h1, ⟨o, its, n, a, b, d, e, f⟩, h3⟩
section
variable {X : Cx} {Z : Zx} {W : WX} {e : Expr} {we : DW} {x : Str} {ys : List Str} {p apos cpos : Pos}
end
end DL
namespace DL
open PySem PySem.Spec L2
end DL

namespace DL
open PySem PySem.Spec PyProof.Rows L2
section
variable {X : Cx}
def rCntD (K : PySem.W.Frag) : V → List V → Hp → VK → Prop := fun x xs H Q => ∃ (a : Addr) (y : V) (d : PyData) (ds : List PyData), x = V.ref a ∧ xs = [y] ∧ Dp K H (V.ref a) (.list ds) ∧ Dp K H y d ∧
  SeqAt.shaped (.list ds) = true ∧ SeqAt.shaped d = true ∧ Q (.int ((ds.countP fun z => PyData.eqv z d : Nat) : Int)) H
theorem mt_cntD (hu : X.A.units + 65 < cLine) : MtR X "list.count" (rCntD X.K) := by
  intro pins s σ H x xs v us Q I rx rxs h
  obtain ⟨a, y, d, ds, rfl, rfl, hl, hy, sl, sd, q⟩ := h
  cases rx
  cases rxs with
  | cons ry rt =>
    rename_i uy ut
    cases rt
    obtain ⟨bs, r1⟩ := Dp.reads I d y uy hy ry
    have hxs : PyData.canLayAll0 ds = true := SeqAt.canLay_of_shaped sl
    have hroom : X.A.units + 1 + min (PyData.depthAll ds) d.depth < cLine := room_in_shaped sd hu
    cases hl with
    | lst hs ha =>
      obtain ⟨its, rv, ⟨⟨cls, dd, data, sls⟩, n, ho, hc, hdn, hdt⟩, hlen⟩ := I.list hs
      simp only at hc hdt
      subst hc hdt
      obtain ⟨as, h4⟩ := Dp.readsAll I ds _ its ha rv
      have hmap : its.map (SeqAt.readOf s.heap) = ds := SeqAt.readsAll_map ds its as hxs h4
      refine call_meets PySem.F.slot_list_count ⟨_, ho, rfl⟩ PySem.F.entry_list_count (PySem.F.args_list_count_2 _ _)
        (SeqAt.list_countAt a its.toArray n dd sls uy (fun u => PyData.eqv (SeqAt.readOf s.heap u) d)) ⟨ho, SeqAt.items_eqAt (vs := its.toArray) (show ReadsAll s.heap its.toArray.toList ds as from h4) r1 hxs (SeqAt.canLay_of_shaped sd) hroom, ?_⟩
      have ec : its.toArray.toList.countP (fun u => PyData.eqv (SeqAt.readOf s.heap u) d) = ds.countP (fun z => PyData.eqv z d) := by
        rw [← hmap, List.countP_map]; rfl
      refine ⟨.int _, H, I.tok _, ⟨s.toks, ?_⟩, q⟩
      show Value.int ((its.toArray.toList.countP (fun u => PyData.eqv (SeqAt.readOf s.heap u) d) : Nat) : Int) s.toks = Value.int _ s.toks
      rw [ec]
def cntD (ds : List D) (d : D) : Nat := ds.countP fun z => deq z d
theorem pds_map : ∀ ds : List D, D.pds ds = ds.map D.pd
  | [] => rfl
  | d :: ds => by simp [D.pds, pds_map ds]
def fCountL : FB := fun x xs P => ∃ ds d n, x.1 = .list ds ∧ xs = [(d, n)] ∧ okD (.list ds) = true ∧ okD d = true ∧ P (dI (cntD ds d : Nat))
theorem m_countL (hu : X.A.units + 65 < cLine) : MtD X "list.count" fCountL := by
  refine ⟨_, mt_cntD hu, fun Z F G H σ env v x vs xs P Q R h1 h2 ⟨ds, d, n, e1, e2, k1, k2, p⟩ q => ?_⟩
  subst e2
  obtain ⟨x1, x2⟩ := x
  dsimp only at e1
  subst e1
  obtain ⟨u, rfl, r⟩ := rvL1 h2
  obtain ⟨a1, a2⟩ := okD_of k1
  obtain ⟨b1, b2⟩ := okD_of k2
  obtain ⟨a, ws, rfl, _⟩ := h1.list R.selH
  refine ⟨a, u, _, _, rfl, rfl, (h1.rp R.selH).dp a1, (r.rp R.selH).dp b1, a2, b2, ?_⟩
  have e : (D.pds ds).countP (fun z => PyData.eqv z d.pd) = cntD ds d := by rw [pds_map, List.countP_map]; rfl
  rw [e]
  exact q _ F G H _ p R .refl (.int _) trivial
end
section
variable {n m : Bool} {P : T → Prop} {R : T → Prop} {ds : List D} {d : D}
theorem x_cntL (k : Nat) (h1 : okD (.list ds) = true) (h2 : okD d = true) (hk : cntD ds d = k) (h : P (dI (k : Nat))) : fCountL (.list ds, n) [(d, m)] P := ⟨ds, d, m, rfl, rfl, h1, h2, by rw [hk]; exact h⟩
end
section
variable {X : Cx} {Z : Zx} {W : WX} {pos pos2 : Pos}
end
end DL

set_option maxHeartbeats 2000000
namespace DL
open PySem PySem.Spec PyProof.Rows L2
/-- a pair's numbers, read from a heap -/
def pairAt (h : Heap) : Value → Int × Int
  | .ref a => match h.get? a with
    | some ⟨_, _, .seq its _, _⟩ => match its.toList with
      | [.int x _, .int y _] => (x, y)
      | _ => (0, 0)
    | _ => (0, 0)
  | _ => (0, 0)
theorem pairAt_of {h : Heap} {a : Addr} {x y : Int} {t u : Tok} (e : h.get? a = some { cls := .type "tuple", data := .seq #[.int x t, .int y u] }) : pairAt h (.ref a) = (x, y) := by
  simp only [pairAt, e]
abbrev kvI (p : Int × Int) : Key × V := (Sum.inl p.1, V.int p.2)
theorem pairs_get {P : Program} {w : World} : ∀ {es : List DictEntry} {vs : List (Key × Value)}, Pairs (mixKind P w) es vs → ∀ (j : Nat) (en : DictEntry), es[j]? = some en → ∃ k, vs[j]? = some (k, en.val) ∧ (mixKind P w).is k en.key = true := by
  intro es vs h
  induction h with
  | nil => intro j en e; simp at e
  | @cons e kv es kvs h1 h2 _ ih =>
    intro j en he
    cases j with
    | zero =>
      simp only [List.getElem?_cons_zero, Option.some.injEq] at he
      subst he
      exact ⟨kv.1, by rw [h2]; rfl, h1⟩
    | succ j => exact ih j en (by simpa using he)
theorem pairs_len {P : Program} {w : World} {es : Array DictEntry} {vs : List (Key × Value)} (h : Pairs (mixKind P w) es.toList vs) : es.size = vs.length := by
  rw [← Array.length_toList]
  exact h.length
section
variable {P : Program} {w : World} {A : Around} {E : Value → Shared → Prop} {s : Shared}
theorem sorted_itemsI {r d : Addr} {vs : List (Key × Value)} {ep : Nat} {Q : Value → Shared → Prop} (hh : A.handled = none) (hv : s.heap.IsItemsView r d) (hm : s.heap.DictAt (mixKind P w) d vs ep) (hn : vs.length ≤ sizeLine)
    (hI : ∀ p ∈ vs, ∃ (k i : Int) (t : Tok), p = (Sum.inl k, .int i t))
    (h : ∀ (h' : Heap) (tk : Nat) (as : List Addr) (out : List Value) (h2 : Heap), (∀ b o, s.heap.get? b = some o → h2.get? b = some o) → as.length = vs.length → as.Pairwise (· < ·) → (∀ a ∈ as, s.heap.objs.size ≤ a ∧ a < h'.objs.size) → s.heap.objs.size ≤ h'.objs.size →
      (∀ (j : Nat) (a : Addr), as[j]? = some a → ∃ (k i : Int) (t u v : Tok), vs[j]? = some (Sum.inl k, .int i v) ∧ h2.get? a = some { cls := .type "tuple", data := .seq #[.int k t, .int i u] } ∧ pairAt h' (.ref a) = (k, i)) →
      SrtO.Srtd (fun v u => SrtO.lexB (pairAt h' v) (pairAt h' u)) out → SrtO.Stb (fun v u => SrtO.lexB (pairAt h' v) (pairAt h' u)) out (as.map Value.ref) → (∃ n, h2.get? h'.objs.size = some (seqObj "list" out.toArray n)) → Q (.ref h'.objs.size) { s with heap := h2, toks := tk }) :
    wpAny (model P w) A (call (.builtin "sorted") [.ref r]) Q E s := by
  obtain ⟨o, es, ho, hx, hdat, hko, hpr, hnd⟩ := hm
  have hes := pairs_get hpr
  have hsz : es.size = vs.length := pairs_len hpr
  refine DT.sortedI (es := es) (ep := ep) hh hv ⟨o, ho, hx, hdat⟩ (by rw [hsz]; exact hn) fun h' tk as hk hlt hl hG => ?_
  have hz : (as.map Value.ref).length ≤ sizeLine := by rw [List.length_map, hl, hsz]; exact hn
  have hoL : (h'.push (seqObj "list" (as.map Value.ref).toArray 0)).get? h'.objs.size = some (seqObj "list" (as.map Value.ref).toArray 0) := Heap.get?_push_size _ rfl
  have pr : ∀ (j : Nat) (a : Addr), as[j]? = some a → ∃ (k i : Int) (t u v : Tok), vs[j]? = some (Sum.inl k, .int i v) ∧ h'.get? a = some { cls := .type "tuple", data := .seq #[.int k t, .int i u] } := fun j a hj => by
    obtain ⟨en, e1, e3⟩ := hG.pairs j a hj
    obtain ⟨k, e2, e4⟩ := hes j en (by simpa using e1)
    obtain ⟨k', i, t, ep⟩ := hI _ (List.mem_of_getElem? e2)
    obtain ⟨rfl, eval⟩ := Prod.mk.inj ep
    obtain ⟨t', ek⟩ : ∃ t', en.key = .int k' t' := relV_key (show keyIs (Sum.inl k') en.key = true from e4)
    rw [ek, eval] at e3
    exact ⟨k', i, t', t, t, by rw [e2, eval], e3⟩
  have hlt' : ∀ a ∈ as, a < h'.objs.size := fun a ha => hG.there ha
  have hin : ∀ v ∈ as.map Value.ref, ∃ (j : Nat) (a : Addr), v = .ref a ∧ as[j]? = some a := fun v hv => by
    obtain ⟨a, ha, rfl⟩ := List.mem_map.mp hv
    obtain ⟨j, hj⟩ := List.mem_iff_getElem?.mp ha
    exact ⟨j, a, rfl, hj⟩
  refine wpAny_call_entry slot_list_sort ⟨_, hoL, rfl⟩ entry_list_sort (SrtO.list_sort_ord (SrtO.swo_lex (pairAt h')) hoL hz (fun h2 => ?_) fun out hs hb => ⟨_, rfl, ?_⟩) (args_list_sort _)
  · refine SrtO.pairs_sortableO (by omega) (fun v hv => ?_) fun o e => ?_
    · obtain ⟨j, a, rfl, hj⟩ := hin v hv
      obtain ⟨k, i, t, u, v, e1, e2⟩ := pr j a hj
      rw [pairAt_of e2]
      exact ⟨a, _, t, u, 0, rfl, Heap.get?_push_of_some _ e2, rfl, rfl⟩
    · have e' : some o = some (seqObj "list" (as.map Value.ref).toArray 0) := e.symm.trans hoL
      cases e'
      intro c
      exact absurd (Value.type.inj c) (by decide)
  · have keepN : ∀ b o, b < h'.objs.size → h'.get? b = some o → (sortedHeap (h'.push (seqObj "list" (as.map Value.ref).toArray 0)) h'.objs.size (as.map Value.ref) out.toArray).get? b = some o := fun b o hb e => by
      rw [sortedHeap_old (Nat.ne_of_lt hb) (by rw [size_push']; exact Nat.lt_succ_of_lt hb)]
      exact Heap.get?_push_of_some _ e
    refine h h' tk as out _ (fun b o e => keepN b o (Heap.lt_size (hk b o e)) (hk b o e)) (by rw [hl, hsz]) hG.rise (fun a ha => ⟨Nat.le_of_lt (hG.above a ha), hlt' a ha⟩) (Nat.le_of_lt hlt) (fun j a hj => ?_) hs hb ?_
    · obtain ⟨k, i, t, u, v, e1, e2⟩ := pr j a hj
      exact ⟨k, i, t, u, v, e1, keepN a _ (Heap.lt_size e2) e2, pairAt_of e2⟩
    · exact sortedHeap_at hoL
end
section
variable {X : Cx}
def rItemsK : V → List V → Hp → VK → Prop := fun x xs H Q => ∃ (a : Addr) (kvs : List (Key × V)), x = .ref a ∧ xs = [] ∧ H a = some (.dK kvs) ∧ ∀ p, H p = none → Q (.ref p) (upd H p (L2.DX.itemsO p a))
theorem mt_itemsK : MtR X "dict.items" rItemsK := by
  intro pins s σ H x xs v us Q I rx rxs h
  obtain ⟨a, kvs, rfl, rfl, ha, q⟩ := h
  cases rx
  cases rxs
  obtain ⟨hz, hs0, vs, kv, hdo⟩ := I.hok a _ ha
  obtain ⟨ep, o, es, ho, hx, hdat, _⟩ := hdo.dictAt
  refine DT.callItems (es := es) (ep := ep) hs0 ⟨o, ho, hx, hdat⟩ ?_
  exact ⟨.ref s.heap.objs.size, upd H s.heap.objs.size (L2.DX.itemsO s.heap.objs.size a), I.laid (t' := s.toks) (fun b u e => Heap.get?_push_of_some _ e) (Nat.le_refl _) (L2.DX.itemsO_ok (Heap.get?_push_size _ rfl)), rfl, q _ (I.hok.fresh (Nat.le_refl _))⟩
def rSortItI : List V → Hp → VK → Prop := fun vs H Q => ∃ (p d : Addr) (kvs : List (Int × Int)), vs = [.ref p] ∧ H p = some (L2.DX.itemsO p d) ∧ H d = some (.dK (kvs.map kvI)) ∧
  ∀ (H' : Hp) (l : Addr) (zs : List (Addr × Int × Int)), (∀ b o, H b = some o → H' b = some o) → H l = none → (∀ z ∈ zs, H z.1 = none) → (zs.map (·.1)).Nodup → l ∉ zs.map (·.1) → (zs.map (·.2)).Perm kvs → (zs.map (·.2)).Pairwise (fun p q => SrtO.lexB q p = false) →
    H' l = some (.lst (zs.map fun z => V.ref z.1)) → (∀ z ∈ zs, H' z.1 = some (.tup [.int z.2.1, .int z.2.2])) → Q (.ref l) H'
theorem cr_sortItI (hc : X.calm = true) : CallR X (.builtin "sorted") rSortItI := by
  intro pins s σ H xs us Q I r h
  obtain ⟨p, d, kvs, rfl, hp, hd, q⟩ := h
  obtain rfl := Vals.ref1 r
  have view : s.heap.IsItemsView p d := (show ObjOk X.prog X.w H s.heap p (L2.DX.itemsO p d) from I.hok p _ hp).1
  obtain ⟨hz, hs0, vs, kv, hdo⟩ := I.hok d _ hd
  obtain ⟨ep, hat⟩ := hdo.dictAt
  have lk : (kvs.map kvI).length = vs.length := Paired.length kv
  rw [List.length_map] at lk hz
  have hvs : ∀ (j : Nat) (k : Int) (i : Int) (v : Tok), vs[j]? = some (Sum.inl k, .int i v) → kvs[j]? = some (k, i) := fun j k i v e => by
    obtain ⟨y, e1, e2, e3⟩ := L2.DX.pget kv e
    rw [List.getElem?_map] at e1
    cases ek : kvs[j]? with
    | none => rw [ek] at e1; cases e1
    | some z =>
      rw [ek] at e1
      cases e1
      obtain ⟨t, e4⟩ := e3
      cases e2
      cases e4
      rfl
  refine sorted_itemsI (vs := vs) (ep := ep) (I.ok.hd hc) view hat (by omega) (fun z hz' => ?_) fun h' tk as out h2 hk hl hrise hrng hsz hpr hs hb hn => ?_
  · obtain ⟨j, hj⟩ := List.mem_iff_getElem?.mp hz'
    obtain ⟨y, e1, e2, e3⟩ := L2.DX.pget kv hj
    rw [List.getElem?_map] at e1
    cases ek : kvs[j]? with
    | none => rw [ek] at e1; cases e1
    | some u =>
      rw [ek] at e1
      cases e1
      obtain ⟨t, e4⟩ := e3
      exact ⟨u.1, u.2, t, Prod.ext e2.symm e4⟩
  have nd : as.Nodup := List.Pairwise.imp (fun h => Nat.ne_of_lt h) hrise
  have lak : as.length = kvs.length := by omega
  -- a place's number leads to its pair
  have at_ : ∀ (j : Nat) (a : Addr), as[j]? = some a → ∃ z : Int × Int, kvs[j]? = some z ∧ pairAt h' (.ref a) = z ∧ ∃ t u : Tok, h2.get? a = some { cls := .type "tuple", data := .seq #[.int z.1 t, .int z.2 u] } := fun j a hj => by
    obtain ⟨k, i, t, u, v, e1, e2, e3⟩ := hpr j a hj
    exact ⟨(k, i), hvs j k i v e1, e3, t, u, e2⟩
  have zipm : (as.zip kvs).map (fun z => Value.ref z.1) = as.map Value.ref := by
    have e : (as.zip kvs).map (·.1) = as := List.map_fst_zip (by omega)
    conv => rhs; rw [← e]
    rw [List.map_map]; rfl
  obtain ⟨zs, pz, ez⟩ := perm_lift (fun z : Addr × Int × Int => Value.ref z.1) hb.perm (as.zip kvs) zipm
  have idx : ∀ z ∈ zs, ∃ j : Nat, as[j]? = some z.1 ∧ kvs[j]? = some z.2 := fun z hz' => by
    obtain ⟨j, hj⟩ := List.mem_iff_getElem?.mp (pz.mem_iff.mp hz')
    exact ⟨j, List.getElem?_zip_eq_some.mp hj⟩
  have hval : ∀ z ∈ zs, pairAt h' (.ref z.1) = z.2 ∧ ∃ t u : Tok, h2.get? z.1 = some { cls := .type "tuple", data := .seq #[.int z.2.1 t, .int z.2.2 u] } := fun z hz' => by
    obtain ⟨j, e1, e2⟩ := idx z hz'
    obtain ⟨y, e3, e4, e5⟩ := at_ j z.1 e1
    rw [e2] at e3
    cases e3
    exact ⟨e4, e5⟩
  have hfst : (zs.map (·.1)).Perm as := by
    have e := pz.map (·.1)
    rwa [List.map_fst_zip (by omega)] at e
  have hsnd : (zs.map (·.2)).Perm kvs := by
    have e := pz.map (·.2)
    rwa [List.map_snd_zip (by omega)] at e
  have hsort : (zs.map (·.2)).Pairwise (fun p q => SrtO.lexB q p = false) := by
    have e : zs.Pairwise (fun x y => SrtO.lexB (pairAt h' (Value.ref y.1)) (pairAt h' (Value.ref x.1)) = false) := by
      have := hs
      rw [← ez] at this
      exact List.pairwise_map.mp this
    rw [List.pairwise_map]
    refine List.Pairwise.imp_of_mem (fun {x y} hx hy h => ?_) e
    rw [(hval x hx).1, (hval y hy).1] at h
    exact h
  have I1 : Inv X pins σ H { s with heap := h2, toks := tk } := I.kept (t' := tk) hk
  have hn0 : H h'.objs.size = none := I.hok.fresh hsz
  have hlen : (zs.map fun z => V.ref z.1).length ≤ sizeLine := by
    have e := hsnd.length_eq
    rw [List.length_map] at e
    rw [List.length_map]
    omega
  have rv : Vals (zs.map fun z => V.ref z.1) out := by
    rw [← ez]
    exact vals_maps (fun z : Addr × Int × Int => V.ref z.1) (fun z => Value.ref z.1) zs fun _ _ => rfl
  obtain ⟨eF, heF⟩ := hn
  have I2 : Inv X pins σ (upd H h'.objs.size (.lst (zs.map fun z => V.ref z.1))) { s with heap := h2, toks := tk } :=
    I1.take (h' := h2) (t' := tk) (fun b ob _ e => e) (I.fpOk hsz hn0) ⟨hlen, out, eF, rv, heF⟩
  have ne0 : ∀ a ∈ as, a ≠ h'.objs.size := fun a ha => Nat.ne_of_lt (hrng a ha).2
  have hnd : (zs.map (·.1)).Nodup := hfst.nodup_iff.mpr nd
  have hinA : ∀ z ∈ zs, z.1 ∈ as := fun z hz' => hfst.mem_iff.mp (List.mem_map.mpr ⟨z, hz', rfl⟩)
  obtain ⟨H2, I3, g, qt⟩ := L2.DX.takeT (P := fun b vs => ∃ z ∈ zs, b = z.1 ∧ vs = [.int z.2.1, .int z.2.2]) I (zs.map (·.1)) _ I2 hnd fun b hb => by
    obtain ⟨z, hz', rfl⟩ := List.mem_map.mp hb
    obtain ⟨_, t, u, hg⟩ := hval z hz'
    refine ⟨(hrng _ (hinA z hz')).1, ?_, [.int z.2.1, .int z.2.2], ⟨z, hz', rfl, rfl⟩, fun H3 => ⟨(by rw [sizeLine_eq]; show 2 ≤ 16777216; omega), [Value.int z.2.1 t, Value.int z.2.2 u], .cons ⟨_, rfl⟩ (.cons ⟨_, rfl⟩ .nil), ⟨_, hg, rfl, 0, rfl⟩⟩⟩
    rw [upd_ne (ne0 _ (hinA z hz'))]
    exact I.hok.fresh (hrng _ (hinA z hz')).1
  refine ⟨.ref h'.objs.size, H2, I3, rfl, q H2 h'.objs.size zs (fun b o e => g b o (by rw [upd_ne (ne_of_none e hn0)]; exact e)) hn0 (fun z hz' => I.hok.fresh (hrng _ (hinA z hz')).1) hnd (fun hm => ?_) hsnd hsort (g _ _ upd_same) fun z hz' => ?_⟩
  · obtain ⟨z, hz', e⟩ := List.mem_map.mp hm
    exact ne0 _ (hinA z hz') e
  · obtain ⟨vs', ⟨y, hy, e1, e2⟩, e3⟩ := qt z.1 (List.mem_map.mpr ⟨z, hz', rfl⟩)
    obtain ⟨j, j1, j2⟩ := idx z hz'
    obtain ⟨i, i1, i2⟩ := idx y hy
    rw [← e1] at i1
    have eij : i = j := (List.getElem?_inj (List.getElem?_eq_some_iff.mp i1).1 nd).mp (i1.trans j1.symm)
    subst eij
    have ezy : y.2 = z.2 := Option.some.inj (i2.symm.trans j2)
    rw [e3, e2, ezy]
end
/-- sorted(d.items()) -/
def dSortIt (w : DW) : DW := fun env P E => w env (fun t e => ∃ kvs : List (Int × Int), rd e (hold t) = some (.dict false (kvs.map fun p => (.int p.1, .int p.2))) ∧ ∀ zs : List (Int × Int), zs.Perm kvs → zs.Pairwise (fun p q => SrtO.lexB q p = false) → P (.ow (.list (zs.map fun p => .tuple [.int p.1, .int p.2])) true) e) E
section
variable {K : PySem.W.Frag} {mg : Str → Option Value} {Z : Zx} {F G H : Hp} {σ : Sg} {env : DEnv}
/-- new pairs are frozen -/
theorem EnvR.frzPairs : ∀ (zs : List (Addr × Int × Int)) {F G : Hp}, EnvR K mg Z F G H σ env → (zs.map (·.1)).Nodup → (∀ z ∈ zs, H z.1 = some (.tup [.int z.2.1, .int z.2.2]) ∧ F z.1 = none ∧ ¬ Own σ env z.1 ∧ Z.H0 z.1 = none) →
    ∃ F' G', EnvR K mg Z F' G' H σ env ∧ Same F F' ∧ Same G G' ∧ (∀ z ∈ zs, G' z.1 = some (.tup [.int z.2.1, .int z.2.2])) ∧ ∀ b, b ∉ zs.map (·.1) → F' b = F b
  | [], F, G, R, _, _ => ⟨F, G, R, .refl _, .refl _, (fun _ h => nomatch h), fun _ _ => rfl⟩
  | z :: zs, F, G, R, nd, h => by
    obtain ⟨h1, h2, h3, h4⟩ := h z List.mem_cons_self
    rw [List.map_cons, List.nodup_cons] at nd
    have R1 := R.frz true h1 h2 h3 h4
    have hG : G z.1 = none := snone R.gf h2
    obtain ⟨F', G', R2, s1, s2, k, o⟩ := EnvR.frzPairs zs R1 nd.2 fun y hy => by
      obtain ⟨a1, a2, a3, a4⟩ := h y (List.mem_cons_of_mem _ hy)
      exact ⟨a1, by rw [upd_ne (fun e => nd.1 (by rw [← e]; exact List.mem_map.mpr ⟨y, hy, rfl⟩))]; exact a2, a3, a4⟩
    refine ⟨F', G', R2, (same_upd h2).trans s1, (same_upd hG).trans s2, fun y hy => ?_, fun b hb => ?_⟩
    · rcases List.mem_cons.mp hy with rfl | hy
      · exact s2 _ _ upd_same
      · exact k y hy
    · rw [List.map_cons, List.mem_cons, not_or] at hb
      rw [o b hb.2, upd_ne hb.1]
end
theorem rps_pairs {K : PySem.W.Frag} {mg : Str → Option Value} {B : Hp} : ∀ {zs : List (Addr × Int × Int)}, (∀ z ∈ zs, B z.1 = some (.tup [.int z.2.1, .int z.2.2])) → Rps K mg B (zs.map fun z => V.ref z.1) (zs.map fun z => D.tuple [.int z.2.1, .int z.2.2])
  | [], _ => .nil
  | z :: zs, h => .cons (.tup (h z List.mem_cons_self) (.cons (.int _) (.cons (.int _) .nil))) (rps_pairs fun y hy => h y (List.mem_cons_of_mem _ hy))
theorem keyD_int2 {k : Key} {i : Int} (h : D.int i = keyD k) : k = Sum.inl i := by
  cases k with
  | inl j => cases h; rfl
  | inr x => cases h
theorem kvs_ints {K : PySem.W.Frag} {mg : Str → Option Value} {B : Hp} : ∀ {ks : List (Key × V)} {kvs : List (Int × Int)}, (kvs.map fun p => (D.int p.1, D.int p.2)).map (·.1) = ks.map (fun p => keyD p.1) → Rps K mg B (ks.map (·.2)) ((kvs.map fun p => (D.int p.1, D.int p.2)).map (·.2)) → ks = kvs.map kvI
  | [], [], _, _ => rfl
  | [], _ :: _, h, _ => by cases h
  | _ :: _, [], h, _ => by cases h
  | k :: ks, p :: kvs, h, r => by
    simp only [List.map_cons, List.cons.injEq] at h
    cases r with
    | cons r1 r2 =>
      rw [List.map_cons, kvs_ints h.2 r2]
      obtain ⟨k1, k2⟩ := k
      have e1 := keyD_int2 h.1
      cases r1
      simp only at e1
      rw [e1]
section
variable {X : Cx} {Z : Zx} {W : WX} {p pos apos cpos : Pos} {o : Expr} {w : DW}
theorem d_sortIt (hc : X.calm = true) (hm : X.mg "sorted" = none) (he : DE X Z W o w) (hg : Gl X "sorted" := by rfl)
    (hbase : attributeBase o "items" X.env (eval o X.env) = eval o X.env := by rfl) (hline : (apos.endLine == cpos.line) = true := by rfl)
    (hs1 : starEach [.Call (.Attribute o "items" apos) [] [] cpos] X.env = (false, eval (.Call (.Attribute o "items" apos) [] [] cpos) X.env) :: starEach [] X.env := by rfl) (hpl : (backTo pos (starEach [] X.env)).any (·.1) = false := by rfl) :
    DE X Z W (.Call (.Name "sorted" p) [.Call (.Attribute o "items" apos) [] [] cpos] [] pos) (dSortIt w) := by
  refine PE.of (pe_callB (cr_sortItI hc) hg hm (by rfl) (pa_cons (pe_bm0 PySem.F.plainAttrs_dict PySem.F.slot_dict_items PySem.F.type_dict_items mt_itemsK he hbase hline) pa_nil hs1) (by decide) (by decide) hs1 hpl) fun σ H Q ⟨F, G, env, P, E, R, w, q, qe⟩ => ?_
  refine ⟨F, G, env, _, E, R, w, fun t e1 F1 G1 H1 v ⟨kvs, ed, pk⟩ R1 x1 r1 n1 => ?_, qe⟩
  obtain ⟨F2, G2, R2, x2, r2⟩ := RT.hold R1 x1 r1 n1
  have rv := RT.rv R2 r2 ed
  obtain ⟨a, ks, rfl, h1, h2, h3⟩ := rv.dictK R2.selH
  have eks := kvs_ints h2 h3
  subst eks
  refine ⟨tyOk_v rv R2.selH rfl, a, _, rfl, rfl, h1, fun vp hvp => ?_⟩
  have hva : a ≠ vp := ne_of_none h1 hvp
  refine ⟨vp, a, kvs, rfl, upd_same, by rw [upd_ne hva]; exact h1, fun H' l zs g hl hz nd hlz hperm hso hL hT => ?_⟩
  have hlv : l ≠ vp := fun e => by rw [e, upd_same] at hl; cases hl
  have g1 : Same H1 H' := fun b u e => g b u (by rw [upd_ne (ne_of_none e hvp)]; exact e)
  have low : ∀ b, (upd H1 vp (L2.DX.itemsO vp a)) b = none → H1 b = none := fun b e => by
    by_cases hb : b = vp
    · rw [hb]; exact hvp
    · rw [upd_ne hb] at e; exact e
  have R3 := R2.grow g1
  have fr : ∀ b, H1 b = none → F2 b = none ∧ ¬ Own σ e1 b ∧ Z.H0 b = none := fun b e => ⟨snone R2.fh e, R2.not_own e, R2.h0 e⟩
  obtain ⟨F4, G4, R4, s1, s2, k4, o4⟩ := EnvR.frzPairs zs R3 nd fun z hz' => ⟨hT z hz', (fr _ (low _ (hz z hz'))).1, (fr _ (low _ (hz z hz'))).2⟩
  have hln := low _ hl
  have x4 : Ext σ e1 e1 F2 G2 H1 F4 G4 H' := ⟨s1, s2, fun b u e _ _ => g1 b u e, fun b u e => ⟨u, g1 b u e⟩, fun b u e f _ => by
    rw [o4 b (fun hm => by
      obtain ⟨z, hz', e3⟩ := List.mem_map.mp hm
      rw [← e3, low _ (hz z hz')] at e
      cases e)]
    exact f, fun _ h => .inl h, fun _ d h => ⟨d, h⟩, rfl⟩
  refine q _ e1 F4 G4 H' (.ref l) (pk (zs.map (·.2)) hperm hso) R4 (x2.trans x4) ?_ ?_
  · refine ⟨l, rfl, by rw [o4 l hlz]; exact (fr l hln).1, .inl ⟨_, _, rfl, hL, ?_⟩, (fr l hln).2.1, (fr l hln).2.2⟩
    rw [List.map_map]
    exact rps_pairs k4
  · exact newT_back x2.d ⟨l, rfl, hln⟩
end
end DL

namespace DL
open PySem PySem.Spec L2
def dGt2 (wa wk wx : DW) : DW := fun env P E => wa env (fun t env1 => ∃ b kvs, rd env1 (hold t) = some (.dict b kvs) ∧ wk env1 (fun t2 env2 => wx env2 (fun t3 env3 => ∃ k, rd env3 (hold t2) = some k ∧ rd env3 (hold t) = some (.dict b kvs) ∧ fitK b k ∧ ∃ d n, hold t3 = .fz d n ∧ P (.fz ((dget kvs k).getD d) (rdn env3 (hold t) && n)) env3) E) E) E
section
variable {X : Cx} {Z : Zx} {W : WX} {o e f : Expr} {apos cpos : Pos} {wa wk wx : DW}
theorem d_gt2 (hu : X.A.units + 1 < cLine) (ha : DE X Z W o wa) (hk : DE X Z W e wk) (hx : DE X Z W f wx) (m : M2 X o "get" apos e f cpos) : DE X Z W (.Call (.Attribute o "get" apos) [e, f] [] cpos) (dGt2 wa wk wx) := by
  refine PE.of (pe_dget2 hu ha hk hx m) fun σ H Q ⟨F, G, env, P, E, R, w, q, qe⟩ => ?_
  refine ⟨F, G, env, _, E, R, w, fun ta env1 F1 G1 H1 v1 p1 R1 x1 r1 n1 => ?_, qe⟩
  obtain ⟨F2, G2, R2, x2, r2⟩ := RT.hold R1 x1 r1 n1
  obtain ⟨b, kvs, e1, p1⟩ := p1
  have rv1 := RT.rv R2 r2 e1
  obtain ⟨a, ev, hd⟩ : ∃ a, v1 = .ref a ∧ IsD H1 a := by
    cases b with
    | false =>
      obtain ⟨a, ks, rfl, h1, _⟩ := rv1.dictK R2.selH
      exact ⟨a, rfl, .inl ⟨ks, .inl h1⟩⟩
    | true =>
      obtain ⟨a, ks, rfl, h1, _⟩ := rv1.dictT R2.selH
      exact ⟨a, rfl, .inr ⟨ks, .inl h1⟩⟩
  refine ⟨a, ev, hd, F2, G2, env1, _, E, R2, p1, fun tb env3 F3 G3 H3 v3 p3 R3 x3 r3 n3 => ?_, qe⟩
  obtain ⟨F4, G4, R4, x4, r4⟩ := RT.hold R3 x3 r3 n3
  refine ⟨F4, G4, env3, _, E, R4, p3, fun tc env5 F5 G5 H5 v5 p5 R5 x5 r5 n5 => ?_, qe⟩
  obtain ⟨F6, G6, R6, x6, r6⟩ := RT.hold R5 x5 r5 n5
  obtain ⟨k, e2, e3, fk, d, n, e4, p⟩ := p5
  have r2' := RT.ext (RT.ext r2 hold_ow x4) hold_ow x6
  have r4' := RT.ext r4 hold_ow x6
  obtain ⟨a', ov, ea, g, w⟩ := Rv.dget R6 (RT.rv R6 r2' e3) (RT.rv R6 r4' e2) fk
  rw [ev] at ea
  cases ea
  refine ⟨ov, g, ?_⟩
  have xx := (x2.trans x4).trans x6
  rw [e4] at r6
  have rx : Rp X.K X.mg (sel n G6 F6) v5 d := r6
  rcases w with ⟨rfl, w⟩ | ⟨v, d', rfl, w, r⟩
  · rw [w] at p
    exact q _ _ F6 G6 H5 _ p R6 xx (Rp.mono (sel_and' R6.gf) rx) trivial
  · rw [w] at p
    exact q _ _ F6 G6 H5 _ p R6 xx (Rp.mono (sel_and R6.gf) r) trivial
end
end DL

namespace DL
open PySem PySem.Spec L2
def deepAt (env : DEnv) (j : Nat) : Option D := match env[j]? with
  | some (.dp d) => some d
  | some (.di d) => some d
  | _ => none
def putDp (env : DEnv) (j : Nat) (d : D) : DEnv := match env[j]? with
  | some (.di _) => env.set j (.di d)
  | _ => env.set j (.dp d)
section
variable {K : PySem.W.Frag} {mg : Str → Option Value} {Z : Zx} {F G H H' : Hp} {σ : Sg} {env : DEnv}
theorem OwF.names {B H : Hp} : ∀ {fvs : List (Str × V)} {fs : List (Str × D)}, OwF K mg B H fvs fs → fs.map (·.1) = fvs.map (·.1)
  | _, _, .nil => rfl
  | _, _, .cons _ r => by simp [r.names]
theorem OwF.look {B H : Hp} : ∀ {fvs : List (Str × V)} {fs : List (Str × D)}, OwF K mg B H fvs fs → ∀ {f : Str} {d : D}, fs.lookup f = some d → ∃ v, fvs.lookup f = some v ∧ OwV K mg B H v d
  | _, _, .nil, _, _, h => by cases h
  | (g, v) :: fvs, (_, x) :: fs, .cons k r, f, d, h => by
    rw [List.lookup_cons] at h ⊢
    cases e : f == g with
    | true => rw [e] at h; cases h; exact ⟨v, rfl, k⟩
    | false => rw [e] at h; exact r.look h
theorem OwF.len {B H : Hp} {fvs : List (Str × V)} {fs : List (Str × D)} (h : OwF K mg B H fvs fs) : fvs.length = fs.length := by
  have := congrArg List.length h.names
  simpa using this.symm
theorem OwD.dob {B H : Hp} {a : Addr} {cn : Str} {fs : List (Str × D)} (h : OwD K mg B H a (.dob cn fs)) : ∃ C dx fvs, mg cn = some (.ref C) ∧ H a = some (.ins C dx fvs) ∧ OwF K mg B H fvs fs := by
  obtain ⟨h1, _⟩ := h
  cases h1 with
  | frz r => cases r
  | obj m e r => exact ⟨_, _, _, m, e, r⟩
theorem OwD.of {B H : Hp} {a C dx : Addr} {cn : Str} {fvs : List (Str × V)} {fs : List (Str × D)} (m : mg cn = some (.ref C)) (e : H a = some (.ins C dx fvs)) (r : OwF K mg B H fvs fs) : OwD K mg B H a (.dob cn fs) := ⟨.obj m e r, .inl ⟨cn, fs, rfl⟩⟩
/-- the places that a field owns -/
def fp0 (f : Str) (fs : List (Str × D)) : List Addr := match fs.lookup f with
  | some x => fp x
  | none => []
theorem fp0_eq {f : Str} {x : D} {fs : List (Str × D)} : fp0 f ((f, x) :: fs) = fp x := by
  unfold fp0
  rw [List.lookup_cons, beq_self_eq_true]
theorem fp0_ne {f g : Str} {x : D} {fs : List (Str × D)} (h : g ≠ f) : fp0 f ((g, x) :: fs) = fp0 f fs := by
  unfold fp0
  rw [List.lookup_cons, show (f == g) = false from by simpa using fun e => h e.symm]
theorem fp0_sub {f : Str} : ∀ {fs : List (Str × D)}, ∀ b ∈ fp0 f fs, b ∈ fpF fs
  | [], b, hb => by cases hb
  | (g, x) :: fs, b, hb => by
    simp only [fpF, fpP, List.mem_append]
    by_cases e : g = f
    · subst e; rw [fp0_eq] at hb; exact .inl hb
    · rw [fp0_ne e] at hb; exact .inr (fp0_sub b hb)
/-- a field is put -/
theorem OwF.put {B H H' : Hp} {f : Str} {v : V} {d : D} (hv : OwV K mg B H' v d) : ∀ {fvs : List (Str × V)} {fs : List (Str × D)}, OwF K mg B H fvs fs → (fpF fs).Nodup → (∀ b o, H b = some o → b ∈ fpF fs → b ∉ fp0 f fs → H' b = some o) → OwF K mg B H' (putF f v fvs) (putA f d fs)
  | _, _, .nil, _, _ => .cons hv .nil
  | (g, w) :: fvs, (_, x) :: fs, .cons k r, nd, h => by
    simp only [fpF, fpP] at nd h
    have nd' := List.nodup_append.mp nd
    unfold putF putA
    by_cases e : g = f
    · rw [if_pos e, if_pos e]
      subst e
      rw [fp0_eq] at h
      exact .cons hv (r.at_ fun b hb o eo => h b o eo (List.mem_append_right _ hb) fun z => nd'.2.2 b z b hb rfl)
    · rw [if_neg e, if_neg e]
      rw [fp0_ne e] at h
      exact .cons (k.at_ fun b hb o eo => h b o eo (List.mem_append_left _ hb) fun z => nd'.2.2 b hb b (fp0_sub b z) rfl) (r.put hv nd'.2.1 fun b o eo hb => h b o eo (List.mem_append_right _ hb))
theorem deep_slot (R : EnvR K mg Z F G H σ env) {j : Nat} {d : D} (e : deepAt env j = some d) : ∃ s a, env[j]? = some s ∧ isOwn s = true ∧ fpS s = fp d ∧ (s = .dp d ∨ s = .di d) ∧ σ[j]? = some (some (.ref a)) ∧ OwD K mg F H a d ∧ (a :: fp d).Nodup ∧ (∀ b ∈ a :: fp d, F b = none ∧ OwnAt σ j s b) := by
  unfold deepAt at e
  cases es : env[j]? with
  | none => rw [es] at e; cases e
  | some s =>
    rw [es] at e
    have q := R.slot j s es
    cases s with
    | un => cases e
    | fz => cases e
    | ow => cases e
    | io => cases e
    | dp x => cases e; obtain ⟨a, h1, h2, h3, h4⟩ := q; exact ⟨_, a, rfl, rfl, rfl, .inl rfl, h1, h2, h3, fun b hb => ⟨(h4 b hb).1, (List.mem_cons.mp hb).imp (fun z => by rw [z]; exact h1) id⟩⟩
    | di x => cases e; obtain ⟨a, h1, h2, h3, h4⟩ := q; exact ⟨_, a, rfl, rfl, rfl, .inr rfl, h1, h2, h3, fun b hb => ⟨(h4 b hb).1, (List.mem_cons.mp hb).imp (fun z => by rw [z]; exact h1) id⟩⟩
/-- a deep object is changed -/
theorem EnvR.mutD {j : Nat} {d d' : D} {a : Addr} (R : EnvR K mg Z F G H σ env) (e : deepAt env j = some d) (ha : σ[j]? = some (some (.ref a))) (hc : OwD K mg F H' a d') (nd : (a :: fp d').Nodup)
    (hn : ∀ b ∈ fp d', b ∈ a :: fp d ∨ (F b = none ∧ Z.H0 b = none ∧ ¬ Own σ env b)) (hH : ∀ b o, H b = some o → b ∉ a :: fp d → H' b = some o) (hd : ∀ b o, H b = some o → ∃ u, H' b = some u) :
    EnvR K mg Z F G H' σ (putDp env j d') ∧ ((∀ b ∈ fp d', b ∈ a :: fp d) → Ext σ env (putDp env j d') F G H F G H') := by
  obtain ⟨s, a1, es, ho, hf, hs, ea, h2, h3, h4⟩ := deep_slot R e
  rw [ha] at ea
  cases ea
  have hj := len_of es
  obtain ⟨s', hm, ho', hf', hk⟩ : ∃ s', putDp env j d' = env.set j s' ∧ isOwn s' = true ∧ fpS s' = fp d' ∧ ((s = .dp d ∧ s' = .dp d') ∨ (s = .di d ∧ s' = .di d')) := by
    rcases hs with rfl | rfl
    · exact ⟨.dp d', by simp [putDp, es], rfl, rfl, .inl ⟨rfl, rfl⟩⟩
    · exact ⟨.di d', by simp [putDp, es], rfl, rfl, .inr ⟨rfl, rfl⟩⟩
  rw [hm]
  -- what the object owns
  have own1 : ∀ b ∈ a :: fp d, Own σ env b := fun b hb => ⟨j, s, es, ho, (h4 b hb).2⟩
  -- who owns what stands elsewhere
  have off : ∀ {l : Nat} {t : Slot} {b : Addr}, j ≠ l → env[l]? = some t → isOwn t = true → OwnAt σ l t b → b ∉ a :: fp d := fun {l t b} hl el ht hb hm => hl (R.dist j l s t b es ho el ht (h4 b hm).2 hb)
  have new' : ∀ {b : Addr}, OwnAt σ j s' b → b ∈ a :: fp d ∨ (F b = none ∧ Z.H0 b = none ∧ ¬ Own σ env b) := fun {b} hb => by
    rcases hb with hb | hb
    · rw [ha] at hb; cases hb; exact .inl List.mem_cons_self
    · rw [hf'] at hb; exact hn b hb
  have hF : Same F H' := fun b u eb => hH b u (R.fh _ _ eb) fun hm => by
    rw [(h4 b hm).1] at eb; cases eb
  have stay : ∀ {l : Nat} {t : Slot}, j ≠ l → env[l]? = some t → isOwn t = true → ∀ b, OwnAt σ l t b → ∀ o, H b = some o → H' b = some o := fun {l t} hl el ht b hb o eo => hH b o eo (off hl el ht hb)
  refine ⟨⟨hF, R.gf, R.f0, R.gn, R.fn, ?_, ?_, by rw [List.length_set]; exact R.len, ?_, ?_, ?_, R.iof, ?_, R.dif, fun p hp => (R.tb p hp).keep (.refl _) fun ps z => hH _ _ z fun hm => ?_⟩, fun hfp => ⟨.refl _, .refl _, ?_, hd, fun b u _ k _ => k, ?_, ?_, by rw [List.length_set]⟩⟩
  · intro b u eb k k2 k3
    refine hH b u (R.frame b u eb k k2 k3) fun hm => ?_
    have q := R.slot j s es
    rcases hk with ⟨rfl, _⟩ | ⟨rfl, _⟩
    · obtain ⟨a2, q1, _, _, q4⟩ := q
      rw [ha] at q1; cases q1
      rw [(q4 b hm).2] at eb; cases eb
    · obtain ⟨a2, q1, _, _, q4⟩ := q
      rw [ha] at q1; cases q1
      rcases (q4 b hm).2 with z | ⟨p, hp, _, hx⟩
      · rw [z] at eb; cases eb
      · exact k2 ((R.di p hp).choose_spec.2.2 b hx)
  · intro b u eb
    obtain ⟨u', e'⟩ := R.dom b u eb
    exact hd b u' e'
  · intro l t el
    by_cases h : j = l
    · subst h
      rw [List.getElem?_set_self hj] at el
      cases el
      have q := R.slot j s es
      rcases hk with ⟨rfl, rfl⟩ | ⟨rfl, rfl⟩
      · obtain ⟨a2, q1, _, _, q4⟩ := q
        rw [ha] at q1; cases q1
        refine ⟨a, ha, hc, nd, fun b hb => ?_⟩
        rcases List.mem_cons.mp hb with rfl | hb
        · exact q4 _ List.mem_cons_self
        · rcases hn b hb with z | ⟨z1, z2, _⟩
          · exact q4 b z
          · exact ⟨z1, z2⟩
      · obtain ⟨a2, q1, _, _, q4⟩ := q
        rw [ha] at q1; cases q1
        refine ⟨a, ha, hc, nd, fun b hb => ?_⟩
        rcases List.mem_cons.mp hb with rfl | hb
        · exact q4 _ List.mem_cons_self
        · rcases hn b hb with z | ⟨z1, z2, _⟩
          · exact q4 b z
          · exact ⟨z1, .inl z2⟩
    · rw [List.getElem?_set_ne h] at el
      have q := R.slot l t el
      cases t with
      | un => trivial
      | fz x m => exact q
      | ow x m => obtain ⟨b, e1, e2, e3, e4⟩ := q; exact ⟨b, e1, e2, e3.at_ (stay h el rfl b (.inl e1)), e4⟩
      | io x => obtain ⟨b, e1, e2, e3, e4⟩ := q; exact ⟨b, e1, e2, e3.at_ (stay h el rfl b (.inl e1)), e4⟩
      | dp x => obtain ⟨b, e1, e2, e3, e4⟩ := q; exact ⟨b, e1, e2.at_ (fun c hc' => stay h el rfl c ((List.mem_cons.mp hc').imp (fun z => by rw [z]; exact e1) id)), e3, e4⟩
      | di x => obtain ⟨b, e1, e2, e3, e4⟩ := q; exact ⟨b, e1, e2.at_ (fun c hc' => stay h el rfl c ((List.mem_cons.mp hc').imp (fun z => by rw [z]; exact e1) id)), e3, e4⟩
  · intro l m t u b el ht em hu hb hb'
    by_cases hl : j = l
    · by_cases hm' : j = m
      · exact hl.symm.trans hm'
      · subst hl
        rw [List.getElem?_set_self hj] at el
        cases el
        rw [List.getElem?_set_ne hm'] at em
        rcases new' hb with z | ⟨_, _, z⟩
        · exact (off hm' em hu hb' z).elim
        · exact (z ⟨m, u, em, hu, hb'⟩).elim
    · by_cases hm' : j = m
      · subst hm'
        rw [List.getElem?_set_self hj] at em
        cases em
        rw [List.getElem?_set_ne hl] at el
        rcases new' hb' with z | ⟨_, _, z⟩
        · exact (off hl el ht hb z).elim
        · exact (z ⟨l, t, el, ht, hb⟩).elim
      · rw [List.getElem?_set_ne hl] at el
        rw [List.getElem?_set_ne hm'] at em
        exact R.dist l m t u b el ht em hu hb hb'
  · intro p hp
    obtain ⟨x, e1, e2⟩ := R.io p hp
    have : j ≠ p.1 := fun z => by
      rw [← z, es] at e1
      cases e1
      rcases hs with z | z <;> cases z
    exact ⟨x, by rw [List.getElem?_set_ne this]; exact e1, e2⟩
  · intro p hp
    obtain ⟨x, e1, e2, e3⟩ := R.di p hp
    by_cases h : j = p.1
    · rw [← h, es] at e1
      cases e1
      rcases hk with ⟨z, _⟩ | ⟨_, rfl⟩
      · cases z
      · exact ⟨d', by rw [← h]; exact List.getElem?_set_self hj, e2, e3⟩
    · exact ⟨x, by rw [List.getElem?_set_ne h]; exact e1, e2, e3⟩
  · obtain ⟨o, eo, nt⟩ := h2.there _ hm
    rw [z] at eo; cases eo
    exact nt _ rfl
  · intro b u eb nb _
    exact hH b u eb fun hm => nb (own1 b hm)
  · rintro b ⟨l, t, el, ht, hb⟩
    by_cases h : j = l
    · subst h
      rw [List.getElem?_set_self hj] at el
      cases el
      refine .inl (own1 b ?_)
      rcases hb with hb | hb
      · rw [ha] at hb; cases hb; exact List.mem_cons_self
      · rw [hf'] at hb; exact hfp b hb
    · rw [List.getElem?_set_ne h] at el
      exact .inl ⟨l, t, el, ht, hb⟩
  · intro l x ex
    by_cases h : j = l
    · subst h
      rcases hs with rfl | rfl <;> simp [rd, es] at ex
    · refine ⟨x, ?_⟩
      rw [← ex]
      simp only [rd, List.getElem?_set_ne h]
end

structure FDX (P : Program) (w : World) (K : PySem.W.Frag) (mg : Str → Option Value) (tbs : List (Addr × Str)) (base : Heap) (k : Nat) (x : Str) (n : Nat) (dm ms : List Bool) (Φ : DF) : Prop where
  ex : ∃ (f : Addr) (fd : FuncData) (ps : List Str), FnG P w K mg base k f fd ps (spX K mg tbs dm ms Φ) ∧ mg x = some (.ref f) ∧ PySem.W.keepIn K (.ref f) = true ∧ Binds K fd ps [] ∧ ps.length = n
structure MDX (P : Program) (w : World) (K : PySem.W.Frag) (mg : Str → Option Value) (tbs : List (Addr × Str)) (base : Heap) (k : Nat) (cn m : Str) (n : Nat) (dm ms : List Bool) (Φ : DF) : Prop where
  ex : ∃ (C f : Addr) (fd : FuncData) (ps : List Str), FnG P w K mg base k f fd ps (spX K mg tbs dm ms Φ) ∧ mg cn = some (.ref C) ∧ Cls K C ∧ Meth K C m f ∧ Binds K fd ps [] ∧ ps.length = n
structure KDX (P : Program) (w : World) (K : PySem.W.Frag) (mg : Str → Option Value) (tbs : List (Addr × Str)) (base : Heap) (k : Nat) (cn : Str) (ms : List Bool) (Φ : DF) : Prop where
  ex : ∃ (C f : Addr) (fd : FuncData) (ps : List Str), FnG P w K mg base k f fd ps (spX K mg tbs [true] (true :: ms) Φ) ∧ mg cn = some (.ref C) ∧ Mk K C f ∧ Binds K fd ps []
section
variable {tbs : List (Addr × Str)} {P : Program} {w : World} {K : PySem.W.Frag} {mg : Str → Option Value} {base : Heap} {j k n : Nat} {dm ms : List Bool} {Φ : DF} {f C : Addr} {fd : FuncData} {ps : List Str} {x cn m : Str}
theorem FDX.mono (h : FDX P w K mg tbs base j x n dm ms Φ) (hk : j ≤ k) : FDX P w K mg tbs base k x n dm ms Φ := by
  obtain ⟨f, fd, ps, h1, h2⟩ := h.ex
  exact ⟨f, fd, ps, h1.mono hk, h2⟩
theorem MDX.mono (h : MDX P w K mg tbs base j cn m n dm ms Φ) (hk : j ≤ k) : MDX P w K mg tbs base k cn m n dm ms Φ := by
  obtain ⟨C, f, fd, ps, h1, h2⟩ := h.ex
  exact ⟨C, f, fd, ps, h1.mono hk, h2⟩
theorem KDX.mono (h : KDX P w K mg tbs base j cn ms Φ) (hk : j ≤ k) : KDX P w K mg tbs base k cn ms Φ := by
  obtain ⟨C, f, fd, ps, h1, h2⟩ := h.ex
  exact ⟨C, f, fd, ps, h1.mono hk, h2⟩
theorem FDX.of (F : FnG P w K mg base k f fd ps (spX K mg tbs dm ms Φ)) (hm : mg x = some (.ref f)) (hk : PySem.W.keepIn K (.ref f) = true) (hb : Binds K fd ps []) : FDX P w K mg tbs base k x ps.length dm ms Φ := ⟨f, fd, ps, F, hm, hk, hb, rfl⟩
theorem MDX.of (F : FnG P w K mg base k f fd ps (spX K mg tbs dm ms Φ)) (hm : mg cn = some (.ref C)) (hc : Cls K C) (mt : Meth K C m f) (hb : Binds K fd ps []) : MDX P w K mg tbs base k cn m ps.length dm ms Φ := ⟨C, f, fd, ps, F, hm, hc, mt, hb, rfl⟩
theorem KDX.of (F : FnG P w K mg base k f fd ps (spX K mg tbs [true] (true :: ms) Φ)) (hm : mg cn = some (.ref C)) (mk : Mk K C f) (hb : Binds K fd ps []) : KDX P w K mg tbs base k cn ms Φ := ⟨C, f, fd, ps, F, hm, mk, hb⟩
end
section
variable {tbs : List (Addr × Str)} {X : Cx} {Z : Zx} {W : WX} {pos p : Pos} {k n : Nat} {dm ms : List Bool} {Φ : DF} {x : Str} {e : Expr} {es : List Expr} {wa : DA}
end

section
variable {tbs : List (Addr × Str)} {X : Cx} {Z : Zx} {W : WX} {pos pos' p : Pos} {o e v : Expr} {es : List Expr} {w wv : DW} {wa : DA} {cn f m x : Str} {fl : List Str} {k n : Nat} {dm ms : List Bool} {Φ : DF} {apos : Pos} {pl : Sem Bool}
variable {id : String} {name : Str} {cpos p2 : Pos}
end
end DL

set_option maxHeartbeats 2000000
namespace DL
open PySem PySem.Spec L2
section
variable {X : Cx} {Z : Zx} {W : WX} {pos : Pos} {tg : Expr}
end
end DL

set_option maxHeartbeats 2000000
namespace DL
open PySem PySem.Spec PyProof.Rows L2
section
variable {X : Cx} {pos : Pos} {a b c d : Expr} {ta tb tc td : TE}
end
section
variable {X : Cx} {Z : Zx} {W : WX} {pos : Pos} {a b c d : Expr} {wa wb wc wd : DW}
end
end DL

set_option maxHeartbeats 2000000
namespace DL
open PySem PySem.Spec PyProof.Rows L2
section
variable {X : Cx} {pos : Pos} {k v : Expr} {tk tv : TE}
end
section
variable {X : Cx} {Z : Zx} {W : WX} {pos : Pos} {k v : Expr} {wk wv : DW}
end
end DL

namespace DL
open PySem PySem.Spec L2
section
variable {K : PySem.W.Frag} {mg : Str → Option Value} {Z : Zx} {F G H F' G' H' B : Hp} {σ : Sg} {env env' : DEnv}
end
section
variable {X : Cx} {Z : Zx} {W : WX} {pos : Pos} {tg : Expr}
end
end DL

namespace DL
open PySem PySem.Spec L2
section
variable {K : PySem.W.Frag} {mg : Str → Option Value} {Z : Zx} {F G H F' G' H' : Hp} {σ : Sg} {env env' : DEnv}
/-- an own list without a name, behind what comes later -/
theorem RT.extO {v : V} {d : D} {n : Bool} (h : RT K mg Z F G H σ env v (.ow d n)) (e : Ext σ env env' F G H F' G' H') : RT K mg Z F' G' H' σ env' v (.ow d n) := by
  obtain ⟨a, rfl, h1, h2, h3, h4⟩ := h
  obtain ⟨u, eu, nt⟩ := h2.noTbl
  refine ⟨a, rfl, e.n a u eu h1 h3, (h2.mono (sel_same e.f e.g)).at_ fun o eo => e.h a o eo h3 (by rw [eu] at eo; cases eo; exact nt), fun z => (e.o a z).elim h3 fun q => ?_, h4⟩
  rw [eu] at q; cases q
theorem RT.lst {v : V} {xs : List D} {n : Bool} (h : RT K mg Z F G H σ env v (.ow (.list xs) n)) : ∃ a vs, v = .ref a ∧ H a = some (.lst vs) ∧ Rps K mg (sel n G F) vs xs ∧ F a = none ∧ ¬ Own σ env a ∧ Z.H0 a = none := by
  obtain ⟨a, rfl, h1, h2, h3, h4⟩ := h
  rcases h2 with ⟨es, vs, e1, e2, e3⟩ | ⟨es, vs, e1, e2, e3, e4⟩ | ⟨es, vs, e1, e2, e3, e4⟩ | ⟨cn, fs, C, dx, fvs, e1, e2, e3, e4, e5⟩
  · cases e1; exact ⟨a, vs, rfl, e2, e3, h1, h3, h4⟩
  · cases e1
  · cases e1
  · cases e1
end
/-- [e1, e2], both new own lists that stay owned -/
def dTwo (wa wb : DW) : DW := fun env P E => wa env (fun t1 e1 => ∃ xs n1, t1 = .ow (.list xs) n1 ∧ wb e1 (fun t2 e2 => ∃ ys n2, t2 = .ow (.list ys) n2 ∧ ∀ a1 a2, P (.dp (.two a1 xs a2 ys)) e2) E) E
/-- told[k].m(..), told a list of two own lists -/
def twoD (k : Bool) (a1 : Addr) (xs : List D) (a2 : Addr) (ys ds : List D) : D := if k then .two a1 xs a2 ds else .two a1 ds a2 ys
def dMutI (j : Nat) (k : Bool) (fm : FM) (wa : DA) : DW := fun env P E => ∃ a1 xs a2 ys, deepAt env j = some (.two a1 xs a2 ys) ∧ wa env (fun ts e1 => ∃ x, frzL e1 ts = some x ∧ ∃ xs ys, deepAt x.2.2 j = some (.two a1 xs a2 ys) ∧
  fm (if k then ys else xs) x.1 false x.2.1 fun ds' n' d => P (.fz d n') (putDp x.2.2 j (twoD k a1 xs a2 ys ds'))) E
section
variable {X : Cx} {Z : Zx} {W : WX} {pos pos' p apos : Pos} {e1 e2 e : Expr} {es : List Expr} {w1 w2 : DW} {wa : DA} {x : Str}
theorem d_two (ha : DE X Z W e1 w1) (hb : DE X Z W e2 w2) (hs1 : starEach [e1, e2] X.env = (false, eval e1 X.env) :: starEach [e2] X.env := by rfl) (hs2 : starEach [e2] X.env = (false, eval e2 X.env) :: starEach [] X.env := by rfl) : DE X Z W (.List [e1, e2] pos) (dTwo w1 w2) := by
  refine PE.of (pe_lst (pa_cons ha (pa_cons hb pa_nil hs2) hs1)) fun σ H Q ⟨F, G, env, P, E, R, w, q, qe⟩ => ?_
  refine ⟨F, G, env, _, E, R, w, fun t1 env1 F1 G1 H1 v1 ⟨xs, n1, et, p1⟩ R1 x1 r1 nw1 => ?_, qe⟩
  subst et
  refine ⟨F1, G1, env1, _, E, R1, p1, fun t2 env2 F2 G2 H2 v2 ⟨ys, n2, et, p2⟩ R2 x2 r2 nw2 => ?_, qe⟩
  subst et
  obtain ⟨b1, eb1, hb1⟩ := nw1
  obtain ⟨b2, eb2, hb2⟩ := nw2
  obtain ⟨c1, vs1, ec1, k1, rs1, _, _, _⟩ := r1.lst
  obtain ⟨a1, vs, ea1, g1, rr1, f1, o1, z1⟩ := (RT.extO r1 x2).lst
  obtain ⟨a2, ws, ea2, g2, rr2, f2, o2, z2⟩ := r2.lst
  have e1 : c1 = b1 := by rw [ec1] at eb1; exact V.ref.inj eb1
  have e2 : a1 = b1 := by rw [ea1] at eb1; exact V.ref.inj eb1
  have e3 : a2 = b2 := by rw [ea2] at eb2; exact V.ref.inj eb2
  rw [e1] at k1
  rw [← e2] at k1 hb1
  rw [← e3] at hb2
  subst ea1 ea2
  have ne : a1 ≠ a2 := fun z => by rw [z] at k1; rw [k1] at hb2; cases hb2
  refine ⟨small64 (show 2 < 64 by decide), fun p' hp => ?_⟩
  have n1' : a1 ≠ p' := fun z => by rw [z] at g1; rw [hp] at g1; cases g1
  have n2' : a2 ≠ p' := fun z => by rw [z] at g2; rw [hp] at g2; cases g2
  have hF := snone R2.fh hp
  have own : OwD X.K X.mg F2 (upd H2 p' (.lst [.ref a1, .ref a2])) p' (.two a1 xs a2 ys) :=
    ⟨.two upd_same (by rw [upd_ne n1']; exact g1) (rr1.mono (sel_le R2.gf)) (by rw [upd_ne n2']; exact g2) (rr2.mono (sel_le R2.gf)), .inr ⟨_, _, _, _, rfl⟩⟩
  have nd : (p' :: fp (.two a1 xs a2 ys)).Nodup := by
    show [p', a1, a2].Nodup
    simp [n1'.symm, n2'.symm, ne]
  have mem : ∀ b ∈ p' :: fp (.two a1 xs a2 ys), b = p' ∨ b = a1 ∨ b = a2 := fun b hb => by
    have hb : b ∈ [p', a1, a2] := hb
    simpa using hb
  refine q _ env2 F2 G2 _ _ (p2 a1 a2) (R2.grow (same_upd hp)) ((x1.trans x2).trans (Ext.grow (same_upd hp))) ⟨p', rfl, own, nd, fun b hb => ?_⟩ ⟨p', rfl, fun b hb => ?_⟩
  · rcases mem b hb with rfl | rfl | rfl
    · exact ⟨hF, R2.not_own hp, R2.h0 hp⟩
    · exact ⟨f1, o1, z1⟩
    · exact ⟨f2, o2, z2⟩
  · rcases mem b hb with rfl | rfl | rfl
    · exact noneB (x1.trans x2).d hp
    · exact hb1
    · exact noneB x1.d hb2
theorem mutI_env {F G H : Hp} {σ : Sg} {env : DEnv} {j : Nat} {k : Bool} {a a1 a2 : Addr} {ws : List V} {xs ys ds' : List D} (R : EnvR X.K X.mg Z F G H σ env) (e : deepAt env j = some (.two a1 xs a2 ys)) (ha : σ[j]? = some (some (.ref a))) (rw' : Rps X.K X.mg F ws ds') :
    EnvR X.K X.mg Z F G (upd H (if k then a2 else a1) (.lst ws)) σ (putDp env j (twoD k a1 xs a2 ys ds')) ∧ Ext σ env (putDp env j (twoD k a1 xs a2 ys ds')) F G H F G (upd H (if k then a2 else a1) (.lst ws)) := by
  obtain ⟨s, a', es, ho, hf, hs, ea, h2, h3, h4⟩ := deep_slot R e
  rw [ha] at ea
  cases ea
  have hnd : [a, a1, a2].Nodup := h3
  simp only [List.nodup_cons, List.mem_cons, List.mem_nil_iff, or_false, not_or, List.nodup_nil, and_true, not_false_eq_true] at hnd
  obtain ⟨⟨d1, d2⟩, d3⟩ := hnd
  obtain ⟨hv, _⟩ := h2
  cases hv with
  | frz r => cases r
  | two k0 k1 r1 k2 r2 =>
  have keep : ∀ c o, H c = some o → c ≠ (if k then a2 else a1) → upd H (if k then a2 else a1) (.lst ws) c = some o := fun c o eo hc => by rw [upd_ne hc]; exact eo
  have own : OwD X.K X.mg F (upd H (if k then a2 else a1) (.lst ws)) a (twoD k a1 xs a2 ys ds') := by
    cases k
    · exact ⟨.two (keep _ _ k0 d1) upd_same rw' (keep _ _ k2 fun z => d3 z.symm) r2, .inr ⟨_, _, _, _, rfl⟩⟩
    · exact ⟨.two (keep _ _ k0 d2) (keep _ _ k1 d3) r1 upd_same rw', .inr ⟨_, _, _, _, rfl⟩⟩
  have efp : fp (twoD k a1 xs a2 ys ds') = fp (.two a1 xs a2 ys) := by cases k <;> rfl
  have hin : (if k then a2 else a1) ∈ a :: fp (.two a1 xs a2 ys) := by
    show _ ∈ [a, a1, a2]
    cases k <;> simp
  obtain ⟨R', x'⟩ := R.mutD (H' := upd H (if k then a2 else a1) (.lst ws)) (d' := twoD k a1 xs a2 ys ds') e ha own (by rw [efp]; exact h3)
    (fun b hb => .inl (List.mem_cons_of_mem _ (by rw [efp] at hb; exact hb))) (fun b o eo hb => keep b o eo fun z => hb (by rw [z]; exact hin)) fun b o eo => by
      by_cases q : b = (if k then a2 else a1)
      · rw [q]; exact ⟨_, upd_same⟩
      · exact ⟨o, keep b o eo q⟩
  exact ⟨R', x' fun b hb => List.mem_cons_of_mem _ (by rw [efp] at hb; exact hb)⟩
theorem mutI_imp {fm : FM} {r : V → List V → Hp → VK → Prop} {j : Nat} {k : Bool}
    (hf : ∀ (B H : Hp) (a : Addr) (vs xs : List V) (ds es : List D) (n m : Bool) (k : List D → Bool → D → Prop) (Q : VK) (S : Bool → Hp), H a = some (.lst vs) → Rps X.K X.mg (S n) vs ds → Rps X.K X.mg (S m) xs es →
      (∀ p q, Same (S p) (S (p && q)) ∧ Same (S q) (S (p && q))) → (∀ p, Same (S p) H) → fm ds es n m k → (∀ ds' n' d v ws, k ds' n' d → Rps X.K X.mg (S n') ws ds' → Rp X.K X.mg (S n') v d → Q v (upd H a (.lst ws))) → r (.ref a) xs H Q)
    {σ : Sg} {H : Hp} {Q : VK} (h : tD X.K X.mg Z W (dMutI j k fm wa) σ H Q) : ∃ a b c vs, σ[j]? = some (some (.ref a)) ∧ H a = some (.lst [.ref b, .ref c]) ∧ H (if k then c else b) = some (.lst vs) ∧ tDA X.K X.mg Z W wa σ H fun xs H2 => r (.ref (if k then c else b)) xs H2 Q := by
  obtain ⟨F, G, env, P, E, R, ⟨a1, xs, a2, ys, e0, w⟩, q, qe⟩ := h
  obtain ⟨s, a, es, ho, hff, hs, ea, h2, h3, h4⟩ := deep_slot R e0
  obtain ⟨hv, _⟩ := h2
  cases hv with
  | frz r => cases r
  | two k0 k1 r1 k2 r2 =>
  rename_i vs ws
  refine ⟨a, a1, a2, (if k then ws else vs), ea, k0, by cases k <;> assumption, F, G, env, _, E, R, w, fun ts e1 F1 G1 H1 us ⟨x, ex, xs1, ys1, eo, p⟩ R1 x1 rr1 => ?_, qe⟩
  obtain ⟨F2, G2, R2, x2, rr2⟩ := RTs.frz R1 rr1 ex
  obtain ⟨s1, a', es1, ho1, hff1, hs1, ea1, h21, h31, h41⟩ := deep_slot R2 eo
  rw [ea] at ea1
  cases ea1
  obtain ⟨hv1, _⟩ := h21
  cases hv1 with
  | frz r => cases r
  | two g0 g1 t1 g2 t2 =>
  rename_i vs1 ws1
  have hb : H1 (if k then a2 else a1) = some (.lst (if k then ws1 else vs1)) := by cases k <;> assumption
  have hr : Rps X.K X.mg F2 (if k then ws1 else vs1) (if k then ys1 else xs1) := by cases k <;> assumption
  refine hf F2 H1 (if k then a2 else a1) (if k then ws1 else vs1) us (if k then ys1 else xs1) x.1 false x.2.1 _ Q (fun b => sel b G2 F2) hb hr rr2 (fun p q => ⟨sel_and R2.gf, sel_and' R2.gf⟩) (fun p => R2.selH) p fun ds' n' d v ws pk rw' rv => ?_
  obtain ⟨R3, x3⟩ := mutI_env (k := k) (ws := ws) (ds' := ds') R2 eo ea (rw'.mono (sel_le R2.gf))
  exact q _ _ F2 G2 _ v pk R3 ((x1.trans x2).trans x3) rv trivial
variable {id : String} {name : Str} {cpos p2 p3 : Pos} {i : Int} {jj : Nat}
theorem two_at {k : Bool} {b c : Addr} : atI [V.ref b, V.ref c] (if k then 1 else 0) = some (.ref (if k then c else b)) := by cases k <;> rfl
theorem d_mutI {fm : FM} (j : Nat) (k : Bool) (hf : MutD X id fm) (slot : PySem.Slot "list" name id) (hty : typeOf (.builtin id) = pure (.type "method_descriptor")) (ha : DAr X Z W (e :: es) wa) (hi : i = (if k then 1 else 0) := by rfl)
    (hN : X.N[j]? = some x := by rfl) (hv : Vis X.env.scope x := by first | exact Or.inl rfl | exact Or.inr (Or.inl rfl) | exact Or.inr (Or.inr rfl)) (hd : (x == ("__debug__" : Str)) = false := by decide) (hcd : (x == ("__classdict__" : Str)) = false := by decide)
    (hbase : attributeBase (.Subscript (.Name x p) (.Constant (.int i) jj p3) p2) name X.env (eval (.Subscript (.Name x p) (.Constant (.int i) jj p3) p2) X.env) = eval (.Subscript (.Name x p) (.Constant (.int i) jj p3) p2) X.env := by rfl)
    (hfew : ((backTo cpos (starEach (e :: es) X.env)).all (fun x => !x.1) && (backToKw cpos (keywordEach [] X.env)).all (fun x => x.1.isSome) && decide ((e :: es).length + ([] : List Keyword).length + (if ([] : List Keyword).isEmpty then 0 else 1) < 30)) = true := by rfl)
    (hline : (apos.endLine == cpos.line) = true := by rfl) (hs : starEach (e :: es) X.env = (false, eval e X.env) :: starEach es X.env := by rfl) (hplain : (backTo cpos (starEach es X.env)).any (·.1) = false := by rfl) :
    DE X Z W (.Call (.Attribute (.Subscript (.Name x p) (.Constant (.int i) jj p3) p2) name apos) (e :: es) [] cpos) (dMutI j k fm wa) := by
  obtain ⟨r, hr, hk⟩ := hf
  refine PE.of (pe_bm PySem.F.plainAttrs_list slot hty hr (pe_ix ix_list (pe_var hN hv hd hcd) pe_int (fun _ _ => rfl)) ha hbase hfew hline hs hplain) fun σ H Q h => ?_
  obtain ⟨a, b, c, vs, k1, k2, k3, k4⟩ := mutI_imp hk h
  refine ⟨.ref a, k1, a, _, i, .ref (if k then c else b), rfl, rfl, SqL.of k2, by rw [hi]; exact two_at, ?_⟩
  exact ⟨.inl ⟨rfl, vs, SqL.of k3⟩, k4⟩
theorem d_mutI0 {fm : FM} (j : Nat) (k : Bool) (hf : MutD X id fm) (slot : PySem.Slot "list" name id) (hty : typeOf (.builtin id) = pure (.type "method_descriptor")) (hi : i = (if k then 1 else 0) := by rfl)
    (hN : X.N[j]? = some x := by rfl) (hv : Vis X.env.scope x := by first | exact Or.inl rfl | exact Or.inr (Or.inl rfl) | exact Or.inr (Or.inr rfl)) (hd : (x == ("__debug__" : Str)) = false := by decide) (hcd : (x == ("__classdict__" : Str)) = false := by decide)
    (hbase : attributeBase (.Subscript (.Name x p) (.Constant (.int i) jj p3) p2) name X.env (eval (.Subscript (.Name x p) (.Constant (.int i) jj p3) p2) X.env) = eval (.Subscript (.Name x p) (.Constant (.int i) jj p3) p2) X.env := by rfl)
    (hline : (apos.endLine == cpos.line) = true := by rfl) : DE X Z W (.Call (.Attribute (.Subscript (.Name x p) (.Constant (.int i) jj p3) p2) name apos) [] [] cpos) (dMutI j k fm dNil) := by
  obtain ⟨r, hr, hk⟩ := hf
  refine PE.of (pe_bm0 PySem.F.plainAttrs_list slot hty hr (pe_ix ix_list (pe_var hN hv hd hcd) pe_int (fun _ _ => rfl)) hbase hline) fun σ H Q h => ?_
  obtain ⟨a, b, c, vs, k1, k2, k3, F, G, env, P, E, R, w1, w2, w3⟩ := mutI_imp hk h
  refine ⟨.ref a, k1, a, _, i, .ref (if k then c else b), rfl, rfl, SqL.of k2, by rw [hi]; exact two_at, ?_⟩
  exact ⟨.inl ⟨rfl, vs, SqL.of k3⟩, w2 [] env F G H [] w1 R .refl trivial⟩
end
section
variable {w1 w2 : DW} {wa : DA} {env : DEnv} {P : T → DEnv → Prop} {E : Str → DEnv → Prop}
theorem x_two (h : w1 env (fun t1 e1 => ∃ xs n1, t1 = .ow (.list xs) n1 ∧ w2 e1 (fun t2 e2 => ∃ ys n2, t2 = .ow (.list ys) n2 ∧ ∀ a1 a2, P (.dp (.two a1 xs a2 ys)) e2) E) E) : dTwo w1 w2 env P E := h
theorem x_mutI {j : Nat} {k : Bool} {fm : FM} {a1 a2 : Addr} {xs ys : List D} (e : deepAt env j = some (.two a1 xs a2 ys)) (h : wa env (fun ts e1 => ∃ x, frzL e1 ts = some x ∧ ∃ xs ys, deepAt x.2.2 j = some (.two a1 xs a2 ys) ∧
  fm (if k then ys else xs) x.1 false x.2.1 fun ds' n' d => P (.fz d n') (putDp x.2.2 j (twoD k a1 xs a2 ys ds'))) E) : dMutI j k fm wa env P E := ⟨a1, xs, a2, ys, e, h⟩
end
end DL

namespace P
open PySem PySem.Spec L2 DL
def b_is_whole : DSt :=
  (dRet (dAndV (dIsi "int" (dVar 0)) (dNotV (dIsi "bool" (dVar 0)))))
def b_need_places (Φ_is_whole : DF) : DSt :=
  (dIf (dOrT (dNotT (dTB (dCall [false] Φ_is_whole (dCons (dVar 0) dNil)))) (dNotT (dTB (dChain fLe fLe (dC (.int 1)) (dVar 0) (dC (.int 1000000000000000000000000000000))))))
  (dRaise "NoPlaces")
  dSkip)
def b_Layout___init__ : DSt :=
  (dSeq (dSetA "Layout" "width" 0 (dVar 1))
  (dSetA "Layout" "steps" 0 (dVar 2)))
def b_flat_one (Φ_Layout___init__ : DF) : DSt :=
  (dSeq (dIf (dOrT (dTB (dOp (fIs false) (dVar 1) (dC .none))) (dTB (dOp fEq (dVar 1) (dVar 0))))
  (dRet (dMake "Layout" [false, false] Φ_Layout___init__ (dCons (dVar 0) (dCons (dLst (dCons (dTup (dCons (dC (.int 0)) (dCons (dC (.int 1)) dNil))) dNil)) dNil))))
  dSkip)
  (dRet (dMake "Layout" [false, false] Φ_Layout___init__ (dCons (dVar 0) (dCons (dIfE (dTB (dOp fEq (dVar 1) (dC (.int 0)))) (dLst (dCons (dTup (dCons (dC (.int 0)) (dCons (dC (.int 0)) dNil))) dNil)) (dLst (dCons (dTup (dCons (dC (.int 0)) (dCons (dC (.int 1)) dNil))) (dCons (dTup (dCons (dVar 1) (dCons (dC (.int 0)) dNil))) dNil)))) dNil)))))
def b_is_many : DSt :=
  (dRet (dIsi2 "list" "tuple" (dVar 0)))
def b_deed_of (Φ_is_whole : DF) (Φ_is_many : DF) : DSt :=
  (dSeq (dIf (dOrT (dNotT (dTB (dCall [false] Φ_is_many (dCons (dVar 0) dNil)))) (dOrT (dTB (dOp fEq (dCB fLen (dCons (dVar 0) dNil)) (dC (.int 0)))) (dNotT (dTB (dIsi "str" (dOp fIx (dVar 0) (dC (.int 0))))))))
  (dRet (dC .none))
  dSkip)
  (dSeq (dIf (dAndT (dTB (dOp fEq (dOp fIx (dVar 0) (dC (.int 0))) (dC (.str ("turn" : Str))))) (dTB (dOp fEq (dCB fLen (dCons (dVar 0) dNil)) (dC (.int 1)))))
  (dRet (dTup (dCons (dC (.str ("turn" : Str))) dNil)))
  dSkip)
  (dSeq (dIf (dAndT (dTB (dOp (fIn false) (dOp fIx (dVar 0) (dC (.int 0))) (dTup (dCons (dC (.str ("over" : Str))) (dCons (dC (.str ("under" : Str))) dNil))))) (dAndT (dTB (dOp fEq (dCB fLen (dCons (dVar 0) dNil)) (dC (.int 2)))) (dTB (dCall [false] Φ_is_whole (dCons (dOp fIx (dVar 0) (dC (.int 1))) dNil)))))
  (dRet (dTup (dCons (dOp fIx (dVar 0) (dC (.int 0))) (dCons (dOp fIx (dVar 0) (dC (.int 1))) dNil))))
  dSkip)
  (dRet (dC .none)))))
@[irreducible] def c_deed_of_1 : DSt :=
  (dRet (dC .none))
@[irreducible] def c_deed_of_2 (Φ_is_whole : DF) : DSt :=
  (dSeq (dIf (dAndT (dTB (dOp (fIn false) (dOp fIx (dVar 0) (dC (.int 0))) (dTup (dCons (dC (.str ("over" : Str))) (dCons (dC (.str ("under" : Str))) dNil))))) (dAndT (dTB (dOp fEq (dCB fLen (dCons (dVar 0) dNil)) (dC (.int 2)))) (dTB (dCall [false] Φ_is_whole (dCons (dOp fIx (dVar 0) (dC (.int 1))) dNil)))))
  (dRet (dTup (dCons (dOp fIx (dVar 0) (dC (.int 0))) (dCons (dOp fIx (dVar 0) (dC (.int 1))) dNil))))
  dSkip)
  c_deed_of_1)
@[irreducible] def c_deed_of_3 (Φ_is_whole : DF) : DSt :=
  (dSeq (dIf (dAndT (dTB (dOp fEq (dOp fIx (dVar 0) (dC (.int 0))) (dC (.str ("turn" : Str))))) (dTB (dOp fEq (dCB fLen (dCons (dVar 0) dNil)) (dC (.int 1)))))
  (dRet (dTup (dCons (dC (.str ("turn" : Str))) dNil)))
  dSkip)
  (c_deed_of_2 Φ_is_whole))
def c_deed_of (Φ_is_whole : DF) (Φ_is_many : DF) : DSt :=
  (dSeq (dIf (dOrT (dNotT (dTB (dCall [false] Φ_is_many (dCons (dVar 0) dNil)))) (dOrT (dTB (dOp fEq (dCB fLen (dCons (dVar 0) dNil)) (dC (.int 0)))) (dNotT (dTB (dIsi "str" (dOp fIx (dVar 0) (dC (.int 0))))))))
  (dRet (dC .none))
  dSkip)
  (c_deed_of_3 Φ_is_whole))
theorem e_deed_of (Φ_is_whole : DF) (Φ_is_many : DF) : b_deed_of Φ_is_whole Φ_is_many = c_deed_of Φ_is_whole Φ_is_many := by
  unfold c_deed_of c_deed_of_3 c_deed_of_2 c_deed_of_1
  rfl
def b_shift_of : DSt :=
  (dRet (dCB fMax (dCons (dC (.int 0)) (dCons (dOp fSub (dVar 0) (dOp fMulA (dC (.int 2)) (dVar 1))) dNil))))
def b_Layout_moved_by (Φ_shift_of : DF) : DSt :=
  (dRet (dCall [false, false] Φ_shift_of (dCons (dAtt "Layout" "width" (dVar 0)) (dCons (dVar 1) dNil))))
def b_Layout_mirrored : DSt :=
  (dSeq (dSet 3 (dOp fAdd (dLc (dIt (dSl (dAtt "Layout" "steps" (dVar 0)) (dPt (dC (.int 1))) dNo)) (gN 4) dYes (dOp fIx (dVar 4) (dC (.int 0))) [4]) (dLst (dCons (dAtt "Layout" "width" (dVar 0)) dNil))))
  (dSeq (dSet 5 (dLc (dZip (dCons (dAtt "Layout" "steps" (dVar 0)) (dCons (dVar 3) dNil))) (gTp [(gN 4), (gN 6)]) (dTB (dOp fGt (dVar 6) (dVar 1))) (dTup (dCons (dVar 6) (dCons (dOp fIx (dVar 4) (dC (.int 1))) dNil))) [4, 6]))
  (dRet (dLc (dIt (dOrE (dRevS (dVar 5)) (dRevL (dVar 5)))) (gTp [(gN 6), (gN 7)]) dYes (dTup (dCons (dOp fSub (dOp fAdd (dVar 2) (dC (.int 1))) (dVar 6)) (dCons (dVar 7) dNil))) [6, 7]))))
def b_wide_behind : DSt :=
  (dRet (dIfE (dTB (dOp fEq (dVar 1) (dTup (dCons (dC (.str ("turn" : Str))) dNil)))) (dVar 0) (dCB fMax (dCons (dOp fIx (dVar 1) (dC (.int 1))) (dCons (dOp fSub (dVar 0) (dOp fIx (dVar 1) (dC (.int 1)))) dNil)))))
def b_sum_of : DSt :=
  (dSeq (dSet 2 (dLst dNil))
  (dSeq (dSet 3 (dLst (dCons (dC (.int 0)) (dCons (dC (.int 0)) dNil))))
  (dSeq (dSet 4 (dLst (dCons (dC (.int 0)) (dCons (dC (.int 0)) dNil))))
  (dSeq (dFor (dIt (dSortSc (dIt (dOp fAdd (dVar 0) (dVar 1))) (gN 6) dYes (dOp fIx (dVar 6) (dC (.int 0))) [6])) (gN 5)
  (dSeq (dFor (dEnumT (dCons (dTup (dCons (dVar 0) (dCons (dVar 1) dNil))) dNil)) (gTp [(gN 7), (gN 8)])
  (dWhile (dAndT (dTB (dOp fLt (dOp fIx (dVar 4) (dVar 7)) (dCB fLen (dCons (dVar 8) dNil)))) (dTB (dOp fLe (dOp fIx (dOp fIx (dVar 8) (dOp fIx (dVar 4) (dVar 7))) (dC (.int 0))) (dVar 5))))
  (dSeq (dSetI 3 (dVar 7) (dOp fIx (dOp fIx (dVar 8) (dOp fIx (dVar 4) (dVar 7))) (dC (.int 1))))
  (dAugI 4 fAddA (dVar 7) (dC (.int 1))))))
  (dIf (dOrT (dTB (dOp fEq (dVar 2) (dLst dNil))) (dTB (dOp fNe (dOp fIx (dOp fIx (dVar 2) (dNeg (dC (.int 1)))) (dC (.int 1))) (dCB fSum (dCons (dVar 3) dNil)))))
  (dExp (dMut 2 fApp (dCons (dTup (dCons (dVar 5) (dCons (dCB fSum (dCons (dVar 3) dNil)) dNil))) dNil)))
  dSkip)))
  (dRet (dVar 2))))))
def b_Layout_behind (Φ_Layout___init__ : DF) (Φ_sum_of : DF) (Φ_wide_behind : DF) (Φ_Layout_mirrored : DF) (Φ_Layout_moved_by : DF) : DSt :=
  (dSeq (dIf (dTB (dOp fEq (dVar 1) (dTup (dCons (dC (.str ("turn" : Str))) dNil))))
  (dRet (dMake "Layout" [false, false] Φ_Layout___init__ (dCons (dAtt "Layout" "width" (dVar 0)) (dCons (dMeth "Layout" "mirrored" [false, false, false] Φ_Layout_mirrored (dVar 0) (dCons (dC (.int 0)) (dCons (dOp fSub (dAtt "Layout" "width" (dVar 0)) (dC (.int 1))) dNil))) dNil))))
  dSkip)
  (dSeq (dSet 2 (dOp fIx (dVar 1) (dC (.int 1))))
  (dSeq (dSet 3 (dMeth "Layout" "moved_by" [false, false] Φ_Layout_moved_by (dVar 0) (dCons (dVar 2) dNil)))
  (dSeq (dSet 4 (dLc (dIt (dAtt "Layout" "steps" (dVar 0))) (gTp [(gN 5), (gN 6)]) (dTB (dOp fLt (dVar 5) (dVar 2))) (dTup (dCons (dOp fAdd (dVar 5) (dVar 3)) (dCons (dVar 6) dNil))) [5, 6]))
  (dSeq (dSet 7 (dMeth "Layout" "mirrored" [false, false, false] Φ_Layout_mirrored (dVar 0) (dCons (dVar 2) (dCons (dOp fAdd (dOp fSub (dOp fMulA (dC (.int 2)) (dVar 2)) (dC (.int 1))) (dVar 3)) dNil))))
  (dRet (dMake "Layout" [false, false] Φ_Layout___init__ (dCons (dCall [false, false] Φ_wide_behind (dCons (dAtt "Layout" "width" (dVar 0)) (dCons (dVar 1) dNil))) (dCons (dCall [false, false] Φ_sum_of (dCons (dCall [false, false] Φ_sum_of (dCons (dLst (dCons (dTup (dCons (dC (.int 0)) (dCons (dC (.int 0)) dNil))) dNil)) (dCons (dVar 4) dNil))) (dCons (dVar 7) dNil))) dNil)))))))))
def b_Layout_lets : DSt :=
  (dRet (dOrV (dOp fEq (dVar 1) (dTup (dCons (dC (.str ("turn" : Str))) dNil))) (dChain fLe fLt (dC (.int 1)) (dOp fIx (dVar 1) (dC (.int 1))) (dAtt "Layout" "width" (dVar 0)))))
def b_read_row (Φ_Layout_behind : DF) (Φ_Layout_lets : DF) (Φ_deed_of : DF) (Φ_flat_one : DF) (Φ_is_many : DF) : DSt :=
  (dSeq (dIf (dOrT (dNotT (dTB (dCall [false] Φ_is_many (dCons (dVar 1) dNil)))) (dTB (dOp fGt (dCB fLen (dCons (dVar 1) dNil)) (dC (.int 40)))))
  (dRet (dC .none))
  dSkip)
  (dSeq (dSet 2 (dLst dNil))
  (dSeq (dSet 3 (dCallD [false, false] Φ_flat_one [.none] (dCons (dVar 0) dNil)))
  (dSeq (dFor (dIt (dVar 1)) (gN 4)
  (dSeq (dSet 5 (dCall [false] Φ_deed_of (dCons (dVar 4) dNil)))
  (dSeq (dIf (dOrT (dTB (dOp (fIs false) (dVar 5) (dC .none))) (dNotT (dTB (dMeth "Layout" "lets" [false, false] Φ_Layout_lets (dVar 3) (dCons (dVar 5) dNil)))))
  (dRet (dC .none))
  dSkip)
  (dSeq (dSet 3 (dMeth "Layout" "behind" [false, false] Φ_Layout_behind (dVar 3) (dCons (dVar 5) dNil)))
  (dExp (dMut 2 fApp (dCons (dVar 5) dNil)))))))
  (dRet (dVar 2))))))
@[irreducible] def c_read_row_1 (Φ_Layout_behind : DF) : DSt :=
  (dSeq (dSet 3 (dMeth "Layout" "behind" [false, false] Φ_Layout_behind (dVar 3) (dCons (dVar 5) dNil)))
  (dExp (dMut 2 fApp (dCons (dVar 5) dNil))))
@[irreducible] def c_read_row_2 (Φ_Layout_behind : DF) (Φ_Layout_lets : DF) (Φ_deed_of : DF) : DSt :=
  (dSeq (dSet 5 (dCall [false] Φ_deed_of (dCons (dVar 4) dNil)))
  (dSeq (dIf (dOrT (dTB (dOp (fIs false) (dVar 5) (dC .none))) (dNotT (dTB (dMeth "Layout" "lets" [false, false] Φ_Layout_lets (dVar 3) (dCons (dVar 5) dNil)))))
  (dRet (dC .none))
  dSkip)
  (c_read_row_1 Φ_Layout_behind)))
@[irreducible] def c_read_row_3 (Φ_Layout_behind : DF) (Φ_Layout_lets : DF) (Φ_deed_of : DF) (Φ_flat_one : DF) : DSt :=
  (dSeq (dSet 2 (dLst dNil))
  (dSeq (dSet 3 (dCallD [false, false] Φ_flat_one [.none] (dCons (dVar 0) dNil)))
  (dSeq (dFor (dIt (dVar 1)) (gN 4)
  (c_read_row_2 Φ_Layout_behind Φ_Layout_lets Φ_deed_of))
  (dRet (dVar 2)))))
def c_read_row (Φ_Layout_behind : DF) (Φ_Layout_lets : DF) (Φ_deed_of : DF) (Φ_flat_one : DF) (Φ_is_many : DF) : DSt :=
  (dSeq (dIf (dOrT (dNotT (dTB (dCall [false] Φ_is_many (dCons (dVar 1) dNil)))) (dTB (dOp fGt (dCB fLen (dCons (dVar 1) dNil)) (dC (.int 40)))))
  (dRet (dC .none))
  dSkip)
  (c_read_row_3 Φ_Layout_behind Φ_Layout_lets Φ_deed_of Φ_flat_one))
theorem e_read_row (Φ_Layout_behind : DF) (Φ_Layout_lets : DF) (Φ_deed_of : DF) (Φ_flat_one : DF) (Φ_is_many : DF) : b_read_row Φ_Layout_behind Φ_Layout_lets Φ_deed_of Φ_flat_one Φ_is_many = c_read_row Φ_Layout_behind Φ_Layout_lets Φ_deed_of Φ_flat_one Φ_is_many := by
  unfold c_read_row c_read_row_3 c_read_row_2 c_read_row_1
  rfl
def b_layouts (Φ_Layout_behind : DF) (Φ_flat_one : DF) : DSt :=
  (dSeq (dSet 3 (dLst (dCons (dCallK [false, false] Φ_flat_one (dCons (dVar 0) dNil) (dVar 2)) dNil)))
  (dSeq (dFor (dIt (dVar 1)) (gN 4)
  (dExp (dMut 3 fApp (dCons (dMeth "Layout" "behind" [false, false] Φ_Layout_behind (dOp fIx (dVar 3) (dNeg (dC (.int 1)))) (dCons (dVar 4) dNil)) dNil))))
  (dRet (dVar 3))))
def b_row_of (Φ_read_row : DF) (Φ_need_places : DF) : DSt :=
  (dSeq (dExp (dCall [false] Φ_need_places (dCons (dVar 0) dNil)))
  (dSeq (dSet 2 (dCall [false, false] Φ_read_row (dCons (dVar 0) (dCons (dVar 1) dNil))))
  (dSeq (dIf (dTB (dOp (fIs false) (dVar 2) (dC .none)))
  (dRaise "NoRow")
  dSkip)
  (dRet (dVar 2)))))
def b_behind_all (Φ_layouts : DF) (Φ_row_of : DF) : DSt :=
  (dRet (dOp fIx (dCallD [false, false, false] Φ_layouts [.none] (dCons (dVar 0) (dCons (dCall [false, false] Φ_row_of (dCons (dVar 0) (dCons (dVar 1) dNil))) dNil))) (dNeg (dC (.int 1)))))
def b_stretches (Φ_behind_all : DF) : DSt :=
  (dRet (dCB fList (dCons (dAtt "Layout" "steps" (dCall [false, false] Φ_behind_all (dCons (dVar 0) (dCons (dVar 1) dNil)))) dNil)))
def b_by_layers (Φ_behind_all : DF) : DSt :=
  (dSeq (dSet 2 (dCall [false, false] Φ_behind_all (dCons (dVar 0) (dCons (dVar 1) dNil))))
  (dSeq (dSet 3 (dDct false))
  (dSeq (dSet 4 (dOp fAdd (dLc (dIt (dSl (dAtt "Layout" "steps" (dVar 2)) (dPt (dC (.int 1))) dNo)) (gN 5) dYes (dOp fIx (dVar 5) (dC (.int 0))) [5]) (dLst (dCons (dAtt "Layout" "width" (dVar 2)) dNil))))
  (dSeq (dFor (dZip (dCons (dAtt "Layout" "steps" (dVar 2)) (dCons (dVar 4) dNil))) (gTp [(gTp [(gN 6), (gN 7)]), (gN 8)])
  (dSetI 3 (dVar 7) (dOp fSub (dOp fAdd (dGt2 (dVar 3) (dVar 7) (dC (.int 0))) (dVar 8)) (dVar 6))))
  (dRet (dSortIt (dVar 3)))))))
end P

namespace LA
open PySem PySem.Spec L2 DL
def b_law_reel : DSt :=
  (dSeq (dSet 1 (dOp fPow (dC (.int 3)) (dC (.int 60))))
  (dSeq (dFor (dIt (dSl (dVar 0) dNo (dPt (dC (.int 63))))) (gN 2)
  (dSet 1 (dOp fMod (dOp fAdd (dOp fAdd (dOp fMulA (dVar 1) (dVar 1)) (dOp fMod (dVar 2) (dC (.int 1000000000000000003)))) (dC (.int 11))) (dOp fSub (dOp fMulA (dOp fPow (dC (.int 2)) (dC (.int 64))) (dOp fPow (dC (.int 2)) (dC (.int 63)))) (dC (.int 1))))))
  (dSeq (dSet 3 (dLc (dIt (dSl (dVar 0) dNo (dPt (dC (.int 63))))) (gN 2) (dTB (dOp fGe (dVar 2) (dOp fPow (dC (.int 10)) (dC (.int 18))))) (dOp fSub (dVar 2) (dOp fPow (dC (.int 10)) (dC (.int 18)))) [2]))
  (dRet (dLst (dCons (dVar 3) (dCons (dOp fAdd (dLc (dIt (dSl (dVar 0) dNo (dPt (dC (.int 63))))) (gN 2) dYes (dOp fMod (dVar 2) (dC (.int 1000003))) [2]) (dLst (dCons (dC (.int 41)) dNil))) (dCons (dC (.int 0)) (dCons (dVar 1) dNil)))))))))
def b_law_draw : DSt :=
  (dSeq (dIf (dTB (dOp fNe (dOp fIx (dVar 0) (dC (.int 0))) (dLst dNil)))
  (dSeq (dSet 2 (dOp fIx (dOp fIx (dVar 0) (dC (.int 0))) (dC (.int 0))))
  (dSeq (dSetI 0 (dC (.int 0)) (dOp fAdd (dOp fMulA (dLst (dCons (dOp fFdv (dVar 2) (dVar 1)) dNil)) (dCB fInt (dCons (dOp fGe (dVar 2) (dVar 1)) dNil))) (dSl (dOp fIx (dVar 0) (dC (.int 0))) (dPt (dC (.int 1))) dNo)))
  (dRet (dOp fMod (dVar 2) (dVar 1)))))
  dSkip)
  (dSeq (dSetI 0 (dC (.int 2)) (dOp fAdd (dOp fIx (dVar 0) (dC (.int 2))) (dC (.int 1))))
  (dSeq (dSet 3 (dOp fIx (dOp fIx (dVar 0) (dC (.int 1))) (dOp fMod (dOp fIx (dVar 0) (dC (.int 2))) (dCB fLen (dCons (dOp fIx (dVar 0) (dC (.int 1))) dNil)))))
  (dSeq (dSet 4 (dOp fAdd (dOp fAdd (dOp fMulA (dOp fIx (dVar 0) (dC (.int 3))) (dOp fIx (dVar 0) (dC (.int 3)))) (dOp fMulA (dOp fAdd (dVar 3) (dC (.int 7))) (dC (.int 69621)))) (dOp fMulA (dOp fIx (dVar 0) (dC (.int 2))) (dC (.int 1000003)))))
  (dSeq (dSetI 0 (dC (.int 3)) (dOp fMod (dVar 4) (dOp fSub (dOp fMulA (dOp fPow (dC (.int 2)) (dC (.int 64))) (dOp fPow (dC (.int 2)) (dC (.int 63)))) (dC (.int 1)))))
  (dRet (dOp fMod (dOp fFdv (dOp fIx (dVar 0) (dC (.int 3))) (dOp fPow (dC (.int 2)) (dC (.int 40)))) (dVar 1))))))))
def b_law_wide : DSt :=
  (dRet (dIfE (dTB (dOp fEq (dOp fIx (dVar 1) (dC (.int 0))) (dC (.str ("turn" : Str))))) (dVar 0) (dCB fMax (dCons (dOp fIx (dVar 1) (dC (.int 1))) (dCons (dOp fSub (dVar 0) (dOp fIx (dVar 1) (dC (.int 1)))) dNil)))))
def b_law_deed (Φ_law_draw : DF) : DSt :=
  (dSeq (dIf (dOrT (dTB (dOp fEq (dVar 1) (dC (.int 1)))) (dTB (dOp fEq (dCall [true, false] Φ_law_draw (dCons (dVar 0) (dCons (dC (.int 6)) dNil))) (dC (.int 0)))))
  (dRet (dTup (dCons (dC (.str ("turn" : Str))) dNil)))
  dSkip)
  (dSeq (dSet 2 (dLst (dCons (dOp fAdd (dC (.int 1)) (dCall [true, false] Φ_law_draw (dCons (dVar 0) (dCons (dOp fSub (dVar 1) (dC (.int 1))) dNil)))) (dCons (dCB fMax (dCons (dC (.int 1)) (dCons (dOp fFdv (dVar 1) (dC (.int 2))) dNil))) (dCons (dOp fSub (dVar 1) (dC (.int 1))) (dCons (dC (.int 1)) (dCons (dCB fMax (dCons (dC (.int 1)) (dCons (dOp fSub (dOp fFdv (dVar 1) (dC (.int 2))) (dCall [true, false] Φ_law_draw (dCons (dVar 0) (dCons (dC (.int 3)) dNil)))) dNil))) dNil)))))))
  (dRet (dTup (dCons (dOp fIx (dLst (dCons (dC (.str ("over" : Str))) (dCons (dC (.str ("under" : Str))) dNil))) (dCall [true, false] Φ_law_draw (dCons (dVar 0) (dCons (dC (.int 2)) dNil)))) (dCons (dOp fIx (dVar 2) (dCall [true, false] Φ_law_draw (dCons (dVar 0) (dCons (dC (.int 5)) dNil)))) dNil))))))
def b_law_row (Φ_law_draw : DF) (Φ_law_wide : DF) (Φ_law_deed : DF) : DSt :=
  (dSeq (dSet 3 (dLst dNil))
  (dSeq (dSet 4 (dVar 1))
  (dSeq (dFor (dRange (dCons (dCall [true, false] Φ_law_draw (dCons (dVar 0) (dCons (dOp fAdd (dVar 2) (dC (.int 1))) dNil))) dNil)) (gN 5)
  (dSeq (dExp (dMut 3 fApp (dCons (dCall [true, false] Φ_law_deed (dCons (dVar 0) (dCons (dVar 4) dNil))) dNil)))
  (dSet 4 (dCall [false, false] Φ_law_wide (dCons (dVar 4) (dCons (dOp fIx (dVar 3) (dNeg (dC (.int 1)))) dNil))))))
  (dRet (dVar 3)))))
def b_law_dressed (Φ_law_draw : DF) (Φ_law_dressed : DF) : DSt :=
  (dSeq (dIf (dTB (dIsi "tuple" (dVar 1)))
  (dSeq (dSet 2 (dLc (dIt (dVar 1)) (gN 3) dYes (dCall [true, false] Φ_law_dressed (dCons (dVar 0) (dCons (dVar 3) dNil))) [3]))
  (dRet (dIfE (dTB (dOp fEq (dCall [true, false] Φ_law_draw (dCons (dVar 0) (dCons (dC (.int 2)) dNil))) (dC (.int 0)))) (dVar 2) (dCB fTuple (dCons (dVar 2) dNil)))))
  dSkip)
  (dRet (dVar 1)))
def b_law_about : DSt :=
  (dRet (dLc (dIt (dOrE (dRevS (dVar 0)) (dRevL (dVar 0)))) (gTp [(gN 1), (gN 2)]) dYes (dTup (dCons (dVar 1) (dCons (dNotV (dVar 2)) dNil))) [1, 2]))
def b_law_done (Φ_law_about : DF) : DSt :=
  (dSeq (dIf (dTB (dOp fEq (dOp fIx (dVar 1) (dC (.int 0))) (dC (.str ("turn" : Str)))))
  (dRet (dLc (dIt (dOrE (dRevS (dVar 0)) (dRevL (dVar 0)))) (gN 2) dYes (dCall [false] Φ_law_about (dCons (dVar 2) dNil)) [2]))
  dSkip)
  (dSeq (dSet 3 (dOp fIx (dVar 1) (dC (.int 1))))
  (dSeq (dSet 4 (dLst dNil))
  (dSeq (dFor (dRange2 (dCons (dC (.int 1)) (dCons (dOp fAdd (dCB fMax (dCons (dVar 3) (dCons (dOp fSub (dCB fLen (dCons (dVar 0) dNil)) (dVar 3)) dNil))) (dC (.int 1))) dNil))) (gN 5)
  (dSeq (dSet 6 (dIfE (dTB (dOp fLe (dVar 5) (dVar 3))) (dOp fIx (dVar 0) (dOp fSub (dVar 3) (dVar 5))) (dLst dNil)))
  (dSeq (dSet 7 (dIfE (dTB (dOp fLe (dOp fAdd (dVar 3) (dVar 5)) (dCB fLen (dCons (dVar 0) dNil)))) (dCall [false] Φ_law_about (dCons (dOp fIx (dVar 0) (dOp fSub (dOp fAdd (dVar 3) (dVar 5)) (dC (.int 1)))) dNil)) (dLst dNil)))
  (dExp (dMut 4 fApp (dCons (dIfE (dTB (dOp fEq (dOp fIx (dVar 1) (dC (.int 0))) (dC (.str ("over" : Str))))) (dOp fAdd (dVar 7) (dVar 6)) (dOp fAdd (dVar 6) (dVar 7))) dNil))))))
  (dRet (dOrE (dRevS (dVar 4)) (dRevL (dVar 4))))))))
def b_law_piles (Φ_law_done : DF) : DSt :=
  (dSeq (dSet 2 (dLst (dCons (dLc (dRange (dCons (dVar 0) dNil)) (gN 3) dYes (dLst (dCons (dTup (dCons (dVar 3) (dCons (dC (.bool true)) dNil))) dNil)) [3]) dNil)))
  (dSeq (dFor (dIt (dVar 1)) (gN 4)
  (dExp (dMut 2 fApp (dCons (dCall [false, false] Φ_law_done (dCons (dOp fIx (dVar 2) (dNeg (dC (.int 1)))) (dCons (dVar 4) dNil))) dNil))))
  (dRet (dVar 2))))
end LA

namespace K03
open PySem PySem.Spec L2 DL
def b_law_steps : DSt :=
  (dRet (dLc (dRange (dCons (dCB fLen (dCons (dVar 0) dNil)) dNil)) (gN 1) (dOrT (dTB (dOp fEq (dVar 1) (dC (.int 0)))) (dTB (dOp fNe (dOp fIx (dVar 0) (dVar 1)) (dOp fIx (dVar 0) (dOp fSub (dVar 1) (dC (.int 1))))))) (dTup (dCons (dVar 1) (dCons (dOp fIx (dVar 0) (dVar 1)) dNil))) [1]))
def b_law (Φ_law_steps : DF) (Φ_stretches : DF) (Φ_by_layers : DF) (Φ_law_dressed : DF) (Φ_law_piles : DF) (Φ_law_row : DF) (Φ_law_draw : DF) (Φ_law_reel : DF) : DSt :=
  (dSeq (dSet 1 (dCall [false] Φ_law_reel (dCons (dVar 0) dNil)))
  (dSeq (dFor (dRange (dCons (dOp fAdd (dC (.int 1)) (dCB fMin (dCons (dCB fLen (dCons (dVar 0) dNil)) (dCons (dC (.int 11)) dNil)))) dNil)) (gN 2)
  (dSeq (dSet 3 (dOp fIx (dLst (dCons (dOp fAdd (dC (.int 1)) (dCall [true, false] Φ_law_draw (dCons (dVar 1) (dCons (dC (.int 12)) dNil)))) (dCons (dOp fAdd (dC (.int 1)) (dCall [true, false] Φ_law_draw (dCons (dVar 1) (dCons (dC (.int 40)) dNil)))) dNil))) (dCall [true, false] Φ_law_draw (dCons (dVar 1) (dCons (dC (.int 2)) dNil)))))
  (dSeq (dSet 4 (dCall [true, false, false] Φ_law_row (dCons (dVar 1) (dCons (dVar 3) (dCons (dC (.int 10)) dNil)))))
  (dSeq (dSet 5 (dLc (dIt (dOp fIx (dCall [false, false] Φ_law_piles (dCons (dVar 3) (dCons (dVar 4) dNil))) (dNeg (dC (.int 1))))) (gN 6) dYes (dCB fLen (dCons (dVar 6) dNil)) [6]))
  (dSeq (dSet 7 (dCall [true, false] Φ_law_dressed (dCons (dVar 1) (dCons (dCB fTuple (dCons (dVar 4) dNil)) dNil))))
  (dSeq (dSet 8 (dCB fRepr (dCons (dVar 7) dNil)))
  (dFor (dRange (dCons (dC (.int 2)) dNil)) (gN 9)
  (dSeq (dSet 10 (dTwo (dCall [false, false] Φ_stretches (dCons (dVar 3) (dCons (dVar 7) dNil))) (dCall [false, false] Φ_by_layers (dCons (dVar 3) (dCons (dVar 7) dNil)))))
  (dSeq (dSet 11 (dLst (dCons (dCall [false] Φ_law_steps (dCons (dVar 5) dNil)) (dCons (dLc (dIt (dSortU (dVar 5))) (gN 12) dYes (dTup (dCons (dVar 12) (dCons (dBM "list" fCountL (dVar 5) (dCons (dVar 12) dNil)) dNil))) [12]) dNil))))
  (dSeq (dIf (dOrT (dTB (dOp fNeS (dQuiet [10] (dCB fRepr (dCons (dVar 10) dNil))) (dCB fRepr (dCons (dVar 11) dNil)))) (dTB (dOp fNeS (dCB fRepr (dCons (dVar 7) dNil)) (dVar 8))))
  (dRet (dC (.bool false)))
  dSkip)
  (dSeq (dExp (dMutI 10 false fApp (dCons (dTup (dCons (dC (.int 0)) (dCons (dC (.int 0)) dNil))) dNil)))
  (dSeq (dExp (dMutI 10 true fRev dNil))
  (dExp (dMutI 10 true fApp (dCons (dC .none) dNil)))))))))))))))
  (dRet (dC (.bool true)))))
@[irreducible] def c_law_1 : DSt :=
  (dSeq (dExp (dMutI 10 false fApp (dCons (dTup (dCons (dC (.int 0)) (dCons (dC (.int 0)) dNil))) dNil)))
  (dSeq (dExp (dMutI 10 true fRev dNil))
  (dExp (dMutI 10 true fApp (dCons (dC .none) dNil)))))
@[irreducible] def c_law_2 : DSt :=
  (dSeq (dIf (dOrT (dTB (dOp fNeS (dQuiet [10] (dCB fRepr (dCons (dVar 10) dNil))) (dCB fRepr (dCons (dVar 11) dNil)))) (dTB (dOp fNeS (dCB fRepr (dCons (dVar 7) dNil)) (dVar 8))))
  (dRet (dC (.bool false)))
  dSkip)
  c_law_1)
@[irreducible] def c_law_3 (Φ_law_steps : DF) (Φ_stretches : DF) (Φ_by_layers : DF) : DSt :=
  (dSeq (dSet 10 (dTwo (dCall [false, false] Φ_stretches (dCons (dVar 3) (dCons (dVar 7) dNil))) (dCall [false, false] Φ_by_layers (dCons (dVar 3) (dCons (dVar 7) dNil)))))
  (dSeq (dSet 11 (dLst (dCons (dCall [false] Φ_law_steps (dCons (dVar 5) dNil)) (dCons (dLc (dIt (dSortU (dVar 5))) (gN 12) dYes (dTup (dCons (dVar 12) (dCons (dBM "list" fCountL (dVar 5) (dCons (dVar 12) dNil)) dNil))) [12]) dNil))))
  c_law_2))
@[irreducible] def c_law_4 (Φ_law_steps : DF) (Φ_stretches : DF) (Φ_by_layers : DF) : DSt :=
  (dFor (dRange (dCons (dC (.int 2)) dNil)) (gN 9)
  (c_law_3 Φ_law_steps Φ_stretches Φ_by_layers))
@[irreducible] def c_law_5 (Φ_law_steps : DF) (Φ_stretches : DF) (Φ_by_layers : DF) (Φ_law_dressed : DF) (Φ_law_piles : DF) (Φ_law_row : DF) (Φ_law_draw : DF) : DSt :=
  (dSeq (dSet 3 (dOp fIx (dLst (dCons (dOp fAdd (dC (.int 1)) (dCall [true, false] Φ_law_draw (dCons (dVar 1) (dCons (dC (.int 12)) dNil)))) (dCons (dOp fAdd (dC (.int 1)) (dCall [true, false] Φ_law_draw (dCons (dVar 1) (dCons (dC (.int 40)) dNil)))) dNil))) (dCall [true, false] Φ_law_draw (dCons (dVar 1) (dCons (dC (.int 2)) dNil)))))
  (dSeq (dSet 4 (dCall [true, false, false] Φ_law_row (dCons (dVar 1) (dCons (dVar 3) (dCons (dC (.int 10)) dNil)))))
  (dSeq (dSet 5 (dLc (dIt (dOp fIx (dCall [false, false] Φ_law_piles (dCons (dVar 3) (dCons (dVar 4) dNil))) (dNeg (dC (.int 1))))) (gN 6) dYes (dCB fLen (dCons (dVar 6) dNil)) [6]))
  (dSeq (dSet 7 (dCall [true, false] Φ_law_dressed (dCons (dVar 1) (dCons (dCB fTuple (dCons (dVar 4) dNil)) dNil))))
  (dSeq (dSet 8 (dCB fRepr (dCons (dVar 7) dNil)))
  (c_law_4 Φ_law_steps Φ_stretches Φ_by_layers))))))
def c_law (Φ_law_steps : DF) (Φ_stretches : DF) (Φ_by_layers : DF) (Φ_law_dressed : DF) (Φ_law_piles : DF) (Φ_law_row : DF) (Φ_law_draw : DF) (Φ_law_reel : DF) : DSt :=
  (dSeq (dSet 1 (dCall [false] Φ_law_reel (dCons (dVar 0) dNil)))
  (dSeq (dFor (dRange (dCons (dOp fAdd (dC (.int 1)) (dCB fMin (dCons (dCB fLen (dCons (dVar 0) dNil)) (dCons (dC (.int 11)) dNil)))) dNil)) (gN 2)
  (c_law_5 Φ_law_steps Φ_stretches Φ_by_layers Φ_law_dressed Φ_law_piles Φ_law_row Φ_law_draw))
  (dRet (dC (.bool true)))))
theorem e_law (Φ_law_steps : DF) (Φ_stretches : DF) (Φ_by_layers : DF) (Φ_law_dressed : DF) (Φ_law_piles : DF) (Φ_law_row : DF) (Φ_law_draw : DF) (Φ_law_reel : DF) : b_law Φ_law_steps Φ_stretches Φ_by_layers Φ_law_dressed Φ_law_piles Φ_law_row Φ_law_draw Φ_law_reel = c_law Φ_law_steps Φ_stretches Φ_by_layers Φ_law_dressed Φ_law_piles Φ_law_row Φ_law_draw Φ_law_reel := by
  unfold c_law c_law_5 c_law_4 c_law_3 c_law_2 c_law_1
  rfl
end K03

namespace Lay
abbrev Steps := List (Int × Int)
/-- the value of the last step that begins no later than c -/
def val0 (v : Int) : Steps → Int → Int
  | [], _ => v
  | s :: r, c => if s.1 ≤ c then val0 s.2 r c else v
def lastv (v : Int) : Steps → Int
  | [] => v
  | s :: r => lastv s.2 r
theorem val0_app : ∀ {v : Int} {p r : Steps} {c : Int}, (∀ s ∈ p, s.1 ≤ c) → val0 v (p ++ r) c = val0 (lastv v p) r c
  | v, [], r, c, _ => rfl
  | v, s :: p, r, c, h => by
    show (if s.1 ≤ c then val0 s.2 (p ++ r) c else v) = _
    rw [if_pos (h s (by simp))]
    exact val0_app fun s hs => h s (by simp [hs])
theorem lastv_snoc : ∀ {v : Int} {p : Steps} {s : Int × Int}, lastv v (p ++ [s]) = s.2
  | v, [], s => rfl
  | v, a :: p, s => lastv_snoc (v := a.2) (p := p)
theorem val0_lt : ∀ {v : Int} {r : Steps} {c : Int}, (∀ s ∈ r, c < s.1) → val0 v r c = v
  | v, [], c, _ => rfl
  | v, s :: r, c, h => by
    show (if s.1 ≤ c then val0 s.2 r c else v) = v
    rw [if_neg (by have := h s (by simp); omega)]
/-- strictly rising -/
def SoS (S : Steps) : Prop := S.Pairwise fun a b => a.1 < b.1
/-- steady between columns -/
theorem val0_eq : ∀ {v : Int} {r : Steps} {a b : Int}, a ≤ b → (∀ s ∈ r, s.1 ≤ a ∨ b < s.1) → val0 v r a = val0 v r b
  | v, [], a, b, _, _ => rfl
  | v, s :: r, a, b, hab, h => by
    show (if s.1 ≤ a then val0 s.2 r a else v) = if s.1 ≤ b then val0 s.2 r b else v
    rcases h s (by simp) with k | k
    · rw [if_pos k, if_pos (by omega)]; exact val0_eq hab fun s hs => h s (by simp [hs])
    · rw [if_neg (by omega), if_neg (by omega)]
def compr (f : Int → Int) : Option Int → List Int → Steps
  | _, [] => []
  | pr, k :: ks => if pr = some (f k) then compr f pr ks else (k, f k) :: compr f (some (f k)) ks
def noEq : Option Int → Steps → Prop
  | _, [] => True
  | pr, s :: r => pr ≠ some s.2 ∧ noEq (some s.2) r
theorem compr_noEq {f : Int → Int} : ∀ {pr : Option Int} {ks : List Int}, noEq pr (compr f pr ks)
  | _, [] => trivial
  | pr, k :: ks => by
    unfold compr
    by_cases e : pr = some (f k)
    · rw [if_pos e]; exact compr_noEq
    · rw [if_neg e]; exact ⟨e, compr_noEq⟩
theorem compr_mem {f : Int → Int} : ∀ {pr : Option Int} {ks : List Int} {s : Int × Int}, s ∈ compr f pr ks → s.1 ∈ ks ∧ s.2 = f s.1
  | _, [], s, h => by simp [compr] at h
  | pr, k :: ks, s, h => by
    unfold compr at h
    by_cases e : pr = some (f k)
    · rw [if_pos e] at h; obtain ⟨h1, h2⟩ := compr_mem h; exact ⟨by simp [h1], h2⟩
    · rw [if_neg e] at h
      rcases List.mem_cons.mp h with rfl | h
      · exact ⟨by simp, rfl⟩
      · obtain ⟨h1, h2⟩ := compr_mem h; exact ⟨by simp [h1], h2⟩
theorem compr_SoS {f : Int → Int} : ∀ {pr : Option Int} {ks : List Int}, ks.Pairwise (· < ·) → SoS (compr f pr ks)
  | _, [], _ => .nil
  | pr, k :: ks, h => by
    obtain ⟨h1, h2⟩ := List.pairwise_cons.mp h
    unfold compr
    by_cases e : pr = some (f k)
    · rw [if_pos e]; exact compr_SoS h2
    · rw [if_neg e]; exact List.pairwise_cons.mpr ⟨fun s hs => h1 _ (compr_mem hs).1, compr_SoS h2⟩
theorem compr_len {f : Int → Int} : ∀ {pr : Option Int} {ks : List Int}, (compr f pr ks).length ≤ ks.length
  | _, [] => Nat.le_refl _
  | pr, k :: ks => by
    unfold compr
    by_cases e : pr = some (f k)
    · rw [if_pos e]; exact Nat.le_succ_of_le compr_len
    · rw [if_neg e]; exact Nat.succ_le_succ compr_len
theorem compr_val {f : Int → Int} : ∀ {ks : List Int} {c0 c : Int}, ks.Pairwise (· < ·) → (∀ k ∈ ks, c0 < k) → (∀ a b, c0 ≤ a → a ≤ b → (∀ k ∈ ks, k ≤ a ∨ b < k) → f a = f b) → c0 ≤ c → val0 (f c0) (compr f (some (f c0)) ks) c = f c
  | [], c0, c, _, _, hf, hc => hf c0 c (Int.le_refl _) hc fun _ h => nomatch h
  | k :: ks, c0, c, hp, h0, hf, hc => by
    obtain ⟨h1, h2⟩ := List.pairwise_cons.mp hp
    have hk := h0 k (by simp)
    have ih : ∀ {c : Int}, k ≤ c → val0 (f k) (compr f (some (f k)) ks) c = f c := fun hc => compr_val h2 h1 (fun a b ha hab hn => hf a b (by omega) hab fun j hj => by
      rcases List.mem_cons.mp hj with rfl | hj
      · exact .inl ha
      · exact hn j hj) hc
    have lo : c < k → f c0 = f c := fun h => hf c0 c (Int.le_refl _) hc fun j hj => .inr (by
      rcases List.mem_cons.mp hj with rfl | hj
      · exact h
      · have := h1 j hj; omega)
    unfold compr
    by_cases e : some (f c0) = some (f k)
    · rw [if_pos e]
      have e' : f c0 = f k := Option.some.inj e
      by_cases hck : c < k
      · rw [val0_lt fun s hs => by have := h1 _ (compr_mem hs).1; omega]; exact lo hck
      · rw [e']; exact ih (by omega)
    · rw [if_neg e]
      show (if k ≤ c then val0 (f k) _ c else f c0) = f c
      by_cases hck : c < k
      · rw [if_neg (by omega)]; exact lo hck
      · rw [if_pos (by omega)]; exact ih (by omega)
/-- the columns of both, in order -/
structure Cols (one other : Steps) (ks : List Int) : Prop where
  asc : ks.Pairwise (· < ·)
  mem : ∀ k, k ∈ ks ↔ k ∈ (one ++ other).map (·.1)
def both (one other : Steps) (c : Int) : Int := val0 0 one c + val0 0 other c
theorem both_eq {one other : Steps} {ks : List Int} (h : Cols one other ks) {a b : Int} (hab : a ≤ b) (hn : ∀ k ∈ ks, k ≤ a ∨ b < k) : both one other a = both one other b := by
  have key : ∀ s, s ∈ one ∨ s ∈ other → s.1 ≤ a ∨ b < s.1 := fun s hs => hn _ ((h.mem _).mpr (List.mem_map.mpr ⟨s, by simpa using hs, rfl⟩))
  unfold both
  rw [val0_eq hab fun s hs => key s (.inl hs), val0_eq (r := other) hab fun s hs => key s (.inr hs)]
theorem both_val {one other : Steps} {ks : List Int} (h : Cols one other ks) (c : Int) : val0 0 (compr (both one other) none ks) c = both one other c := by
  cases hk : ks with
  | nil =>
    have key : ∀ s, s ∈ one ∨ s ∈ other → False := fun s hs => by
      have := (h.mem s.1).mpr (List.mem_map.mpr ⟨s, by simpa using hs, rfl⟩)
      rw [hk] at this; cases this
    unfold both
    rw [val0_lt fun s hs => (key s (.inl hs)).elim, val0_lt fun s hs => (key s (.inr hs)).elim]
    rfl
  | cons k ks' =>
    have ha := h.asc
    rw [hk] at ha
    obtain ⟨h1, h2⟩ := List.pairwise_cons.mp ha
    unfold compr
    rw [if_neg (by simp)]
    show (if k ≤ c then val0 _ _ c else 0) = _
    by_cases hc : k ≤ c
    · rw [if_pos hc]
      refine compr_val h2 h1 (fun a b hka hab hn => both_eq h hab fun j hj => ?_) hc
      rw [hk] at hj
      rcases List.mem_cons.mp hj with rfl | hj
      · exact .inl hka
      · exact hn j hj
    · rw [if_neg hc]
      have key : ∀ s, s ∈ one ∨ s ∈ other → c < s.1 := fun s hs => by
        have := (h.mem s.1).mpr (List.mem_map.mpr ⟨s, by simpa using hs, rfl⟩)
        rw [hk] at this
        rcases List.mem_cons.mp this with e | e
        · omega
        · have := h1 _ e; omega
      unfold both
      rw [val0_lt fun s hs => key s (.inl hs), val0_lt fun s hs => key s (.inr hs)]
      rfl
/-- what sum_of tells -/
structure SumOf (one other r : Steps) : Prop where
  so : SoS r
  val : ∀ c, val0 0 r c = val0 0 one c + val0 0 other c
  ne : noEq none r
  mem : ∀ s ∈ r, s.1 ∈ (one ++ other).map (·.1)
  len : r.length ≤ one.length + other.length
  lo : ∀ s ∈ one ++ other, ∃ t ∈ r, t.1 ≤ s.1
theorem sum_ok {one other : Steps} {ks : List Int} (h : Cols one other ks) : SumOf one other (compr (both one other) none ks) := by
  refine ⟨compr_SoS h.asc, both_val h, compr_noEq, fun s hs => (h.mem _).mp (compr_mem hs).1, ?_, fun s hs => ?_⟩
  · refine Nat.le_trans compr_len ?_
    have : ks.length ≤ ((one ++ other).map (·.1)).length := by
      refine List.Nodup.length_le_of_subset ?_ fun k hk => (h.mem k).mp hk
      exact h.asc.imp fun h e => by omega
    simpa using this
  · have hm := (h.mem s.1).mpr (List.mem_map.mpr ⟨s, hs, rfl⟩)
    cases hk : ks with
    | nil => rw [hk] at hm; cases hm
    | cons k ks' =>
      rw [hk] at hm
      unfold compr
      rw [if_neg (by simp)]
      refine ⟨_, List.mem_cons_self, ?_⟩
      have ha := h.asc
      rw [hk] at ha
      rcases List.mem_cons.mp hm with e | e
      · simp [e]
      · have := (List.pairwise_cons.mp ha).1 _ e; exact Int.le_of_lt this
end Lay

namespace Lay
/-- where the steps end -/
def ends (W : Int) (S : Steps) : List Int := S.tail.map (·.1) ++ [W]
def prs (low W : Int) : Steps → Steps
  | [] => []
  | [s] => if W > low then [(W, s.2)] else []
  | s :: t :: r => if t.1 > low then (t.1, s.2) :: prs low W (t :: r) else prs low W (t :: r)
theorem prs_eq {low W : Int} : ∀ {S : Steps}, prs low W S = (S.zip (ends W S)).filterMap fun p => if p.2 > low then some (p.2, p.1.2) else none
  | [] => rfl
  | [s] => by
    show (if W > low then [(W, s.2)] else []) = List.filterMap _ [(s, W)]
    by_cases h : W > low <;> simp [h]
  | s :: t :: r => by
    show (if t.1 > low then (t.1, s.2) :: prs low W (t :: r) else prs low W (t :: r)) = List.filterMap _ ((s, t.1) :: (t :: r).zip (ends W (t :: r)))
    rw [prs_eq (S := t :: r)]
    by_cases h : t.1 > low <;> simp [h]
def mir (about low W : Int) (S : Steps) : Steps := (prs low W S).reverse.map fun p => (about + 1 - p.1, p.2)
theorem prs_mem {low W : Int} : ∀ {S : Steps} {p : Int × Int}, p ∈ prs low W S → low < p.1 ∧ (p.1 = W ∨ ∃ s ∈ S.tail, s.1 = p.1)
  | [], p, h => by simp [prs] at h
  | [s], p, h => by
    unfold prs at h
    by_cases e : W > low
    · rw [if_pos e] at h; rw [List.mem_singleton.mp h]; exact ⟨e, .inl rfl⟩
    · rw [if_neg e] at h; cases h
  | s :: t :: r, p, h => by
    have go : p ∈ prs low W (t :: r) → low < p.1 ∧ (p.1 = W ∨ ∃ s ∈ t :: r, s.1 = p.1) := fun h => by
      obtain ⟨h1, h2⟩ := prs_mem h
      exact ⟨h1, h2.imp id fun ⟨s, hs, e⟩ => ⟨s, List.mem_cons_of_mem _ hs, e⟩⟩
    unfold prs at h
    by_cases e : t.1 > low
    · rw [if_pos e] at h
      rcases List.mem_cons.mp h with rfl | h
      · exact ⟨e, .inr ⟨t, by simp, rfl⟩⟩
      · exact go h
    · rw [if_neg e] at h; exact go h
theorem SoS.tl {s : Int × Int} {r : Steps} (h : SoS (s :: r)) : SoS r := (List.pairwise_cons.mp h).2
theorem SoS.hd {s : Int × Int} {r : Steps} (h : SoS (s :: r)) : ∀ t ∈ r, s.1 < t.1 := (List.pairwise_cons.mp h).1
theorem prs_asc {low W : Int} : ∀ {S : Steps}, SoS S → (∀ s ∈ S, s.1 < W) → (prs low W S).Pairwise fun a b => a.1 < b.1
  | [], _, _ => .nil
  | [s], _, _ => by
    unfold prs
    by_cases e : W > low
    · rw [if_pos e]; exact List.pairwise_singleton _ _
    · rw [if_neg e]; exact .nil
  | s :: t :: r, h, hw => by
    have ih := prs_asc (low := low) h.tl fun s hs => hw s (List.mem_cons_of_mem _ hs)
    unfold prs
    by_cases e : t.1 > low
    · rw [if_pos e]
      refine List.pairwise_cons.mpr ⟨fun p hp => ?_, ih⟩
      rcases (prs_mem hp).2 with k | ⟨u, hu, k⟩
      · rw [k]; exact hw t (by simp)
      · rw [← k]; exact h.tl.hd u hu
    · rw [if_neg e]; exact ih
theorem mir_SoS {about low W : Int} {S : Steps} (h : SoS S) (hw : ∀ s ∈ S, s.1 < W) : SoS (mir about low W S) := by
  unfold mir SoS
  rw [List.pairwise_map, List.pairwise_reverse]
  exact (prs_asc h hw).imp fun {a b} hab => by show about + 1 - b.1 < about + 1 - a.1; omega
theorem val0_snoc : ∀ {v : Int} {A : Steps} {x : Int × Int} {c : Int}, SoS (A ++ [x]) → val0 v (A ++ [x]) c = if x.1 ≤ c then x.2 else val0 v A c
  | v, [], x, c, _ => rfl
  | v, a :: A, x, c, h => by
    have ih := val0_snoc (v := a.2) (c := c) (A := A) (x := x) h.tl
    have hx := SoS.hd h x (by simp)
    show (if a.1 ≤ c then val0 a.2 (A ++ [x]) c else v) = if x.1 ≤ c then x.2 else if a.1 ≤ c then val0 a.2 A c else v
    rw [ih]
    by_cases h1 : a.1 ≤ c <;> by_cases h2 : x.1 ≤ c <;> simp [h1, h2]
    omega
theorem mir_val {about low W : Int} : ∀ {S : Steps} {v x : Int}, SoS S → (∀ s ∈ S, s.1 < W) → S ≠ [] → (∀ s ∈ S.head?, s.1 ≤ x) → low ≤ x → val0 0 (mir about low W S) (about - x) = if x < W then val0 v S x else 0
  | [], _, _, _, _, h, _, _ => absurd rfl h
  | [s], v, x, _, _, _, h0, hl => by
    have h0' : s.1 ≤ x := h0 s rfl
    unfold mir prs
    by_cases e : W > low
    · rw [if_pos e]
      show (if about + 1 - W ≤ about - x then s.2 else 0) = if x < W then (if s.1 ≤ x then s.2 else v) else 0
      rw [if_pos h0']
      by_cases hx : x < W
      · rw [if_pos hx, if_pos (by omega)]
      · rw [if_neg hx, if_neg (by omega)]
    · rw [if_neg e]
      show (0 : Int) = _
      rw [if_neg (by omega)]
  | s :: t :: r, v, x, hs, hw, _, h0, hl => by
    have h0' : s.1 ≤ x := h0 s rfl
    have hst := hs.hd t (by simp)
    have htw := hw t (by simp)
    have hso := mir_SoS (about := about) (low := low) hs hw
    have e2 : val0 v (s :: t :: r) x = if t.1 ≤ x then val0 t.2 r x else s.2 := by
      show (if s.1 ≤ x then (if t.1 ≤ x then val0 t.2 r x else s.2) else v) = _
      rw [if_pos h0']
    by_cases hx : x < t.1
    · have em : mir about low W (s :: t :: r) = mir about low W (t :: r) ++ [(about + 1 - t.1, s.2)] := by
        unfold mir
        rw [prs, if_pos (by omega)]
        simp
      rw [em] at hso ⊢
      rw [val0_snoc hso, e2, if_neg (by omega : ¬ t.1 ≤ x), if_pos (by omega : x < W)]
      exact if_pos (by show about + 1 - t.1 ≤ about - x; omega)
    · have ih := mir_val (about := about) (low := low) (v := 0) (x := x) hs.tl (fun s hs => hw s (List.mem_cons_of_mem _ hs)) (by simp) (fun u hu => by cases hu; omega) hl
      have e3 : val0 0 (t :: r) x = val0 t.2 r x := by
        show (if t.1 ≤ x then val0 t.2 r x else 0) = _
        rw [if_pos (by omega)]
      rw [e3] at ih
      rw [e2, if_pos (by omega : t.1 ≤ x), ← ih]
      by_cases e : t.1 > low
      · have em : mir about low W (s :: t :: r) = mir about low W (t :: r) ++ [(about + 1 - t.1, s.2)] := by
          unfold mir
          rw [prs, if_pos e]
          simp
        rw [em] at hso ⊢
        rw [val0_snoc hso]
        exact if_neg (by show ¬ about + 1 - t.1 ≤ about - x; omega)
      · have em : mir about low W (s :: t :: r) = mir about low W (t :: r) := by
          unfold mir
          rw [prs, if_neg e]
        rw [em]
end Lay

namespace Lay
structure LayOk (W : Int) (S : Steps) : Prop where
  so : SoS S
  rng : ∀ s ∈ S, 0 ≤ s.1 ∧ s.1 < W
  zero : ∃ s ∈ S, s.1 = 0
/-- how many lie at x -/
def lay (W : Int) (S : Steps) (x : Int) : Int := if 0 ≤ x ∧ x < W then val0 0 S x else 0
def stay (l sh : Int) (S : Steps) : Steps := S.filterMap fun s => if s.1 < l then some (s.1 + sh, s.2) else none
theorem stay_mem {l sh : Int} {S : Steps} {p : Int × Int} (h : p ∈ stay l sh S) : ∃ s ∈ S, s.1 < l ∧ p.1 = s.1 + sh := by
  obtain ⟨s, hs, e⟩ := List.mem_filterMap.mp h
  by_cases k : s.1 < l
  · rw [if_pos k] at e; cases e; exact ⟨s, hs, k, rfl⟩
  · rw [if_neg k] at e; cases e
theorem stay_SoS {l sh : Int} : ∀ {S : Steps}, SoS S → SoS (stay l sh S)
  | [], _ => .nil
  | s :: r, h => by
    have ih := stay_SoS (l := l) (sh := sh) h.tl
    unfold stay
    rw [List.filterMap_cons]
    by_cases k : s.1 < l
    · rw [if_pos k]
      refine List.pairwise_cons.mpr ⟨fun p hp => ?_, ih⟩
      obtain ⟨t, ht, _, e⟩ := stay_mem hp
      have := h.hd t ht
      show s.1 + sh < p.1
      omega
    · rw [if_neg k]; exact ih
theorem stay_val {l sh c : Int} (hc : c - sh < l) : ∀ {v : Int} {S : Steps}, SoS S → val0 v (stay l sh S) c = val0 v S (c - sh)
  | v, [], _ => rfl
  | v, s :: r, h => by
    unfold stay
    rw [List.filterMap_cons]
    by_cases k : s.1 < l
    · rw [if_pos k]
      show (if s.1 + sh ≤ c then val0 s.2 (stay l sh r) c else v) = if s.1 ≤ c - sh then val0 s.2 r (c - sh) else v
      rw [stay_val hc h.tl]
      by_cases k2 : s.1 ≤ c - sh
      · rw [if_pos k2, if_pos (by omega)]
      · rw [if_neg k2, if_neg (by omega)]
    · rw [if_neg k]
      show val0 v (stay l sh r) c = if s.1 ≤ c - sh then val0 s.2 r (c - sh) else v
      rw [if_neg (by omega), val0_lt fun p hp => ?_]
      obtain ⟨t, ht, hl, _⟩ := stay_mem hp
      have := h.hd t ht
      omega
theorem stay_len {l sh : Int} {S : Steps} : (stay l sh S).length ≤ S.length := List.length_filterMap_le _ _
theorem mir_len {about low W : Int} {S : Steps} : (mir about low W S).length ≤ S.length := by
  unfold mir
  rw [List.length_map, List.length_reverse]
  suffices h : ∀ S : Steps, (prs low W S).length ≤ S.length from h S
  intro S
  rw [prs_eq]
  refine Nat.le_trans (List.length_filterMap_le _ _) ?_
  rw [List.length_zip]
  exact Nat.min_le_left _ _
theorem LayOk.head {W : Int} {S : Steps} (h : LayOk W S) : ∀ s ∈ S.head?, s.1 = 0 := by
  obtain ⟨z, hz, e⟩ := h.zero
  cases S with
  | nil => cases hz
  | cons a r =>
    intro s hs
    cases hs
    rcases List.mem_cons.mp hz with rfl | hz
    · exact e
    · have := h.so.hd z hz
      have := (h.rng a (by simp)).1
      show a.1 = 0
      omega
theorem LayOk.ne {W : Int} {S : Steps} (h : LayOk W S) : S ≠ [] := by
  obtain ⟨z, hz, e⟩ := h.zero
  exact List.ne_nil_of_mem hz
theorem mir_mem {about low W : Int} {S : Steps} {p : Int × Int} (h : p ∈ mir about low W S) : ∃ x, p.1 = about + 1 - x ∧ low < x ∧ (x = W ∨ ∃ s ∈ S, s.1 = x) := by
  unfold mir at h
  obtain ⟨q, hq, rfl⟩ := List.mem_map.mp h
  obtain ⟨h1, h2⟩ := prs_mem (List.mem_reverse.mp hq)
  exact ⟨q.1, rfl, h1, h2.imp id fun ⟨s, hs, e⟩ => ⟨s, List.mem_of_mem_tail hs, e⟩⟩
theorem prs_last {low W : Int} : ∀ {S : Steps}, S ≠ [] → low < W → ∃ p ∈ prs low W S, p.1 = W
  | [], h, _ => absurd rfl h
  | [s], _, h => by unfold prs; rw [if_pos h]; exact ⟨_, List.mem_singleton.mpr rfl, rfl⟩
  | s :: t :: r, _, h => by
    obtain ⟨p, hp, e⟩ := prs_last (S := t :: r) (by simp) h
    unfold prs
    by_cases k : t.1 > low
    · rw [if_pos k]; exact ⟨p, List.mem_cons_of_mem _ hp, e⟩
    · rw [if_neg k]; exact ⟨p, hp, e⟩
/-- about -/
theorem turn_ok {W : Int} {S : Steps} (h : LayOk W S) (hW : 1 ≤ W) : LayOk W (mir (W - 1) 0 W S) ∧ ∀ c, lay W (mir (W - 1) 0 W S) c = lay W S (W - 1 - c) := by
  refine ⟨⟨mir_SoS h.so fun s hs => (h.rng s hs).2, fun s hs => ?_, ?_⟩, fun c => ?_⟩
  · obtain ⟨x, e, hl, hx⟩ := mir_mem hs
    rcases hx with rfl | ⟨t, ht, rfl⟩
    · omega
    · have := h.rng t ht; omega
  · obtain ⟨p, hp, e⟩ := prs_last (low := 0) (W := W) h.ne (by omega)
    refine ⟨_, List.mem_map.mpr ⟨p, List.mem_reverse.mpr hp, rfl⟩, ?_⟩
    show W - 1 + 1 - p.1 = 0
    omega
  · unfold lay
    by_cases k : 0 ≤ c ∧ c < W
    · rw [if_pos k, if_pos (by omega)]
      have := mir_val (about := W - 1) (low := 0) (v := 0) (x := W - 1 - c) h.so (fun s hs => (h.rng s hs).2) h.ne (fun s hs => by have := h.head s hs; omega) (by omega)
      rw [if_pos (by omega), show W - 1 - (W - 1 - c) = c by omega] at this
      exact this
    · rw [if_neg k, if_neg (by omega)]
/-- a fold at l -/
theorem fold_ok {W l sh : Int} {S r1 r : Steps} (h : LayOk W S) (hl : 1 ≤ l) (hlW : l < W) (hsh : (2 * l ≤ W ∧ sh = W - 2 * l) ∨ (W ≤ 2 * l ∧ sh = 0)) (h1 : SumOf [(0, 0)] (stay l sh S) r1) (h2 : SumOf r1 (mir (2 * l - 1 + sh) l W S) r) :
    LayOk (l + sh) r ∧ ∀ c, 0 ≤ c → c < l + sh → lay (l + sh) r c = lay W S (c - sh) + lay W S (2 * l - 1 + sh - c) := by
  have hr1 : ∀ s ∈ r1, 0 ≤ s.1 ∧ s.1 < l + sh := fun s hs => by
    have := h1.mem s hs
    rcases List.mem_map.mp this with ⟨t, ht, e⟩
    rcases List.mem_append.mp ht with ht | ht
    · rw [List.mem_singleton.mp ht] at e; simp at e; omega
    · obtain ⟨u, hu, k1, k2⟩ := stay_mem ht
      have := h.rng u hu
      omega
  refine ⟨⟨h2.so, fun s hs => ?_, ?_⟩, fun c hc0 hc => ?_⟩
  · have := h2.mem s hs
    rcases List.mem_map.mp this with ⟨t, ht, e⟩
    rcases List.mem_append.mp ht with ht | ht
    · have := hr1 t ht; omega
    · obtain ⟨x, e2, k1, k2⟩ := mir_mem ht
      rcases k2 with rfl | ⟨u, hu, rfl⟩
      · omega
      · have := h.rng u hu; omega
  · obtain ⟨t, ht, hle⟩ := h1.lo (0, 0) (by simp)
    obtain ⟨u, hu, hle2⟩ := h2.lo t (List.mem_append_left _ ht)
    refine ⟨u, hu, ?_⟩
    have := h2.mem u hu
    rcases List.mem_map.mp this with ⟨w, hw, e⟩
    have hw0 : 0 ≤ w.1 := by
      rcases List.mem_append.mp hw with hw | hw
      · exact (hr1 w hw).1
      · obtain ⟨x, e2, k1, k2⟩ := mir_mem hw
        rcases k2 with rfl | ⟨u, hu, rfl⟩
        · omega
        · have := h.rng u hu; omega
    simp at hle
    omega
  · unfold lay
    rw [if_pos ⟨hc0, hc⟩, h2.val, h1.val]
    have e0 : val0 0 [((0 : Int), (0 : Int))] c = 0 := by
      show (if (0 : Int) ≤ c then (0 : Int) else 0) = 0
      split <;> rfl
    have e1 : val0 0 (stay l sh S) c = if 0 ≤ c - sh ∧ c - sh < W then val0 0 S (c - sh) else 0 := by
      rw [stay_val (by omega) h.so]
      by_cases k : 0 ≤ c - sh
      · rw [if_pos (by omega)]
      · rw [if_neg (by omega), val0_lt fun s hs => by have := h.rng s hs; omega]
    have e2 : val0 0 (mir (2 * l - 1 + sh) l W S) c = if 0 ≤ 2 * l - 1 + sh - c ∧ 2 * l - 1 + sh - c < W then val0 0 S (2 * l - 1 + sh - c) else 0 := by
      have := mir_val (about := 2 * l - 1 + sh) (low := l) (W := W) (v := 0) (x := 2 * l - 1 + sh - c) h.so (fun s hs => (h.rng s hs).2) h.ne (fun s hs => by have := h.head s hs; omega) (by omega)
      rw [show 2 * l - 1 + sh - (2 * l - 1 + sh - c) = c by omega] at this
      rw [this]
      by_cases k : 2 * l - 1 + sh - c < W
      · rw [if_pos k, if_pos (by omega)]
      · rw [if_neg k, if_neg (by omega)]
    rw [e0, e1, e2]
    omega
end Lay
namespace Lay
theorem stay_nil {l sh : Int} : ∀ {S : Steps}, (∀ s ∈ S, ¬ s.1 < l) → stay l sh S = []
  | [], _ => rfl
  | s :: r, h => by
    unfold stay
    rw [List.filterMap_cons, if_neg (h s (by simp))]
    exact stay_nil fun t ht => h t (by simp [ht])
theorem prs_len {low W : Int} {S : Steps} : (prs low W S).length ≤ S.length := by
  rw [prs_eq]
  refine Nat.le_trans (List.length_filterMap_le _ _) ?_
  rw [List.length_zip]
  exact Nat.min_le_left _ _
theorem both_len {l sh W : Int} : ∀ {S : Steps}, SoS S → (stay l sh S).length + (prs l W S).length ≤ S.length + 1
  | [], _ => Nat.zero_le _
  | [s], _ => by
    have h1 := stay_len (l := l) (sh := sh) (S := [s])
    have h2 := prs_len (low := l) (W := W) (S := [s])
    simp only [List.length_singleton] at h1 h2 ⊢
    omega
  | s :: t :: r, h => by
    have ih := both_len (l := l) (sh := sh) (W := W) h.tl
    have hl := prs_len (low := l) (W := W) (S := t :: r)
    have hs : (stay l sh (s :: t :: r)).length ≤ (stay l sh (t :: r)).length + 1 := by
      unfold stay
      rw [List.filterMap_cons]
      by_cases k : s.1 < l
      · rw [if_pos k]; exact Nat.le_refl _
      · rw [if_neg k]; exact Nat.le_succ _
    simp only [List.length_cons] at ih hl hs ⊢
    unfold prs
    by_cases k : t.1 > l
    · have e : stay l sh (t :: r) = [] := stay_nil fun u hu => by
        rcases List.mem_cons.mp hu with rfl | hu
        · omega
        · have := h.tl.hd u hu; omega
      rw [e] at hs
      rw [if_pos k]
      simp only [List.length_cons, List.length_nil] at hs ⊢
      omega
    · rw [if_neg k]
      omega
inductive Deed where
  | turn | fold (o : Bool) (l : Int)
  deriving DecidableEq
def Deed.lets (W : Int) : Deed → Prop
  | .turn => True
  | .fold _ l => 1 ≤ l ∧ l < W
instance (W : Int) (d : Deed) : Decidable (d.lets W) := by
  cases d with
  | turn => exact isTrue trivial
  | fold o l => exact inferInstanceAs (Decidable (1 ≤ l ∧ l < W))
def Deed.wide (W : Int) : Deed → Int
  | .turn => W
  | .fold _ l => max l (W - l)
def Deed.new (W : Int) (S : Steps) : Deed → Int → Int
  | .turn, c => lay W S (W - 1 - c)
  | .fold _ l, c => lay W S (c - max 0 (W - 2 * l)) + lay W S (2 * l - 1 + max 0 (W - 2 * l) - c)
/-- behind a deed -/
structure Stp (W : Int) (S : Steps) (d : Deed) (S' : Steps) : Prop where
  ok : LayOk (d.wide W) S'
  val : ∀ c, 0 ≤ c → c < d.wide W → lay (d.wide W) S' c = d.new W S c
  len : S'.length ≤ S.length + 2
  alt : noEq none S → noEq none S'
theorem noEq_adj : ∀ {o : Option Int} {S : Steps}, noEq o S → ∀ {A B : List Int} {a b : Int}, S.map (·.2) = A ++ a :: b :: B → a ≠ b
  | o, [], _, A, B, a, b, e => by cases A <;> cases e
  | o, s :: r, h, [], B, a, b, e => by
    have e' : s.2 :: r.map (·.2) = a :: b :: B := e
    obtain ⟨e1, e2⟩ := List.cons.inj e'
    cases r with
    | nil => cases e2
    | cons t r =>
      have e3 : t.2 = b := (List.cons.inj (show t.2 :: r.map (·.2) = b :: B from e2)).1
      obtain ⟨_, h1, _⟩ := h
      intro z
      exact h1 (by rw [e1, z, e3])
  | o, s :: r, h, x :: A, B, a, b, e => by
    have e' : s.2 :: r.map (·.2) = x :: (A ++ a :: b :: B) := e
    exact noEq_adj h.2 (List.cons.inj e').2
theorem adj_noEq : ∀ {o : Option Int} {S : Steps}, (∀ (A B : List Int) (a b : Int), S.map (·.2) = A ++ a :: b :: B → a ≠ b) → (∀ s r, S = s :: r → o ≠ some s.2) → noEq o S
  | o, [], _, _ => trivial
  | o, s :: r, h, k => by
    refine ⟨k s r rfl, adj_noEq (fun A B a b e => h (s.2 :: A) B a b (by rw [List.map_cons, e]; rfl)) fun t q e => ?_⟩
    subst e
    intro z
    exact h [] (q.map (·.2)) s.2 t.2 rfl (Option.some.inj z)
theorem prs_vals {low W : Int} : ∀ {S : Steps}, low < W → (∀ s ∈ S.tail, low < s.1) → (prs low W S).map (·.2) = S.map (·.2)
  | [], _, _ => rfl
  | [s], hW, _ => by unfold prs; rw [if_pos hW]; rfl
  | s :: t :: r, hW, h => by
    unfold prs
    rw [if_pos (h t List.mem_cons_self), List.map_cons, prs_vals (S := t :: r) hW (fun u hu => h u (List.mem_cons_of_mem _ hu))]
    rfl
theorem mir_alt {about low W : Int} {S : Steps} (hW : low < W) (h : ∀ s ∈ S.tail, low < s.1) (k : noEq none S) : noEq none (mir about low W S) := by
  have e : (mir about low W S).map (·.2) = (S.map (·.2)).reverse := by
    unfold mir
    rw [List.map_map, ← prs_vals hW h, ← List.map_reverse]
    rfl
  refine adj_noEq (fun A B a b e2 => ?_) fun _ _ _ z => nomatch z
  rw [e] at e2
  have e3 := congrArg List.reverse e2
  rw [List.reverse_reverse, List.reverse_append, List.reverse_cons, List.reverse_cons, List.append_assoc, List.append_assoc] at e3
  exact fun z => noEq_adj k e3 z.symm
theorem turn_stp {W : Int} {S : Steps} (h : LayOk W S) (hW : 1 ≤ W) : Stp W S .turn (mir (W - 1) 0 W S) := by
  obtain ⟨h1, h2⟩ := turn_ok h hW
  refine ⟨h1, fun c _ _ => h2 c, Nat.le_trans mir_len (by omega), fun k => mir_alt (by omega) (fun s hs => ?_) k⟩
  cases S with
  | nil => cases hs
  | cons t r =>
    have h3 := (List.pairwise_cons.mp h.so).1 s hs
    have h4 := (h.rng t List.mem_cons_self).1
    omega
theorem fold_stp {W l : Int} {S r1 r : Steps} {o : Bool} (h : LayOk W S) (hl : 1 ≤ l) (hlW : l < W) (h1 : SumOf [(0, 0)] (stay l (max 0 (W - 2 * l)) S) r1) (h2 : SumOf r1 (mir (2 * l - 1 + max 0 (W - 2 * l)) l W S) r) : Stp W S (.fold o l) r := by
  obtain ⟨k1, k2⟩ := fold_ok h hl hlW (by omega) h1 h2
  have e : l + max 0 (W - 2 * l) = max l (W - l) := by omega
  rw [e] at k1 k2
  refine ⟨k1, fun c hc0 hc => k2 c hc0 hc, ?_, fun _ => h2.ne⟩
  have a1 := h1.len
  have a2 := h2.len
  have a3 := both_len (l := l) (sh := max 0 (W - 2 * l)) (W := W) h.so
  unfold mir at a2
  rw [List.length_map, List.length_reverse] at a2
  simp only [List.length_singleton] at a1
  omega
theorem wide_pos {W : Int} {d : Deed} (h : d.lets W) (hW : 1 ≤ W) : 1 ≤ d.wide W ∧ d.wide W ≤ W := by
  cases d with
  | turn => exact ⟨hW, Int.le_refl _⟩
  | fold o l =>
    obtain ⟨h1, h2⟩ := h
    show 1 ≤ max l (W - l) ∧ max l (W - l) ≤ W
    omega
end Lay

namespace Lay
def newF (W : Int) (f : Int → Int) (d : Deed) (c : Int) : Int := if 0 ≤ c ∧ c < d.wide W then (match d with
  | .turn => f (W - 1 - c)
  | .fold _ l => f (c - max 0 (W - 2 * l)) + f (2 * l - 1 + max 0 (W - 2 * l) - c)) else 0
def run : Int × (Int → Int) → List Deed → Int × (Int → Int)
  | p, [] => p
  | p, d :: r => run (d.wide p.1, newF p.1 p.2 d) r
def flatF (W c : Int) : Int := if 0 ≤ c ∧ c < W then 1 else 0
def letsAll : Int → List Deed → Prop
  | _, [] => True
  | W, d :: r => d.lets W ∧ letsAll (d.wide W) r
def wideAll : Int → List Deed → Int
  | W, [] => W
  | W, d :: r => wideAll (d.wide W) r
theorem wideAll_snoc : ∀ {W : Int} {a : List Deed} {d : Deed}, wideAll W (a ++ [d]) = d.wide (wideAll W a)
  | _, [], _ => rfl
  | _, x :: a, d => wideAll_snoc (a := a)
theorem letsAll_snoc : ∀ {W : Int} {a : List Deed} {d : Deed}, letsAll W a → d.lets (wideAll W a) → letsAll W (a ++ [d])
  | _, [], _, _, h => ⟨h, trivial⟩
  | _, x :: a, d, ⟨h1, h2⟩, h => ⟨h1, letsAll_snoc h2 h⟩
theorem letsAll_app : ∀ {W : Int} {a b : List Deed}, letsAll W (a ++ b) ↔ letsAll W a ∧ letsAll (wideAll W a) b
  | _, [], _ => ⟨fun h => ⟨trivial, h⟩, fun h => h.2⟩
  | _, x :: a, b => ⟨fun ⟨h1, h2⟩ => ⟨⟨h1, (letsAll_app.mp h2).1⟩, (letsAll_app.mp h2).2⟩, fun ⟨⟨h1, h2⟩, h3⟩ => ⟨h1, letsAll_app.mpr ⟨h2, h3⟩⟩⟩
theorem wideAll_pos : ∀ {W : Int} {a : List Deed}, 1 ≤ W → letsAll W a → 1 ≤ wideAll W a ∧ wideAll W a ≤ W
  | _, [], h, _ => ⟨h, Int.le_refl _⟩
  | _, d :: a, h, ⟨h1, h2⟩ => by
    have := wide_pos h1 h
    have := wideAll_pos this.1 h2
    show 1 ≤ wideAll _ a ∧ wideAll _ a ≤ _
    omega
theorem run_wide : ∀ {p : Int × (Int → Int)} {r : List Deed}, (run p r).1 = wideAll p.1 r
  | _, [] => rfl
  | _, d :: r => run_wide (r := r)
theorem run_snoc : ∀ {p : Int × (Int → Int)} {r : List Deed} {d : Deed}, run p (r ++ [d]) = (d.wide (run p r).1, newF (run p r).1 (run p r).2 d)
  | _, [], _ => rfl
  | _, x :: r, d => run_snoc (r := r)
abbrev Pile := List (Int × Bool)
def about (p : Pile) : Pile := p.reverse.map fun q => (q.1, !q.2)
theorem about_len (p : Pile) : (about p).length = p.length := by unfold about; rw [List.length_map, List.length_reverse]
/-- column by column -/
def newP (W : Int) (f : Int → Pile) (d : Deed) (c : Int) : Pile := if 0 ≤ c ∧ c < d.wide W then (match d with
  | .turn => about (f (W - 1 - c))
  | .fold o l => if o then about (f (2 * l - 1 + max 0 (W - 2 * l) - c)) ++ f (c - max 0 (W - 2 * l)) else f (c - max 0 (W - 2 * l)) ++ about (f (2 * l - 1 + max 0 (W - 2 * l) - c))) else []
def runP : Int × (Int → Pile) → List Deed → Int × (Int → Pile)
  | p, [] => p
  | p, d :: r => runP (d.wide p.1, newP p.1 p.2 d) r
def flatP (W c : Int) : Pile := if 0 ≤ c ∧ c < W then [(c, true)] else []
theorem runP_wide : ∀ {p : Int × (Int → Pile)} {r : List Deed}, (runP p r).1 = wideAll p.1 r
  | _, [] => rfl
  | _, d :: r => runP_wide (r := r)
/-- heights -/
def lenF (f : Int → Pile) (c : Int) : Int := (f c).length
theorem len_new {W : Int} {f : Int → Pile} {d : Deed} : lenF (newP W f d) = newF W (lenF f) d := by
  funext c
  unfold lenF newP newF
  by_cases k : 0 ≤ c ∧ c < d.wide W
  · rw [if_pos k, if_pos k]
    cases d with
    | turn => show ((about _).length : Int) = _; rw [about_len]
    | fold o l =>
      cases o
      · show ((f _ ++ about _).length : Int) = ((f _).length : Int) + ((f _).length : Int)
        rw [List.length_append, about_len]; omega
      · show ((about _ ++ f _).length : Int) = ((f _).length : Int) + ((f _).length : Int)
        rw [List.length_append, about_len]; omega
  · rw [if_neg k, if_neg k]; rfl
theorem len_flat {W : Int} : lenF (flatP W) = flatF W := by
  funext c
  unfold lenF flatP flatF
  split <;> rfl
theorem len_run : ∀ {p : Int × (Int → Pile)} {r : List Deed}, run (p.1, lenF p.2) r = ((runP p r).1, lenF (runP p r).2)
  | _, [] => rfl
  | p, d :: r => by
    show run (d.wide p.1, newF p.1 (lenF p.2) d) r = _
    rw [← len_new]
    exact len_run (p := (d.wide p.1, newP p.1 p.2 d))
theorem heights {W : Int} {r : List Deed} (c : Int) : (run (W, flatF W) r).2 c = ((runP (W, flatP W) r).2 c).length := by
  have := len_run (p := (W, flatP W)) (r := r)
  rw [len_flat] at this
  rw [this]
  rfl

/-- a list of piles, by columns -/
def fP (ps : List Pile) (c : Int) : Pile := if 0 ≤ c then ps.getD c.toNat [] else []
theorem fP_out {ps : List Pile} {c : Int} (h : c < 0 ∨ (ps.length : Int) ≤ c) : fP ps c = [] := by
  unfold fP
  split
  · rw [List.getD_eq_getElem?_getD, List.getElem?_eq_none (by omega)]; rfl
  · rfl
def restP (ps : List Pile) (l far : Int) : Pile := if far ≤ l then ps.getD (l - far).toNat [] else []
def comesP (ps : List Pile) (l far : Int) : Pile := if l + far ≤ ps.length then about (ps.getD (l + far - 1).toNat []) else []
def eltP (ps : List Pile) (o : Bool) (l far : Int) : Pile := if o then comesP ps l far ++ restP ps l far else restP ps l far ++ comesP ps l far
def doneP (ps : List Pile) : Deed → List Pile
  | .turn => ps.reverse.map about
  | .fold o l => ((List.range' 1 (max l (ps.length - l)).toNat).map fun far : Nat => eltP ps o l far).reverse
theorem done_len {ps : List Pile} {d : Deed} (h : d.lets ps.length) : ((doneP ps d).length : Int) = d.wide ps.length := by
  cases d with
  | turn => show ((ps.reverse.map about).length : Int) = ps.length; rw [List.length_map, List.length_reverse]
  | fold o l =>
    obtain ⟨h1, h2⟩ := h
    show (((List.range' 1 (max l (ps.length - l)).toNat).map fun far : Nat => eltP ps o l far).reverse.length : Int) = max l (ps.length - l)
    rw [List.length_reverse, List.length_map, List.length_range']
    omega
theorem about_fP {ps : List Pile} {c : Int} : fP (ps.map about) c = about (fP ps c) := by
  unfold fP
  split
  · rw [List.getD_eq_getElem?_getD, List.getD_eq_getElem?_getD, List.getElem?_map]
    cases ps[c.toNat]? <;> rfl
  · rfl
theorem fP_rev {ps : List Pile} {c : Int} (h0 : 0 ≤ c) (h1 : c < ps.length) : fP ps.reverse c = fP ps (ps.length - 1 - c) := by
  unfold fP
  rw [if_pos h0, if_pos (by omega), List.getD_eq_getElem?_getD, List.getD_eq_getElem?_getD, List.getElem?_reverse (by omega)]
  congr 2
  omega
theorem done_fP {ps : List Pile} {d : Deed} (h : d.lets ps.length) : fP (doneP ps d) = newP ps.length (fP ps) d := by
  funext c
  have hl := done_len h
  unfold newP
  by_cases k : 0 ≤ c ∧ c < d.wide ps.length
  · rw [if_pos k]
    cases d with
    | turn =>
      have k2 : c < ps.length := k.2
      show fP (ps.reverse.map about) c = about (fP ps (ps.length - 1 - c))
      rw [about_fP, fP_rev k.1 k2]
    | fold o l =>
      obtain ⟨h1, h2⟩ := h
      have k2 : c < max l (ps.length - l) := k.2
      have hmx : (List.map (fun far : Nat => eltP ps o l far) (List.range' 1 (max l ((ps.length : Int) - l)).toNat)).length = (max l ((ps.length : Int) - l)).toNat := by rw [List.length_map, List.length_range']
      have e1 : fP (doneP ps (.fold o l)) c = eltP ps o l (max l (ps.length - l) - c) := by
        unfold fP
        rw [if_pos k.1]
        show (List.map (fun far : Nat => eltP ps o l far) (List.range' 1 (max l ((ps.length : Int) - l)).toNat)).reverse.getD c.toNat [] = _
        rw [List.getD_eq_getElem?_getD, List.getElem?_reverse (by omega), hmx, List.getElem?_map, List.getElem?_range' (by omega)]
        show eltP ps o l ((1 + 1 * ((max l ((ps.length : Int) - l)).toNat - 1 - c.toNat) : Nat) : Int) = _
        congr 1
        omega
      rw [e1]
      have er : restP ps l (max l (ps.length - l) - c) = fP ps (c - max 0 (ps.length - 2 * l)) := by
        unfold restP fP
        by_cases q : max l ((ps.length : Int) - l) - c ≤ l
        · rw [if_pos q, if_pos (by omega)]; congr 1; omega
        · rw [if_neg q, if_neg (by omega)]
      have ec : comesP ps l (max l (ps.length - l) - c) = about (fP ps (2 * l - 1 + max 0 (ps.length - 2 * l) - c)) := by
        unfold comesP
        by_cases q : l + (max l ((ps.length : Int) - l) - c) ≤ ps.length
        · rw [if_pos q]
          unfold fP
          rw [if_pos (by omega)]
          congr 2
          omega
        · rw [if_neg q, fP_out (by omega)]; rfl
      unfold eltP
      rw [er, ec]
  · rw [if_neg k, fP_out (by omega)]
/-- a strip's piles behind each deed -/
def pilesP : List Pile → List Deed → List Pile
  | ps, [] => ps
  | ps, d :: r => pilesP (doneP ps d) r
def flatL (W : Nat) : List Pile := (List.range W).map fun p : Nat => [((p : Int), true)]
theorem flatL_len {W : Nat} : (flatL W).length = W := by unfold flatL; rw [List.length_map, List.length_range]
theorem flat_fP {W : Nat} : fP (flatL W) = flatP W := by
  funext c
  unfold fP flatP
  by_cases k : 0 ≤ c
  · rw [if_pos k]
    by_cases k2 : c < W
    · rw [if_pos ⟨k, k2⟩, List.getD_eq_getElem?_getD]
      unfold flatL
      rw [List.getElem?_map, List.getElem?_range (by omega)]
      show [(((c.toNat : Nat) : Int), true)] = [(c, true)]
      rw [show ((c.toNat : Nat) : Int) = c by omega]
    · rw [if_neg (by omega), List.getD_eq_getElem?_getD, List.getElem?_eq_none (by rw [flatL_len]; omega)]; rfl
  · rw [if_neg k, if_neg (by omega)]
theorem piles_run : ∀ {ps : List Pile} {r : List Deed}, letsAll ps.length r → runP (ps.length, fP ps) r = (((pilesP ps r).length : Int), fP (pilesP ps r))
  | _, [], _ => rfl
  | ps, d :: r, ⟨h1, h2⟩ => by
    show runP (d.wide ps.length, newP ps.length (fP ps) d) r = _
    rw [← done_fP h1, ← done_len h1]
    exact piles_run (ps := doneP ps d) (by rw [done_len h1]; exact h2)
theorem piles_flat {W : Nat} {r : List Deed} (h : letsAll W r) : runP (W, flatP W) r = (((pilesP (flatL W) r).length : Int), fP (pilesP (flatL W) r)) := by
  have := piles_run (ps := flatL W) (r := r) (by rw [flatL_len]; exact h)
  rw [flatL_len, flat_fP] at this
  exact this
end Lay

namespace Lay
def tot (ps : List Pile) : Nat := (ps.map List.length).sum
def gsum (g : Int → Nat) (n : Nat) : Nat := ((List.range' 1 n).map fun far : Nat => g far).sum
theorem gsum_succ {g : Int → Nat} {n : Nat} : gsum g (n + 1) = gsum g n + g (n + 1 : Nat) := by
  unfold gsum
  rw [List.range'_concat, List.map_append, List.sum_append]
  show _ + (g ((1 + 1 * n : Nat) : Int) + 0) = _
  rw [show 1 + 1 * n = n + 1 by omega]
  rfl
theorem gsum_add {g h : Int → Nat} {n : Nat} : gsum (fun x => g x + h x) n = gsum g n + gsum h n := by
  induction n with
  | zero => rfl
  | succ n ih => rw [gsum_succ, gsum_succ, gsum_succ, ih]; omega
theorem take_sum {ps : List Pile} {i : Nat} : tot (ps.take (i + 1)) = tot (ps.take i) + (ps.getD i []).length := by
  unfold tot
  rw [List.take_add_one, List.map_append, List.sum_append]
  rw [List.getD_eq_getElem?_getD]
  cases ps[i]? <;> simp
theorem drop_sum {ps : List Pile} {i : Nat} : tot ps = tot (ps.take i) + tot (ps.drop i) := by
  unfold tot
  rw [← List.sum_append, ← List.map_append, List.take_append_drop]
theorem rest_sum {ps : List Pile} {l : Nat} : ∀ {n : Nat}, n ≤ l → gsum (fun far => (restP ps l far).length) n + tot (ps.take (l - n)) = tot (ps.take l)
  | 0, _ => by show 0 + _ = _; rw [Nat.zero_add]; rfl
  | n + 1, h => by
    have ih := rest_sum (ps := ps) (l := l) (n := n) (by omega)
    rw [show l - n = (l - (n + 1)) + 1 by omega, take_sum] at ih
    rw [gsum_succ]
    have : (restP ps l (n + 1 : Nat)).length = (ps.getD (l - (n + 1)) []).length := by
      unfold restP
      rw [if_pos (by omega)]
      congr 2
      omega
    rw [this]
    omega
theorem rest_sum' {ps : List Pile} {l : Nat} {n : Nat} (h : l ≤ n) : gsum (fun far => (restP ps l far).length) n = tot (ps.take l) := by
  induction n with
  | zero => have : l = 0 := by omega
            subst this; rfl
  | succ n ih =>
    by_cases e : l ≤ n
    · rw [gsum_succ, ih e]
      have : (restP ps l (n + 1 : Nat)).length = 0 := by unfold restP; rw [if_neg (by omega)]; rfl
      omega
    · have e' : l = n + 1 := by omega
      have := rest_sum (ps := ps) (l := l) (n := n + 1) (by omega)
      rw [show l - (n + 1) = 0 by omega] at this
      have z : tot (ps.take 0) = 0 := rfl
      omega
theorem comes_sum {ps : List Pile} {l : Nat} : ∀ {n : Nat}, gsum (fun far => (comesP ps l far).length) n = tot ((ps.drop l).take n)
  | 0 => rfl
  | n + 1 => by
    rw [gsum_succ, comes_sum (n := n), take_sum]
    congr 1
    unfold comesP
    by_cases k : (l : Int) + ((n + 1 : Nat) : Int) ≤ ps.length
    · rw [if_pos k, about_len]
      rw [List.getD_eq_getElem?_getD, List.getD_eq_getElem?_getD, List.getElem?_drop]
      congr 3
      omega
    · rw [if_neg k, List.getD_eq_getElem?_getD, List.getElem?_drop, List.getElem?_eq_none (by omega)]; rfl
theorem tot_rev (ps : List Pile) : tot ps.reverse = tot ps := by unfold tot; rw [List.map_reverse, List.sum_reverse]
theorem done_tot {ps : List Pile} {d : Deed} (h : d.lets ps.length) : tot (doneP ps d) = tot ps := by
  cases d with
  | turn =>
    show tot (ps.reverse.map about) = _
    rw [← tot_rev ps]
    unfold tot
    rw [List.map_map]
    congr 1
    apply List.map_congr_left
    intro p _
    exact about_len p
  | fold o l =>
    obtain ⟨h1, h2⟩ := h
    show tot (List.map _ _).reverse = _
    rw [tot_rev]
    obtain ⟨L, rfl⟩ : ∃ L : Nat, l = L := ⟨l.toNat, by omega⟩
    obtain ⟨mx, hm⟩ : ∃ mx : Nat, mx = (max (L : Int) (ps.length - L)).toNat := ⟨_, rfl⟩
    rw [← hm]
    have e : tot ((List.range' 1 mx).map fun far : Nat => eltP ps o L far) = gsum (fun far => (restP ps L far).length + (comesP ps L far).length) mx := by
      unfold tot gsum
      rw [List.map_map]
      congr 1
      apply List.map_congr_left
      intro far _
      show (eltP ps o L far).length = _
      unfold eltP
      cases o
      · show (restP ps L far ++ comesP ps L far).length = (restP ps L far).length + (comesP ps L far).length; rw [List.length_append]
      · show (comesP ps L far ++ restP ps L far).length = (restP ps L far).length + (comesP ps L far).length; rw [List.length_append]; omega
    rw [e, gsum_add, rest_sum' (by omega), comes_sum, List.take_of_length_le (l := ps.drop L) (by rw [List.length_drop]; omega), ← drop_sum]
theorem tot_mem {ps : List Pile} {p : Pile} (h : p ∈ ps) : p.length ≤ tot ps := by
  unfold tot
  induction ps with
  | nil => cases h
  | cons a r ih =>
    rw [List.map_cons, List.sum_cons]
    rcases List.mem_cons.mp h with rfl | h
    · omega
    · have := ih h; omega
theorem flat_tot {W : Nat} : tot (flatL W) = W := by
  unfold tot flatL
  rw [List.map_map]
  have : (List.length ∘ fun p : Nat => [((p : Int), true)]) = fun _ => 1 := by funext p; rfl
  rw [this]
  induction W with
  | zero => rfl
  | succ n ih => rw [List.range_succ, List.map_append, List.sum_append, ih]; rfl
theorem piles_tot : ∀ {ps : List Pile} {r : List Deed}, letsAll ps.length r → tot (pilesP ps r) = tot ps
  | _, [], _ => rfl
  | ps, d :: r, ⟨h1, h2⟩ => by
    show tot (pilesP (doneP ps d) r) = _
    rw [piles_tot (by rw [done_len h1]; exact h2), done_tot h1]
/-- piles, at first and behind each deed -/
def lvls : List Pile → List Deed → List (List Pile)
  | ps, [] => [ps]
  | ps, d :: r => ps :: lvls (doneP ps d) r
theorem lvls_len : ∀ {ps : List Pile} {r : List Deed}, (lvls ps r).length = r.length + 1
  | _, [] => rfl
  | _, d :: r => by show (lvls _ r).length + 1 = _; rw [lvls_len]; rfl
theorem lvls_last : ∀ {ps : List Pile} {r : List Deed}, ∃ L, lvls ps r = L ++ [pilesP ps r]
  | _, [] => ⟨[], rfl⟩
  | ps, d :: r => by
    obtain ⟨L, e⟩ := lvls_last (ps := doneP ps d) (r := r)
    exact ⟨ps :: L, by show ps :: lvls _ r = _; rw [e]; rfl⟩
theorem lvls_snoc : ∀ {ps : List Pile} {r : List Deed} {d : Deed}, lvls ps (r ++ [d]) = lvls ps r ++ [doneP (pilesP ps r) d]
  | _, [], _ => rfl
  | ps, x :: r, d => by show ps :: lvls _ (r ++ [d]) = ps :: lvls _ r ++ _; rw [lvls_snoc]; rfl
theorem piles_len {ps : List Pile} {r : List Deed} (h : letsAll ps.length r) : ((pilesP ps r).length : Int) = wideAll ps.length r := by
  have := piles_run h
  rw [← runP_wide (p := ((ps.length : Int), fP ps)), this]
end Lay

namespace Lay
/-- column, above, beneath, turned -/
abbrev Lies := Int × Int × Int × Bool
/-- where the layer at a column and a depth behind a deed lay ahead of it -/
def back (W : Int) (h : Int → Int) : Deed → Int × Int → Int × Int
  | .turn, (c, i) => (W - 1 - c, h (W - 1 - c) - 1 - i)
  | .fold o l, (c, i) =>
    let here := c - max 0 (W - 2 * l)
    let there := 2 * l - 1 - here
    if o then (if i < h there then (there, h there - 1 - i) else (here, i - h there))
    else (if i < (if here < l then h here else 0) then (here, i) else (there, h there - 1 - (i - (if here < l then h here else 0))))
end Lay

namespace Lay
/-- piles behind a row of a strip -/
abbrev PL (W : Int) (r : List Deed) : Int → Pile := (runP (W, flatP W) r).2
end Lay

namespace Lay
theorem near_pile {W : Nat} {r : List Deed} (h : letsAll W r) : ∀ p ∈ pilesP (flatL W) r, p.length ≤ W := fun p hp => by
  have ht := piles_tot (ps := flatL W) (r := r) (by rw [flatL_len]; exact h)
  rw [flat_tot] at ht
  have := tot_mem hp
  omega
end Lay

namespace Lay
end Lay

open PySem PySem.Spec L2 DL
local macro_rules | `(tactic| walk_at "d1") => `(tactic| first
  | with_reducible first | refine x_seq ?_ | refine x_skip ?_ | refine x_brk ?_ | refine x_cnt ?_ | refine x_exp ?_ | refine x_ret ?_ | refine x_retN ?_ | refine x_if ?_ | refine x_set ?_ | refine x_setI ?_ | refine x_for ?_ | refine x_unp ?_ | refine x_par ?_ | refine x_c ?_ | refine x_op ?_ | refine x_tb ?_ | refine x_andT ?_ | refine x_orT ?_ | refine x_notT ?_ | refine x_andV ?_ | refine x_orV ?_ | refine x_notV ?_ | refine x_ife ?_ | refine x_neg ?_ | refine x_chain ?_ | refine x_nil ?_ | refine x_cons ?_ | refine x_tup ?_ | refine x_lst ?_ | refine x_cb ?_ | refine x_call ?_ | refine x_isi ?_ | refine x_bm ?_ | refine x_sl ?_ | refine x_no ?_ | refine x_pt ?_ | refine x_it ?_ | refine x_range ?_ | refine x_range2 ?_ | refine x_lc ?_ | refine x_dc ?_ | refine x_quiet ?_ | refine x_chr ?_ | refine x_cnt1 ?_ | refine x_revL ?_ | refine x_addI ?_ | refine x_addA ?_ | refine x_fI0 ?_ | refine x_ltI ?_ | refine x_ordI ?_ | refine x_eqI ?_ | refine x_lenL ?_ | refine x_lenC ?_ | refine x_lenT ?_ | refine x_II ?_ | refine x_t ?_ | refine x_f ?_ | refine x_att ?_ | refine x_meth ?_ | refine x_make ?_ | refine x_setA ?_ | refine x_sortSc ?_ | refine x_isi2 ?_ | refine x_enumT ?_ | refine x_zip ?_ | refine x_callD ?_ | refine x_callKK ?_ | refine x_raise ?_ | refine x_tryO ?_ | refine x_stp ?_ | refine x_neS0 ?_ | refine x_eqS0 ?_ | refine x_augI3 ?_
  | refine x_var rfl ?_
  | refine x_tt rfl ?_
  | refine x_ff rfl ?_
  | with_reducible first | refine x_p18 ?_ | refine x_p_10_12 ?_ | refine x_p_10_15 ?_ | refine x_p_10_20 ?_ | refine x_p_10_29 ?_ | refine x_p_10_30 ?_ | refine x_p_10_39 ?_ | refine x_p_10_40 ?_ | refine x_p_10_60 ?_ | refine x_p_10_9 ?_ | refine x_p_2_40 ?_ | refine x_p_2_60 ?_ | refine x_p_2_63 ?_ | refine x_p_2_64 ?_ | refine x_p_3_60 ?_
  | refine x_fI (by first | decide | exact cdiv (by omega) (by omega) | omega) ?_
  | refine x_augN rfl ?_
  | refine x_mut rfl ?_
  | refine x_nd (by decide) ?_
  | with_reducible first | refine x_bool ?_ | refine x_boolB ?_ | refine x_int ?_ | refine x_intI ?_ | refine x_strS ?_ | refine x_strD ?_
  | refine x_ixL rfl ?_
  | refine x_ixT rfl ?_
  | (refine x_setL rfl ?_; try dsimp only [mutS, Int.reduceToNat, List.getElem?_cons_zero, List.getElem?_cons_succ, List.set_cons_zero, List.set_cons_succ])
  | refine x_rd2 rfl rfl ?_
  | refine x_own rfl ?_
  | refine x_set3 rfl rfl ?_
  | refine x_own2 rfl ?_
  | (refine x_ex rfl ?_; try dsimp only [List.set_cons_zero, List.set_cons_succ])
  | (refine x_ex (setS_ok rfl (by assumption)) ?_; try dsimp only [List.set_cons_zero, List.set_cons_succ])
  | (refine x_ex (setS_ow rfl (by assumption)) ?_; try dsimp only [List.set_cons_zero, List.set_cons_succ])
  | refine x_ty ⟨_, rfl, rfl⟩ ?_
  | refine x_ty (smallL rfl) ?_
  | refine x_fz rfl rfl ?_
  | refine x_augI rfl ?_
  | refine x_augI2 rfl rfl rfl ?_
  | dsimp only [setT0])
local macro_rules | `(tactic| walk_at "d") => `(tactic| repeat walk_at "d1")
local macro_rules | `(tactic| walk_at "n") => `(tactic| dsimp only [setT, mutS, outE, wipeE, List.getElem?_cons_zero, List.getElem?_cons_succ, List.set_cons_zero, List.set_cons_succ])
local macro_rules | `(tactic| walk_at "w") => `(tactic| ((try walk_at "n"); walk_at "d"))
local macro_rules | `(tactic| walk_at "app") => `(tactic| (refine ⟨_, rfl, by (try rw [List.length_map]); exact smallLt (by (try simp); omega), ?_⟩))

namespace P
open Lay
def stD (s : Int × Int) : D := .tuple [.int s.1, .int s.2]
theorem okn_st (s : Int × Int) : OkN 1 (stD s) := okn_tuple fun d hd => by
  rcases List.mem_cons.mp hd with rfl | hd
  · exact okn_int _
  · rcases List.mem_cons.mp hd with rfl | hd
    · exact okn_int _
    · cases hd
theorem okn_sts (S : Steps) : OkN 2 (.list (S.map stD)) := okn_list fun d hd => by
  obtain ⟨s, _, rfl⟩ := List.mem_map.mp hd
  exact okn_st s
theorem gTp2 {d1 d2 : D} {n : Bool} {x0 x1 x2 x3 x4 x5 x6 x7 x8 : Slot} (h7 : okS x7 = true) (h8 : okS x8 = true) : gTp [gN 7, gN 8] (.tuple [d1, d2]) n [x0, x1, x2, x3, x4, x5, x6, x7, x8] = some [x0, x1, x2, x3, x4, x5, x6, .fz d1 n, .fz d2 n] := by
  cases x7 <;> cases x8 <;> first | rfl | exact Bool.noConfusion h7 | exact Bool.noConfusion h8
theorem _root_.Lay.SoS.right {a b : Steps} (h : SoS (a ++ b)) : SoS b := (List.pairwise_append.mp h).2.1
theorem step0 {one other F a0 b0 : Steps} {c u v : Int} {l1 l2 q : Bool} {Ds : DEnds} (hs : SoS one) (e0 : one = a0 ++ b0) (h0 : ∀ s ∈ a0, s.1 ≤ c)
    (h : ∀ (a b : Steps) (m1 m2 : Bool), one = a ++ b → (∀ s ∈ a, s.1 ≤ c) → (∀ s ∈ b, c < s.1) → Ds.nx [.fz (.list (one.map stD)) false, .fz (.list (other.map stD)) false, .ow (.list (F.map stD)) true, .ow (.list [.int (lastv 0 a), .int u]) m1, .ow (.list [.int a.length, .int v]) m2, .fz (.int c) true, .un, .fz (.int (0 : Nat)) q, .fz (.list (one.map stD)) q]) :
    dWhile (dAndT (dTB (dOp fLt (dOp fIx (dVar 4) (dVar 7)) (dCB fLen (dCons (dVar 8) dNil)))) (dTB (dOp fLe (dOp fIx (dOp fIx (dVar 8) (dOp fIx (dVar 4) (dVar 7))) (dC (.int 0))) (dVar 5))))
      (dSeq (dSetI 3 (dVar 7) (dOp fIx (dOp fIx (dVar 8) (dOp fIx (dVar 4) (dVar 7))) (dC (.int 1)))) (dAugI 4 fAddA (dVar 7) (dC (.int 1)))) [.fz (.list (one.map stD)) false, .fz (.list (other.map stD)) false, .ow (.list (F.map stD)) true, .ow (.list [.int (lastv 0 a0), .int u]) l1, .ow (.list [.int a0.length, .int v]) l2, .fz (.int c) true, .un, .fz (.int (0 : Nat)) q, .fz (.list (one.map stD)) q] Ds := by
  refine x_while (fun m e => ∃ (a b : Steps) (m1 m2 : Bool), one = a ++ b ∧ (∀ s ∈ a, s.1 ≤ c) ∧ m = b.length ∧ e = [.fz (.list (one.map stD)) false, .fz (.list (other.map stD)) false, .ow (.list (F.map stD)) true, .ow (.list [.int (lastv 0 a), .int u]) m1, .ow (.list [.int a.length, .int v]) m2, .fz (.int c) true, .un, .fz (.int (0 : Nat)) q, .fz (.list (one.map stD)) q]) b0.length ⟨a0, b0, _, _, e0, h0, rfl, rfl⟩ ?_
  rintro m e ⟨a, b, n1, n2, e1, ha, rfl, rfl⟩
  walk_at "d"
  rw [List.length_map]
  cases b with
  | nil =>
    refine x_dec (fun hk => absurd hk (by rw [e1]; simp)) fun _ => ?_
    walk_at "d"
    exact h a [] _ _ e1 ha fun s hs => nomatch hs
  | cons s b =>
    refine x_dec (fun _ => ?_) fun hk => absurd (by rw [e1]; simp; omega) hk
    have eg : atI (one.map stD) (a.length : Int) = some (stD s) := L2.atI_nat (by rw [List.getElem?_map, e1]; simp)
    walk_at "d"
    refine x_ixL eg ?_
    walk_at "d"
    refine x_dec (fun hs1 => ?_) fun hs1 => ?_
    · walk_at "d"
      refine x_ixL eg ?_
      walk_at "d"
      refine ⟨_, _, rfl, _, _, rfl, ?_⟩
      refine x_setL rfl ?_
      exact ⟨b.length, Nat.lt_succ_self _, a ++ [s], b, _, _, by rw [e1]; simp, fun t ht => by
        rcases List.mem_append.mp ht with ht | ht
        · exact ha t ht
        · rw [List.mem_singleton.mp ht]; exact hs1, rfl, by rw [lastv_snoc, List.length_append]; rfl⟩
    · refine h a (s :: b) _ _ e1 ha fun t ht => ?_
      rcases List.mem_cons.mp ht with rfl | ht
      · omega
      · have := SoS.hd (e1 ▸ hs : SoS (a ++ s :: b)).right t ht
        omega
theorem step1 {one other F a0 b0 : Steps} {c u v : Int} {l1 l2 q : Bool} {Ds : DEnds} (hs : SoS other) (e0 : other = a0 ++ b0) (h0 : ∀ s ∈ a0, s.1 ≤ c)
    (h : ∀ (a b : Steps) (m1 m2 : Bool), other = a ++ b → (∀ s ∈ a, s.1 ≤ c) → (∀ s ∈ b, c < s.1) → Ds.nx [.fz (.list (one.map stD)) false, .fz (.list (other.map stD)) false, .ow (.list (F.map stD)) true, .ow (.list [.int u, .int (lastv 0 a)]) m1, .ow (.list [.int v, .int a.length]) m2, .fz (.int c) true, .un, .fz (.int (1 : Nat)) q, .fz (.list (other.map stD)) q]) :
    dWhile (dAndT (dTB (dOp fLt (dOp fIx (dVar 4) (dVar 7)) (dCB fLen (dCons (dVar 8) dNil)))) (dTB (dOp fLe (dOp fIx (dOp fIx (dVar 8) (dOp fIx (dVar 4) (dVar 7))) (dC (.int 0))) (dVar 5))))
      (dSeq (dSetI 3 (dVar 7) (dOp fIx (dOp fIx (dVar 8) (dOp fIx (dVar 4) (dVar 7))) (dC (.int 1)))) (dAugI 4 fAddA (dVar 7) (dC (.int 1)))) [.fz (.list (one.map stD)) false, .fz (.list (other.map stD)) false, .ow (.list (F.map stD)) true, .ow (.list [.int u, .int (lastv 0 a0)]) l1, .ow (.list [.int v, .int a0.length]) l2, .fz (.int c) true, .un, .fz (.int (1 : Nat)) q, .fz (.list (other.map stD)) q] Ds := by
  refine x_while (fun m e => ∃ (a b : Steps) (m1 m2 : Bool), other = a ++ b ∧ (∀ s ∈ a, s.1 ≤ c) ∧ m = b.length ∧ e = [.fz (.list (one.map stD)) false, .fz (.list (other.map stD)) false, .ow (.list (F.map stD)) true, .ow (.list [.int u, .int (lastv 0 a)]) m1, .ow (.list [.int v, .int a.length]) m2, .fz (.int c) true, .un, .fz (.int (1 : Nat)) q, .fz (.list (other.map stD)) q]) b0.length ⟨a0, b0, _, _, e0, h0, rfl, rfl⟩ ?_
  rintro m e ⟨a, b, n1, n2, e1, ha, rfl, rfl⟩
  walk_at "d"
  rw [List.length_map]
  cases b with
  | nil =>
    refine x_dec (fun hk => absurd hk (by rw [e1]; simp)) fun _ => ?_
    walk_at "d"
    exact h a [] _ _ e1 ha fun s hs => nomatch hs
  | cons s b =>
    refine x_dec (fun _ => ?_) fun hk => absurd (by rw [e1]; simp; omega) hk
    have eg : atI (other.map stD) (a.length : Int) = some (stD s) := L2.atI_nat (by rw [List.getElem?_map, e1]; simp)
    walk_at "d"
    refine x_ixL eg ?_
    walk_at "d"
    refine x_dec (fun hs1 => ?_) fun hs1 => ?_
    · walk_at "d"
      refine x_ixL eg ?_
      walk_at "d"
      refine ⟨_, _, rfl, _, _, rfl, ?_⟩
      refine x_setL rfl ?_
      exact ⟨b.length, Nat.lt_succ_self _, a ++ [s], b, _, _, by rw [e1]; simp, fun t ht => by
        rcases List.mem_append.mp ht with ht | ht
        · exact ha t ht
        · rw [List.mem_singleton.mp ht]; exact hs1, rfl, by rw [lastv_snoc, List.length_append]; rfl⟩
    · refine h a (s :: b) _ _ e1 ha fun t ht => ?_
      rcases List.mem_cons.mp ht with rfl | ht
      · omega
      · have := SoS.hd (e1 ▸ hs : SoS (a ++ s :: b)).right t ht
        omega
def F_sum_of : DF := fun ds Q _ => ∃ one other : Steps, ds = [.list (one.map stD), .list (other.map stD)] ∧ SoS one ∧ SoS other ∧ one.length ≤ 2000 ∧ other.length ≤ 2000 ∧ ∀ r : Steps, SumOf one other r → Q (.ow (.list (r.map stD)) true) []
theorem W_sum_of : ∀ ds Q E, F_sum_of ds Q E → b_sum_of (env0 [false, false] ds 9) (bodyEnds [false, false] Q E) := by
  refine viaE ?_
  simp (disch := with_unfolding_all (
    rintro ds Q E ⟨one, other, rfl, ho, ht, l1, l2, h⟩
    show b_sum_of [.fz (.list (one.map stD)) false, .fz (.list (other.map stD)) false, .un, .un, .un, .un, .un, .un, .un] (bodyEnds [false, false] Q E)
    unfold b_sum_of
    walk_at "d"
    refine ⟨by rw [List.length_map, List.length_map]; exact small (by omega), ?_⟩
    walk_at "d"
    refine x_scfm (one ++ other) stD (·.1) (by simp) (by exact off1 rfl rfl) (by rw [List.length_append]; show _ < 4096; omega) ?_ ?_
    · intro s _ K hK
      refine ⟨_, rfl, by exact off1 rfl rfl, ?_⟩
      unfold stD
      walk_at "d"
      exact ⟨_, _, rfl, hK _ (by exact off1 rfl rfl) rfl⟩
    intro ys y1 y2 y3
    have hc : Cols one other ys := ⟨by
      refine (y1.and y2).imp fun {a b} h => ?_
      have := h.1; have := h.2; omega, y3⟩
    walk_at "d"
    refine for_ind (fun L e => ∃ (P R : List Int) (F a1 b1 a2 b2 : Steps) (m1 m2 : Bool) (x5 x7 x8 : Slot), L = R.map D.int ∧ ys = P ++ R ∧ F ++ compr (both one other) (F.getLast?.map (·.2)) R = compr (both one other) none ys ∧ one = a1 ++ b1 ∧ other = a2 ++ b2 ∧ (∀ s ∈ a1 ++ a2, ∀ k ∈ R, s.1 ≤ k) ∧ okS x5 = true ∧ okS x7 = true ∧ okS x8 = true ∧
      e = [.fz (.list (one.map stD)) false, .fz (.list (other.map stD)) false, .ow (.list (F.map stD)) true, .ow (.list [.int (lastv 0 a1), .int (lastv 0 a2)]) m1, .ow (.list [.int a1.length, .int a2.length]) m2, x5, .un, x7, x8]) ?_ ?_ ?_
    · rintro x xs e K ⟨P, R, F, a1, b1, a2, b2, m1, m2, x5, x7, x8, eL, eP, eF, eo, et, hle, k5, k7, k8, rfl⟩ hK
      cases R with
      | nil => cases eL
      | cons c R =>
      cases eL
      refine ⟨_, setS_ok rfl k5, ?_⟩
      dsimp only [List.set_cons_zero, List.set_cons_succ]
      walk_at "d"
      refine ⟨_, _, _, rfl, _, rfl, ?_⟩
      refine (?_ : ∀ q, dForL _ _ q _ _ _) _
      intro q
      refine ⟨_, gTp2 k7 k8, ?_⟩
      have hlc : ∀ s ∈ a1 ++ a2, s.1 ≤ c := fun s hs => hle s hs c (by simp)
      refine step0 ho eo (fun s hs => hlc s (by simp [hs])) fun a1' b1' m1 m2 eo ha1 hb1 => ?_
      refine ⟨_, gTp2 rfl rfl, ?_⟩
      refine step1 ht et (fun s hs => hlc s (by simp [hs])) fun a2' b2' m1 m2 et ha2 hb2 => ?_
      have hv1 : lastv 0 a1' = val0 0 one c := by rw [eo, val0_app ha1, val0_lt hb1]
      have hv2 : lastv 0 a2' = val0 0 other c := by rw [et, val0_app ha2, val0_lt hb2]
      have hsum : ([lastv 0 a1', lastv 0 a2'] : List Int).sum = both one other c := by rw [hv1, hv2]; simp [both]
      have hlow : ∀ s ∈ a1' ++ a2', ∀ k ∈ R, s.1 ≤ k := fun s hs k hk => by
        have h1 : s.1 ≤ c := by
          rcases List.mem_append.mp hs with hs | hs
          · exact ha1 s hs
          · exact ha2 s hs
        have h2 : c < k := (List.pairwise_cons.mp (List.pairwise_append.mp (eP ▸ hc.asc)).2.1).1 k hk
        omega
      have put : (F.getLast?.map (·.2)) ≠ some (both one other c) → ∀ (n1 n2 : Bool) (x5 x7 x8 : DL.Slot), okS x5 = true → okS x7 = true → okS x8 = true → K [.fz (.list (one.map stD)) false, .fz (.list (other.map stD)) false, .ow (.list (F.map stD ++ [stD (c, both one other c)])) true, .ow (.list [.int (lastv 0 a1'), .int (lastv 0 a2')]) n1, .ow (.list [.int a1'.length, .int a2'.length]) n2, x5, .un, x7, x8] := fun hne n1 n2 x5 x7 x8 k5 k7 k8 => by
        refine hK _ ⟨P ++ [c], R, F ++ [(c, both one other c)], a1', b1', a2', b2', n1, n2, x5, x7, x8, rfl, by rw [eP]; simp, ?_, eo, et, hlow, k5, k7, k8, by rw [List.map_append]; rfl⟩
        rw [← eF, compr, if_neg hne]
        simp
      have skip : (F.getLast?.map (·.2)) = some (both one other c) → ∀ (n1 n2 : Bool) (x5 x7 x8 : DL.Slot), okS x5 = true → okS x7 = true → okS x8 = true → K [.fz (.list (one.map stD)) false, .fz (.list (other.map stD)) false, .ow (.list (F.map stD)) true, .ow (.list [.int (lastv 0 a1'), .int (lastv 0 a2')]) n1, .ow (.list [.int a1'.length, .int a2'.length]) n2, x5, .un, x7, x8] := fun he n1 n2 x5 x7 x8 k5 k7 k8 => by
        refine hK _ ⟨P ++ [c], R, F, a1', b1', a2', b2', n1, n2, x5, x7, x8, rfl, by rw [eP]; simp, ?_, eo, et, hlow, k5, k7, k8, rfl⟩
        rw [← eF, compr, if_pos he]
      have hFl : F.length ≤ 4000 := by
        have h1 := congrArg List.length eF
        have h2 := (sum_ok hc).len
        rw [List.length_append] at h1
        omega
      dsimp only [enumD, dForL]
      walk_at "d"
      refine ⟨(okn_sts F).ok (by decide), rfl, ?_⟩
      rw [deq_nil]
      rcases List.eq_nil_or_concat F with rfl | ⟨F0, f, rfl⟩
      · rw [show decide (List.map stD [] = []) = true from rfl]
        walk_at "d"
        refine ⟨_, _, [lastv 0 a1', lastv 0 a2'], rfl, rfl, ?_⟩
        rw [hsum]
        walk_at "d"
        refine ⟨_, rfl, by rw [List.length_map]; exact smallLt (by omega), ?_⟩
        exact put (by simp) _ _ _ _ _ rfl rfl rfl
      · walk_at "d"
        refine x_dec (fun hk => absurd hk (by simp)) fun _ => ?_
        walk_at "d"
        have el : atI ((F0.concat f).map stD) (-1) = some (stD f) := by rw [List.concat_eq_append, List.map_append]; exact atI_last
        refine x_ixL el ?_
        walk_at "d"
        refine ⟨_, _, [lastv 0 a1', lastv 0 a2'], rfl, rfl, ?_⟩
        rw [hsum]
        walk_at "d"
        refine ⟨rfl, rfl, ?_⟩
        rw [deq_int]
        walk_at "d"
        refine x_decN (fun hk => ?_) fun hk => ?_
        · walk_at "d"
          refine ⟨_, _, [lastv 0 a1', lastv 0 a2'], rfl, rfl, ?_⟩
          rw [hsum]
          walk_at "d"
          refine ⟨_, rfl, by rw [List.length_map]; exact smallLt (by omega), ?_⟩
          exact put (by simp [hk]) _ _ _ _ _ rfl rfl rfl
        · walk_at "d"
          exact skip (by simp [hk]) _ _ _ _ _ rfl rfl rfl
    · rintro e ⟨P, R, F, a1, b1, a2, b2, m1, m2, x5, x7, x8, eL, eP, eF, eo, et, hle, k5, k7, k8, rfl⟩
      have hR : R = [] := by simpa using eL.symm
      subst hR
      have eF' : F = compr (both one other) none ys := by rw [← eF]; simp [compr]
      walk_at "d"
      exact h F (eF' ▸ sum_ok hc)
    · exact ⟨[], ys, [], [], one, [], other, _, _, _, _, _, rfl, rfl, rfl, rfl, rfl, by simp, rfl, rfl, rfl, rfl⟩)) only [↓viaI]
end P

open PySem PySem.Spec L2 DL
namespace P
open Lay
theorem putLay {W : Int} {d : D} : putA ("steps" : Str) d (putA ("width" : Str) (.int W) []) = ([("width", .int W), ("steps", d)] : List (Str × D)) := by
  have e : ¬ (("width" : Str) = ("steps" : Str)) := by decide
  simp [putA, e]
abbrev layD (W : Int) (S : Steps) : D := .obj "Layout" [("width", .int W), ("steps", .list (S.map stD))]
def dnm (o : Bool) : Str := if o then "over" else "under"
def deedD : Deed → D
  | .turn => .tuple [.str ("turn" : Str)]
  | .fold o l => .tuple [.str (dnm o), .int l]
def F_Layout___init__ : DF := fun ds Q _ => ∃ W S, ds = [.obj "Layout" [], .int W, .list (S.map stD)] ∧ Q (.fz .none true) [layD W S]
theorem W_Layout___init__ : ∀ ds Q E, F_Layout___init__ ds Q E → b_Layout___init__ (env0 [true, false, false] ds 3) (bodyEnds [true, false, false] Q E) := by
  refine viaE ?_
  simp (disch := with_unfolding_all (
    rintro ds Q E ⟨W, S, rfl, h⟩
    show b_Layout___init__ [.io (.obj "Layout" []), .fz (.int W) false, .fz (.list (S.map stD)) false] (bodyEnds [true, false, false] Q E)
    unfold b_Layout___init__
    walk_at "d"
    refine ⟨_, _, rfl, Nat.le_of_ble_eq_true rfl, ?_⟩
    walk_at "n"
    walk_at "d"
    refine ⟨_, _, rfl, Nat.le_of_ble_eq_true rfl, ?_⟩
    walk_at "n"
    rw [putLay]
    exact ⟨_, rfl, h⟩)) only [↓viaI]
def F_shift_of : DF := fun ds Q _ => ∃ W l : Int, ds = [.int W, .int l] ∧ -(2 ^ 200) < l ∧ l < 2 ^ 200 ∧ Q (dI (max 0 (W - 2 * l))) []
theorem W_shift_of : ∀ ds Q E, F_shift_of ds Q E → b_shift_of (env0 [false, false] ds 2) (bodyEnds [false, false] Q E) := by
  refine viaE ?_
  simp (disch := with_unfolding_all (
    rintro ds Q E ⟨W, l, rfl, h1, h2, h⟩
    show b_shift_of [.fz (.int W) false, .fz (.int l) false] (bodyEnds [false, false] Q E)
    unfold b_shift_of
    walk_at "d"
    refine x_mulI (cmul (by omega) (by omega) (by omega) (by omega)) ?_
    walk_at "d"
    rw [show (if W - 2 * l > 0 then W - 2 * l else 0) = max 0 (W - 2 * l) by split <;> omega]
    exact h)) only [↓viaI]
def F_Layout_moved_by : DF := fun ds Q _ => ∃ W S, ∃ l : Int, ds = [layD W S, .int l] ∧ -(2 ^ 200) < l ∧ l < 2 ^ 200 ∧ Q (dI (max 0 (W - 2 * l))) []
theorem W_Layout_moved_by : ∀ ds Q E, F_Layout_moved_by ds Q E → b_Layout_moved_by F_shift_of (env0 [false, false] ds 2) (bodyEnds [false, false] Q E) := by
  refine viaE ?_
  simp (disch := with_unfolding_all (
    rintro ds Q E ⟨W, S, l, rfl, h1, h2, h⟩
    show b_Layout_moved_by _ [.fz (layD W S) false, .fz (.int l) false] (bodyEnds [false, false] Q E)
    unfold b_Layout_moved_by
    walk_at "d"
    refine ⟨W, l, rfl, h1, h2, ?_⟩
    walk_at "d"
    exact h)) only [↓viaI]
def F_Layout_mirrored : DF := fun ds Q _ => ∃ W S, ∃ low about : Int, ds = [layD W S, .int low, .int about] ∧ S ≠ [] ∧ S.length ≤ 1000 ∧ Q (.ow (.list ((mir about low W S).map stD)) true) []
theorem W_Layout_mirrored : ∀ ds Q E, F_Layout_mirrored ds Q E → b_Layout_mirrored (env0 [false, false, false] ds 8) (bodyEnds [false, false, false] Q E) := by
  refine viaE ?_
  simp (disch := with_unfolding_all (
    rintro ds Q E ⟨W, S, low, about, rfl, hne, hl, h⟩
    show b_Layout_mirrored [.fz (layD W S) false, .fz (.int low) false, .fz (.int about) false, .un, .un, .un, .un, .un] (bodyEnds [false, false, false] Q E)
    unfold b_Layout_mirrored
    walk_at "d"
    rw [cut_tail]
    refine x_lcfm S.tail stD (fun s => some (.int s.1)) (by simp) (by exact off1 rfl rfl) (small (by rw [List.length_tail]; omega)) ?_ ?_
    · intro s _ K K2 h1 h2
      refine ⟨_, rfl, by exact off1 rfl rfl, fun _ => ?_, fun z => nomatch z⟩
      walk_at "d"
      exact h1 _ _ rfl (by exact off1 rfl rfl) rfl
    rw [fmap_some]
    walk_at "d"
    refine ⟨by rw [List.length_map, List.length_tail]; exact small (show _ + 1 ≤ _ by omega), ?_⟩
    rw [show S.tail.map (fun s => D.int s.1) ++ [D.int W] = (ends W S).map D.int by unfold ends; rw [List.map_append, List.map_map]; rfl]
    walk_at "d"
    refine ⟨_, _, _, _, rfl, _, _, _, rfl, rfl, ?_⟩
    rw [zipD_map]
    refine x_lcfm (S.zip (ends W S)) _ (fun p => if decide (p.2 > low) = true then some (stD (p.2, p.1.2)) else none) rfl (by exact off2 rfl rfl rfl rfl) (small (by rw [List.length_zip]; exact Nat.le_trans (Nat.min_le_left _ _) (by omega))) ?_ ?_
    · intro p _ K K2 h1 h2
      refine ⟨_, rfl, ?_⟩
      walk_at "d"
      refine ⟨by exact off2 rfl rfl rfl rfl, fun hb => ?_, fun hb => h2 _ (by simp at hb ⊢; omega) (by exact off2 rfl rfl rfl rfl) rfl⟩
      walk_at "d"
      exact h1 _ _ (by rw [if_pos hb]; rfl) (by exact off2 rfl rfl rfl rfl) rfl
    rw [fmap_if]
    have e2 : ((S.zip (ends W S)).filter fun p => decide (p.2 > low)).map (fun p => stD (p.2, p.1.2)) = (prs low W S).map stD := by
      rw [prs_eq, List.map_filterMap, ← fmap_if]
      congr 1
      funext p
      by_cases k : p.2 > low <;> simp [k]
    rw [e2]
    refine ⟨_, rfl, ?_⟩
    refine x_ret ?_
    refine x_lc ?_
    refine x_it ?_
    refine x_revL ?_
    walk_at "d"
    refine ⟨_, _, rfl, rfl, ?_⟩
    refine ⟨_, rfl, _, rfl, ?_⟩
    rw [← List.map_reverse]
    refine x_lcfm (prs low W S).reverse stD (fun p => some (stD (about + 1 - p.1, p.2))) rfl (by exact off2 rfl rfl rfl rfl) (small (by rw [List.length_reverse]; exact Nat.le_trans prs_len (by omega))) ?_ ?_
    · intro p _ K K2 h1 h2
      refine ⟨_, rfl, by exact off2 rfl rfl rfl rfl, fun _ => ?_, fun z => nomatch z⟩
      walk_at "d"
      exact h1 _ _ rfl (by exact off2 rfl rfl rfl rfl) rfl
    rw [fmap_some]
    walk_at "d"
    have e3 : (prs low W S).reverse.map (fun p => stD (about + 1 - p.1, p.2)) = (mir about low W S).map stD := by unfold mir; rw [List.map_map]; rfl
    rw [e3]
    exact h)) only [↓viaI]
end P

open PySem PySem.Spec L2 DL
namespace P
open Lay
theorem okn_nm (o : Bool) : OkN 0 (.str (dnm o)) := by cases o <;> exact ⟨rfl, by show PyData.strOk _ = true; decide +kernel, Nat.le_refl _⟩
theorem okn_turn : OkN 0 (.str ("turn" : Str)) := ⟨rfl, by show PyData.strOk _ = true; decide +kernel, Nat.le_refl _⟩
theorem okn_deed (d : Deed) : OkN 1 (deedD d) := by
  cases d with
  | turn => exact okn_tuple fun x hx => by rw [List.mem_singleton.mp hx]; exact okn_turn
  | fold o l =>
    refine okn_tuple fun x hx => ?_
    rcases List.mem_cons.mp hx with rfl | hx
    · exact okn_nm o
    · rw [List.mem_singleton.mp hx]; exact okn_int l
theorem deq_turn (d : Deed) : deq (deedD d) (.tuple [.str ("turn" : Str)]) = decide (d = .turn) := by
  cases d with
  | turn => rfl
  | fold o l =>
    show (PyData.eqv _ _ && PyData.eqvAll _ _) = _
    show (PyData.eqv (.str (dnm o)) (.str ("turn" : Str)) && false) = false
    simp
theorem x_eqTurn {d : Deed} {n m : Bool} {R : T → Prop} (h : R (dB (decide (d = .turn)))) : fEq (deedD d) (.tuple [.str ("turn" : Str)]) n m R := ⟨(okn_deed d).ok (by decide), (okn_deed .turn).ok (by decide), by rw [deq_turn]; exact h⟩
def F_flat_one : DF := fun ds Q _ => ∃ W : Int, ds = [.int W, .none] ∧ Q (.ow (layD W [(0, 1)]) false) []
theorem W_flat_one : ∀ ds Q E, F_flat_one ds Q E → b_flat_one F_Layout___init__ (env0 [false, false] ds 2) (bodyEnds [false, false] Q E) := by
  refine viaE ?_
  simp (disch := with_unfolding_all (
    rintro ds Q E ⟨W, rfl, h⟩
    show b_flat_one _ [.fz (.int W) false, .fz .none false] (bodyEnds [false, false] Q E)
    unfold b_flat_one
    walk_at "d"
    show ∃ b n, _ ∧ _
    walk_at "d"
    refine ⟨rfl, W, [(0, 1)], rfl, ?_⟩
    refine ⟨_, _, rfl, rfl, ?_⟩
    walk_at "d"
    exact h)) only [↓viaI]
def F_wide_behind : DF := fun ds Q _ => ∃ (W : Int) (d : Deed), ds = [.int W, deedD d] ∧ ∀ n, Q (.fz (.int (d.wide W)) n) []
theorem W_wide_behind : ∀ ds Q E, F_wide_behind ds Q E → b_wide_behind (env0 [false, false] ds 2) (bodyEnds [false, false] Q E) := by
  refine viaE ?_
  simp (disch := with_unfolding_all (
    rintro ds Q E ⟨W, d, rfl, h⟩
    show b_wide_behind [.fz (.int W) false, .fz (deedD d) false] (bodyEnds [false, false] Q E)
    unfold b_wide_behind
    walk_at "d"
    refine x_eqTurn ?_
    walk_at "d"
    refine x_dec (fun hd => ?_) fun hd => ?_
    · subst hd
      walk_at "d"
      exact h _
    · cases d with
      | turn => exact absurd rfl hd
      | fold o l =>
        unfold deedD
        walk_at "d"
        rw [show (if W - l > l then W - l else l) = max l (W - l) by split <;> omega]
        exact h _)) only [↓viaI]
def F_Layout_lets : DF := fun ds Q _ => ∃ (W : Int) (S : Steps) (d : Deed), ds = [layD W S, deedD d] ∧ ∀ n, Q (.fz (.bool (decide (d.lets W))) n) []
theorem W_Layout_lets : ∀ ds Q E, F_Layout_lets ds Q E → b_Layout_lets (env0 [false, false] ds 2) (bodyEnds [false, false] Q E) := by
  refine viaE ?_
  simp (disch := with_unfolding_all (
    rintro ds Q E ⟨W, S, d, rfl, h⟩
    show b_Layout_lets [.fz (layD W S) false, .fz (deedD d) false] (bodyEnds [false, false] Q E)
    unfold b_Layout_lets
    walk_at "d"
    refine x_eqTurn ?_
    walk_at "d"
    refine x_dec (fun hk => ?_) fun hn => ?_
    · subst hk
      walk_at "d"
      exact h _
    cases d with
    | turn => exact absurd rfl hn
    | fold o l =>
      unfold deedD
      walk_at "d"
      have e : decide (Deed.lets W (.fold o l)) = (decide (1 ≤ l) && decide (l < W)) := by
        show decide (1 ≤ l ∧ l < W) = _
        by_cases h1 : 1 ≤ l <;> by_cases h2 : l < W <;> simp [h1, h2]
      rw [e] at h
      refine x_dec (fun h1 => ?_) fun h1 => ?_
      · walk_at "d"
        have h' := h
        rw [decide_eq_true h1, Bool.true_and] at h'
        exact h' _
      · walk_at "d"
        have h' := h
        rw [decide_eq_false h1, Bool.false_and] at h'
        exact h' _)) only [↓viaI]
def F_Layout_behind : DF := fun ds Q _ => ∃ (W : Int) (S : Steps) (d : Deed), ds = [layD W S, deedD d] ∧ LayOk W S ∧ 1 ≤ W ∧ W ≤ 10 ^ 40 ∧ S.length ≤ 900 ∧ d.lets W ∧ ∀ S', Stp W S d S' → Q (.ow (layD (d.wide W) S') false) []
theorem W_Layout_behind : ∀ ds Q E, F_Layout_behind ds Q E → b_Layout_behind F_Layout___init__ F_sum_of F_wide_behind F_Layout_mirrored F_Layout_moved_by (env0 [false, false] ds 8) (bodyEnds [false, false] Q E) := by
  refine viaE ?_
  simp (disch := with_unfolding_all (
    rintro ds Q E ⟨W, S, d, rfl, hL, hW, hW2, hS, hd, h⟩
    show b_Layout_behind _ _ _ _ _ [.fz (layD W S) false, .fz (deedD d) false, .un, .un, .un, .un, .un, .un] (bodyEnds [false, false] Q E)
    unfold b_Layout_behind
    walk_at "d"
    refine x_eqTurn ?_
    walk_at "d"
    refine x_dec (fun hk => ?_) fun hk => ?_
    · subst hk
      walk_at "d"
      refine ⟨W, S, 0, W - 1, rfl, hL.ne, by omega, ?_⟩
      walk_at "n"
      walk_at "d"
      refine ⟨rfl, W, mir (W - 1) 0 W S, rfl, ?_⟩
      refine ⟨_, _, rfl, rfl, ?_⟩
      walk_at "d"
      exact h _ (turn_stp hL hW)
    cases d with
    | turn => exact absurd rfl hk
    | fold o l =>
      obtain ⟨h1, h2⟩ := hd
      have hb : W < 2 ^ 180 := by omega
      unfold deedD
      walk_at "d"
      refine ⟨W, S, l, rfl, by omega, by omega, ?_⟩
      walk_at "n"
      walk_at "d"
      generalize hm : max 0 (W - 2 * l) = sh
      refine x_lcfm S stD (fun s => if decide (s.1 < l) = true then some (stD (s.1 + sh, s.2)) else none) rfl (by exact off2 rfl rfl rfl rfl) (small (by omega)) ?_ ?_
      · intro s _ K K2 k1 k2
        refine ⟨_, rfl, ?_⟩
        walk_at "d"
        refine ⟨by exact off2 rfl rfl rfl rfl, fun hb => ?_, fun hb => k2 _ (by simp at hb ⊢; omega) (by exact off2 rfl rfl rfl rfl) rfl⟩
        walk_at "d"
        exact k1 _ _ (by rw [if_pos hb]; rfl) (by exact off2 rfl rfl rfl rfl) rfl
      have e1 : (S.filterMap fun s => if decide (s.1 < l) = true then some (stD (s.1 + sh, s.2)) else none) = (stay l sh S).map stD := by
        unfold stay
        rw [List.map_filterMap]
        congr 1
        funext p
        by_cases k : p.1 < l <;> simp [k]
      rw [e1]
      walk_at "d"
      refine x_mulI (cmul (by omega) (by omega) (by omega) (by omega)) ?_
      walk_at "d"
      refine ⟨W, S, l, 2 * l - 1 + sh, rfl, hL.ne, by omega, ?_⟩
      walk_at "n"
      walk_at "d"
      refine ⟨W, .fold o l, rfl, fun q => ?_⟩
      walk_at "n"
      walk_at "d"
      refine ⟨[(0, 0)], stay l sh S, rfl, List.pairwise_singleton _ _, stay_SoS hL.so, by decide, Nat.le_trans stay_len (by omega), fun r1 hr1 => ?_⟩
      walk_at "n"
      walk_at "d"
      refine ⟨r1, mir (2 * l - 1 + sh) l W S, rfl, hr1.so, mir_SoS hL.so fun s hs => (hL.rng s hs).2, ?_, Nat.le_trans mir_len (by omega), fun r hr => ?_⟩
      · have a1 := hr1.len
        have a2 := stay_len (l := l) (sh := sh) (S := S)
        simp only [List.length_singleton] at a1
        omega
      walk_at "n"
      walk_at "d"
      refine ⟨rfl, max l (W - l), r, rfl, ?_⟩
      refine ⟨_, _, rfl, rfl, ?_⟩
      walk_at "d"
      subst hm
      exact h _ (fold_stp hL h1 h2 hr1 hr))) only [↓viaI]
end P

open PySem PySem.Spec L2 DL
namespace P
open Lay
/-- things that may be handed in -/
def strV (z : Str) : Bool := z.cps.toList.all fun c => decide (c < 0x110000)
mutual
def fine : D → Bool
  | .none => true | .bool _ => true | .int _ => true | .str z => strV z && decide (z.length ≤ 4000)
  | .list xs => fines xs && decide (xs.length ≤ 10000) | .tuple xs => fines xs && decide (xs.length ≤ 10000) | .dict _ _ => true | _ => false
def fines : List D → Bool
  | [] => true
  | x :: xs => fine x && fines xs
end
theorem fines_mem {x : D} : ∀ {xs : List D}, x ∈ xs → fines xs = true → fine x = true
  | [], h, _ => nomatch h
  | y :: xs, h, k => by
    simp only [fines, Bool.and_eq_true] at k
    rcases List.mem_cons.mp h with rfl | h
    · exact k.1
    · exact fines_mem h k.2
theorem fines_of : ∀ {xs : List D}, (∀ x ∈ xs, fine x = true) → fines xs = true
  | [], _ => rfl
  | x :: xs, h => by
    have h1 := h x (by simp)
    have h2 := fines_of (xs := xs) fun y hy => h y (List.mem_cons_of_mem _ hy)
    simp [fines, h1, h2]
theorem okn_strV {z : Str} (h : strV z = true) : OkN 0 (.str z) := by
  refine ⟨rfl, ?_, Nat.le_refl _⟩
  show PyData.strOk z = true
  unfold PyData.strOk
  unfold strV at h
  rw [← Array.all_toList]
  exact h
def isW : D → Bool
  | .int _ => true | _ => false
def F_is_whole : DF := fun ds Q _ => ∃ x, ds = [x] ∧ fine x = true ∧ ∀ n, Q (.fz (.bool (isW x)) n) []
theorem W_is_whole : ∀ ds Q E, F_is_whole ds Q E → b_is_whole (env0 [false] ds 1) (bodyEnds [false] Q E) := by
  refine viaE ?_
  simp (disch := with_unfolding_all (
    rintro ds Q E ⟨x, rfl, hx, h⟩
    show b_is_whole [.fz x false] (bodyEnds [false] Q E)
    unfold b_is_whole
    cases x <;> first | exact Bool.noConfusion hx | (walk_at "d"; exact h _))) only [↓viaI]
/-- a list or a tuple of these -/
def seqD (b : Bool) (xs : List D) : D := if b then .list xs else .tuple xs
def isM : D → Bool
  | .list _ => true | .tuple _ => true | _ => false
def F_is_many : DF := fun ds Q _ => ∃ x, ds = [x] ∧ fine x = true ∧ ∀ n, Q (.fz (.bool (isM x)) n) []
theorem W_is_many : ∀ ds Q E, F_is_many ds Q E → b_is_many (env0 [false] ds 1) (bodyEnds [false] Q E) := by
  refine viaE ?_
  simp (disch := with_unfolding_all (
    rintro ds Q E ⟨x, rfl, hx, h⟩
    show b_is_many [.fz x false] (bodyEnds [false] Q E)
    unfold b_is_many
    cases x <;> first | exact Bool.noConfusion hx | (walk_at "d"; exact h _))) only [↓viaI]
/-- the number of places that a thing is -/
def plOf : D → Option Int
  | .int W => if 1 ≤ W ∧ W ≤ 10 ^ 30 then some W else none
  | _ => none
theorem plOf_eq {i : Int} : plOf (.int i) = if 1 ≤ i ∧ i ≤ 10 ^ 30 then some i else none := rfl
theorem plOf_some {x : D} {W : Int} (h : plOf x = some W) : x = .int W ∧ 1 ≤ W ∧ W ≤ 10 ^ 30 := by
  cases x with
  | int i =>
    rw [plOf_eq] at h
    by_cases k : 1 ≤ i ∧ i ≤ 10 ^ 30
    · rw [if_pos k] at h; cases h; exact ⟨rfl, k⟩
    · rw [if_neg k] at h; cases h
  | _ => cases h
theorem plOf_int {W : Int} (h1 : 1 ≤ W) (h2 : W ≤ 10 ^ 30) : plOf (.int W) = some W := if_pos ⟨h1, h2⟩
def F_need_places : DF := fun ds Q E => ∃ x, ds = [x] ∧ fine x = true ∧ (match plOf x with | some _ => Q (.fz .none true) [] | none => E "NoPlaces" [])
theorem W_need_places : ∀ ds Q E, F_need_places ds Q E → b_need_places F_is_whole (env0 [false] ds 1) (bodyEnds [false] Q E) := by
  refine viaE ?_
  simp (disch := with_unfolding_all (
    rintro ds Q E ⟨x, rfl, hx, h⟩
    show b_need_places _ [.fz x false] (bodyEnds [false] Q E)
    unfold b_need_places
    walk_at "d"
    refine ⟨x, rfl, hx, fun n => ?_⟩
    cases x with
    | int i =>
      unfold isW
      walk_at "w"
      rw [plOf_eq] at h
      refine x_dec (fun h1 => ?_) fun h1 => ?_
      · walk_at "d"
        refine x_decN (fun h2 => ?_) fun h2 => ?_
        · walk_at "d"
          rw [if_neg (by omega)] at h
          exact h
        · walk_at "d"
          rw [if_pos (by omega)] at h
          exact h
      · walk_at "d"
        rw [if_neg (by omega)] at h
        exact h
    | scr _ => exact Bool.noConfusion hx
    | ktup _ => exact Bool.noConfusion hx
    | obj _ _ => exact Bool.noConfusion hx
    | exc _ => exact Bool.noConfusion hx
    | dob _ _ => exact Bool.noConfusion hx
    | own _ _ => exact Bool.noConfusion hx
    | lk _ => exact Bool.noConfusion hx
    | two _ _ _ _ => exact Bool.noConfusion hx
    | _ =>
      unfold isW
      walk_at "w"
      exact h)) only [↓viaI]
end P

open PySem PySem.Spec L2 DL
namespace P
open Lay
theorem stp_fun {W : Int} {S S' : Steps} {d : Deed} (h : Stp W S d S') : lay (d.wide W) S' = newF W (lay W S) d := by
  funext c
  unfold newF
  by_cases k : 0 ≤ c ∧ c < d.wide W
  · rw [if_pos k, h.val c k.1 k.2]
    cases d <;> rfl
  · rw [if_neg k]
    unfold lay
    rw [if_neg k]
theorem lay_flat {W : Int} : lay W [(0, 1)] = flatF W := by
  funext c
  unfold lay flatF
  by_cases k : 0 ≤ c ∧ c < W
  · rw [if_pos k, if_pos k]
    show (if (0 : Int) ≤ c then (1 : Int) else 0) = 1
    rw [if_pos k.1]
  · rw [if_neg k, if_neg k]
theorem flat_ok {W : Int} (h : 1 ≤ W) : LayOk W [(0, 1)] := ⟨List.pairwise_singleton _ _, fun s hs => by rw [List.mem_singleton.mp hs]; show (0 : Int) ≤ 0 ∧ (0 : Int) < W; omega, ⟨(0, 1), by simp, rfl⟩⟩
/-- the layout behind a row -/
structure Beh (W : Int) (row : List Deed) (S : Steps) : Prop where
  ok : LayOk (wideAll W row) S
  val : lay (wideAll W row) S = (run (W, flatF W) row).2
  len : S.length ≤ 2 * row.length + 1
  pos : 1 ≤ wideAll W row
  alt : noEq none S
def layP (p : Int × Steps) : D := layD p.1 p.2
/-- the layouts, flat and behind each deed -/
structure Lts (W : Int) (row : List Deed) (Ls : List (Int × Steps)) : Prop where
  len : Ls.length = row.length + 1
  at_ : ∀ k, k ≤ row.length → ∃ S, Ls[k]? = some (wideAll W (row.take k), S) ∧ Beh W (row.take k) S
theorem Lts.snoc {W : Int} {row : List Deed} {Ls : List (Int × Steps)} {d : Deed} {S : Steps} (h : Lts W row Ls) (hs : Beh W (row ++ [d]) S) : Lts W (row ++ [d]) (Ls ++ [(wideAll W (row ++ [d]), S)]) := by
  refine ⟨by rw [List.length_append, List.length_append, h.len]; rfl, fun k hk => ?_⟩
  by_cases e : k ≤ row.length
  · obtain ⟨S', e1, e2⟩ := h.at_ k e
    refine ⟨S', ?_, ?_⟩
    · rw [List.getElem?_append_left (by rw [h.len]; omega), List.take_append_of_le_length e]; exact e1
    · rw [List.take_append_of_le_length e]; exact e2
  · have hk' : k = row.length + 1 := by rw [List.length_append] at hk; simp at hk; omega
    subst hk'
    refine ⟨S, ?_, ?_⟩
    · rw [List.getElem?_append_right (by rw [h.len]; omega), h.len, List.take_of_length_le (by simp)]; simp
    · rw [List.take_of_length_le (by simp)]; exact hs
theorem Lts.last {W : Int} {row : List Deed} {Ls : List (Int × Steps)} (h : Lts W row Ls) : ∃ L0 S, Ls = L0 ++ [(wideAll W row, S)] ∧ Beh W row S := by
  obtain ⟨S, e1, e2⟩ := h.at_ row.length (Nat.le_refl _)
  rw [List.take_of_length_le (Nat.le_refl _)] at e1 e2
  rcases List.eq_nil_or_concat Ls with e | ⟨L0, x, e⟩
  · have := h.len; rw [e] at this; simp at this
  · refine ⟨L0, S, ?_, e2⟩
    have hl := h.len
    rw [e, List.concat_eq_append] at hl e1 ⊢
    rw [List.length_append] at hl
    simp at hl
    rw [List.getElem?_append_right (by omega), hl] at e1
    simp at e1
    rw [e1]
theorem flat_beh {W : Int} (h : 1 ≤ W) : Beh W [] [(0, 1)] := ⟨flat_ok h, lay_flat, by decide, h, ⟨(fun z => nomatch z), trivial⟩⟩
theorem lts_flat {W : Int} (h : 1 ≤ W) : Lts W [] [(W, [(0, 1)])] := by
  refine ⟨rfl, fun k hk => ?_⟩
  have e : k = 0 := Nat.le_zero.mp hk
  subst e
  exact ⟨_, rfl, flat_beh h⟩
theorem beh_step {W : Int} {row : List Deed} {S S' : Steps} {d : Deed} (h : Beh W row S) (hs : Stp (wideAll W row) S d S') (hd : d.lets (wideAll W row)) : Beh W (row ++ [d]) S' := by
  have hw := wide_pos hd h.pos
  refine ⟨by rw [wideAll_snoc]; exact hs.ok, ?_, ?_, by rw [wideAll_snoc]; exact hw.1, hs.alt h.alt⟩
  · rw [wideAll_snoc, stp_fun hs, h.val, run_snoc]
    show _ = newF (run (W, flatF W) row).1 _ d
    rw [run_wide]
  · rw [List.length_append]
    have := hs.len
    have := h.len
    simp
    omega
def F_layouts : DF := fun ds Q _ => ∃ (W : Int) (row : List Deed), ds = [.int W, .list (row.map deedD), .none] ∧ 1 ≤ W ∧ W ≤ 10 ^ 40 ∧ row.length ≤ 400 ∧ letsAll W row ∧ ∀ Ls n, Lts W row Ls → Q (.ow (.list (Ls.map layP)) n) []
theorem W_layouts : ∀ ds Q E, F_layouts ds Q E → b_layouts F_Layout_behind F_flat_one (env0 [false, false, false] ds 5) (bodyEnds [false, false, false] Q E) := by
  refine viaE ?_
  simp (disch := with_unfolding_all (
    rintro ds Q E ⟨W, row, rfl, hW, hW2, hr, hl, h⟩
    show b_layouts _ _ [.fz (.int W) false, .fz (.list (row.map deedD)) false, .fz .none false, .un, .un] (bodyEnds [false, false, false] Q E)
    unfold b_layouts
    walk_at "d"
    refine ⟨W, rfl, ?_⟩
    walk_at "n"
    walk_at "d"
    refine for_ind (fun L e => ∃ (done rest : List Deed) (Ls : List (Int × Steps)) (m : Bool) (x4 : DL.Slot), L = rest.map deedD ∧ row = done ++ rest ∧ Lts W done Ls ∧ okS x4 = true ∧
      e = [.fz (.int W) false, .fz (.list (row.map deedD)) false, .fz .none false, .ow (.list (Ls.map layP)) m, x4]) ?_ ?_ ⟨[], row, [(W, [(0, 1)])], _, .un, rfl, rfl, lts_flat hW, rfl, rfl⟩
    · rintro x xs e K ⟨done, rest, Ls, m, x4, eL, e1, e2, k4, rfl⟩ hK
      cases rest with
      | nil => cases eL
      | cons d rest =>
      cases eL
      rw [e1] at hl
      obtain ⟨l1, d1, l2⟩ := letsAll_app.mp hl
      obtain ⟨L0, S, eLs, hB⟩ := e2.last
      refine ⟨_, setS_ok rfl k4, ?_⟩
      dsimp only [List.set_cons_zero, List.set_cons_succ]
      walk_at "d"
      refine x_ixL (by rw [eLs, List.map_append]; exact atI_last) ?_
      unfold layP
      walk_at "d"
      have hw := wideAll_pos hW l1
      have hdl : done.length ≤ 400 := by rw [e1, List.length_append] at hr; omega
      refine ⟨wideAll W done, S, d, rfl, hB.ok, hB.pos, by omega, by have := hB.len; omega, d1, fun S2 hs => ?_⟩
      walk_at "n"
      walk_at "d"
      refine ⟨_, rfl, by rw [List.length_map, e2.len]; exact smallLt (by omega), ?_⟩
      have hb := beh_step hB hs d1
      refine hK _ ⟨done ++ [d], rest, Ls ++ [(wideAll W (done ++ [d]), S2)], _, _, rfl, by rw [e1]; simp, e2.snoc hb, rfl, by rw [List.map_append, wideAll_snoc]; rfl⟩
    · rintro e ⟨done, rest, Ls, m, x4, eL, e1, e2, k4, rfl⟩
      have hR : rest = [] := by simpa using eL.symm
      subst hR
      rw [List.append_nil] at e1
      subst e1
      walk_at "d"
      exact h Ls _ e2)) only [↓viaI]
end P

open PySem PySem.Spec L2 DL
namespace P
open Lay
/-- a deed as handed in -/
def deedL : Deed → List D
  | .turn => [.str ("turn" : Str)]
  | .fold o l => [.str (dnm o), .int l]
def hD (p : Deed × Bool) : D := seqD p.2 (deedL p.1)
/-- the deed that a thing is -/
def deedOfL : List D → Option Deed
  | [.str z] => if z = ("turn" : Str) then some .turn else none
  | [.str z, .int l] => if z = ("over" : Str) then some (.fold true l) else if z = ("under" : Str) then some (.fold false l) else none
  | _ => none
def deedOf : D → Option Deed
  | .list xs => deedOfL xs
  | .tuple xs => deedOfL xs
  | _ => none
def optD : Option Deed → D
  | some d => deedD d
  | none => .none
theorem deedOf_hD (p : Deed × Bool) : deedOf (hD p) = some p.1 := by
  obtain ⟨d, b⟩ := p
  cases d with
  | turn => cases b <;> rfl
  | fold o l => cases b <;> cases o <;> rfl
theorem deq_turnS (z : Str) : deq (.str z) (.str ("turn" : Str)) = decide (z = ("turn" : Str)) := deq_str _ _
theorem x_inWays {z : Str} {n m : Bool} {R : T → Prop} (hz : strV z = true) (h : R (dB (decide (z = ("over" : Str) ∨ z = ("under" : Str))))) : fIn false (.str z) (.tuple [.str ("over" : Str), .str ("under" : Str)]) n m R := by
  refine ⟨(okn_strV hz).ok (by decide), by decide +kernel, ?_⟩
  have e : ([D.str ("over" : Str), .str ("under" : Str)].any fun w => deq w (.str z)) = decide (z = ("over" : Str) ∨ z = ("under" : Str)) := by
    show (deq (.str ("over" : Str)) (.str z) || (deq (.str ("under" : Str)) (.str z) || false)) = _
    rw [deq_str, deq_str]
    by_cases h1 : z = ("over" : Str) <;> by_cases h2 : z = ("under" : Str) <;> simp [h1, h2, eq_comm]
  rw [e]
  simpa using h
def F_deed_of : DF := fun ds Q _ => ∃ x, ds = [x] ∧ fine x = true ∧ ∀ n, Q (.fz (optD (deedOf x)) n) []
theorem lenSeq {b : Bool} {xs : List D} {n : Bool} {R : T → Prop} (h : R (dI (xs.length : Nat))) : fLen [(seqD b xs, n)] R := by cases b <;> exact ⟨_, _, rfl, .inl ⟨_, rfl, h⟩⟩
theorem itemsSeq (b : Bool) (xs : List D) : itemsOf (seqD b xs) = some xs := by cases b <;> rfl
theorem x_ixSeq {b : Bool} {xs : List D} {i : Int} {d : D} {n m : Bool} {R : T → Prop} (e : atI xs i = some d) (h : R (.fz d n)) : fIx (seqD b xs) (.int i) n m R := by
  cases b
  · exact x_ixT e h
  · exact x_ixL e h
theorem of_seq {b : Bool} {xs : List D} : deedOf (seqD b xs) = deedOfL xs := by cases b <;> rfl
theorem fine_seq {b : Bool} {xs : List D} : fine (seqD b xs) = (fines xs && decide (xs.length ≤ 10000)) := by cases b <;> rfl
theorem isM_seq {x : D} (h : fine x = true) (k : isM x = true) : ∃ b xs, x = seqD b xs := by
  cases x with
  | list xs => exact ⟨true, xs, rfl⟩
  | tuple xs => exact ⟨false, xs, rfl⟩
  | _ => cases k
theorem dict_no {x : D} (k : isM x = false) : deedOf x = none := by
  cases x <;> first | rfl | cases k
theorem seq_no {xs : List D} (h : ∀ z r, xs ≠ .str z :: r) : deedOfL xs = none := by
  cases xs with
  | nil => rfl
  | cons x r =>
    cases x with
    | str z => exact absurd rfl (h z r)
    | _ => cases r with
      | nil => rfl
      | cons y r => rfl
theorem atI_0 {x : D} {r : List D} : atI (x :: r) 0 = some x := L2.atI_nat (j := 0) rfl
theorem atI_1 {x y : D} {r : List D} : atI (x :: y :: r) 1 = some y := L2.atI_nat (j := 1) rfl
theorem deed2 {b : Bool} {z : Str} {r : List D} {Q : T → List D → Prop} {E : Str → List D → Prop} (hz : strV z = true) (hr : fines r = true) (ht : z ≠ ("turn" : Str) ∨ r ≠ []) (h : ∀ n, Q (.fz (optD (deedOfL (.str z :: r))) n) []) : c_deed_of_2 F_is_whole [.fz (seqD b (.str z :: r)) false] (bodyEnds [false] Q E) := by
  have no : deedOfL (.str z :: r) = none → c_deed_of_1 [.fz (seqD b (.str z :: r)) false] (bodyEnds [false] Q E) := fun e => by
    unfold c_deed_of_1
    walk_at "d"
    rw [e] at h
    exact h _
  unfold c_deed_of_2
  walk_at "d"
  refine x_ixSeq atI_0 ?_
  walk_at "d"
  refine x_inWays hz ?_
  walk_at "d"
  refine x_dec (fun hw => ?_) fun hw => ?_
  · walk_at "d"
    refine lenSeq ?_
    walk_at "d"
    refine x_dec (fun hl => ?_) fun hl => ?_
    · obtain ⟨y, rfl⟩ : ∃ y, r = [y] := by
        cases r with
        | nil => simp at hl
        | cons y r => cases r with
          | nil => exact ⟨y, rfl⟩
          | cons w r => simp at hl; omega
      walk_at "d"
      refine x_ixSeq atI_1 ?_
      walk_at "d"
      refine ⟨y, rfl, fines_mem (by simp) hr, fun n => ?_⟩
      walk_at "w"
      cases hy : isW y
      · walk_at "d"
        refine no ?_
        cases y <;> first | rfl | cases hy
      · walk_at "d"
        refine x_ixSeq atI_0 ?_
        walk_at "d"
        refine x_ixSeq atI_1 ?_
        walk_at "d"
        cases y with
        | int l =>
          rcases hw with rfl | rfl
          · exact h _
          · exact h _
        | _ => cases hy
    · walk_at "d"
      refine no ?_
      cases r with
      | nil =>
        show (if z = ("turn" : Str) then some Deed.turn else none) = none
        rcases ht with ht | ht
        · rw [if_neg ht]
        · exact absurd rfl ht
      | cons y r => cases r with
        | nil => simp at hl
        | cons w r => cases y <;> rfl
  · walk_at "d"
    refine no ?_
    have h1 : z ≠ ("over" : Str) := fun e => hw (.inl e)
    have h2 : z ≠ ("under" : Str) := fun e => hw (.inr e)
    cases r with
    | nil =>
      show (if z = ("turn" : Str) then some Deed.turn else none) = none
      rcases ht with ht | ht
      · rw [if_neg ht]
      · exact absurd rfl ht
    | cons y r => cases r with
      | nil =>
        cases y with
        | int l =>
          show (if z = ("over" : Str) then some (Deed.fold true l) else if z = ("under" : Str) then some (.fold false l) else none) = none
          rw [if_neg h1, if_neg h2]
        | _ => rfl
      | cons w r => cases y <;> rfl
theorem W_deed_of : ∀ ds Q E, F_deed_of ds Q E → b_deed_of F_is_whole F_is_many (env0 [false] ds 1) (bodyEnds [false] Q E) := by
  rintro ds Q E ⟨x, rfl, hx, h⟩
  show b_deed_of _ _ [.fz x false] (bodyEnds [false] Q E)
  rw [e_deed_of]
  unfold c_deed_of
  walk_at "d"
  refine ⟨x, rfl, hx, fun n => ?_⟩
  walk_at "w"
  cases hm : isM x
  · walk_at "d"
    rw [dict_no hm] at h
    exact h _
  walk_at "d"
  obtain ⟨b, xs, rfl⟩ := isM_seq hx hm
  rw [fine_seq, Bool.and_eq_true] at hx
  refine lenSeq ?_
  walk_at "d"
  rw [of_seq] at h
  cases xs with
  | nil =>
    rw [show decide (((([] : List D).length : Nat) : Int) = 0) = true from rfl]
    walk_at "d"
    exact h _
  | cons x r =>
    rw [show decide ((((x :: r).length : Nat) : Int) = 0) = false from decide_eq_false (by simp; omega)]
    walk_at "d"
    simp only [fines, Bool.and_eq_true] at hx
    obtain ⟨⟨hx1, hx2⟩, _⟩ := hx
    refine x_ixSeq atI_0 ?_
    cases x with
    | str z =>
      simp only [fine, Bool.and_eq_true] at hx1
      walk_at "d"
      unfold c_deed_of_3
      walk_at "d"
      refine x_ixSeq atI_0 ?_
      walk_at "d"
      refine ⟨(okn_strV hx1.1).ok (by decide), okn_turn.ok (by decide), ?_⟩
      rw [deq_turnS]
      walk_at "d"
      refine x_dec (fun hz => ?_) fun hz => ?_
      · walk_at "d"
        refine lenSeq ?_
        walk_at "d"
        refine x_dec (fun hl => ?_) fun hl => ?_
        · have hr : r = [] := by
            cases r with
            | nil => rfl
            | cons y r => simp at hl; omega
          subst hr hz
          walk_at "d"
          exact h _
        · walk_at "d"
          exact deed2 hx1.1 hx2 (.inr fun e => hl (by rw [e]; rfl)) h
      · walk_at "d"
        exact deed2 hx1.1 hx2 (.inl hz) h
    | scr _ => exact Bool.noConfusion hx1
    | ktup _ => exact Bool.noConfusion hx1
    | obj _ _ => exact Bool.noConfusion hx1
    | exc _ => exact Bool.noConfusion hx1
    | dob _ _ => exact Bool.noConfusion hx1
    | own _ _ => exact Bool.noConfusion hx1
    | lk _ => exact Bool.noConfusion hx1
    | two _ _ _ _ => exact Bool.noConfusion hx1
    | _ =>
      walk_at "d"
      rw [seq_no (by intro z r' e; cases e)] at h
      exact h _
end P

open PySem PySem.Spec L2 DL
namespace P
open Lay
/-- the row that a thing is -/
def readL (W : Int) : List D → Option (List Deed)
  | [] => some []
  | x :: xs => match deedOf x with
    | some d => if d.lets W then (readL (d.wide W) xs).map (d :: ·) else none
    | none => none
def readRow (W : Int) : D → Option (List Deed)
  | .list xs => if xs.length ≤ 40 then readL W xs else none
  | .tuple xs => if xs.length ≤ 40 then readL W xs else none
  | _ => none
theorem readRow_seq {W : Int} {b : Bool} {xs : List D} : readRow W (seqD b xs) = if xs.length ≤ 40 then readL W xs else none := by cases b <;> rfl
theorem readRow_no {W : Int} {x : D} (h : isM x = false) : readRow W x = none := by cases x <;> first | rfl | cases h
theorem readL_lets : ∀ {W : Int} {xs : List D} {row : List Deed}, readL W xs = some row → letsAll W row ∧ row.length = xs.length
  | W, [], row, h => by cases h; exact ⟨trivial, rfl⟩
  | W, x :: xs, row, h => by
    unfold readL at h
    cases e : deedOf x with
    | none => rw [e] at h; cases h
    | some d =>
      rw [e] at h
      simp only at h
      by_cases k : d.lets W
      · rw [if_pos k] at h
        cases e2 : readL (d.wide W) xs with
        | none => rw [e2] at h; cases h
        | some r =>
          rw [e2] at h
          cases h
          obtain ⟨h1, h2⟩ := readL_lets e2
          exact ⟨⟨k, h1⟩, by simp [h2]⟩
      · rw [if_neg k] at h; cases h
theorem readRow_lets {W : Int} {x : D} {row : List Deed} (h : readRow W x = some row) : letsAll W row ∧ row.length ≤ 40 := by
  have key : ∀ xs : List D, (if xs.length ≤ 40 then readL W xs else none) = some row → letsAll W row ∧ row.length ≤ 40 := fun xs h => by
    by_cases k : xs.length ≤ 40
    · rw [if_pos k] at h
      obtain ⟨h1, h2⟩ := readL_lets h
      exact ⟨h1, by omega⟩
    · rw [if_neg k] at h; cases h
  cases x with
  | list xs => exact key xs h
  | tuple xs => exact key xs h
  | _ => cases h
/-- a row as handed in -/
def rowD (b : Bool) (ps : List (Deed × Bool)) : D := seqD b (ps.map hD)
theorem readL_hD : ∀ {W : Int} {ps : List (Deed × Bool)}, letsAll W (ps.map (·.1)) → readL W (ps.map hD) = some (ps.map (·.1))
  | _, [], _ => rfl
  | W, p :: ps, ⟨h1, h2⟩ => by
    show (match deedOf (hD p) with | some d => if d.lets W then (readL (d.wide W) (ps.map hD)).map (d :: ·) else none | none => none) = _
    rw [deedOf_hD]
    simp only
    rw [if_pos h1, readL_hD h2]
    rfl
theorem readRow_rowD {W : Int} {b : Bool} {ps : List (Deed × Bool)} (h : letsAll W (ps.map (·.1))) (hl : ps.length ≤ 40) : readRow W (rowD b ps) = some (ps.map (·.1)) := by
  unfold rowD
  rw [readRow_seq, if_pos (by rw [List.length_map]; exact hl), readL_hD h]
theorem fine_hD (p : Deed × Bool) : fine (hD p) = true := by
  obtain ⟨d, b⟩ := p
  cases d with
  | turn => cases b <;> decide +kernel
  | fold o l => cases b <;> cases o <;> rfl
theorem fine_rowD {b : Bool} {ps : List (Deed × Bool)} (hl : ps.length ≤ 10000) : fine (rowD b ps) = true := by
  unfold rowD
  rw [fine_seq, fines_of fun x hx => by obtain ⟨p, _, rfl⟩ := List.mem_map.mp hx; exact fine_hD p]
  simp [hl]
def F_read_row : DF := fun ds Q _ => ∃ (W : Int) (x : D), ds = [.int W, x] ∧ 1 ≤ W ∧ W ≤ 10 ^ 30 ∧ fine x = true ∧ (match readRow W x with | some row => ∀ n, Q (.ow (.list (row.map deedD)) n) [] | none => ∀ n, Q (.fz .none n) [])
theorem x_isOpt {d : Option Deed} {n m : Bool} {R : T → Prop} (h : R (dB (decide (d = none)))) : fIs false (optD d) .none n m R := by
  cases d with
  | none => exact h
  | some d => cases d <;> exact h
theorem W_read_row : ∀ ds Q E, F_read_row ds Q E → b_read_row F_Layout_behind F_Layout_lets F_deed_of F_flat_one F_is_many (env0 [false, false] ds 6) (bodyEnds [false, false] Q E) := by
  rintro ds Q E ⟨W, x, rfl, h1, h2, hx, h⟩
  show b_read_row _ _ _ _ _ [.fz (.int W) false, .fz x false, .un, .un, .un, .un] (bodyEnds [false, false] Q E)
  rw [e_read_row]
  unfold c_read_row
  walk_at "d"
  refine ⟨x, rfl, hx, fun n => ?_⟩
  walk_at "w"
  cases hm : isM x
  · walk_at "d"
    rw [readRow_no hm] at h
    exact h _
  walk_at "d"
  obtain ⟨b, xs, rfl⟩ := isM_seq hx hm
  rw [readRow_seq] at h
  refine lenSeq ?_
  walk_at "d"
  refine x_dec (fun hk => ?_) fun hk => ?_
  · walk_at "d"
    rw [if_neg (by omega)] at h
    exact h _
  rw [if_pos (by omega)] at h
  rw [fine_seq, Bool.and_eq_true] at hx
  walk_at "d"
  unfold c_read_row_3
  walk_at "d"
  refine ⟨W, rfl, ?_⟩
  walk_at "w"
  refine ⟨_, itemsSeq b _, ?_⟩
  refine for_ind (fun L e => ∃ (W' : Int) (S' : Steps) (done : List Deed) (m : Bool) (x4 x5 : DL.Slot), readL W xs = (readL W' L).map (done ++ ·) ∧ LayOk W' S' ∧ 1 ≤ W' ∧ W' ≤ 10 ^ 30 ∧ S'.length + 2 * L.length ≤ 100 ∧ done.length + L.length ≤ 40 ∧ (∀ y ∈ L, fine y = true) ∧ okS x4 = true ∧ okS x5 = true ∧
    e = [.fz (.int W) false, .fz (seqD b xs) false, .ow (.list (done.map deedD)) m, .ow (layD W' S') false, x4, x5]) ?_ ?_ ⟨W, [(0, 1)], [], true, .un, .un, by simp, flat_ok h1, h1, h2, by simp; omega, by simp; omega, fun y hy => fines_mem hy hx.1, rfl, rfl, rfl⟩
  · rintro y ys e K ⟨W', S', done, m, x4, x5, e1, e2, e4, e5, e6, e7, e8, k4, k5, rfl⟩ hK
    have no : (deedOf y = none ∨ ∃ d, deedOf y = some d ∧ ¬ d.lets W') → readL W xs = none := fun hno => by
      rw [e1]
      have : readL W' (y :: ys) = none := by
        show (match deedOf y with | some d => if d.lets W' then (readL (d.wide W') ys).map (d :: ·) else none | none => none) = none
        rcases hno with hno | ⟨d, hno, hd⟩
        · rw [hno]
        · rw [hno]; exact if_neg hd
      rw [this]
      rfl
    refine ⟨_, setS_ok rfl k4, ?_⟩
    dsimp only [List.set_cons_zero, List.set_cons_succ]
    unfold c_read_row_2
    walk_at "d"
    refine ⟨y, rfl, e8 y (by simp), fun q => ?_⟩
    walk_at "w"
    refine x_isOpt ?_
    walk_at "d"
    refine x_dec (fun hn => ?_) fun hn => ?_
    · walk_at "d"
      rw [no (.inl hn)] at h
      exact h _
    obtain ⟨d, hd⟩ := Option.ne_none_iff_exists'.mp hn
    rw [hd]
    unfold optD
    walk_at "d"
    refine ⟨W', S', d, rfl, fun q2 => ?_⟩
    walk_at "w"
    refine x_decN (fun hl => ?_) fun hl => ?_
    · walk_at "d"
      rw [no (.inr ⟨d, hd, hl⟩)] at h
      exact h _
    walk_at "d"
    unfold c_read_row_1
    walk_at "d"
    simp only [List.length_cons] at e6 e7
    refine ⟨W', S', d, rfl, e2, e4, by omega, by omega, hl, fun S2 hs => ?_⟩
    walk_at "w"
    refine ⟨_, rfl, by rw [List.length_map]; exact smallLt (by omega), ?_⟩
    have hwp := wide_pos hl e4
    have hsl := hs.len
    refine hK _ ⟨d.wide W', S2, done ++ [d], _, _, _, ?_, hs.ok, hwp.1, by omega, by omega, by rw [List.length_append]; simp; omega, fun z hz => e8 z (by simp [hz]), rfl, rfl, by rw [List.map_append]; rfl⟩
    rw [e1]
    show ((match deedOf y with | some d => if d.lets W' then (readL (d.wide W') ys).map (d :: ·) else none | none => none)).map (done ++ ·) = _
    rw [hd]
    simp only
    rw [if_pos hl]
    cases readL (d.wide W') ys with
    | none => rfl
    | some r => simp
  · rintro e ⟨W', S', done, m, x4, x5, e1, e2, e4, e5, e6, e7, e8, k4, k5, rfl⟩
    have e1' : readL W xs = some done := by rw [e1]; show some (done ++ []) = _; simp
    rw [e1'] at h
    walk_at "d"
    exact h _
/-- a row read from what is handed in: the refusals first -/
def rowThen (pl x : D) (E : Str → List D → Prop) (k : Int → List Deed → Prop) : Prop := match plOf pl with
  | none => E "NoPlaces" []
  | some W => match readRow W x with
    | none => E "NoRow" []
    | some row => k W row
theorem rowThen_mono {pl x : D} {E E' : Str → List D → Prop} {k k' : Int → List Deed → Prop} (h : rowThen pl x E k) (hE : ∀ c, E c [] → E' c []) (hk : ∀ W row, pl = .int W → 1 ≤ W → W ≤ 10 ^ 30 → readRow W x = some row → letsAll W row → row.length ≤ 40 → k W row → k' W row) : rowThen pl x E' k' := by
  unfold rowThen at h ⊢
  cases e : plOf pl with
  | none => rw [e] at h; exact hE _ h
  | some W =>
    rw [e] at h
    simp only at h ⊢
    cases e2 : readRow W x with
    | none => rw [e2] at h; exact hE _ h
    | some row =>
      rw [e2] at h
      obtain ⟨ep, a, b⟩ := plOf_some e
      obtain ⟨c, d⟩ := readRow_lets e2
      exact hk W row ep a b e2 c d h
theorem rowThen_row {W : Int} {x : D} {row : List Deed} {E : Str → List D → Prop} {k : Int → List Deed → Prop} (h1 : 1 ≤ W) (h2 : W ≤ 10 ^ 30) (e : readRow W x = some row) (h : k W row) : rowThen (.int W) x E k := by
  unfold rowThen
  rw [plOf_int h1 h2]
  simp only
  rw [e]
  exact h
def F_row_of : DF := fun ds Q E => ∃ pl x, ds = [pl, x] ∧ fine pl = true ∧ fine x = true ∧ rowThen pl x E fun _ row => ∀ n, Q (.ow (.list (row.map deedD)) n) []
theorem W_row_of : ∀ ds Q E, F_row_of ds Q E → b_row_of F_read_row F_need_places (env0 [false, false] ds 3) (bodyEnds [false, false] Q E) := by
  refine viaE ?_
  simp (disch := with_unfolding_all (
    rintro ds Q E ⟨pl, x, rfl, hp, hx, h⟩
    show b_row_of _ _ [.fz pl false, .fz x false, .un] (bodyEnds [false, false] Q E)
    unfold b_row_of
    unfold rowThen at h
    walk_at "d"
    refine ⟨pl, rfl, hp, ?_⟩
    cases e : plOf pl with
    | none => rw [e] at h; exact ⟨[], rfl, h⟩
    | some W =>
      rw [e] at h
      obtain ⟨rfl, a, b⟩ := plOf_some e
      simp only at h ⊢
      walk_at "w"
      refine ⟨W, x, rfl, a, b, hx, ?_⟩
      cases e2 : readRow W x with
      | none =>
        rw [e2] at h
        simp only at h ⊢
        intro n
        walk_at "w"
        show ∃ b n, _ ∧ _
        walk_at "d"
        exact h
      | some row =>
        rw [e2] at h
        simp only at h ⊢
        intro n
        walk_at "w"
        show ∃ b n, _ ∧ _
        walk_at "d"
        exact h _)) only [↓viaI]
def F_behind_all : DF := fun ds Q E => ∃ pl x, ds = [pl, x] ∧ fine pl = true ∧ fine x = true ∧ rowThen pl x E fun W row => ∀ S n, Beh W row S → Q (.fz (layD (wideAll W row) S) n) []
theorem W_behind_all : ∀ ds Q E, F_behind_all ds Q E → b_behind_all F_layouts F_row_of (env0 [false, false] ds 2) (bodyEnds [false, false] Q E) := by
  refine viaE ?_
  simp (disch := with_unfolding_all (
    rintro ds Q E ⟨pl, x, rfl, hp, hx, h⟩
    show b_behind_all _ _ [.fz pl false, .fz x false] (bodyEnds [false, false] Q E)
    unfold b_behind_all
    walk_at "d"
    refine ⟨pl, x, rfl, hp, hx, rowThen_mono h (fun c hc => ⟨[], rfl, hc⟩) fun W row ep h1 h2 _ hl hn hk => ?_⟩
    subst ep
    intro n
    walk_at "w"
    refine ⟨W, row, rfl, h1, by omega, by omega, hl, fun Ls n hLs => ?_⟩
    walk_at "w"
    obtain ⟨L0, S, eLs, hB⟩ := hLs.last
    refine x_ixL (by rw [eLs, List.map_append]; exact atI_last) ?_
    walk_at "d"
    exact hk S _ hB)) only [↓viaI]
end P

open PySem PySem.Spec L2 DL
namespace P
open Lay
/-- the steps behind a row: the function that it is, in order, no two alike -/
def F_stretches : DF := fun ds Q E => ∃ pl x, ds = [pl, x] ∧ fine pl = true ∧ fine x = true ∧ rowThen pl x E fun W row => ∀ S n, Beh W row S → Q (.ow (.list (S.map stD)) n) []
theorem W_stretches : ∀ ds Q E, F_stretches ds Q E → b_stretches F_behind_all (env0 [false, false] ds 2) (bodyEnds [false, false] Q E) := by
  refine viaE ?_
  simp (disch := with_unfolding_all (
    rintro ds Q E ⟨pl, x, rfl, hp, hx, h⟩
    show b_stretches _ [.fz pl false, .fz x false] (bodyEnds [false, false] Q E)
    unfold b_stretches
    walk_at "d"
    refine ⟨pl, x, rfl, hp, hx, rowThen_mono h (fun c hc => ⟨[], rfl, hc⟩) fun W row ep h1 h2 _ hl hn h => ?_⟩
    intro S n hB
    walk_at "w"
    refine ⟨_, _, _, rfl, rfl, ?_⟩
    walk_at "w"
    exact h S _ hB)) only [↓viaI]
end P

open PySem PySem.Spec L2 DL
namespace P
open Lay
end P

open PySem PySem.Spec L2 DL
namespace P
open Lay
end P

open PySem PySem.Spec L2 DL
namespace LA
open Lay P
/-- the reel a law draws from: great numbers, cells, turns, stir; at most m turns -/
def Reel (m : Nat) (d : D) : Prop := ∃ (gs cs : List Int) (t st : Int), d = .list [.list (gs.map D.int), .list (cs.map D.int), .int t, .int st] ∧ gs.length ≤ 100 ∧ (cs ≠ [] ∧ cs.length ≤ 100) ∧ (∀ c ∈ cs, 0 ≤ c ∧ c < 1000003) ∧ 0 ≤ t ∧ t ≤ m ∧ 0 ≤ st ∧ st < 2 ^ 127
theorem Reel.mono {m n : Nat} {d : D} (h : Reel m d) (hn : m ≤ n) : Reel n d := by
  obtain ⟨gs, cs, t, st, h0, h1, h2, h3, h4, h5, h6⟩ := h
  exact ⟨gs, cs, t, st, h0, h1, h2, h3, h4, by omega, h6⟩
def F_law_draw : DF := fun ds Q _ => ∃ (m : Nat) (r : D) (k : Int), ds = [r, .int k] ∧ Reel m r ∧ m < 2 ^ 60 ∧ 1 ≤ k ∧ k < 2 ^ 120 ∧ ∀ (i : Int) (r' : D), 0 ≤ i → i < k → Reel (m + 1) r' → Q (dI i) [r']
theorem W_law_draw : ∀ ds Q E, F_law_draw ds Q E → b_law_draw (env0 [true, false] ds 5) (bodyEnds [true, false] Q E) := by
  refine viaE ?_
  simp (disch := with_unfolding_all (
    rintro ds Q E ⟨m, r, k, rfl, ⟨gs, cs, t, st, rfl, h1, ⟨h2, h2l⟩, h3, h4, h5, h6, h7⟩, hm, hk1, hk2, h⟩
    show b_law_draw [.io _, .fz (.int k) false, .un, .un, .un] (bodyEnds [true, false] Q E)
    unfold b_law_draw
    walk_at "d"
    refine ⟨okD_ints gs, rfl, ?_⟩
    rw [deq_nil]
    walk_at "d"
    have hmod : ∀ x : Int, 0 ≤ x % k ∧ x % k < k := fun x => ⟨Int.emod_nonneg _ (by omega), Int.emod_lt_of_pos _ (by omega)⟩
    refine x_decN (fun hg => ?_) fun hg => ?_
    · cases gs with
      | nil => exact absurd rfl hg
      | cons g gs =>
        have e0 : atI ((g :: gs).map D.int) 0 = some (.int g) := L2.atI_nat (j := 0) rfl
        walk_at "d"
        refine x_ixL e0 ?_
        walk_at "d"
        refine .inr (.inl ⟨_, _, rfl, ?_⟩)
        walk_at "d"
        obtain ⟨xs, ex, hx⟩ : ∃ xs : List Int, (List.replicate ((if decide (k ≤ g) = true then 1 else 0 : Int)).toNat [D.int (g / k)]).flatten = xs.map D.int ∧ xs.length ≤ 1 := by
          by_cases hk : k ≤ g
          · exact ⟨[g / k], by simp [hk], Nat.le_refl _⟩
          · exact ⟨[], by simp [hk], Nat.zero_le _⟩
        refine ⟨by split <;> omega, by split <;> omega, by split <;> exact smallL rfl, ?_⟩
        walk_at "d"
        rw [ex, cut_tail]
        simp only [List.length_cons] at h1
        refine ⟨by rw [List.length_map, List.length_tail, List.length_map, List.length_cons]; exact small (by omega), ?_⟩
        walk_at "d"
        exact h _ _ (hmod g).1 (hmod g).2 ⟨xs ++ gs, cs, t, st, by rw [List.map_append]; rfl, by rw [List.length_append]; omega, ⟨h2, h2l⟩, h3, h4, by omega, h6, h7⟩
    · have hgs : gs = [] := by simpa using hg
      subst hgs
      walk_at "d"
      rw [List.length_map]
      have hc := List.length_pos_iff.mpr h2
      refine x_fI (by omega) ?_
      obtain ⟨j, hj⟩ : ∃ j : Int, j = (t + 1) % (cs.length : Int) := ⟨_, rfl⟩
      have hj1 : 0 ≤ j ∧ j < cs.length := by rw [hj]; exact ⟨Int.emod_nonneg _ (by omega), Int.emod_lt_of_pos _ (by omega)⟩
      rw [← hj]
      have hjn : j.toNat < cs.length := by omega
      have ej : atI (cs.map D.int) j = some (.int cs[j.toNat]) := by
        have := L2.atI_nat (xs := cs.map D.int) (j := j.toNat) (v := D.int cs[j.toNat]) (by rw [List.getElem?_map, List.getElem?_eq_getElem hjn]; rfl)
        rwa [show ((j.toNat : Nat) : Int) = j by omega] at this
      have hcj := h3 _ (List.getElem_mem hjn)
      walk_at "d"
      refine x_ixL ej ?_
      generalize cs[j.toNat] = cj at hcj ⊢
      walk_at "d"
      refine x_mulI (cmul (by omega) (by omega) (by omega) (by omega)) ?_
      walk_at "d"
      refine x_mulI (cmul (by omega) (by omega) (by omega) (by omega)) ?_
      walk_at "d"
      refine x_mulI (cmul (by omega) (by omega) (by omega) (by omega)) ?_
      walk_at "d"
      refine x_mulI (cmul (by decide) (by decide) (by decide) (by decide)) ?_
      walk_at "d"
      obtain ⟨z, hz⟩ : ∃ z : Int, z = (st * st + (cj + 7) * 69621 + (t + 1) * 1000003) % (18446744073709551616 * 9223372036854775808 - 1) := ⟨_, rfl⟩
      rw [← hz]
      exact h _ _ (hmod _).1 (hmod _).2 ⟨[], cs, t + 1, z, rfl, Nat.zero_le _, ⟨h2, h2l⟩, h3, by omega, by omega, by omega, by omega⟩)) only [↓viaI]
end LA

open PySem PySem.Spec L2 DL
namespace LA
open Lay P
theorem deq_nmT (o : Bool) : deq (.str (dnm o)) (.str ("turn" : Str)) = false := by rw [deq_str]; cases o <;> decide
def F_law_wide : DF := fun ds Q _ => ∃ (W : Int) (d : Deed), ds = [.int W, deedD d] ∧ ∀ n, Q (.fz (.int (d.wide W)) n) []
theorem W_law_wide : ∀ ds Q E, F_law_wide ds Q E → b_law_wide (env0 [false, false] ds 2) (bodyEnds [false, false] Q E) := by
  refine viaE ?_
  simp (disch := with_unfolding_all (
    rintro ds Q E ⟨W, d, rfl, h⟩
    cases d with
    | turn =>
      show b_law_wide [.fz (.int W) false, .fz (.tuple [.str ("turn" : Str)]) false] (bodyEnds [false, false] Q E)
      unfold b_law_wide
      walk_at "d"
      refine ⟨okn_turn.ok (by decide), okn_turn.ok (by decide), ?_⟩
      rw [deq_str, decide_eq_true rfl]
      walk_at "d"
      exact h _
    | fold o l =>
      show b_law_wide [.fz (.int W) false, .fz (.tuple [.str (dnm o), .int l]) false] (bodyEnds [false, false] Q E)
      unfold b_law_wide
      walk_at "d"
      refine ⟨(okn_nm o).ok (by decide), okn_turn.ok (by decide), ?_⟩
      rw [deq_nmT]
      walk_at "d"
      rw [show (if W - l > l then W - l else l) = max l (W - l) by split <;> omega]
      exact h _)) only [↓viaI]
end LA

open PySem PySem.Spec L2 DL
namespace LA
open Lay P
def F_law_deed : DF := fun ds Q _ => ∃ (m : Nat) (r : D) (W : Int), ds = [r, .int W] ∧ Reel m r ∧ m < 2 ^ 59 ∧ 1 ≤ W ∧ W < 2 ^ 110 ∧ ∀ (d : Deed) (r' : D) (n : Bool), d.lets W → Reel (m + 10) r' → Q (.fz (deedD d) n) [r']
theorem W_law_deed : ∀ ds Q E, F_law_deed ds Q E → b_law_deed F_law_draw (env0 [true, false] ds 3) (bodyEnds [true, false] Q E) := by
  refine viaE ?_
  simp (disch := with_unfolding_all (
    rintro ds Q E ⟨m, r, W, rfl, hr, hm, h1, h2, h⟩
    show b_law_deed _ [.io r, .fz (.int W) false, .un] (bodyEnds [true, false] Q E)
    unfold b_law_deed
    walk_at "d"
    refine x_dec (fun hk => ?_) fun hk => ?_
    · walk_at "d"
      exact h .turn _ _ trivial (hr.mono (by omega))
    · walk_at "d"
      refine ⟨_, r, 6, rfl, hr, by omega, by omega, by omega, fun i r1 hi0 hi1 hr1 => ?_⟩
      walk_at "n"
      walk_at "d"
      refine x_dec (fun hk2 => ?_) fun hk2 => ?_
      · walk_at "d"
        exact h .turn _ _ trivial (hr1.mono (by omega))
      · walk_at "d"
        refine ⟨_, r1, W - 1, rfl, hr1, by omega, by omega, by omega, fun a r2 ha0 ha1 hr2 => ?_⟩
        walk_at "n"
        walk_at "d"
        refine ⟨_, r2, 3, rfl, hr2, by omega, by omega, by omega, fun b r3 hb0 hb1 hr3 => ?_⟩
        walk_at "n"
        walk_at "d"
        refine ⟨_, r3, 2, rfl, hr3, by omega, by omega, by omega, fun o r4 ho0 ho1 hr4 => ?_⟩
        walk_at "n"
        walk_at "d"
        have eo : atI [D.str ("over" : Str), D.str ("under" : Str)] o = some (.str (dnm (decide (o = 0)))) := by
          rcases (by omega : o = 0 ∨ o = 1) with rfl | rfl <;> rfl
        refine x_ixL eo ?_
        walk_at "d"
        refine ⟨_, r4, 5, rfl, hr4, by omega, by omega, by omega, fun j r5 hj0 hj1 hr5 => ?_⟩
        walk_at "n"
        walk_at "d"
        have el : ∃ l : Int, atI [D.int (1 + a), D.int (if W / 2 > 1 then W / 2 else 1), D.int (W - 1), D.int 1, D.int (if W / 2 - b > 1 then W / 2 - b else 1)] j = some (.int l) ∧ 1 ≤ l ∧ l < W := by
          rcases (by omega : j = 0 ∨ j = 1 ∨ j = 2 ∨ j = 3 ∨ j = 4) with rfl | rfl | rfl | rfl | rfl
          · exact ⟨_, rfl, by omega, by omega⟩
          · exact ⟨_, rfl, by split <;> omega, by split <;> omega⟩
          · exact ⟨_, rfl, by omega, by omega⟩
          · exact ⟨_, rfl, by omega, by omega⟩
          · exact ⟨_, rfl, by split <;> omega, by split <;> omega⟩
        obtain ⟨l, el, hl1, hl2⟩ := el
        refine x_ixL el ?_
        walk_at "d"
        exact h (.fold _ l) _ _ ⟨hl1, hl2⟩ (hr5.mono (by omega)))) only [↓viaI]
end LA

open PySem PySem.Spec L2 DL
namespace LA
open Lay P
def F_law_row : DF := fun ds Q _ => ∃ (m : Nat) (r : D) (W most : Int), ds = [r, .int W, .int most] ∧ Reel m r ∧ m < 2 ^ 50 ∧ 1 ≤ W ∧ W < 2 ^ 110 ∧ 0 ≤ most ∧ most ≤ 40 ∧ ∀ (row : List Deed) (r' : D) (n : Bool), (row.length : Int) ≤ most → letsAll W row → Reel (m + 1000) r' → Q (.ow (.list (row.map deedD)) n) [r']
theorem W_law_row : ∀ ds Q E, F_law_row ds Q E → b_law_row F_law_draw F_law_wide F_law_deed (env0 [true, false, false] ds 6) (bodyEnds [true, false, false] Q E) := by
  refine viaE ?_
  simp (disch := with_unfolding_all (
    rintro ds Q E ⟨m, r, W, most, rfl, hr, hm, h1, h2, h3, h4, h⟩
    show b_law_row _ _ _ [.io r, .fz (.int W) false, .fz (.int most) false, .un, .un, .un] (bodyEnds [true, false, false] Q E)
    unfold b_law_row
    walk_at "d"
    refine ⟨_, r, most + 1, rfl, hr, by omega, by omega, by omega, fun k r1 hk0 hk1 hr1 => ?_⟩
    walk_at "n"
    walk_at "d"
    refine x_rng rfl (by omega) (by omega) ?_
    refine for_ind (fun L e => ∃ (row : List Deed) (r2 : D) (n4 n3 : Bool) (x5 : DL.Slot), row.length + L.length = k.toNat ∧ letsAll W row ∧ 1 ≤ wideAll W row ∧ wideAll W row ≤ W ∧ Reel (m + 1 + 10 * row.length) r2 ∧ okS x5 = true ∧ e = [.io r2, .fz (.int W) false, .fz (.int most) false, .ow (.list (row.map deedD)) n3, .fz (.int (wideAll W row)) n4, x5]) ?_ ?_ ⟨[], r1, _, _, _, by simp [rangeD], trivial, h1, Int.le_refl _, hr1, rfl, rfl⟩
    · rintro x xs e K ⟨row, r2, n4, n3, x5, e1, e2, e3, e4, e5, k5, rfl⟩ hK
      simp only [List.length_cons] at e1
      refine ⟨_, setS_ok rfl k5, ?_⟩
      dsimp only [List.set_cons_zero, List.set_cons_succ]
      walk_at "d"
      refine ⟨_, r2, _, rfl, e5, by omega, e3, by omega, fun d r3 q hd hr3 => ?_⟩
      walk_at "n"
      walk_at "d"
      refine ⟨_, rfl, by rw [List.length_map]; exact smallLt (by omega), ?_⟩
      walk_at "n"
      walk_at "d"
      refine x_ixL atI_last ?_
      walk_at "d"
      refine ⟨wideAll W row, d, rfl, fun n => ?_⟩
      walk_at "n"
      walk_at "d"
      have hwp := wide_pos hd e3
      refine hK _ ⟨row ++ [d], r3, _, _, _, by rw [List.length_append]; simp; omega, letsAll_snoc e2 hd, by rw [wideAll_snoc]; exact hwp.1, by rw [wideAll_snoc]; omega, ?_, rfl, by rw [wideAll_snoc, List.map_append]; rfl⟩
      rw [List.length_append]
      exact hr3.mono (by simp; omega)
    · rintro e ⟨row, r2, n4, n3, x5, e1, e2, e3, e4, e5, k5, rfl⟩
      simp only [List.length_nil] at e1
      walk_at "d"
      exact h row r2 _ (by omega) e2 (e5.mono (by omega)))) only [↓viaI]
end LA

open PySem PySem.Spec L2 DL
namespace LA
open Lay P
def plD (p : Int × Bool) : D := .tuple [.int p.1, .bool p.2]
def pileD (p : Pile) : D := .list (p.map plD)
def F_law_about : DF := fun ds Q _ => ∃ p : Pile, ds = [.list (p.map plD)] ∧ p.length ≤ 1000 ∧ Q (.ow (.list ((about p).map plD)) true) []
theorem W_law_about : ∀ ds Q E, F_law_about ds Q E → b_law_about (env0 [false] ds 3) (bodyEnds [false] Q E) := by
  refine viaE ?_
  simp (disch := with_unfolding_all (
    rintro ds Q E ⟨p, rfl, hl, h⟩
    show b_law_about [.fz (.list (p.map plD)) false, .un, .un] (bodyEnds [false] Q E)
    unfold b_law_about
    walk_at "d"
    refine ⟨_, _, rfl, rfl, ?_⟩
    refine ⟨_, rfl, _, rfl, ?_⟩
    rw [← List.map_reverse]
    refine x_lcfm p.reverse plD (fun q => some (plD (q.1, !q.2))) rfl (by exact off2 rfl rfl rfl rfl) (small (by rw [List.length_reverse]; omega)) ?_ ?_
    · intro q _ K K2 h1 h2
      refine ⟨_, rfl, by exact off2 rfl rfl rfl rfl, fun _ => ?_, fun z => nomatch z⟩
      walk_at "d"
      exact h1 _ _ rfl (by exact off2 rfl rfl rfl rfl) rfl
    rw [fmap_some]
    walk_at "d"
    have e : p.reverse.map (fun q => plD (q.1, !q.2)) = (about p).map plD := by unfold about; rw [List.map_map]; rfl
    rw [e]
    exact h)) only [↓viaI]
end LA

open PySem PySem.Spec L2 DL
namespace LA
open Lay P
theorem getD_mem {ps : List Pile} {i : Nat} {B : Nat} (h : ∀ p ∈ ps, p.length ≤ B) : (ps.getD i []).length ≤ B := by
  rw [List.getD_eq_getElem?_getD]
  cases e : ps[i]? with
  | none => exact Nat.zero_le _
  | some p => exact h p (List.mem_of_getElem? e)
theorem rest_len {ps : List Pile} {l far : Int} {B : Nat} (h : ∀ p ∈ ps, p.length ≤ B) : (restP ps l far).length ≤ B := by
  unfold restP
  split
  · exact getD_mem h
  · exact Nat.zero_le _
theorem comes_len {ps : List Pile} {l far : Int} {B : Nat} (h : ∀ p ∈ ps, p.length ≤ B) : (comesP ps l far).length ≤ B := by
  unfold comesP
  split
  · rw [about_len]; exact getD_mem h
  · exact Nat.zero_le _
theorem deq_over (o : Bool) : deq (.str (dnm o)) (.str ("over" : Str)) = o := by rw [deq_str]; cases o <;> decide
theorem okn_over : OkN 0 (.str ("over" : Str)) := okn_nm true
def tailN : DSt := (dExp (dMut 4 fApp (dCons (dIfE (dTB (dOp fEq (dOp fIx (dVar 1) (dC (D.int 0))) (dC (D.str (Str.ofString "over"))))) (dOp fAdd (dVar 7) (dVar 6)) (dOp fAdd (dVar 6) (dVar 7))) dNil)))
def goN : DSt := (dSeq (dSet 7 (dIfE (dTB (dOp fLe (dOp fAdd (dVar 3) (dVar 5)) (dCB fLen (dCons (dVar 0) dNil)))) (dCall [false] F_law_about (dCons (dOp fIx (dVar 0) (dOp fSub (dOp fAdd (dVar 3) (dVar 5)) (dC (D.int 1)))) dNil)) (dLst dNil)))
            tailN)
def F_law_done : DF := fun ds Q _ => ∃ (ps : List Pile) (d : Deed) (B : Nat), ds = [.list (ps.map pileD), deedD d] ∧ ps.length ≤ 1000 ∧ (∀ p ∈ ps, p.length ≤ B) ∧ B ≤ 1000 ∧ d.lets ps.length ∧ ∀ n, Q (.ow (.list ((doneP ps d).map pileD)) n) []
theorem W_law_done : ∀ ds Q E, F_law_done ds Q E → b_law_done F_law_about (env0 [false, false] ds 8) (bodyEnds [false, false] Q E) := by
  refine viaE ?_
  simp (disch := with_unfolding_all (
    rintro ds Q E ⟨ps, d, B, rfl, hl, hB, hB2, hd, h⟩
    cases d with
    | turn =>
      show b_law_done _ [.fz (.list (ps.map pileD)) false, .fz (.tuple [.str ("turn" : Str)]) false, .un, .un, .un, .un, .un, .un] (bodyEnds [false, false] Q E)
      unfold b_law_done
      walk_at "d"
      refine ⟨okn_turn.ok (by decide), okn_turn.ok (by decide), ?_⟩
      rw [deq_str, decide_eq_true rfl]
      walk_at "d"
      refine ⟨_, _, rfl, rfl, ?_⟩
      refine ⟨_, rfl, _, rfl, ?_⟩
      rw [← List.map_reverse]
      refine x_lcfm ps.reverse pileD (fun q => some (pileD (about q))) rfl (by exact off1 rfl rfl) (small (by rw [List.length_reverse]; omega)) ?_ ?_
      · intro q hq K K2 h1 h2
        refine ⟨_, rfl, by exact off1 rfl rfl, fun _ => ?_, fun z => nomatch z⟩
        walk_at "d"
        refine ⟨q, rfl, Nat.le_trans (hB q (List.mem_reverse.mp hq)) hB2, ?_⟩
        walk_at "n"
        walk_at "d"
        exact h1 _ _ rfl (by exact off1 rfl rfl) rfl
      rw [fmap_some]
      walk_at "d"
      have e : ps.reverse.map (fun q => pileD (about q)) = (doneP ps .turn).map pileD := by unfold doneP; rw [List.map_map]; rfl
      rw [e]
      exact h _
    | fold o l =>
      obtain ⟨hl1, hl2⟩ := hd
      show b_law_done _ [.fz (.list (ps.map pileD)) false, .fz (.tuple [.str (dnm o), .int l]) false, .un, .un, .un, .un, .un, .un] (bodyEnds [false, false] Q E)
      unfold b_law_done
      walk_at "d"
      refine ⟨(okn_nm o).ok (by decide), okn_turn.ok (by decide), ?_⟩
      rw [deq_nmT]
      walk_at "d"
      rw [List.length_map]
      have hmx : (if (ps.length : Int) - l > l then (ps.length : Int) - l else l) = max l (ps.length - l) := by split <;> omega
      rw [hmx]
      obtain ⟨mx, hm⟩ : ∃ mx : Nat, mx = (max l ((ps.length : Int) - l)).toNat := ⟨_, rfl⟩
      refine x_rng2 rfl ⟨by omega, by omega, by omega, by omega⟩ ?_
      rw [show (max l ((ps.length : Int) - l) + 1 - 1).toNat = mx by omega]
      refine for_ind (fun L e => ∃ (j k : Nat) (n3 n4 : Bool) (x2 x5 x6 x7 : DL.Slot), L = rangeD (1 + j) k ∧ j + k = mx ∧ okS x5 = true ∧ okS x6 = true ∧ okS x7 = true ∧
        e = [.fz (.list (ps.map pileD)) false, .fz (.tuple [.str (dnm o), .int l]) false, x2, .fz (.int l) n3, .ow (.list ((List.range' 1 j).map fun far : Nat => pileD (eltP ps o l far))) n4, x5, x6, x7]) ?_ ?_ ⟨0, mx, _, _, _, _, _, _, rfl, by omega, rfl, rfl, rfl, rfl⟩
      · rintro x xs e K ⟨j, k, n3, n4, x2, x5, x6, x7, eL, e1, k5, k6, k7, rfl⟩ hK
        cases k with
        | zero => cases eL
        | succ k =>
        rw [rangeD_succ] at eL
        cases eL
        refine ⟨_, setS_ok rfl k5, ?_⟩
        dsimp only [List.set_cons_zero, List.set_cons_succ]
        walk_at "d"
        have hjm : 1 + (j : Int) ≤ max l ((ps.length : Int) - l) := by omega
        obtain ⟨tl, htl⟩ : ∃ x, x = tailN := ⟨_, rfl⟩
        obtain ⟨gv, hgv⟩ : ∃ x, x = goN := ⟨_, rfl⟩
        have put : ∀ (x6 x7 : DL.Slot) (n6 n7 : Bool), (x6 = .fz (pileD (restP ps l (1 + j))) n6 ∨ x6 = .ow (pileD (restP ps l (1 + j))) n6) → (x7 = .fz (pileD (comesP ps l (1 + j))) n7 ∨ x7 = .ow (pileD (comesP ps l (1 + j))) n7) →
            tl
              [Slot.fz (D.list (List.map pileD ps)) false, Slot.fz (D.tuple [D.str (dnm o), D.int l]) false, x2, Slot.fz (D.int l) n3, Slot.ow (D.list (List.map (fun far : Nat => pileD (eltP ps o l ↑far)) (List.range' 1 j))) n4, Slot.fz (D.int (1 + ↑j)) true, x6, x7]
              { nx := K, rt := (bodyEnds [false, false] Q E).rt, bk := fun e => dRet (dOrE (dRevS (dVar 4)) (dRevL (dVar 4))) e (bodyEnds [false, false] Q E), ct := K, ex := (bodyEnds [false, false] Q E).ex } := by
          have l6 := rest_len (l := l) (far := 1 + j) hB
          have l7 := comes_len (l := l) (far := 1 + j) hB
          have hj : (List.map (fun far : Nat => pileD (eltP ps o l ↑far)) (List.range' 1 j)).length < sizeLine := by rw [List.length_map, List.length_range']; exact smallLt (by omega)
          have eapp : ∀ D0, D0 = pileD (eltP ps o l (1 + j)) → List.map (fun far : Nat => pileD (eltP ps o l ↑far)) (List.range' 1 j) ++ [D0] = List.map (fun far : Nat => pileD (eltP ps o l ↑far)) (List.range' 1 (j + 1)) := fun D0 e => by
            rw [e, List.range'_concat, List.map_append]
            simp
          intro x6 x7 n6 n7 h6 h7
          have fin : ∀ (n : Bool) (x6 x7 : DL.Slot) (D0 : D), D0 = pileD (eltP ps o l (1 + j)) → okS x6 = true → okS x7 = true → K [Slot.fz (D.list (List.map pileD ps)) false, Slot.fz (D.tuple [D.str (dnm o), D.int l]) false, x2, Slot.fz (D.int l) n3, Slot.ow (D.list (List.map (fun far : Nat => pileD (eltP ps o l ↑far)) (List.range' 1 j) ++ [D0])) n, Slot.fz (D.int (1 + ↑j)) true, x6, x7] := fun n x6 x7 D0 e0 k6 k7 =>
            hK _ ⟨j + 1, k, n3, n, x2, _, x6, x7, by rw [show (1 : Int) + ((j + 1 : Nat) : Int) = 1 + j + 1 by omega], by omega, rfl, k6, k7, by rw [eapp D0 e0]⟩
          have ef : eltP ps o l (1 + j) = if o then comesP ps l (1 + j) ++ restP ps l (1 + j) else restP ps l (1 + j) ++ comesP ps l (1 + j) := rfl
          unfold pileD at h6 h7 eapp fin
          generalize restP ps l (1 + j) = r at *
          generalize comesP ps l (1 + j) = c at *
          rw [htl]
          unfold tailN
          rcases h6 with rfl | rfl <;> rcases h7 with rfl | rfl <;>
          · walk_at "d"
            refine ⟨(okn_nm o).ok (by decide), okn_over.ok (by decide), ?_⟩
            rw [deq_over]
            cases o
            all_goals
              walk_at "d"
              refine ⟨by rw [List.length_map, List.length_map]; exact small (by omega), ?_⟩
              walk_at "d"
              refine ⟨_, rfl, hj, ?_⟩
              walk_at "n"
              refine fin _ _ _ _ ?_ rfl rfl
              rw [ef, ← List.map_append]
              rfl
        have go : ∀ (x6 : DL.Slot) (n6 : Bool), (x6 = .fz (pileD (restP ps l (1 + j))) n6 ∨ x6 = .ow (pileD (restP ps l (1 + j))) n6) →
            gv
              [Slot.fz (D.list (List.map pileD ps)) false, Slot.fz (D.tuple [D.str (dnm o), D.int l]) false, x2, Slot.fz (D.int l) n3, Slot.ow (D.list (List.map (fun far : Nat => pileD (eltP ps o l ↑far)) (List.range' 1 j))) n4, Slot.fz (D.int (1 + ↑j)) true, x6, x7]
              { nx := K, rt := (bodyEnds [false, false] Q E).rt, bk := fun e => dRet (dOrE (dRevS (dVar 4)) (dRevL (dVar 4))) e (bodyEnds [false, false] Q E), ct := K, ex := (bodyEnds [false, false] Q E).ex } := by
          intro x6 n6 h6
          rw [hgv]
          unfold goN
          rw [← htl]
          have k6 : okS x6 = true := by rcases h6 with rfl | rfl <;> rfl
          have ec : comesP ps l (1 + j) = if l + (1 + (j : Int)) ≤ ps.length then about (ps.getD (l + (1 + j) - 1).toNat []) else [] := rfl
          walk_at "d"
          rw [List.length_map]
          refine x_dec (fun hk => ?_) fun hk => ?_
          · obtain ⟨p, ep, eg, hp⟩ : ∃ p, atI (ps.map pileD) (l + (1 + j) - 1) = some (pileD p) ∧ ps.getD (l + (1 + j) - 1).toNat [] = p ∧ p.length ≤ B := by
              have hi : (l + (1 + (j : Int)) - 1).toNat < ps.length := by omega
              refine ⟨ps[(l + (1 + (j : Int)) - 1).toNat], ?_, by rw [List.getD_eq_getElem?_getD, List.getElem?_eq_getElem hi]; rfl, hB _ (List.getElem_mem hi)⟩
              have := L2.atI_nat (xs := ps.map pileD) (j := (l + (1 + (j : Int)) - 1).toNat) (v := pileD ps[(l + (1 + (j : Int)) - 1).toNat]) (by rw [List.getElem?_map, List.getElem?_eq_getElem hi]; rfl)
              rwa [show (((l + (1 + (j : Int)) - 1).toNat : Nat) : Int) = l + (1 + j) - 1 by omega] at this
            walk_at "d"
            refine x_ixL ep ?_
            walk_at "d"
            refine ⟨p, rfl, Nat.le_trans hp hB2, ?_⟩
            walk_at "n"
            walk_at "d"
            refine put _ _ n6 true h6 (.inr ?_)
            rw [ec, if_pos hk, eg]
            rfl
          · walk_at "d"
            refine put _ _ n6 true h6 (.inr ?_)
            rw [ec, if_neg hk]
            rfl
        have er : restP ps l (1 + j) = if 1 + (j : Int) ≤ l then ps.getD (l - (1 + j)).toNat [] else [] := rfl
        refine x_dec (fun hk => ?_) fun hk => ?_
        · obtain ⟨p, ep, eg⟩ : ∃ p, atI (ps.map pileD) (l - (1 + j)) = some (pileD p) ∧ ps.getD (l - (1 + j)).toNat [] = p := by
            have hi : (l - (1 + (j : Int))).toNat < ps.length := by omega
            refine ⟨ps[(l - (1 + (j : Int))).toNat], ?_, by rw [List.getD_eq_getElem?_getD, List.getElem?_eq_getElem hi]; rfl⟩
            have := L2.atI_nat (xs := ps.map pileD) (j := (l - (1 + (j : Int))).toNat) (v := pileD ps[(l - (1 + (j : Int))).toNat]) (by rw [List.getElem?_map, List.getElem?_eq_getElem hi]; rfl)
            rwa [show (((l - (1 + (j : Int))).toNat : Nat) : Int) = l - (1 + j) by omega] at this
          change dOp fIx (dVar 0) (dOp fSub (dVar 3) (dVar 5)) _ (fun t e => ∃ e', setS e 6 t = some e' ∧ goN e' _) _
          rw [← hgv]
          walk_at "d"
          refine x_ixL ep ?_
          walk_at "d"
          rw [show restP ps l (1 + (j : Int)) = p by rw [er, if_pos hk, eg]] at go
          exact go _ _ (.inl rfl)
        · change dLst dNil _ (fun t e => ∃ e', setS e 6 t = some e' ∧ goN e' _) _
          rw [← hgv]
          walk_at "d"
          refine go _ true (.inr ?_)
          rw [er, if_neg hk]
          rfl
      · rintro e ⟨j, k, n3, n4, x2, x5, x6, x7, eL, e1, k5, k6, k7, rfl⟩
        cases k with
        | succ k => rw [rangeD_succ] at eL; cases eL
        | zero =>
        have hj : j = mx := by omega
        subst hj
        walk_at "d"
        refine ⟨_, _, rfl, rfl, ?_⟩
        refine ⟨_, rfl, _, rfl, ?_⟩
        have e : (List.map (fun far : Nat => pileD (eltP ps o l ↑far)) (List.range' 1 j)).reverse = (doneP ps (.fold o l)).map pileD := by
          show _ = List.map pileD ((List.range' 1 (max l (ps.length - l)).toNat).map fun far : Nat => eltP ps o l far).reverse
          rw [← hm, List.map_reverse, List.map_map]
          rfl
        rw [e]
        exact h _)) only [↓viaI]
end LA

open PySem PySem.Spec L2 DL
namespace LA
open Lay P
def pilesD (ps : List Pile) : D := .list (ps.map pileD)
def F_law_piles : DF := fun ds Q _ => ∃ (W : Nat) (row : List Deed), ds = [.int W, .list (row.map deedD)] ∧ 1 ≤ W ∧ W ≤ 1000 ∧ row.length ≤ 1000 ∧ letsAll W row ∧ ∀ n, Q (.ow (.list ((lvls (flatL W) row).map pilesD)) n) []
theorem W_law_piles : ∀ ds Q E, F_law_piles ds Q E → b_law_piles F_law_done (env0 [false, false] ds 5) (bodyEnds [false, false] Q E) := by
  refine viaE ?_
  simp (disch := with_unfolding_all (
    rintro ds Q E ⟨W, row, rfl, hW, hW2, hr, hl, h⟩
    show b_law_piles _ [.fz (.int W) false, .fz (.list (row.map deedD)) false, .un, .un, .un] (bodyEnds [false, false] Q E)
    unfold b_law_piles
    walk_at "d"
    refine x_rng rfl (by omega) (by omega) ?_
    have e0 : rangeD 0 (W : Int).toNat = (List.range W).map fun p : Nat => D.int p := by
      rw [show (0 : Int) = ((0 : Nat) : Int) from rfl, rangeD_map, ← List.range_eq_range']
      rfl
    refine x_lcfm (List.range W) (fun p : Nat => D.int p) (fun p => some (pileD [((p : Int), true)])) e0 (by exact off1 rfl rfl) (small (by rw [List.length_range]; omega)) ?_ ?_
    · intro p _ K K2 h1 h2
      refine ⟨_, rfl, by exact off1 rfl rfl, fun _ => ?_, fun z => nomatch z⟩
      walk_at "d"
      exact h1 _ _ rfl (by exact off1 rfl rfl) rfl
    rw [fmap_some]
    walk_at "d"
    refine for_ind (fun L e => ∃ (done rest : List Deed) (m : Bool) (x3 x4 : DL.Slot), L = rest.map deedD ∧ row = done ++ rest ∧ okS x4 = true ∧
      e = [.fz (.int W) false, .fz (.list (row.map deedD)) false, .ow (.list ((lvls (flatL W) done).map pilesD)) m, x3, x4]) ?_ ?_ ⟨[], row, _, _, _, rfl, rfl, rfl, by show _ = [_, _, DL.Slot.ow (D.list [pilesD (flatL W)]) _, _, _]; unfold pilesD flatL; rw [List.map_map]; rfl⟩
    · rintro x xs e K ⟨done, rest, m, x3, x4, eL, e1, k4, rfl⟩ hK
      cases rest with
      | nil => cases eL
      | cons d rest =>
      cases eL
      refine ⟨_, setS_ok rfl k4, ?_⟩
      dsimp only [List.set_cons_zero, List.set_cons_succ]
      walk_at "d"
      obtain ⟨L0, eL0⟩ := lvls_last (ps := flatL W) (r := done)
      have eat : atI ((lvls (flatL W) done).map pilesD) (-1) = some (pilesD (pilesP (flatL W) done)) := by
        rw [eL0, List.map_append]
        exact atI_last
      refine x_ixL eat ?_
      walk_at "d"
      rw [e1] at hl hr
      rw [List.length_append, List.length_cons] at hr
      obtain ⟨l1, l2, l3⟩ := letsAll_app.mp hl
      have hlen := piles_len (ps := flatL W) (r := done) (by rw [flatL_len]; exact l1)
      rw [flatL_len] at hlen
      have htot := piles_tot (ps := flatL W) (r := done) (by rw [flatL_len]; exact l1)
      rw [flat_tot] at htot
      have hwp := wideAll_pos (W := (W : Int)) (a := done) (by omega) l1
      refine ⟨pilesP (flatL W) done, d, W, rfl, by omega, fun p hp => ?_, by omega, by rw [hlen]; exact l2, fun n => ?_⟩
      · have := tot_mem hp; omega
      walk_at "n"
      walk_at "d"
      refine ⟨_, rfl, by rw [List.length_map, lvls_len]; exact smallLt (by omega), ?_⟩
      refine hK _ ⟨done ++ [d], rest, _, _, _, rfl, by rw [e1]; simp, rfl, by rw [lvls_snoc, List.map_append]; rfl⟩
    · rintro e ⟨done, rest, m, x3, x4, eL, e1, k4, rfl⟩
      have hR : rest = [] := by simpa using eL.symm
      subst hR
      rw [List.append_nil] at e1
      subst e1
      walk_at "d"
      exact h _)) only [↓viaI]
end LA

open PySem PySem.Spec L2 DL
namespace LA
open Lay P
theorem cut_63 {ns : List Int} (h : ns.length ≤ 63) : cutL (ns.map D.int) none (some 63) = ns.map D.int := by
  rw [show (63 : Int) = ((63 : Nat) : Int) from rfl, cut_to, List.take_of_length_le (by rw [List.length_map]; exact h)]
def F_law_reel : DF := fun ds Q _ => ∃ ns : List Int, ds = [.scr (ns.map .int)] ∧ ns.length ≤ 63 ∧ ∀ r, Reel 0 r → ∀ n, Q (.ow r n) []
theorem W_law_reel : ∀ ds Q E, F_law_reel ds Q E → b_law_reel (env0 [false] ds 4) (bodyEnds [false] Q E) := by
  refine viaE ?_
  simp (disch := with_unfolding_all (
    rintro ds Q E ⟨ns, rfl, hn, h⟩
    show b_law_reel [.fz (.scr (ns.map .int)) false, .un, .un, .un] (bodyEnds [false] Q E)
    unfold b_law_reel
    walk_at "d"
    rw [cut_63 hn]
    refine for_ind (fun L e => ∃ (rest : List Int) (st : Int) (x2 : DL.Slot), L = rest.map D.int ∧ 0 ≤ st ∧ st < 2 ^ 127 ∧ isOwn x2 = false ∧ e = [.fz (.scr (ns.map .int)) false, .fz (.int st) true, x2, .un]) ?_ ?_ ⟨ns, _, _, rfl, by decide, by decide, rfl, rfl⟩
    · rintro x xs e K ⟨rest, st, x2, eL, h1, h2, k2, rfl⟩ hK
      cases rest with
      | nil => cases eL
      | cons c rest =>
      cases eL
      refine ⟨_, setS_ok rfl (okS_of k2), ?_⟩
      dsimp only [List.set_cons_zero, List.set_cons_succ]
      walk_at "d"
      refine x_mulI (cmul (by omega) (by omega) (by omega) (by omega)) ?_
      walk_at "d"
      refine x_mulI (cmul (by decide) (by decide) (by decide) (by decide)) ?_
      walk_at "d"
      exact hK _ ⟨rest, _, _, rfl, Int.emod_nonneg _ (by decide), by have := Int.emod_lt_of_pos (st * st + c % 1000000000000000003 + 11) (show (0 : Int) < 18446744073709551616 * 9223372036854775808 - 1 by decide); omega, rfl, rfl⟩
    · rintro e ⟨rest, st, x2, eL, h1, h2, k2, rfl⟩
      walk_at "d"
      rw [cut_63 hn]
      have hno := k2
      refine x_lcfm ns D.int (fun c => if decide (1000000000000000000 ≤ c) = true then some (.int (c - 1000000000000000000)) else none) rfl (by exact off1 rfl hno) (small (by omega)) ?_ ?_
      · intro c _ K K2 h1 h2
        refine ⟨_, setS_ok rfl rfl, ?_⟩
        walk_at "d"
        refine ⟨by exact off1 rfl rfl, fun hb => ?_, fun hb => h2 _ (if_neg (by simpa using hb)) (by exact off1 rfl rfl) rfl⟩
        walk_at "d"
        exact h1 _ _ (if_pos hb) (by exact off1 rfl rfl) rfl
      rw [fmap_if]
      walk_at "d"
      rw [cut_63 hn]
      refine x_lcfm ns D.int (fun c => some (.int (c % 1000003))) rfl (by exact off1 rfl hno) (small (by omega)) ?_ ?_
      · intro c _ K K2 h1 h2
        refine ⟨_, setS_ok rfl rfl, ?_⟩
        walk_at "d"
        refine ⟨by exact off1 rfl rfl, fun _ => ?_, fun z => nomatch z⟩
        walk_at "d"
        exact h1 _ _ rfl (by exact off1 rfl rfl) rfl
      rw [fmap_some]
      walk_at "d"
      refine ⟨by rw [List.length_map]; exact small (show _ + 1 ≤ _ by omega), ?_⟩
      walk_at "d"
      refine h _ ⟨(ns.filter fun c => decide (1000000000000000000 ≤ c)).map (· - 1000000000000000000), ns.map (· % 1000003) ++ [41], 0, st, ?_, ?_, ⟨by simp, ?_⟩, ?_, by decide, by decide, h1, h2⟩ _
      · simp [List.map_append, List.map_map, Function.comp_def]
      · rw [List.length_map]; have := List.length_filter_le (fun c => decide (1000000000000000000 ≤ c)) ns; omega
      · simp; omega
      · intro c hc
        rcases List.mem_append.mp hc with hc | hc
        · obtain ⟨z, _, rfl⟩ := List.mem_map.mp hc
          exact ⟨Int.emod_nonneg _ (by decide), Int.emod_lt_of_pos _ (by decide)⟩
        · rw [List.mem_singleton.mp hc]; decide)) only [↓viaI]
end LA

open PySem PySem.Spec L2 DL
namespace LA
open Lay P
/-- what is no tuple -/
def nTup : D → Bool
  | .none => true | .bool _ => true | .int _ => true | .str _ => true | .list _ => true | .dict _ _ => true | _ => false
mutual
/-- a thing with its tuples as lists or tuples -/
inductive Dr : D → D → Prop
  | leaf {d : D} : nTup d = true → Dr d d
  | lst {xs ys : List D} : DrL xs ys → Dr (.tuple xs) (.list ys)
  | tup {xs ys : List D} : DrL xs ys → Dr (.tuple xs) (.tuple ys)
inductive DrL : List D → List D → Prop
  | nil : DrL [] []
  | cons {x y : D} {xs ys : List D} : Dr x y → DrL xs ys → DrL (x :: xs) (y :: ys)
end
theorem DrL.snoc {xs ys : List D} {x y : D} (h : DrL xs ys) (k : Dr x y) : DrL (xs ++ [x]) (ys ++ [y]) := by
  induction xs generalizing ys with
  | nil => cases h; exact .cons k .nil
  | cons a r ih => cases h with | cons h1 h2 => exact .cons h1 (ih h2)
mutual
/-- tuples within, how deep; how many -/
def tdep : D → Nat
  | .tuple xs => tdeps xs + 1
  | _ => 0
def tdeps : List D → Nat
  | [] => 0
  | x :: xs => max (tdep x) (tdeps xs)
end
mutual
def tcnt : D → Nat
  | .tuple xs => tcnts xs + 1
  | _ => 0
def tcnts : List D → Nat
  | [] => 0
  | x :: xs => tcnt x + tcnts xs
end
mutual
/-- of things as these, of no great size -/
def tok : D → Bool
  | .tuple xs => toks xs && decide (xs.length ≤ 10000)
  | .none => true | .bool _ => true | .int _ => true | .str _ => true | .list _ => true | .dict _ _ => true | _ => false
def toks : List D → Bool
  | [] => true
  | x :: xs => tok x && toks xs
end
theorem toks_mem {x : D} : ∀ {xs : List D}, x ∈ xs → toks xs = true → tok x = true
  | [], h, _ => nomatch h
  | y :: xs, h, k => by
    simp only [toks, Bool.and_eq_true] at k
    rcases List.mem_cons.mp h with rfl | h
    · exact k.1
    · exact toks_mem h k.2
def F_law_dressed (n : Nat) : DF := fun ds Q _ => ∃ (m : Nat) (r x : D), ds = [r, x] ∧ Reel m r ∧ m + tcnt x < 2 ^ 50 ∧ tok x = true ∧ tdep x ≤ n ∧
  (∀ (r' : D) (q : Bool), nTup x = true → Reel m r' → Q (.fz x q) [r']) ∧ (∀ (y : List D) (r' : D) (q : Bool), Dr x (.list y) → Reel (m + tcnt x) r' → Q (.ow (.list y) q) [r']) ∧ (∀ (y : List D) (r' : D) (q : Bool), Dr x (.tuple y) → Reel (m + tcnt x) r' → Q (.fz (.tuple y) q) [r'])
theorem W_leaf {Φ : DF} {m n : Nat} {r x : D} {Q : T → List D → Prop} {E : Str → List D → Prop} (hx : nTup x = true) (hr : Reel m r) (h : ∀ (r' : D) (q : Bool), nTup x = true → Reel m r' → Q (.fz x q) [r']) : b_law_dressed F_law_draw Φ (env0 [true, false] [r, x] 4) (bodyEnds [true, false] Q E) := by
  refine viaE ?_
  simp (disch := with_unfolding_all (
    show b_law_dressed _ _ [.io r, .fz x false, .un, .un] (bodyEnds [true, false] Q E)
    unfold b_law_dressed
    cases x with
    | none => walk_at "d"; exact h _ _ hx hr
    | bool b => walk_at "d"; exact h _ _ hx hr
    | int i => walk_at "d"; exact h _ _ hx hr
    | str z => walk_at "d"; exact h _ _ hx hr
    | list z => walk_at "d"; exact h _ _ hx hr
    | dict t z => walk_at "d"; exact h _ _ hx hr
    | _ => exact Bool.noConfusion hx)) only [↓viaI]
theorem W_law_dressed0 {Φ : DF} : ∀ ds Q E, F_law_dressed 0 ds Q E → b_law_dressed F_law_draw Φ (env0 [true, false] ds 4) (bodyEnds [true, false] Q E) := by
  refine viaE ?_
  simp (disch := with_unfolding_all (
    rintro ds Q E ⟨m, r, x, rfl, hr, hm, hok, hd, h1, h2, h3⟩
    have hx : nTup x = true := by
      cases x <;> first | rfl | exact Bool.noConfusion hok | (simp [tdep] at hd)
    exact W_leaf (n := 0) hx hr h1)) only [↓viaI]
theorem W_law_dressed (n : Nat) : ∀ ds Q E, F_law_dressed (n + 1) ds Q E → b_law_dressed F_law_draw (F_law_dressed n) (env0 [true, false] ds 4) (bodyEnds [true, false] Q E) := by
  refine viaE ?_
  simp (disch := with_unfolding_all (
    rintro ds Q E ⟨m, r, x, rfl, hr, hm, hok, hd, h1, h2, h3⟩
    cases x with
    | tuple xs =>
      show b_law_dressed _ _ [.io r, .fz (.tuple xs) false, .un, .un] (bodyEnds [true, false] Q E)
      unfold b_law_dressed
      simp only [tok, Bool.and_eq_true, decide_eq_true_eq] at hok
      obtain ⟨hok1, hok2⟩ := hok
      have hd' : tdeps xs ≤ n := by simpa [tdep] using hd
      have hc : tcnt (.tuple xs) = tcnts xs + 1 := rfl
      walk_at "d"
      refine x_lcI (fun rest acc an e => ∃ (r' : D) (don : List D) (x3 : DL.Slot), xs = don ++ rest ∧ DrL don acc ∧ Reel (m + tcnts don) r' ∧ isOwn x3 = false ∧ e = [.io r', .fz (.tuple xs) false, .un, x3]) (by exact off1 rfl rfl) ⟨r, [], .un, rfl, .nil, hr, rfl, rfl⟩ ?_ ?_
      · rintro z zs acc an e K K2 ⟨r', don, x3, e1, e2, e3, k3, rfl⟩ hK hK2
        have hc2 : tcnts don + tcnt z + tcnts zs = tcnts xs := by
          rw [e1]
          clear e1 e2 e3
          induction don with
          | nil => simp [tcnts]
          | cons a d ih => simp only [tcnts, List.cons_append] at ih ⊢; omega
        have hdz : tdep z ≤ n := by
          have : ∀ l : List D, z ∈ l → tdep z ≤ tdeps l := fun l => by
            induction l with
            | nil => intro h; cases h
            | cons a l ih =>
              intro h
              simp only [tdeps]
              rcases List.mem_cons.mp h with rfl | h
              · omega
              · have := ih h; omega
          exact Nat.le_trans (this xs (by rw [e1]; simp)) hd'
        have hlen : acc.length < sizeLine := by
          have h5 : ∀ {a b : List D}, DrL a b → a.length = b.length := fun {a b} h => by
            induction a generalizing b with
            | nil => cases h; rfl
            | cons x a ih => cases h with | cons _ h2 => simp [ih h2]
          have := h5 e2
          have e1l := congrArg List.length e1
          rw [List.length_append, List.length_cons] at e1l
          exact smallLt (by omega)
        refine ⟨_, rfl, by exact off1 rfl rfl, fun _ => ?_, fun z => nomatch z⟩
        have hsn : ∀ y, Dr z y → DrL (don ++ [z]) (acc ++ [y]) := fun y hy => e2.snoc hy
        have hcn : tcnts (don ++ [z]) = tcnts don + tcnt z := by
          clear e1 e2 e3 hc2 hsn
          induction don with
          | nil => simp [tcnts]
          | cons a d ih => simp only [tcnts, List.cons_append] at ih ⊢; omega
        walk_at "d"
        refine ⟨m + tcnts don, r', z, rfl, e3, by omega, toks_mem (by rw [e1]; simp) hok1, hdz, fun r2 q hz hr2 => ?_, fun y r2 q hz hr2 => ?_, fun y r2 q hz hr2 => ?_⟩
        · refine ⟨_, rfl, ?_⟩
          refine hK _ _ _ hlen (by exact off1 rfl rfl) ⟨r2, don ++ [z], _, by rw [e1]; simp, hsn _ (.leaf hz), ?_, rfl, rfl⟩
          rw [hcn]
          exact hr2.mono (by omega)
        · refine ⟨_, rfl, ?_⟩
          refine hK _ _ _ hlen (by exact off1 rfl rfl) ⟨r2, don ++ [z], _, by rw [e1]; simp, hsn _ hz, ?_, rfl, rfl⟩
          rw [hcn, ← Nat.add_assoc]
          exact hr2
        · refine ⟨_, rfl, ?_⟩
          refine hK _ _ _ hlen (by exact off1 rfl rfl) ⟨r2, don ++ [z], _, by rw [e1]; simp, hsn _ hz, ?_, rfl, rfl⟩
          rw [hcn, ← Nat.add_assoc]
          exact hr2
      · rintro acc an e ⟨r', don, x3, e1, e2, e3, k3, rfl⟩
        rw [List.append_nil] at e1
        subst e1
        walk_at "w"
        refine ⟨m + tcnts xs, r', 2, rfl, e3, by omega, by omega, by omega, fun i r2 hi0 hi1 hr2 => ?_⟩
        walk_at "w"
        refine x_dec (fun hi => ?_) fun hi => ?_
        · walk_at "d"
          exact h2 acc r2 _ (.lst e2) hr2
        · walk_at "d"
          refine ⟨_, _, rfl, .inl ⟨_, rfl, ?_⟩⟩
          walk_at "d"
          exact h3 acc r2 _ (.tup e2) hr2
    | none => exact W_leaf (n := n) rfl hr h1
    | bool b => exact W_leaf (n := n) rfl hr h1
    | int i => exact W_leaf (n := n) rfl hr h1
    | str z => exact W_leaf (n := n) rfl hr h1
    | list z => exact W_leaf (n := n) rfl hr h1
    | dict t z => exact W_leaf (n := n) rfl hr h1
    | _ => exact Bool.noConfusion hok)) only [↓viaI]
end LA

open PySem PySem.Spec L2 DL
namespace LA
open Lay P
end LA

open PySem PySem.Spec L2 DL
namespace LA
open Lay P
def hS (b : Bool) (ps : List (Deed × Bool)) (n : Bool) : DL.Slot := match b with
  | true => .ow (.list (ps.map hD)) n
  | false => .fz (.tuple (ps.map hD)) n
theorem shn_hD (p : Deed × Bool) (h : p.1.lets (10 ^ 31)) : ShN 1 424 (hD p) := by
  obtain ⟨d, b⟩ := p
  have key : ∀ xs : List D, (∀ x ∈ xs, ShN 0 211 x) → xs.length ≤ 2 → ShN 1 424 (seqD b xs) := fun xs hx hl => by
    have hw : xs.length * (211 + 1) ≤ 424 := by omega
    cases b
    · exact (shn_tuple hx).mono (Nat.le_refl _) hw
    · exact (shn_list hx).mono (Nat.le_refl _) hw
  cases d with
  | turn =>
    refine key _ (fun x hx => ?_) (by show 1 ≤ 2; decide)
    rw [List.mem_singleton.mp hx]
    exact shn_str (by decide) (by decide)
  | fold o l =>
    obtain ⟨h1, h2⟩ := h
    refine key _ (fun x hx => ?_) (by show 2 ≤ 2; decide)
    rcases List.mem_cons.mp hx with rfl | hx
    · cases o <;> exact shn_str (by decide) (by decide)
    · rw [List.mem_singleton.mp hx]
      exact (shn_int (by omega) (by omega)).mono (Nat.le_refl _) (by decide)
theorem lets_all : ∀ {W : Int} {r : List Deed}, 1 ≤ W → W ≤ 10 ^ 30 → letsAll W r → ∀ d ∈ r, d.lets (10 ^ 31)
  | _, [], _, _, _ => fun _ h => nomatch h
  | W, d :: r, h1, h2, ⟨h3, h4⟩ => fun x hx => by
    have hw := wide_pos h3 h1
    rcases List.mem_cons.mp hx with rfl | hx
    · cases x with
      | turn => trivial
      | fold o l => exact ⟨h3.1, by have := h3.2; omega⟩
    · exact lets_all hw.1 (by omega) h4 x hx
theorem shn_row {W : Int} {b : Bool} {ps : List (Deed × Bool)} (h1 : 1 ≤ W) (h2 : W ≤ 10 ^ 30) (h : letsAll W (ps.map (·.1))) (hl : ps.length ≤ 40) : ShN 2 17000 (seqD b (ps.map hD)) := by
  have hx : ∀ x ∈ ps.map hD, ShN 1 424 x := fun x hx => by
    obtain ⟨p, hp, rfl⟩ := List.mem_map.mp hx
    exact shn_hD p (lets_all h1 h2 h _ (List.mem_map_of_mem hp))
  have hw : (ps.map hD).length * (424 + 1) ≤ 17000 := by rw [List.length_map]; omega
  cases b
  · exact (shn_tuple hx).mono (Nat.le_refl _) hw
  · exact (shn_list hx).mono (Nat.le_refl _) hw
/-- a row, dressed -/
theorem dr_deed {d : Deed} {y : D} (h : Dr (deedD d) y) : ∃ b, y = hD (d, b) := by
  have leafs : ∀ {xs ys : List D}, DrL xs ys → (∀ x ∈ xs, nTup x = true) → ys = xs := fun {xs} => by
    induction xs with
    | nil => intro ys h _; cases h; rfl
    | cons x xs ih =>
      intro ys h hn
      cases h with
      | cons h1 h2 =>
        have hx := hn x (by simp)
        rw [ih h2 fun z hz => hn z (by simp [hz])]
        cases h1 with
        | leaf _ => rfl
        | lst _ => cases hx
        | tup _ => cases hx
  cases d with
  | turn =>
    cases h with
    | leaf h => cases h
    | lst h => rw [leafs h (by intro x hx; rw [List.mem_singleton.mp hx]; rfl)]; exact ⟨true, rfl⟩
    | tup h => rw [leafs h (by intro x hx; rw [List.mem_singleton.mp hx]; rfl)]; exact ⟨false, rfl⟩
  | fold o l =>
    have hn : ∀ x ∈ [D.str (dnm o), D.int l], nTup x = true := by
      intro x hx
      rcases List.mem_cons.mp hx with rfl | hx
      · rfl
      · rw [List.mem_singleton.mp hx]; rfl
    cases h with
    | leaf h => cases h
    | lst h => rw [leafs h hn]; exact ⟨true, rfl⟩
    | tup h => rw [leafs h hn]; exact ⟨false, rfl⟩
theorem dr_deeds : ∀ {row : List Deed} {ys : List D}, DrL (row.map deedD) ys → ∃ ps : List (Deed × Bool), ys = ps.map hD ∧ ps.map (·.1) = row
  | [], ys, h => by cases h; exact ⟨[], rfl, rfl⟩
  | d :: row, ys, h => by
    cases h with
    | cons h1 h2 =>
      obtain ⟨b, rfl⟩ := dr_deed h1
      obtain ⟨ps, rfl, e⟩ := dr_deeds h2
      exact ⟨(d, b) :: ps, rfl, by show d :: _ = _; rw [e]⟩
theorem deed_small (d : Deed) : tok (deedD d) = true ∧ tdep (deedD d) = 1 ∧ tcnt (deedD d) = 1 := by cases d <;> exact ⟨rfl, rfl, rfl⟩
theorem deeds_small : ∀ row : List Deed, toks (row.map deedD) = true ∧ tdeps (row.map deedD) ≤ 1 ∧ tcnts (row.map deedD) = row.length
  | [] => ⟨rfl, Nat.zero_le _, rfl⟩
  | d :: row => by
    obtain ⟨h1, h2, h3⟩ := deeds_small row
    obtain ⟨k1, k2, k3⟩ := deed_small d
    refine ⟨by simp [toks, h1, k1], ?_, ?_⟩
    · simp only [List.map_cons, tdeps]; omega
    · simp only [List.map_cons, tcnts, List.length_cons]; omega
/-- the contract of dressing, for a row -/
theorem dressed_row {m : Nat} {r : D} {row : List Deed} {Q : T → List D → Prop} {E : Str → List D → Prop} (hr : Reel m r) (hm : m < 2 ^ 49) (hl : row.length ≤ 40)
    (h : ∀ (b : Bool) (ps : List (Deed × Bool)) (r' : D) (q : Bool), ps.map (·.1) = row → Reel (m + 100) r' → Q (if b then .ow (.list (ps.map hD)) q else .fz (.tuple (ps.map hD)) q) [r']) : F_law_dressed 2 [r, .tuple (row.map deedD)] Q E := by
  obtain ⟨t1, t2, t3⟩ := deeds_small row
  have hc : tcnt (.tuple (row.map deedD)) = row.length + 1 := by show tcnts _ + 1 = _; rw [t3]
  refine ⟨m, r, .tuple (row.map deedD), rfl, hr, by rw [hc]; omega, ?_, ?_, (fun _ _ z => nomatch z), fun y r' q hy hr' => ?_, fun y r' q hy hr' => ?_⟩
  · simp only [tok, t1, Bool.true_and, decide_eq_true_eq, List.length_map]; omega
  · show tdeps _ + 1 ≤ 2; omega
  · cases hy with
    | lst hy =>
    obtain ⟨ps, rfl, hps⟩ := dr_deeds hy
    rw [hc] at hr'
    exact h true ps r' q hps (hr'.mono (by omega))
  · cases hy with
    | leaf h => cases h
    | tup hy =>
    obtain ⟨ps, rfl, hps⟩ := dr_deeds hy
    rw [hc] at hr'
    exact h false ps r' q hps (hr'.mono (by omega))
end LA

namespace Lay
/-- what lies so in a pile, where the pile stands so -/
def comp : Lies → Lies → Lies
  | (_, a, b, t), (c, A, B, T) => (c, A + (if T then b else a), B + (if T then a else b), xor T t)
end Lay

open PySem PySem.Spec L2 DL
local macro_rules | `(tactic| walk_at "d1") => `(tactic| with_reducible first | refine x_isNN ?_ | refine x_isNI ?_ | refine x_isNS ?_ | refine x_isNT ?_ | refine x_isNL ?_ | refine x_isND ?_ | refine x_isNE ?_ | refine x_lenU ?_ | refine x_sortU ?_ | refine x_stpG ?_ | refine x_tryA ?_ | refine x_neBB ?_ | refine x_eqBB ?_)

namespace P
open Lay
theorem x_neII {i j : Int} {n m : Bool} {R : T → Prop} (h : R (dB (!decide (i = j)))) : fNe (.int i) (.int j) n m R := ⟨okD_int _, okD_int _, by rw [deq_int]; exact h⟩
end P

namespace Lay
abbrev RunZ := Int × Int × List Int
def valR : List RunZ → Int → Option (List Int)
  | [], _ => none
  | r :: R, c => if r.1 ≤ c ∧ c < r.2.1 then some r.2.2 else valR R c
structure OkR (R : List RunZ) : Prop where
  pw : R.Pairwise fun r s => r.2.1 ≤ s.1
  lt : ∀ r ∈ R, r.1 < r.2.1
def EdgeIn (R : List RunZ) (L : List Int) : Prop := ∀ r ∈ R, r.1 ∈ L ∧ r.2.1 ∈ L
theorem OkR.tail {r : RunZ} {R : List RunZ} (h : OkR (r :: R)) : OkR R := ⟨(List.pairwise_cons.mp h.pw).2, fun s hs => h.lt s (List.mem_cons_of_mem _ hs)⟩
theorem nodup_len : ∀ {l m : List Int}, l.Nodup → (∀ x ∈ l, x ∈ m) → l.length ≤ m.length
  | [], _, _, _ => Nat.zero_le _
  | x :: l, m, h, s => by
    have hx := s x (List.mem_cons_self ..)
    have h' := List.nodup_cons.mp h
    have := nodup_len (m := m.erase x) h'.2 fun y hy => (List.mem_erase_of_ne (by rintro rfl; exact h'.1 hy)).mpr (s y (List.mem_cons_of_mem _ hy))
    rw [List.length_erase_of_mem hx] at this
    have := List.length_pos_of_mem hx
    rw [List.length_cons]
    omega
theorem runs_len {R : List RunZ} {L : List Int} (hR : OkR R) (h : EdgeIn R L) : R.length ≤ L.length := by
  have nd : (R.map (·.1)).Nodup := by
    rw [List.nodup_iff_pairwise_ne]
    refine List.pairwise_map.mpr ?_
    have : R.Pairwise fun r s => r.1 < s.1 := by
      have hp := hR.pw
      have hl := hR.lt
      clear hR h
      induction hp with
      | nil => exact .nil
      | cons h _ ih => exact .cons (fun s hs => by have := h s hs; have := hl _ (List.mem_cons_self ..); omega) (ih fun r hr => hl r (List.mem_cons_of_mem _ hr))
    exact this.imp fun h e => by omega
  have := nodup_len nd (m := L) fun x hx => by
    obtain ⟨r, hr, rfl⟩ := List.mem_map.mp hx
    exact (h r hr).1
  rw [List.length_map] at this
  exact this
end Lay

namespace Lay
/-- runs that tell how many layers lie at each column -/
structure Hts (W : Int) (h : Int → Int) (n : Nat) (R : List RunZ) : Prop where
  ok : OkR R
  val : ∀ c, valR R c = if 0 ≤ c ∧ c < W then some [h c] else none
  few : ∃ L : List Int, L.length ≤ n ∧ EdgeIn R L
theorem Hts.len {W : Int} {h : Int → Int} {n : Nat} {R : List RunZ} (H : Hts W h n R) : R.length ≤ n := by
  obtain ⟨L, h1, h2⟩ := H.few
  exact Nat.le_trans (runs_len H.ok h2) h1
end Lay

open PySem PySem.Spec L2 DL
namespace P
open Lay
end P

open PySem PySem.Spec L2 DL
namespace P
open Lay
end P

set_option pp.maxSteps 2500
open PySem PySem.Spec L2 DL
namespace P
open Lay
abbrev PI := List (Int × Int)
def kI (kvs : PI) : List (D × D) := kvs.map fun p => (.int p.1, .int p.2)
def look (kvs : PI) (m : Int) : Option Int := (kvs.find? fun p => decide (p.1 = m)).map (·.2)
def putI (kvs : PI) (m v : Int) : PI := if (kvs.any fun p => decide (p.1 = m)) = true then kvs.map (fun p => if decide (p.1 = m) = true then (p.1, v) else p) else kvs ++ [(m, v)]
theorem dget_kI {m : Int} : ∀ {kvs : PI}, dget (kI kvs) (.int m) = (look kvs m).map D.int
  | [] => rfl
  | p :: kvs => by
    have ih := dget_kI (m := m) (kvs := kvs)
    unfold dget look kI at ih ⊢
    rw [List.map_cons, List.find?_cons, List.find?_cons]
    simp only [deq_int]
    cases decide (p.1 = m)
    · exact ih
    · rfl
theorem dput_kI {m v : Int} {kvs : PI} : dput (kI kvs) (.int m) (.int v) = kI (putI kvs m v) := by
  have e1 : ((kI kvs).any fun p => deq p.1 (.int m)) = (kvs.any fun p => decide (p.1 = m)) := by
    unfold kI
    rw [List.any_map]
    congr 1
  unfold dput putI
  rw [e1]
  split
  · unfold kI
    rw [List.map_map, List.map_map]
    congr 1
    funext p
    simp only [Function.comp, deq_int]
    split <;> rfl
  · unfold kI
    rw [List.map_append]
    rfl
/-- the sum of what has a key -/
def tot : PI → Int → Int
  | [], _ => 0
  | p :: L, m => (if p.1 = m then p.2 else 0) + tot L m
theorem tot_app {m : Int} : ∀ {L M : PI}, tot (L ++ M) m = tot L m + tot M m
  | [], M => by simp [tot]
  | p :: L, M => by
    show (if p.1 = m then p.2 else 0) + tot (L ++ M) m = (if p.1 = m then p.2 else 0) + tot L m + tot M m
    rw [tot_app]; omega
structure Grp (L kvs : PI) : Prop where
  nd : (kvs.map (·.1)).Nodup
  mem : ∀ m w, (m, w) ∈ kvs ↔ m ∈ L.map (·.1) ∧ w = tot L m
theorem look_mem {kvs : PI} (nd : (kvs.map (·.1)).Nodup) {m w : Int} : look kvs m = some w ↔ (m, w) ∈ kvs := by
  unfold look
  induction kvs with
  | nil => simp
  | cons p kvs ih =>
    rw [List.map_cons, List.nodup_cons] at nd
    rw [List.find?_cons]
    by_cases e : p.1 = m
    · rw [decide_eq_true e]
      obtain ⟨p1, p2⟩ := p
      simp only at e
      subst e
      simp only [Option.map_some, Option.some.injEq, List.mem_cons, Prod.mk.injEq, true_and]
      constructor
      · intro h; exact .inl h.symm
      · rintro (h | h)
        · exact h.symm
        · exact absurd (List.mem_map.mpr ⟨_, h, rfl⟩) nd.1
    · rw [decide_eq_false e]
      rw [ih nd.2, List.mem_cons]
      constructor
      · exact .inr
      · rintro (h | h)
        · exact absurd (by rw [← h]) e
        · exact h
theorem look_none {kvs : PI} {m : Int} : look kvs m = none ↔ m ∉ kvs.map (·.1) := by
  unfold look
  rw [Option.map_eq_none_iff, List.find?_eq_none]
  simp only [decide_eq_true_eq, List.mem_map, not_exists, not_and]
theorem putI_keys {kvs : PI} {m v : Int} : (putI kvs m v).map (·.1) = if m ∈ kvs.map (·.1) then kvs.map (·.1) else kvs.map (·.1) ++ [m] := by
  have e : ((kvs.any fun p => decide (p.1 = m)) = true) ↔ m ∈ kvs.map (·.1) := by
    rw [List.any_eq_true, List.mem_map]
    simp only [decide_eq_true_eq]
  unfold putI
  by_cases h : m ∈ kvs.map (·.1)
  · rw [if_pos (e.mpr h), if_pos h, List.map_map]
    congr 1
    funext p
    simp only [Function.comp]
    split <;> rfl
  · rw [if_neg (fun z => h (e.mp z)), if_neg h, List.map_append]; rfl
theorem putI_mem {kvs : PI} {m v : Int} {a b : Int} : (a, b) ∈ putI kvs m v ↔ (a = m ∧ b = v) ∨ (a ≠ m ∧ (a, b) ∈ kvs) := by
  unfold putI
  by_cases h : (kvs.any fun p => decide (p.1 = m)) = true
  · rw [if_pos h, List.mem_map]
    obtain ⟨q, hq, eq⟩ := List.any_eq_true.mp h
    have eq' : q.1 = m := of_decide_eq_true eq
    constructor
    · rintro ⟨p, hp, e⟩
      by_cases k : p.1 = m
      · rw [if_pos (decide_eq_true k)] at e
        cases e
        exact .inl ⟨k, rfl⟩
      · rw [if_neg (by simpa using k)] at e
        subst e
        exact .inr ⟨k, hp⟩
    · rintro (⟨rfl, rfl⟩ | ⟨k, hp⟩)
      · exact ⟨q, hq, by rw [if_pos eq, eq']⟩
      · exact ⟨(a, b), hp, by rw [if_neg (by simpa using k)]⟩
  · rw [if_neg h, List.mem_append, List.mem_singleton, Prod.mk.injEq]
    have hno : ∀ p ∈ kvs, p.1 ≠ m := fun p hp e => h (List.any_eq_true.mpr ⟨p, hp, decide_eq_true e⟩)
    constructor
    · rintro (h1 | h1)
      · exact .inr ⟨hno _ h1, h1⟩
      · exact .inl h1
    · rintro (h1 | h1)
      · exact .inr h1
      · exact .inl h1.2
theorem Grp.put {L kvs : PI} {m w : Int} (h : Grp L kvs) : Grp (L ++ [(m, w)]) (putI kvs m ((look kvs m).getD 0 + w)) := by
  refine ⟨?_, fun a b => ?_⟩
  · rw [putI_keys]
    split
    · exact h.nd
    · rename_i hm
      exact List.nodup_append.mpr ⟨h.nd, by simp, fun a ha b hb => by rw [List.mem_singleton.mp hb]; rintro rfl; exact hm ha⟩
  · have et : ∀ x, tot (L ++ [(m, w)]) x = tot L x + if m = x then w else 0 := fun x => by rw [tot_app]; simp [tot]
    have eL : (look kvs m).getD 0 = tot L m := by
      cases e : look kvs m with
      | none =>
        have hn := look_none.mp e
        have hz : ∀ M : PI, m ∉ M.map (·.1) → tot M m = 0 := fun M hM => by
          induction M with
          | nil => rfl
          | cons p M ih =>
            rw [List.map_cons, List.mem_cons, not_or] at hM
            show (if p.1 = m then p.2 else 0) + tot M m = 0
            rw [if_neg (fun z => hM.1 z.symm), ih hM.2]; rfl
        refine (hz L fun hm => hn ?_).symm
        exact List.mem_map.mpr ⟨_, (h.mem m (tot L m)).mpr ⟨hm, rfl⟩, rfl⟩
      | some v => exact ((h.mem m v).mp ((look_mem h.nd).mp e)).2
    rw [putI_mem, eL, et, List.map_append, List.mem_append]
    constructor
    · rintro (⟨rfl, rfl⟩ | ⟨k, hk⟩)
      · exact ⟨.inr (by simp), by rw [if_pos rfl]⟩
      · obtain ⟨h1, h2⟩ := (h.mem a b).mp hk
        exact ⟨.inl h1, by rw [if_neg (fun z => k z.symm), h2]; omega⟩
    · rintro ⟨h1, h2⟩
      by_cases k : a = m
      · subst k
        rw [if_pos rfl] at h2
        exact .inl ⟨rfl, h2⟩
      · rw [if_neg (fun z => k z.symm)] at h2
        refine .inr ⟨k, (h.mem a b).mpr ⟨?_, by omega⟩⟩
        rcases h1 with h1 | h1
        · exact h1
        · exact absurd (List.mem_singleton.mp h1) k
theorem putI_len {kvs : PI} {m v : Int} : (putI kvs m v).length ≤ kvs.length + 1 := by
  unfold putI
  split
  · rw [List.length_map]; omega
  · rw [List.length_append, List.length_singleton]; omega
/-- how many layers, over how many columns, step by step -/
def wdL (W : Int) (S : Steps) : PI := (S.zip (ends W S)).map fun p => (p.1.2, p.2 - p.1.1)
def prD (p : Int × Int) : D := .tuple [.int p.1, .int p.2]
def F_by_layers : DF := fun ds Q E => ∃ pl x, ds = [pl, x] ∧ fine pl = true ∧ fine x = true ∧ rowThen pl x E fun W row => ∀ S zs n, Beh W row S → Grp (wdL (wideAll W row) S) zs → (zs.map (·.1)).Pairwise (· < ·) → zs.length ≤ S.length → Q (.ow (.list (zs.map prD)) n) []
theorem getD_int {o : Option Int} : (o.map D.int).getD (.int 0) = .int (o.getD 0) := by cases o <;> rfl
theorem asc_of {zs : PI} (hs : zs.Pairwise (fun p q => SrtO.lexB q p = false)) (nd : (zs.map (·.1)).Nodup) : (zs.map (·.1)).Pairwise (· < ·) := by
  rw [List.pairwise_map]
  have nd' := List.pairwise_map.mp nd
  refine (hs.and nd').imp fun {a b} ⟨h1, h2⟩ => ?_
  have := SrtO.lexB_no.mp h1
  have h3 : a.1 ≠ b.1 := h2
  omega
theorem gTp678 {d0 d1 d2 : D} {n : Bool} {x0 x1 x2 x3 x4 x5 x6 x7 x8 : DL.Slot} (h6 : okS x6 = true) (h7 : okS x7 = true) (h8 : okS x8 = true) : gTp [gTp [gN 6, gN 7], gN 8] (.tuple [.tuple [d0, d1], d2]) n [x0, x1, x2, x3, x4, x5, x6, x7, x8] = some [x0, x1, x2, x3, x4, x5, .fz d0 n, .fz d1 n, .fz d2 n] := by
  cases x6 <;> cases x7 <;> cases x8 <;> first | rfl | exact Bool.noConfusion h6 | exact Bool.noConfusion h7 | exact Bool.noConfusion h8
theorem W_by_layers : ∀ ds Q E, F_by_layers ds Q E → b_by_layers F_behind_all (env0 [false, false] ds 9) (bodyEnds [false, false] Q E) := by
  refine viaE ?_
  simp (disch := with_unfolding_all (
    rintro ds Q E ⟨pl, x, rfl, hp, hx, h⟩
    show b_by_layers _ [.fz pl false, .fz x false, .un, .un, .un, .un, .un, .un, .un] (bodyEnds [false, false] Q E)
    unfold b_by_layers
    walk_at "d"
    refine ⟨pl, x, rfl, hp, hx, rowThen_mono h (fun c hc => ⟨[], rfl, hc⟩) fun W row ep h1 h2 _ hl hn h => ?_⟩
    intro S n hB
    walk_at "w"
    rw [cut_tail]
    have hSl : S.length ≤ 100 := by have := hB.len; omega
    refine x_lcfn S.tail stD (fun s => some (.int s.1)) (by simp) (by exact off1 rfl rfl) (small (by rw [List.length_tail]; omega)) ?_ ?_
    · intro s _ K K2 q1 q2
      refine ⟨_, rfl, by exact off1 rfl rfl, fun _ => ?_, fun z => nomatch z⟩
      walk_at "d"
      exact q1 _ _ _ rfl (by exact off1 rfl rfl) rfl
    intro m1
    rw [fmap_some]
    walk_at "d"
    refine ⟨by rw [List.length_map, List.length_tail]; exact small (show _ + 1 ≤ _ by omega), ?_⟩
    rw [show S.tail.map (fun s => D.int s.1) ++ [D.int (wideAll W row)] = (ends (wideAll W row) S).map D.int by unfold ends; rw [List.map_append, List.map_map]; rfl]
    walk_at "d"
    refine ⟨_, _, _, _, rfl, _, _, _, rfl, rfl, ?_⟩
    rw [zipD_map]
    refine for_ind (fun L e => ∃ (done rest : List ((Int × Int) × Int)) (kvs : PI) (n3 : Bool) (x4 x6 x7 x8 : DL.Slot), L = rest.map (fun p => D.tuple [stD p.1, .int p.2]) ∧ S.zip (ends (wideAll W row) S) = done ++ rest ∧ Grp (done.map fun p => (p.1.2, p.2 - p.1.1)) kvs ∧ kvs.length ≤ done.length ∧ okS x6 = true ∧ okS x7 = true ∧ okS x8 = true ∧
      e = [.fz pl false, .fz x false, .fz (layD (wideAll W row) S) n, .ow (.dict false (kI kvs)) n3, x4, .un, x6, x7, x8]) ?_ ?_ ⟨[], _, [], _, _, _, _, _, rfl, rfl, ⟨List.nodup_nil, fun m w => by simp⟩, Nat.le_refl _, rfl, rfl, rfl, rfl⟩
    · rintro y xs e K ⟨done, rest, kvs, n3, x4, x6, x7, x8, eL, e1, hg, hk, k6, k7, k8, rfl⟩ hK
      cases rest with
      | nil => cases eL
      | cons p rest =>
      cases eL
      have hlz : (done ++ p :: rest).length ≤ 100 := by rw [← e1, List.length_zip]; omega
      rw [List.length_append, List.length_cons] at hlz
      refine ⟨_, gTp678 k6 k7 k8, ?_⟩
      generalize (_ && _) = nb
      walk_at "d"
      refine ⟨false, kI kvs, rfl, ?_⟩
      walk_at "d"
      refine ⟨rfl, ⟨_, rfl⟩, _, _, rfl, ?_⟩
      rw [dget_kI, getD_int]
      walk_at "d"
      refine ⟨smallLt (by unfold kI; rw [List.length_map]; omega), ?_⟩
      rw [dput_kI, Int.add_sub_assoc]
      walk_at "n"
      refine hK _ ⟨done ++ [p], rest, _, _, _, _, _, _, rfl, by rw [e1]; simp, ?_, ?_, rfl, rfl, rfl, rfl⟩
      · rw [List.map_append]
        exact hg.put
      · have := putI_len (kvs := kvs) (m := p.1.2) (v := (look kvs p.1.2).getD 0 + (p.2 - p.1.1))
        rw [List.length_append, List.length_singleton]
        omega
    · rintro e ⟨done, rest, kvs, n3, x4, x6, x7, x8, eL, e1, hg, hk, k6, k7, k8, rfl⟩
      have hR : rest = [] := by simpa using eL.symm
      subst hR
      rw [List.append_nil] at e1
      walk_at "d"
      refine ⟨kvs, rfl, fun zs hp2 hs2 => ?_⟩
      walk_at "d"
      rw [← e1] at hg
      have hgz : Grp (wdL (wideAll W row) S) zs := ⟨(hp2.map _).nodup_iff.mpr hg.nd, fun a b => by rw [hp2.mem_iff]; exact hg.mem a b⟩
      refine h S zs _ hB hgz (asc_of hs2 hgz.nd) ?_
      rw [hp2.length_eq]
      have : done.length ≤ S.length := by rw [← e1, List.length_zip]; exact Nat.min_le_left _ _
      omega)) only [↓viaI]
end P

namespace Lay
theorem steps_uniq : ∀ {S T : Steps} {v c0 W : Int}, SoS S → SoS T → noEq (some v) S → noEq (some v) T → (∀ s ∈ S, c0 ≤ s.1 ∧ s.1 < W) → (∀ s ∈ T, c0 ≤ s.1 ∧ s.1 < W) → (∀ c, c0 ≤ c → c < W → val0 v S c = val0 v T c) → S = T
  | [], [], _, _, _, _, _, _, _, _, _, _ => rfl
  | [], t :: r, v, c0, W, _, h2, _, n2, _, k2, e => by
    obtain ⟨a1, a2⟩ := List.pairwise_cons.mp h2
    have kt := k2 t (by simp)
    have := e t.1 kt.1 kt.2
    have e2 : val0 v (t :: r) t.1 = t.2 := by
      show (if t.1 ≤ t.1 then val0 t.2 r t.1 else v) = _
      rw [if_pos (Int.le_refl _), val0_lt a1]
    rw [e2] at this
    exact absurd (congrArg some this) n2.1
  | s :: r, [], v, c0, W, h1, _, n1, _, k1, _, e => by
    obtain ⟨a1, a2⟩ := List.pairwise_cons.mp h1
    have kt := k1 s (by simp)
    have := e s.1 kt.1 kt.2
    have e2 : val0 v (s :: r) s.1 = s.2 := by
      show (if s.1 ≤ s.1 then val0 s.2 r s.1 else v) = _
      rw [if_pos (Int.le_refl _), val0_lt a1]
    rw [e2] at this
    exact absurd (congrArg some this.symm) n1.1
  | s :: r, t :: q, v, c0, W, h1, h2, n1, n2, k1, k2, e => by
    obtain ⟨a1, a2⟩ := List.pairwise_cons.mp h1
    obtain ⟨b1, b2⟩ := List.pairwise_cons.mp h2
    have ks := k1 s (by simp)
    have kt := k2 t (by simp)
    have es : val0 v (s :: r) s.1 = s.2 := by
      show (if s.1 ≤ s.1 then val0 s.2 r s.1 else v) = _
      rw [if_pos (Int.le_refl _), val0_lt a1]
    have et : val0 v (t :: q) t.1 = t.2 := by
      show (if t.1 ≤ t.1 then val0 t.2 q t.1 else v) = _
      rw [if_pos (Int.le_refl _), val0_lt b1]
    rcases Int.lt_trichotomy s.1 t.1 with k | k | k
    · have := e s.1 ks.1 ks.2
      rw [es] at this
      have e2 : val0 v (t :: q) s.1 = v := by
        show (if t.1 ≤ s.1 then _ else v) = v
        rw [if_neg (by omega)]
      rw [e2] at this
      exact absurd (congrArg some this.symm) n1.1
    · have := e s.1 ks.1 ks.2
      rw [es, k, et] at this
      have h : s = t := Prod.ext k this
      subst h
      congr 1
      refine steps_uniq (v := s.2) (c0 := s.1) (W := W) a2 b2 n1.2 n2.2 (fun x hx => ⟨Int.le_of_lt (a1 x hx), (k1 x (by simp [hx])).2⟩) (fun x hx => ⟨Int.le_of_lt (b1 x hx), (k2 x (by simp [hx])).2⟩) fun c c1 c2 => ?_
      have := e c (by omega) c2
      have u : ∀ z, val0 v (s :: z) c = val0 s.2 z c := fun z => by
        show (if s.1 ≤ c then _ else v) = _
        rw [if_pos c1]
      rwa [u, u] at this
    · have := e t.1 kt.1 kt.2
      rw [et] at this
      have e2 : val0 v (s :: r) t.1 = v := by
        show (if s.1 ≤ t.1 then _ else v) = v
        rw [if_neg (by omega)]
      rw [e2] at this
      exact absurd (congrArg some this) n2.1
theorem lay_uniq {W : Int} {S T : Steps} (h1 : LayOk W S) (h2 : LayOk W T) (n1 : noEq none S) (n2 : noEq none T) (e : ∀ c, 0 ≤ c → c < W → lay W S c = lay W T c) : S = T := by
  have hd : ∀ {S : Steps}, LayOk W S → noEq none S → ∃ v r, S = (0, v) :: r := by
    intro S h n
    obtain ⟨s, hs, z⟩ := h.zero
    cases S with
    | nil => cases hs
    | cons a r =>
      refine ⟨a.2, r, ?_⟩
      have : a.1 = 0 := by
        rcases List.mem_cons.mp hs with e | hs
        · rw [← e]; exact z
        · have := (List.pairwise_cons.mp h.so).1 s hs
          have := (h.rng a (by simp)).1
          omega
      rw [← this]
  obtain ⟨v, r, rfl⟩ := hd h1 n1
  obtain ⟨w, q, rfl⟩ := hd h2 n2
  obtain ⟨a1, a2⟩ := List.pairwise_cons.mp h1.so
  obtain ⟨b1, b2⟩ := List.pairwise_cons.mp h2.so
  have key : ∀ c, 0 ≤ c → c < W → val0 v r c = val0 w q c := fun c c1 c2 => by
    have := e c c1 c2
    unfold lay at this
    rw [if_pos ⟨c1, c2⟩, if_pos ⟨c1, c2⟩] at this
    have u : ∀ x z, val0 0 ((0, x) :: z) c = val0 x z c := fun x z => by
      show (if (0 : Int) ≤ c then _ else _) = _
      rw [if_pos c1]
    rwa [u, u] at this
  have w0 := (h1.rng _ (List.mem_cons_self ..)).2
  have ev : v = w := by
    have := key 0 (Int.le_refl _) w0
    rwa [val0_lt a1, val0_lt b1] at this
  subst ev
  congr 1
  exact steps_uniq (v := v) (c0 := 0) (W := W) a2 b2 n1.2 n2.2 (fun x hx => ⟨Int.le_of_lt (a1 x hx), (h1.rng x (by simp [hx])).2⟩) (fun x hx => ⟨Int.le_of_lt (b1 x hx), (h2.rng x (by simp [hx])).2⟩) key
end Lay

namespace Lay
def stepsF (f : Nat → Int) (n : Nat) : Steps := (List.range n).filterMap fun a => if a = 0 ∨ f a ≠ f (a - 1) then some ((a : Int), f a) else none
theorem stepsF_succ {f : Nat → Int} {n : Nat} : stepsF f (n + 1) = stepsF f n ++ (if n = 0 ∨ f n ≠ f (n - 1) then [((n : Int), f n)] else []) := by
  unfold stepsF
  rw [List.range_succ, List.filterMap_append]
  congr 1
  by_cases h : n = 0 ∨ f n ≠ f (n - 1)
  · rw [if_pos h, List.filterMap_cons, if_pos h]
    rfl
  · rw [if_neg h, List.filterMap_cons, if_neg h]
    rfl
theorem noEq_snoc : ∀ {S : Steps} {o : Option Int} {s x : Int × Int}, noEq o (S ++ [s]) → s.2 ≠ x.2 → noEq o (S ++ [s] ++ [x])
  | [], o, s, x, h, hx => ⟨h.1, fun e => hx (Option.some.inj e), trivial⟩
  | t :: S, o, s, x, h, hx => ⟨h.1, noEq_snoc (S := S) h.2 hx⟩
structure StF (f : Nat → Int) (n : Nat) (S : Steps) : Prop where
  so : SoS S
  rng : ∀ s ∈ S, 0 ≤ s.1 ∧ s.1 < n
  alt : noEq none S
  zero : ∃ s ∈ S, s.1 = 0
  val : ∀ c : Int, 0 ≤ c → c < n → val0 0 S c = f c.toNat
  far : ∀ c : Int, n ≤ c → val0 0 S c = f (n - 1)
  last : ∃ A s, S = A ++ [s] ∧ s.2 = f (n - 1)
  mem : ∀ m, m ∈ S.map (·.2) ↔ ∃ a, a < n ∧ f a = m
theorem stF {f : Nat → Int} : ∀ {n : Nat}, StF f (n + 1) (stepsF f (n + 1))
  | 0 => by
    have e : stepsF f 1 = [((0 : Int), f 0)] := by rw [stepsF_succ, if_pos (.inl rfl)]; rfl
    rw [e]
    refine ⟨List.pairwise_singleton .., fun s hs => ?_, ⟨nofun, trivial⟩, ⟨_, List.mem_singleton.mpr rfl, rfl⟩, fun c c0 c1 => ?_, fun c hc => ?_, ⟨[], _, rfl, rfl⟩, fun m => ?_⟩
    · rw [List.mem_singleton.mp hs]; dsimp only; omega
    · show (if (0 : Int) ≤ c then _ else _) = _
      rw [if_pos c0, show c.toNat = 0 by omega]
      rfl
    · show (if (0 : Int) ≤ c then _ else _) = _
      rw [if_pos (by omega)]
      rfl
    · constructor
      · intro h
        have : m = f 0 := by simpa using h
        exact ⟨0, by omega, this.symm⟩
      · rintro ⟨a, ha, rfl⟩
        rw [show a = 0 by omega]
        simp
  | n + 1 => by
    have ih := stF (f := f) (n := n)
    have e := stepsF_succ (f := f) (n := n + 1)
    rw [e]
    obtain ⟨A, s0, eA, hs0⟩ := ih.last
    rw [show n + 1 - 1 = n by omega] at hs0
    by_cases h : f (n + 1) = f n
    · rw [if_neg (by rintro (z | z); omega; exact z (by rw [show n + 1 - 1 = n by omega]; exact h)), List.append_nil]
      refine ⟨ih.so, fun s hs => ?_, ih.alt, ih.zero, fun c c0 c1 => ?_, fun c hc => ?_, ⟨A, s0, eA, by rw [hs0, show n + 1 + 1 - 1 = n + 1 by omega, h]⟩, fun m => ?_⟩
      · have := ih.rng s hs; omega
      · by_cases k : c < ((n + 1 : Nat) : Int)
        · exact ih.val c c0 k
        · rw [ih.far c (by omega), show c.toNat = n + 1 by omega, h]
          rfl
      · rw [ih.far c (by omega), show n + 1 + 1 - 1 = n + 1 by omega, h]
        rfl
      · rw [ih.mem]
        constructor
        · rintro ⟨a, ha, e⟩; exact ⟨a, by omega, e⟩
        · rintro ⟨a, ha, e⟩
          by_cases k : a < n + 1
          · exact ⟨a, k, e⟩
          · rw [show a = n + 1 by omega, h] at e; exact ⟨n, by omega, e⟩
    · rw [if_pos (.inr (by rw [show n + 1 - 1 = n by omega]; exact h))]
      have so' : SoS (stepsF f (n + 1) ++ [(((n + 1 : Nat) : Int), f (n + 1))]) := by
        unfold SoS
        rw [List.pairwise_append]
        refine ⟨ih.so, List.pairwise_singleton .., fun s hs t ht => ?_⟩
        rw [List.mem_singleton.mp ht]
        exact (ih.rng s hs).2
      refine ⟨so', fun s hs => ?_, ?_, ?_, fun c c0 c1 => ?_, fun c hc => ?_, ⟨_, _, rfl, by rw [show n + 1 + 1 - 1 = n + 1 by omega]⟩, fun m => ?_⟩
      · rcases List.mem_append.mp hs with hs | hs
        · have := ih.rng s hs; omega
        · rw [List.mem_singleton.mp hs]; dsimp only; omega
      · have := ih.alt
        rw [eA] at this ⊢
        exact noEq_snoc this (by rw [hs0]; exact fun z => h z.symm)
      · obtain ⟨s, hs, z⟩ := ih.zero
        exact ⟨s, List.mem_append_left _ hs, z⟩
      · rw [val0_snoc so']
        dsimp only
        by_cases k : ((n + 1 : Nat) : Int) ≤ c
        · rw [if_pos k, show c.toNat = n + 1 by omega]
        · rw [if_neg k]; exact ih.val c c0 (by omega)
      · rw [val0_snoc so']
        dsimp only
        rw [if_pos (by omega), show n + 1 + 1 - 1 = n + 1 by omega]
      · rw [List.map_append, List.mem_append, ih.mem]
        constructor
        · rintro (⟨a, ha, e⟩ | hm)
          · exact ⟨a, by omega, e⟩
          · have : m = f (n + 1) := by simpa using hm
            exact ⟨n + 1, by omega, this.symm⟩
        · rintro ⟨a, ha, e⟩
          by_cases k : a < n + 1
          · exact .inl ⟨a, k, e⟩
          · rw [show a = n + 1 by omega] at e
            exact .inr (by simp [e])
theorem stF_lay {f : Nat → Int} {n : Nat} {S : Steps} (h : LayOk ((n + 1 : Nat) : Int) S) (ha : noEq none S) (e : ∀ c : Int, 0 ≤ c → c < ((n + 1 : Nat) : Int) → lay ((n + 1 : Nat) : Int) S c = f c.toNat) : S = stepsF f (n + 1) := by
  have k := stF (f := f) (n := n)
  refine lay_uniq h ⟨k.so, k.rng, k.zero⟩ ha k.alt fun c c0 c1 => ?_
  rw [e c c0 c1]
  unfold lay
  rw [if_pos ⟨c0, c1⟩, k.val c c0 c1]
def wdR (W : Int) : Steps → List (Int × Int)
  | [] => []
  | [s] => [(s.2, W - s.1)]
  | s :: t :: r => (s.2, t.1 - s.1) :: wdR W (t :: r)
theorem wdR_eq {W : Int} : ∀ {S : Steps}, (S.zip (ends W S)).map (fun p => (p.1.2, p.2 - p.1.1)) = wdR W S
  | [] => rfl
  | [s] => rfl
  | s :: t :: r => by
    have ih := wdR_eq (W := W) (S := t :: r)
    show (s.2, t.1 - s.1) :: ((t :: r).zip (ends W (t :: r))).map _ = _
    rw [ih]
    rfl
def totR : List (Int × Int) → Int → Int
  | [], _ => 0
  | p :: L, m => (if p.1 = m then p.2 else 0) + totR L m
theorem wdR_snoc {W W' v : Int} : ∀ {S : Steps} {s : Int × Int}, wdR W' (S ++ [s] ++ [(W, v)]) = wdR W (S ++ [s]) ++ [(v, W' - W)]
  | [], s => rfl
  | [t], s => rfl
  | t :: u :: S, s => by
    have ih := wdR_snoc (W := W) (W' := W') (v := v) (S := u :: S) (s := s)
    show (t.2, u.1 - t.1) :: wdR W' (u :: S ++ [s] ++ [(W, v)]) = (t.2, u.1 - t.1) :: wdR W (u :: S ++ [s]) ++ _
    rw [ih]
    rfl
theorem totR_app {m : Int} : ∀ {L M : List (Int × Int)}, totR (L ++ M) m = totR L m + totR M m
  | [], M => by simp [totR]
  | p :: L, M => by
    show (if p.1 = m then p.2 else 0) + totR (L ++ M) m = (if p.1 = m then p.2 else 0) + totR L m + totR M m
    rw [totR_app]; omega
theorem wdR_more {W m : Int} : ∀ {S : Steps} {s : Int × Int}, totR (wdR (W + 1) (S ++ [s])) m = totR (wdR W (S ++ [s])) m + (if s.2 = m then 1 else 0)
  | [], s => by
    show (if s.2 = m then W + 1 - s.1 else 0) + 0 = (if s.2 = m then W - s.1 else 0) + 0 + (if s.2 = m then 1 else 0)
    split <;> omega
  | [t], s => by
    show (if t.2 = m then s.1 - t.1 else 0) + ((if s.2 = m then W + 1 - s.1 else 0) + 0) = (if t.2 = m then s.1 - t.1 else 0) + ((if s.2 = m then W - s.1 else 0) + 0) + (if s.2 = m then 1 else 0)
    split <;> split <;> omega
  | t :: u :: S, s => by
    have ih := wdR_more (W := W) (m := m) (S := u :: S) (s := s)
    show (if t.2 = m then u.1 - t.1 else 0) + totR (wdR (W + 1) (u :: S ++ [s])) m = (if t.2 = m then u.1 - t.1 else 0) + totR (wdR W (u :: S ++ [s])) m + _
    rw [ih]
    omega
def cntF (f : Nat → Int) : Nat → Int → Int
  | 0, _ => 0
  | n + 1, m => cntF f n m + (if f n = m then 1 else 0)
theorem tot_cnt {f : Nat → Int} {m : Int} : ∀ {n : Nat}, totR (wdR ((n + 1 : Nat) : Int) (stepsF f (n + 1))) m = cntF f (n + 1) m
  | 0 => by
    have e : stepsF f 1 = [((0 : Int), f 0)] := by rw [stepsF_succ, if_pos (.inl rfl)]; rfl
    rw [e]
    show (if f 0 = m then (1 : Int) - 0 else 0) + 0 = 0 + (if f 0 = m then 1 else 0)
    split <;> omega
  | n + 1 => by
    have ih := tot_cnt (f := f) (m := m) (n := n)
    have k := stF (f := f) (n := n)
    obtain ⟨A, s0, eA, hs0⟩ := k.last
    rw [show n + 1 - 1 = n by omega] at hs0
    have e := stepsF_succ (f := f) (n := n + 1)
    rw [e]
    show _ = cntF f (n + 1) m + (if f (n + 1) = m then 1 else 0)
    rw [← ih, eA]
    by_cases h : f (n + 1) = f n
    · rw [if_neg (by rintro (z | z); omega; exact z (by rw [show n + 1 - 1 = n by omega]; exact h)), List.append_nil]
      have := wdR_more (W := ((n + 1 : Nat) : Int)) (m := m) (S := A) (s := s0)
      rw [show ((n + 1 + 1 : Nat) : Int) = ((n + 1 : Nat) : Int) + 1 by omega, this, hs0, h]
    · rw [if_pos (.inr (by rw [show n + 1 - 1 = n by omega]; exact h)), wdR_snoc, totR_app]
      show _ + ((if f (n + 1) = m then ((n + 1 + 1 : Nat) : Int) - ((n + 1 : Nat) : Int) else 0) + 0) = _
      split <;> omega
theorem wdR_keys {W : Int} : ∀ {S : Steps}, (wdR W S).map (·.1) = S.map (·.2)
  | [] => rfl
  | [s] => rfl
  | s :: t :: r => by
    have ih := wdR_keys (W := W) (S := t :: r)
    show s.2 :: (wdR W (t :: r)).map _ = _
    rw [ih]
    rfl
/-- rising lists of the same things are one -/
theorem asc_uniq : ∀ {a b : List Int}, a.Pairwise (· < ·) → b.Pairwise (· < ·) → (∀ m, m ∈ a ↔ m ∈ b) → a = b
  | [], [], _, _, _ => rfl
  | [], y :: b, _, _, h => absurd ((h y).mpr (List.mem_cons_self ..)) (by simp)
  | x :: a, [], _, _, h => absurd ((h x).mp (List.mem_cons_self ..)) (by simp)
  | x :: a, y :: b, ha, hb, h => by
    obtain ⟨a1, a2⟩ := List.pairwise_cons.mp ha
    obtain ⟨b1, b2⟩ := List.pairwise_cons.mp hb
    have exy : x = y := by
      have h1 := (h x).mp (List.mem_cons_self ..)
      have h2 := (h y).mpr (List.mem_cons_self ..)
      rcases List.mem_cons.mp h1 with e | e
      · exact e
      · rcases List.mem_cons.mp h2 with e' | e'
        · exact e'.symm
        · have := b1 _ e; have := a1 _ e'; omega
    subst exy
    rw [asc_uniq a2 b2 fun m => ?_]
    constructor
    · intro hm
      rcases List.mem_cons.mp ((h m).mp (List.mem_cons_of_mem _ hm)) with e | e
      · have := a1 m hm; omega
      · exact e
    · intro hm
      rcases List.mem_cons.mp ((h m).mpr (List.mem_cons_of_mem _ hm)) with e | e
      · have := b1 m hm; omega
      · exact e
end Lay

set_option pp.maxSteps 1500
open PySem PySem.Spec L2 DL
namespace K03
open Lay P LA
def F_law_steps : DF := fun ds Q _ => ∃ (f : Nat → Int) (n : Nat), ds = [.list ((List.range n).map fun a => .int (f a))] ∧ n ≤ 1000 ∧ ∀ m, Q (.ow (.list ((stepsF f n).map stD)) m) []
theorem hts_at {f : Nat → Int} {n a : Nat} (h : a < n) : atI ((List.range n).map fun a => D.int (f a)) (a : Int) = some (.int (f a)) :=
  L2.atI_nat (j := a) (by rw [List.getElem?_map, List.getElem?_range h]; rfl)
theorem W_law_steps : ∀ ds Q E, F_law_steps ds Q E → b_law_steps (env0 [false] ds 2) (bodyEnds [false] Q E) := by
  refine viaE ?_
  simp (disch := with_unfolding_all (
    rintro ds Q E ⟨f, n, rfl, hn, h⟩
    show b_law_steps [.fz (.list ((List.range n).map fun a => .int (f a))) false, .un] (bodyEnds [false] Q E)
    unfold b_law_steps
    walk_at "d"
    rw [List.length_map, List.length_range]
    refine x_rng rfl (by omega) (by omega) ?_
    have e0 : rangeD 0 (n : Int).toNat = (List.range n).map fun i : Nat => D.int i := by
      rw [show (0 : Int) = ((0 : Nat) : Int) from rfl, rangeD_map, ← List.range_eq_range']
      rfl
    refine x_lcfn (List.range n) (fun i : Nat => D.int i) (fun a => if a = 0 ∨ f a ≠ f (a - 1) then some (stD ((a : Int), f a)) else none) e0 (by exact off1 rfl rfl) (small (by rw [List.length_range]; omega)) ?_ ?_
    · intro a ha K K2 h1 h2
      have ha := List.mem_range.mp ha
      refine ⟨_, setS_ok rfl rfl, ?_⟩
      walk_at "w"
      refine x_dec (fun k => ?_) fun k => ?_
      · refine ⟨by exact off1 rfl rfl, fun _ => ?_, fun z => (nomatch z)⟩
        walk_at "w"
        refine x_ixL (hts_at ha) ?_
        walk_at "w"
        exact h1 _ _ _ (by rw [if_pos (.inl (by omega))]; rfl) (by exact off1 rfl rfl) rfl
      · walk_at "w"
        refine x_ixL (hts_at ha) ?_
        walk_at "w"
        refine x_ixL (by rw [show (a : Int) - 1 = ((a - 1 : Nat) : Int) by omega]; exact hts_at (by omega)) ?_
        walk_at "w"
        refine x_neII ?_
        walk_at "w"
        refine ⟨by exact off1 rfl rfl, fun z => ?_, fun z => ?_⟩
        · walk_at "w"
          refine x_ixL (hts_at ha) ?_
          walk_at "w"
          exact h1 _ _ _ (by rw [if_pos (.inr (by simpa using z))]; rfl) (by exact off1 rfl rfl) rfl
        · exact h2 _ (by rw [if_neg (by rintro (z1 | z1); omega; exact z1 (by simpa using z))]) (by exact off1 rfl rfl) rfl
    · intro m
      walk_at "w"
      have e : (List.range n).filterMap (fun a => if a = 0 ∨ f a ≠ f (a - 1) then some (stD ((a : Int), f a)) else none) = (stepsF f n).map stD := by
        unfold stepsF
        rw [List.map_filterMap]
        congr 1
        funext a
        split <;> rfl
      rw [e]
      exact h _)) only [↓viaI]
theorem tot_eq {m : Int} : ∀ {L : PI}, tot L m = totR L m
  | [] => rfl
  | p :: L => by
    show _ + tot L m = _ + totR L m
    rw [tot_eq]
theorem beh_steps {W : Nat} {row : List Deed} {S : Steps} {f : Nat → Int} {n : Nat} (hl : letsAll W row) (hB : Beh W row S) (hn : wideAll W row = ((n + 1 : Nat) : Int)) (hf : ∀ a : Nat, a < n + 1 → (run ((W : Int), flatF W) row).2 a = f a) : S = stepsF f (n + 1) := by
  refine stF_lay (by rw [← hn]; exact hB.ok) hB.alt fun c c0 c1 => ?_
  rw [← hn, hB.val]
  have := hf c.toNat (by omega)
  rw [show ((c.toNat : Nat) : Int) = c by omega] at this
  exact this
/-- what by_layers tells -/
theorem by_eq {f : Nat → Int} {n : Nat} {zs : PI} {ys : List Int} (hg : Grp (wdL ((n + 1 : Nat) : Int) (stepsF f (n + 1))) zs) (hz : (zs.map (·.1)).Pairwise (· < ·)) (hy : ys.Pairwise (· ≤ ·)) (nd : ys.Nodup) (hm : ∀ m, m ∈ ys ↔ ∃ a, a < n + 1 ∧ f a = m) : zs = ys.map fun m => (m, cntF f (n + 1) m) := by
  have k := stF (f := f) (n := n)
  have ew : wdL ((n + 1 : Nat) : Int) (stepsF f (n + 1)) = wdR ((n + 1 : Nat) : Int) (stepsF f (n + 1)) := wdR_eq
  have hy' : ys.Pairwise (· < ·) := by
    have := List.nodup_iff_pairwise_ne.mp nd
    exact (hy.and this).imp fun {a b} ⟨h1, h2⟩ => by omega
  have val : ∀ p ∈ zs, p.2 = cntF f (n + 1) p.1 ∧ ∃ a, a < n + 1 ∧ f a = p.1 := fun p hp => by
    obtain ⟨h1, h2⟩ := (hg.mem p.1 p.2).mp hp
    rw [ew, wdR_keys] at h1
    rw [tot_eq, ew, tot_cnt] at h2
    exact ⟨h2, (k.mem _).mp h1⟩
  have ek : zs.map (·.1) = ys := by
    refine asc_uniq hz hy' fun m => ?_
    rw [hm]
    constructor
    · intro h
      obtain ⟨p, hp, rfl⟩ := List.mem_map.mp h
      exact (val p hp).2
    · intro h
      have h1 : m ∈ (wdL ((n + 1 : Nat) : Int) (stepsF f (n + 1))).map (·.1) := by
        rw [ew, wdR_keys]
        exact (k.mem m).mpr h
      exact List.mem_map.mpr ⟨(m, _), (hg.mem m _).mpr ⟨h1, rfl⟩, rfl⟩
  rw [← ek, List.map_map]
  have : ∀ p ∈ zs, p = ((fun m => (m, cntF f (n + 1) m)) ∘ fun p : Int × Int => p.1) p := fun p hp => Prod.ext rfl (val p hp).1
  conv => lhs; rw [← List.map_id zs]
  exact List.map_congr_left fun p hp => this p hp
theorem cnt_list {f : Nat → Int} {m : Int} : ∀ {n : Nat}, (((List.range n).filter fun a => decide (f a = m)).length : Int) = cntF f n m
  | 0 => rfl
  | n + 1 => by
    rw [List.range_succ, List.filter_append, List.length_append, Int.natCast_add, cnt_list (n := n)]
    show _ + _ = cntF f n m + (if f n = m then 1 else 0)
    congr 1
    rw [List.filter_cons]
    by_cases h : f n = m
    · rw [if_pos (decide_eq_true h), if_pos h]; rfl
    · rw [if_neg (by rw [decide_eq_false h]; exact Bool.false_ne_true), if_neg h]; rfl
end K03

set_option pp.maxSteps 1500
open PySem PySem.Spec L2 DL
namespace K03
open Lay P LA
theorem setS_dp {env : DEnv} {i : Nat} {s : DL.Slot} {d : D} (e : env[i]? = some s) (o : okS s = true) : setS env i (.dp d) = some (env.set i (.dp d)) := by
  unfold setS
  rw [e]
  simp [o]
theorem hts_len {W : Nat} {row : List Deed} (h : letsAll W row) {a : Nat} {p : Pile} (ha : (pilesP (flatL W) row)[a]? = some p) : (run ((W : Int), flatF W) row).2 (a : Int) = (p.length : Int) := by
  have e := piles_flat h
  rw [heights, e]
  show ((fP (pilesP (flatL W) row) a).length : Int) = _
  unfold fP
  rw [if_pos (by have := (List.getElem?_eq_some_iff.mp ha).1; omega), List.getD_eq_getElem?_getD, show ((a : Int)).toNat = a by omega, ha]
  rfl
def lst5 (b : Bool) (d : D) (n : Bool) : DL.Slot := if b then .ow d n else .fz d n
/-- what was dressed: own, or held -/
def hS7 (c : Bool) (b : Bool) (ps : List (Deed × Bool)) (n : Bool) : DL.Slot := if c then hS b ps n else .fz (seqD b (ps.map hD)) n
section
variable {W : Nat} {row : List Deed} {f : Nat → Int} {n : Nat}
/-- what is due: the steps, the columns by layers -/
def dueL (f : Nat → Int) (n : Nat) (ys : List Int) : List D := [.list ((stepsF f (n + 1)).map stD), .list (ys.map fun m => D.tuple [.int m, .int (cntF f (n + 1) m)])]
theorem shn_due {ys : List Int} (h1 : (stepsF f (n + 1)).length ≤ 60) (h2 : ys.length ≤ 60) (h3 : ∀ s ∈ stepsF f (n + 1), 0 ≤ s.1 ∧ s.1 < 1000 ∧ 0 ≤ s.2 ∧ s.2 ≤ 1000) (h4 : ∀ m ∈ ys, 0 ≤ m ∧ m ≤ 1000 ∧ 0 ≤ cntF f (n + 1) m ∧ cntF f (n + 1) m ≤ 1000) : ShN 3 60000 (.list (dueL f n ys)) := by
  have one : ∀ {i j : Int}, 0 ≤ i → i ≤ 1000 → 0 ≤ j → j ≤ 1000 → ShN 1 422 (.tuple [.int i, .int j]) := fun {i j} a b c d => by
    refine (shn_tuple (ds := [.int i, .int j]) (n := 0) (w := 210) fun x hx => ?_).mono (Nat.le_refl _) (by show 2 * (210 + 1) ≤ 422; decide)
    simp only [List.mem_cons, List.mem_nil_iff, or_false] at hx
    rcases hx with rfl | rfl
    · exact shn_int (by omega) (by omega)
    · exact shn_int (by omega) (by omega)
  refine (shn_list (ds := dueL f n ys) (n := 2) (w := 26000) fun x hx => ?_).mono (Nat.le_refl _) (by show 2 * (26000 + 1) ≤ 60000; decide)
  simp only [dueL, List.mem_cons, List.mem_nil_iff, or_false] at hx
  rcases hx with rfl | rfl
  · refine (shn_list (n := 1) (w := 422) fun x hx => ?_).mono (Nat.le_refl _) (by rw [List.length_map]; omega)
    obtain ⟨s, hs, rfl⟩ := List.mem_map.mp hx
    have := h3 s hs
    exact one (by omega) (by omega) (by omega) (by omega)
  · refine (shn_list (n := 1) (w := 422) fun x hx => ?_).mono (Nat.le_refl _) (by rw [List.length_map]; omega)
    obtain ⟨m, hm, rfl⟩ := List.mem_map.mp hx
    have := h4 m hm
    exact one (by omega) (by omega) (by omega) (by omega)
theorem cnt_le {m : Int} : ∀ {n : Nat}, 0 ≤ cntF f n m ∧ cntF f n m ≤ n
  | 0 => ⟨Int.le_refl _, Int.le_refl _⟩
  | n + 1 => by
    have := cnt_le (m := m) (n := n)
    show 0 ≤ cntF f n m + (if f n = m then 1 else 0) ∧ cntF f n m + (if f n = m then 1 else 0) ≤ ((n + 1 : Nat) : Int)
    split <;> omega
theorem cntD_f {m : Int} : cntD ((List.range n).map fun a => D.int (f a)) (.int m) = (cntF f n m).toNat := by
  unfold cntD
  rw [List.countP_map]
  have e : ((fun z => deq z (D.int m)) ∘ fun a => D.int (f a)) = fun a => decide (f a = m) := by
    funext a
    exact deq_int (f a) m
  rw [e, List.countP_eq_length_filter, ← cnt_list, Int.toNat_natCast]
theorem okD_f : okD (.list ((List.range n).map fun a => D.int (f a))) = true := by
  have := okD_ints ((List.range n).map f)
  rwa [List.map_map] at this
theorem stp_ok {s : Int × Int} (hs : s ∈ stepsF f (n + 1)) : 0 ≤ s.1 ∧ s.1 < ((n + 1 : Nat) : Int) ∧ ∃ a, a < n + 1 ∧ s.2 = f a := by
  have k := stF (f := f) (n := n)
  obtain ⟨h1, h2⟩ := k.rng s hs
  obtain ⟨a, ha, e⟩ := (k.mem s.2).mp (List.mem_map.mpr ⟨s, hs, rfl⟩)
  exact ⟨h1, h2, a, ha, e.symm⟩
theorem rest_ok {S0 S1 S2 S4 S6 S9 x11 x12 : DL.Slot} {ps : List (Deed × Bool)} {b q n3 n5 n7 n8 m3 : Bool} {Dn : DEnds} {a1 a2 : Addr} {ys : List Int} (hz : ShN 2 17000 (seqD b (ps.map hD))) (hn : n + 1 ≤ 40) (hyl : ys.length ≤ 60) (hsl : (stepsF f (n + 1)).length ≤ 60) (hf0 : ∀ a : Nat, a < n + 1 → 0 ≤ f a ∧ f a ≤ 1000) (hm : ∀ m, m ∈ ys ↔ ∃ a, a < n + 1 ∧ f a = m)
    (k11 : okS x11 = true) (k12 : isOwn x12 = false)
    (h : ∀ x10 x11, okS x10 = true → okS x11 = true → Dn.nx [S0, S1, S2, .fz (.int W) n3, S4, .fz (.list ((List.range (n + 1)).map fun a => .int (f a))) n5, S6, .fz (seqD b (ps.map hD)) n7, .fz (.str (seqD b (ps.map hD)).pd.shown) n8, S9, x10, x11, x12]) :
    LcOk (gN 12) dYes (dTup (dCons (dVar 12) (dCons (dBM "list" fCountL (dVar 5) (dCons (dVar 12) dNil)) dNil))) [12] q
      (fun t env1 => dNil env1 (fun ts env2 => ∃ x, frzL env2 (hold (T.ow (D.list ((stepsF f (n + 1)).map stD)) m3) :: hold t :: ts) = some x ∧ x.fst.length ≤ sizeLine ∧ ∃ e', setS x.snd.snd 11 (T.ow (D.list x.fst) x.snd.fst) = some e' ∧ c_law_2 e' Dn) Dn.ex)
      (ys.map D.int) [S0, S1, S2, .fz (.int W) n3, S4, .fz (.list ((List.range (n + 1)).map fun a => .int (f a))) n5, S6, .fz (seqD b (ps.map hD)) n7, .fz (.str (seqD b (ps.map hD)).pd.shown) n8, S9, .dp (.two a1 ((stepsF f (n + 1)).map stD) a2 ((ys.map fun m => (m, cntF f (n + 1) m)).map P.prD)), x11, x12] := by
  have hdue : ShN 3 60000 (.list (dueL f n ys)) := shn_due hsl hyl (fun s hs => by
    obtain ⟨u1, u2, a, ha, e⟩ := stp_ok hs
    have := hf0 a ha
    omega) fun m hm' => by
    obtain ⟨a, ha, e⟩ := (hm m).mp hm'
    have := hf0 a ha
    have := cnt_le (f := f) (m := m) (n := n + 1)
    omega
  refine x_lcfn ys D.int (fun m => some (.tuple [.int m, .int (cntF f (n + 1) m)])) rfl (by exact off1 rfl k12) (small (by omega)) ?_ ?_
  · intro m hm K K2 h1 h2
    refine ⟨_, setS_ok rfl rfl, by exact off1 rfl rfl, fun _ => ?_, fun z => (nomatch z)⟩
    walk_at "w"
    refine x_cntL _ okD_f rfl cntD_f ?_
    walk_at "w"
    rw [Int.toNat_of_nonneg cnt_le.1]
    exact h1 _ _ _ rfl (by exact off1 rfl rfl) rfl
  · intro m4
    rw [fmap_some]
    walk_at "w"
    rw [show (ys.map fun m => (m, cntF f (n + 1) m)).map P.prD = ys.map fun m => D.tuple [.int m, .int (cntF f (n + 1) m)] by rw [List.map_map]; rfl]
    unfold c_law_2
    walk_at "w"
    refine x_repr (d := .list (dueL f n ys)) hdue (by decide) (by decide) ?_
    walk_at "w"
    refine x_repr (d := .list (dueL f n ys)) hdue (by decide) (by decide) ?_
    walk_at "w"
    try refine x_neSz rfl ?_
    walk_at "w"
    refine x_repr hz (by decide) (by decide) ?_
    walk_at "w"
    try refine x_neSz rfl ?_
    walk_at "w"
    unfold c_law_1
    walk_at "w"
    refine x_mutI rfl ?_
    walk_at "w"
    refine ⟨_, _, rfl, ?_⟩
    refine ⟨_, rfl, smallLt (by show (List.map stD (stepsF f (n + 1))).length < 10000; rw [List.length_map]; omega), ?_⟩
    dsimp only [putDp, twoD, List.getElem?_cons_succ, List.getElem?_cons_zero, List.set_cons_zero, List.set_cons_succ, if_true, if_false, Bool.false_eq_true]
    walk_at "w"
    refine x_mutI rfl ?_
    walk_at "w"
    refine ⟨_, _, rfl, ?_⟩
    refine ⟨rfl, ?_⟩
    dsimp only [putDp, twoD, List.getElem?_cons_succ, List.getElem?_cons_zero, List.set_cons_zero, List.set_cons_succ, if_true, if_false, Bool.false_eq_true]
    walk_at "w"
    refine x_mutI rfl ?_
    walk_at "w"
    refine ⟨_, _, rfl, ?_⟩
    refine ⟨_, rfl, smallLt (by show (List.map (fun m => D.tuple [D.int m, D.int (cntF f (n + 1) m)]) ys).reverse.length < 10000; rw [List.length_reverse, List.length_map]; omega), ?_⟩
    dsimp only [putDp, twoD, List.getElem?_cons_succ, List.getElem?_cons_zero, List.set_cons_zero, List.set_cons_succ, if_true, if_false, Bool.false_eq_true]
    walk_at "w"
    exact h _ _ rfl rfl
/-- one asking -/
theorem again_ok {S0 S1 S2 S4 S6 S9 x10 x11 x12 : DL.Slot} {ps : List (Deed × Bool)} {b b5 c7 n3 n5 n7 n8 : Bool} {Dn : DEnds} (w1 : 1 ≤ W) (w2 : W ≤ 40) (hps : ps.map (·.1) = row) (hl : letsAll W row) (hn : row.length ≤ 20) (hw : wideAll W row = ((n + 1 : Nat) : Int)) (hf : ∀ a : Nat, a < n + 1 → (run ((W : Int), flatF W) row).2 a = f a) (hf0 : ∀ a : Nat, a < n + 1 → 0 ≤ f a ∧ f a ≤ 1000)
    (k10 : okS x10 = true) (k11 : okS x11 = true) (k12 : isOwn x12 = false)
    (h : ∀ x5 x7 x10 x11, x5 = lst5 false (.list ((List.range (n + 1)).map fun a => .int (f a))) n5 → (∃ m, x7 = hS7 false b ps m) → okS x10 = true → okS x11 = true → Dn.nx [S0, S1, S2, .fz (.int W) n3, S4, x5, S6, x7, .fz (.str (seqD b (ps.map hD)).pd.shown) n8, S9, x10, x11, x12]) :
    c_law_3 F_law_steps F_stretches F_by_layers [S0, S1, S2, .fz (.int W) n3, S4, lst5 b5 (.list ((List.range (n + 1)).map fun a => .int (f a))) n5, S6, hS7 c7 b ps n7, .fz (.str (seqD b (ps.map hD)).pd.shown) n8, S9, x10, x11, x12] Dn := by
  have hlr : ps.length = row.length := by rw [← hps, List.length_map]
  have erow : readRow W (seqD b (ps.map hD)) = some row := by
    have := readRow_rowD (W := W) (b := b) (ps := ps) (by rw [hps]; exact hl) (by omega)
    rw [hps] at this
    exact this
  have efine : fine (seqD b (ps.map hD)) = true := fine_rowD (by omega)
  have hz : ShN 2 17000 (seqD b (ps.map hD)) := shn_row (W := W) (by omega) (by omega) (by rw [hps]; exact hl) (by omega)
  have hwp := wideAll_pos (W := (W : Int)) (by omega) hl
  have hn1000 : n + 1 ≤ 40 := by omega
  unfold c_law_3
  refine x_seq ?_
  refine x_set ?_
  refine x_two ?_
  obtain ⟨b', hb⟩ : ∃ b', b' = b := ⟨_, rfl⟩
  cases b5 <;> cases c7 <;> cases b
  all_goals
    simp only [lst5, hS7, hS, if_true, if_false, Bool.false_eq_true]
    walk_at "w"
    refine ⟨_, _, rfl, rfl, efine, rowThen_row (by omega) (by omega) erow fun S m1 hB => ?_⟩
    refine ⟨_, _, rfl, ?_⟩
    walk_at "w"
    refine ⟨_, _, rfl, rfl, efine, rowThen_row (by omega) (by omega) erow fun S' zs m2 hB' hg hzs hzl => ?_⟩
    refine ⟨_, _, rfl, fun a1 a2 => ?_⟩
    have eS := beh_steps hl hB hw hf
    have eS' := beh_steps hl hB' hw hf
    have hlen := hB.len
    have hlen' := hB'.len
    subst eS
    subst eS'
    refine ⟨_, setS_dp rfl k10, ?_⟩
    dsimp only [setT, List.set_cons_zero, List.set_cons_succ]
    walk_at "w"
    refine ⟨f, n + 1, rfl, by omega, fun m3 => ?_⟩
    walk_at "w"
    refine ⟨_, (List.range (n + 1)).map f, rfl, by rw [List.map_map]; rfl, by rw [List.length_map, List.length_range]; omega, fun ys hy nd hm => ?_⟩
    have hm' : ∀ m, m ∈ ys ↔ ∃ a, a < n + 1 ∧ f a = m := fun m => by
      rw [hm, List.mem_map]
      constructor
      · rintro ⟨a, ha, e⟩; exact ⟨a, List.mem_range.mp ha, e⟩
      · rintro ⟨a, ha, e⟩; exact ⟨a, List.mem_range.mpr ha, e⟩
    rw [hw] at hg
    have ez := by_eq hg hzs hy nd hm'
    have hyl : ys.length = zs.length := by rw [ez, List.length_map]
    walk_at "w"
    rw [ez]
    exact rest_ok hz hn1000 (by omega) (by omega) hf0 hm' k11 k12 fun x10 x11 k10 k11 => h _ _ _ _ rfl ⟨_, rfl⟩ k10 k11
end
end K03

set_option pp.maxSteps 1500
open PySem PySem.Spec L2 DL
namespace K03
open Lay P LA
theorem lst5_ok {b n : Bool} {d : D} : okS (lst5 b d n) = true := by cases b <;> rfl
theorem hS7_ok {c b n : Bool} {ps : List (Deed × Bool)} : okS (hS7 c b ps n) = true := by cases c <;> cases b <;> rfl
theorem loop_ok {W : Nat} {row : List Deed} {f : Nat → Int} {n : Nat} {S0 S1 S2 S4 S6 x9 x10 x11 x12 : DL.Slot} {ps : List (Deed × Bool)} {b b5 c7 n3 n5 n7 n8 : Bool} {Dn : DEnds} (w1 : 1 ≤ W) (w2 : W ≤ 40) (hps : ps.map (·.1) = row) (hl : letsAll W row) (hn : row.length ≤ 20) (hw : wideAll W row = ((n + 1 : Nat) : Int)) (hf : ∀ a : Nat, a < n + 1 → (run ((W : Int), flatF W) row).2 a = f a) (hf0 : ∀ a : Nat, a < n + 1 → 0 ≤ f a ∧ f a ≤ 1000)
    (k9 : okS x9 = true) (k10 : okS x10 = true) (k11 : okS x11 = true) (k12 : isOwn x12 = false)
    (h : ∀ x5 x7 x9 x10 x11, okS x5 = true → okS x7 = true → okS x9 = true → okS x10 = true → okS x11 = true → Dn.nx [S0, S1, S2, .fz (.int W) n3, S4, x5, S6, x7, .fz (.str (seqD b (ps.map hD)).pd.shown) n8, x9, x10, x11, x12]) :
    c_law_4 F_law_steps F_stretches F_by_layers [S0, S1, S2, .fz (.int W) n3, S4, lst5 b5 (.list ((List.range (n + 1)).map fun a => .int (f a))) n5, S6, hS7 c7 b ps n7, .fz (.str (seqD b (ps.map hD)).pd.shown) n8, x9, x10, x11, x12] Dn := by
  unfold c_law_4
  walk_at "d"
  refine x_rng rfl (by decide) (by decide) ?_
  generalize h2' : (2 : Int).toNat = two
  have h2'' : two = 2 := by rw [← h2']; rfl
  refine for_ind (fun L e => ∃ (t : Int) (mm : Nat) (b5 c7 n5 n7 : Bool) (x9 x10 x11 : DL.Slot), L = rangeD t mm ∧ okS x9 = true ∧ okS x10 = true ∧ okS x11 = true ∧
    e = [S0, S1, S2, .fz (.int W) n3, S4, lst5 b5 (.list ((List.range (n + 1)).map fun a => .int (f a))) n5, S6, hS7 c7 b ps n7, .fz (.str (seqD b (ps.map hD)).pd.shown) n8, x9, x10, x11, x12]) ?_ ?_ ⟨0, two, b5, c7, n5, n7, x9, x10, x11, rfl, k9, k10, k11, rfl⟩
  · rintro x xs e K ⟨t, mm, b5, c7, n5, n7, x9, x10, x11, e1, k9, k10, k11, rfl⟩ hK
    cases mm with
    | zero => cases e1
    | succ mm =>
    rw [rangeD_succ] at e1
    cases e1
    refine ⟨_, setS_ok rfl k9, ?_⟩
    dsimp only [List.set_cons_zero, List.set_cons_succ]
    refine again_ok w1 w2 hps hl hn hw hf hf0 k10 k11 k12 fun x5 x7 x10 x11 e5 e7 k10 k11 => ?_
    obtain ⟨m7, e7⟩ := e7
    rw [e5, e7]
    exact hK _ ⟨_, mm, false, false, n5, m7, _, x10, x11, rfl, rfl, k10, k11, rfl⟩
  · rintro e ⟨t, mm, b5, c7, n5, n7, x9, x10, x11, e1, k9, k10, k11, rfl⟩
    exact h _ _ _ _ _ lst5_ok hS7_ok k9 k10 k11
theorem W_law : ∀ ds Q E, (Law 63) ds Q E → b_law F_law_steps F_stretches F_by_layers (F_law_dressed 2) F_law_piles F_law_row F_law_draw F_law_reel (env0 [false] ds 13) (bodyEnds [false] Q E) := by
  rintro ds Q E ⟨ns, hn, rfl, h⟩
  show b_law _ _ _ _ _ _ _ _ [.fz (.scr (ns.map .int)) false, .un, .un, .un, .un, .un, .un, .un, .un, .un, .un, .un, .un] (bodyEnds [false] Q E)
  rw [e_law]
  unfold c_law
  walk_at "d"
  refine ⟨ns, rfl, hn, fun r hr n => ?_⟩
  walk_at "w"
  rw [List.length_map]
  refine x_rng rfl (by split <;> omega) (by split <;> omega) ?_
  generalize hN : (1 + if (11 : Int) < (ns.length : Int) then (11 : Int) else (ns.length : Int)).toNat = N
  have hN12 : N ≤ 12 := by rw [← hN]; split <;> omega
  refine for_ind (fun L e => ∃ (j : Int) (k : Nat) (r : D) (n1 : Bool) (x2 x3 x4 x5 x6 x7 x8 x9 x10 x11 x12 : DL.Slot), L = rangeD j k ∧ k ≤ N ∧ Reel ((N - k) * 3000) r ∧ okS x2 = true ∧ okS x3 = true ∧ okS x4 = true ∧ okS x5 = true ∧ isOwn x6 = false ∧ okS x7 = true ∧ okS x8 = true ∧ okS x9 = true ∧ okS x10 = true ∧ okS x11 = true ∧ isOwn x12 = false ∧
    e = [.fz (.scr (ns.map .int)) false, .ow r n1, x2, x3, x4, x5, x6, x7, x8, x9, x10, x11, x12]) ?_ ?_ ⟨0, N, r, n, .un, .un, .un, .un, .un, .un, .un, .un, .un, .un, .un, rfl, Nat.le_refl _, by rw [Nat.sub_self, Nat.zero_mul]; exact hr, rfl, rfl, rfl, rfl, rfl, rfl, rfl, rfl, rfl, rfl, rfl, rfl⟩
  · rintro x xs e K ⟨j, k, r, n1, x2, x3, x4, x5, x6, x7, x8, x9, x10, x11, x12, e1, hk, hr, k2, k3, k4, k5, k6, k7, k8, k9, k10, k11, k12, rfl⟩ hK
    cases k with
    | zero => cases e1
    | succ k =>
    rw [rangeD_succ] at e1
    cases e1
    refine ⟨_, setS_ok rfl k2, ?_⟩
    dsimp only [List.set_cons_zero, List.set_cons_succ]
    have hm1 : (N - (k + 1)) * 3000 ≤ 36000 := by omega
    unfold c_law_5
    walk_at "d"
    refine ⟨_, r, 12, rfl, hr, by omega, by omega, by omega, fun i r1 hi0 hi1 hr1 => ?_⟩
    walk_at "w"
    refine ⟨_, r1, 40, rfl, hr1, by omega, by omega, by omega, fun j2 r2 hj0 hj1 hr2 => ?_⟩
    walk_at "w"
    refine ⟨_, r2, 2, rfl, hr2, by omega, by omega, by omega, fun q r3 hq0 hq1 hr3 => ?_⟩
    walk_at "w"
    obtain ⟨W, eW, W1, W2⟩ : ∃ W : Nat, atI [D.int (1 + i), D.int (1 + j2)] q = some (.int W) ∧ 1 ≤ W ∧ W ≤ 40 := by
      rcases (by omega : q = 0 ∨ q = 1) with rfl | rfl
      · exact ⟨(1 + i).toNat, by rw [Int.toNat_of_nonneg (by omega)]; rfl, by omega, by omega⟩
      · exact ⟨(1 + j2).toNat, by rw [Int.toNat_of_nonneg (by omega)]; rfl, by omega, by omega⟩
    refine x_ixL eW ?_
    walk_at "w"
    refine ⟨_, r3, W, 10, rfl, hr3, by omega, by omega, by omega, by omega, by omega, fun row r4 n4 hrl hrow hr4 => ?_⟩
    walk_at "w"
    refine ⟨W, row, rfl, by omega, by omega, by omega, hrow, fun n5 => ?_⟩
    walk_at "w"
    obtain ⟨L0, eL0⟩ := lvls_last (ps := flatL W) (r := row)
    refine x_ixL (d := pilesD (pilesP (flatL W) row)) (by rw [eL0, List.map_append]; exact atI_last) ?_
    have hPl := piles_len (ps := flatL W) (r := row) (by rw [flatL_len]; exact hrow)
    rw [flatL_len] at hPl
    have hwp := wideAll_pos (W := (W : Int)) (by omega) hrow
    have hnp := near_pile hrow
    obtain ⟨nn, enn⟩ : ∃ nn : Nat, (pilesP (flatL W) row).length = nn + 1 := ⟨(pilesP (flatL W) row).length - 1, by omega⟩
    obtain ⟨f, ef⟩ : ∃ f : Nat → Int, f = fun a : Nat => (run ((W : Int), flatF W) row).2 (a : Int) := ⟨_, rfl⟩
    have hw : wideAll W row = ((nn + 1 : Nat) : Int) := by rw [← enn]; exact hPl.symm
    have hlist : (pilesP (flatL W) row).map (fun p => D.int p.length) = (List.range (nn + 1)).map fun a => .int (f a) := by
      apply List.ext_getElem?
      intro a
      rw [List.getElem?_map, List.getElem?_map]
      by_cases ha : a < nn + 1
      · rw [List.getElem?_range ha, List.getElem?_eq_getElem (by omega)]
        have := hts_len hrow (a := a) (List.getElem?_eq_getElem (by omega))
        rw [ef]
        exact congrArg (fun z => some (D.int z)) this.symm
      · rw [List.getElem?_eq_none (by omega), List.getElem?_eq_none (by simp; omega)]; rfl
    have hf : ∀ a : Nat, a < nn + 1 → (run ((W : Int), flatF W) row).2 a = f a := fun a _ => by rw [ef]
    have hf0 : ∀ a : Nat, a < nn + 1 → 0 ≤ f a ∧ f a ≤ 1000 := fun a ha => by
      have ep : (pilesP (flatL W) row)[a]? = some ((pilesP (flatL W) row)[a]'(by omega)) := List.getElem?_eq_getElem (by omega)
      have := hts_len hrow ep
      have h2 := hnp _ (List.mem_of_getElem? ep)
      rw [ef]
      dsimp only
      rw [this]
      omega
    unfold pilesD
    walk_at "w"
    refine x_lcfn (pilesP (flatL W) row) pileD (fun p => some (.int p.length)) rfl (by exact off1 rfl k6) (small (by omega)) ?_ ?_
    · intro p hp K3 K4 g1 g2
      refine ⟨_, setS_ok rfl rfl, by exact off1 rfl rfl, fun _ => ?_, fun z => (nomatch z)⟩
      unfold pileD
      walk_at "w"
      rw [List.length_map]
      exact g1 _ _ _ rfl (by exact off1 rfl rfl) rfl
    intro m5
    rw [fmap_some, hlist]
    walk_at "w"
    refine ⟨_, _, rfl, .inl ⟨_, rfl, ?_⟩⟩
    walk_at "w"
    refine dressed_row (m := (N - (k + 1)) * 3000 + 1 + 1 + 1 + 1000) hr4 (by omega) (by omega) fun b ps r' q' hps hr' => ?_
    have hz : ∀ b, ShN 2 17000 (seqD b (ps.map hD)) := fun b => shn_row (W := W) (by omega) (by omega) (by rw [hps]; exact hrow) (by have := congrArg List.length hps; rw [List.length_map] at this; omega)
    have hz' := hz b
    obtain ⟨b', hb⟩ : ∃ b', b' = b := ⟨_, rfl⟩
    have fin := fun (n8 n3 q5 : Bool) (Dn : DEnds) (x9 x10 x11 : DL.Slot) (S0 S1 S2 S4 : DL.Slot) h1 h2 h3 hh => loop_ok (S0 := S0) (S1 := S1) (S2 := S2) (S4 := S4) (S6 := x6) (x9 := x9) (x10 := x10) (x11 := x11) (x12 := x12) (b := b) (b5 := true) (c7 := true) (n3 := n3) (n5 := q5) (n7 := q') (n8 := n8) (Dn := Dn) W1 W2 hps hrow (by omega) hw hf hf0 h1 h2 h3 k12 hh
    cases b
    all_goals
      walk_at "w"
      refine x_repr hz' (by decide) (by decide) ?_
      walk_at "w"
      refine fin _ _ _ _ _ _ _ _ _ _ _ k9 k10 k11 fun x5 x7 x9 x10 x11 k5 k7 k9 k10 k11 => ?_
      exact hK _ ⟨_, k, r', _, _, _, _, _, _, _, _, _, _, _, _, rfl, by omega, hr'.mono (by omega), rfl, rfl, rfl, k5, k6, k7, rfl, k9, k10, k11, k12, rfl⟩
  · rintro e ⟨j, k, r, n1, x2, x3, x4, x5, x6, x7, x8, x9, x10, x11, x12, e1, hk, hr, k2, k3, k4, k5, k6, k7, k8, k9, k10, k11, k12, rfl⟩
    walk_at "d"
    exact h
end K03

namespace K03
open PySem PySem.Spec L2 DL
open PyProof.Rows (envOfC)
def topS (i : Nat) : Stmt := PySem.Challenge.pw_foldvat_k03_stretches.main.body.getD i (.Pass ⟨0, 0, 0, 0⟩)
def inS (i j : Nat) : Stmt := match topS i with
  | .ClassDef _ _ _ b _ _ _ _ _ _ _ => b.getD j (.Pass ⟨0, 0, 0, 0⟩)
  | _ => .Pass ⟨0, 0, 0, 0⟩
structure Mg (K : PySem.W.Frag) (mg : Str → Option Value) : Prop where
  bool : mg "bool" = none
  enumerate : mg "enumerate" = none
  int : mg "int" = none
  isinstance : mg "isinstance" = none
  len : mg "len" = none
  list : mg "list" = none
  max : mg "max" = none
  min : mg "min" = none
  range : mg "range" = none
  repr : mg "repr" = none
  set : mg "set" = none
  sorted : mg "sorted" = none
  str : mg "str" = none
  sum : mg "sum" = none
  tuple : mg "tuple" = none
  zip : mg "zip" = none
  MOST_DEEDS : GInt mg "MOST_DEEDS" 40
  MOST_PLACES : GInt mg "MOST_PLACES" 1000000000000000000000000000000
  OVER : GStr mg "OVER" "over"
  TURN : GStr mg "TURN" "turn"
  UNDER : GStr mg "UNDER" "under"
abbrev s_law_reel : Stmt := topS 26
theorem sc_law_reel : FnScope ["script", "stir", "cell", "great"] ["script"] (defScope s_law_reel) := ⟨rfl, rfl, rfl, by decide +kernel, rfl, by decide +kernel, by decide +kernel⟩
theorem ok_law_reel {tbs : List (Addr × Str)} {P : Program} {w : World} {K : PySem.W.Frag} {mg : Str → Option Value} {base : Heap} {f : Addr} {fd : FuncData} {k : Nat} {Φ : DF} (F : Fun K "_law_reel" "_law_reel" s_law_reel f fd) (M : Mg K mg)
    (hw : ∀ ds Q E, Φ ds Q E → _root_.LA.b_law_reel (env0 [false] ds 4) (bodyEnds [false] Q E)) : FnG P w K mg base (k + 1) f fd ["script"] (spD K mg tbs [false] Φ) :=
  def_ok F sc_law_reel rfl (fun cdv A outer s H E Z hT hr =>
    (s_cons (s_set 1 (d_op o_pow d_int d_int) sc_law_reel.nd)
    (s_cons (s_for (passes_of rfl) rfl (i_any (d_sl (d_var 0) d_no (d_pt d_int))) (g_name 2 sc_law_reel.nd)
    (s_one (s_set 1 (d_op o_mod (d_op o_add (d_op o_add (d_op o_mulA (d_var 1) (d_var 1)) (d_op o_mod (d_var 2) d_int)) d_int) (d_op o_sub (d_op o_mulA (d_op o_pow d_int d_int) (d_op o_pow d_int d_int)) d_int)) sc_law_reel.nd)))
    (s_cons (s_setLc 3 (own := [("cell", 2)]) rfl sc_law_reel.nd (i_any (d_sl (d_var 0) d_no (d_pt d_int))) (blkOk_by (N := ["script", "stir", "cell", "great"]) (sc := defScope s_law_reel) (by decide +kernel)) (fun _ _ _ _ _ => (g_name 2 sc_law_reel.nd)) (fun _ _ _ _ _ => (pts_oneD (d_tcmp o_ge (nomark _) (d_var 2) (d_op o_pow d_int d_int)))) (fun _ _ _ _ _ => (d_op o_sub (d_var 2) (d_op o_pow d_int d_int))) (sw_true rfl rfl rfl (by decide +kernel)))
    (s_one (s_ret (d_lst (d_cons (d_var 3) (d_cons (d_op o_add (d_lc (own := [("cell", 2)]) rfl sc_law_reel.nd (i_any (d_sl (d_var 0) d_no (d_pt d_int))) (blkOk_by (N := ["script", "stir", "cell", "great"]) (sc := defScope s_law_reel) (by decide +kernel)) (fun _ _ _ _ _ => (g_name 2 sc_law_reel.nd)) (fun _ _ _ _ _ => pts_yes) (fun _ _ _ _ _ => (d_op o_mod (d_var 2) d_int))) (d_lst (d_cons d_int d_nil))) (d_cons d_int (d_cons (d_var 1) d_nil))))))))))) hw
abbrev s_law_draw : Stmt := topS 27
theorem sc_law_draw : FnScope ["reel", "many", "rest", "told", "stir"] ["reel", "many"] (defScope s_law_draw) := ⟨rfl, rfl, rfl, by decide +kernel, rfl, by decide +kernel, by decide +kernel⟩
theorem ok_law_draw {tbs : List (Addr × Str)} {P : Program} {w : World} {K : PySem.W.Frag} {mg : Str → Option Value} {base : Heap} {f : Addr} {fd : FuncData} {k : Nat} {Φ : DF} (F : Fun K "_law_draw" "_law_draw" s_law_draw f fd) (M : Mg K mg)
    (hw : ∀ ds Q E, Φ ds Q E → _root_.LA.b_law_draw (env0 [true, false] ds 5) (bodyEnds [true, false] Q E)) : FnG P w K mg base (k + 1) f fd ["reel", "many"] (spD K mg tbs [true, false] Φ) :=
  def_ok F sc_law_draw rfl (fun cdv A outer s H E Z hT hr =>
    (s_cons (s_if (d_tcmp (o_ne hr.u64) (nomark _) (d_ix hr.u1 (d_var 0) d_int (fun _ _ => rfl)) (d_lst d_nil))
    (s_cons (s_set 2 (d_ix hr.u1 (d_ix hr.u1 (d_var 0) d_int (fun _ _ => rfl)) d_int (fun _ _ => rfl)) sc_law_draw.nd)
    (s_cons (s_setI 0 hr.u1 (d_op o_add (d_op o_mulA (d_lst (d_cons (d_op o_fdiv (d_var 2) (d_var 1)) d_nil)) (d_callTy c_int M.int (d_cons (d_cmp o_ge (nomark _) (d_var 2) (d_var 1)) d_nil))) (d_sl (d_ix hr.u1 (d_var 0) d_int (fun _ _ => rfl)) (d_pt d_int) d_no)) d_int)
    (s_one (s_ret (d_op o_mod (d_var 2) (d_var 1))))))
    s_nil)
    (s_cons (s_setI 0 hr.u1 (d_op o_add (d_ix hr.u1 (d_var 0) d_int (fun _ _ => rfl)) d_int) d_int)
    (s_cons (s_set 3 (d_ix hr.u1 (d_ix hr.u1 (d_var 0) d_int (fun _ _ => rfl)) (d_op o_mod (d_ix hr.u1 (d_var 0) d_int (fun _ _ => rfl)) (d_callB c_len M.len (d_cons (d_ix hr.u1 (d_var 0) d_int (fun _ _ => rfl)) d_nil))) (fun _ _ => rfl)) sc_law_draw.nd)
    (s_cons (s_set 4 (d_op o_add (d_op o_add (d_op o_mulA (d_ix hr.u1 (d_var 0) d_int (fun _ _ => rfl)) (d_ix hr.u1 (d_var 0) d_int (fun _ _ => rfl))) (d_op o_mulA (d_op o_add (d_var 3) d_int) d_int)) (d_op o_mulA (d_ix hr.u1 (d_var 0) d_int (fun _ _ => rfl)) d_int)) sc_law_draw.nd)
    (s_cons (s_setI 0 hr.u1 (d_op o_mod (d_var 4) (d_op o_sub (d_op o_mulA (d_op o_pow d_int d_int) (d_op o_pow d_int d_int)) d_int)) d_int)
    (s_one (s_ret (d_op o_mod (d_op o_fdiv (d_ix hr.u1 (d_var 0) d_int (fun _ _ => rfl)) (d_op o_pow d_int d_int)) (d_var 1)))))))))) hw
abbrev s_law_wide : Stmt := topS 31
theorem sc_law_wide : FnScope ["wide", "deed"] ["wide", "deed"] (defScope s_law_wide) := ⟨rfl, rfl, rfl, by decide +kernel, rfl, by decide +kernel, by decide +kernel⟩
theorem ok_law_wide {tbs : List (Addr × Str)} {P : Program} {w : World} {K : PySem.W.Frag} {mg : Str → Option Value} {base : Heap} {f : Addr} {fd : FuncData} {k : Nat} {Φ : DF} (F : Fun K "_law_wide" "_law_wide" s_law_wide f fd) (M : Mg K mg)
    (hw : ∀ ds Q E, Φ ds Q E → _root_.LA.b_law_wide (env0 [false, false] ds 2) (bodyEnds [false, false] Q E)) : FnG P w K mg base (k + 1) f fd ["wide", "deed"] (spD K mg tbs [false, false] Φ) :=
  def_ok F sc_law_wide rfl (fun cdv A outer s H E Z hT hr =>
    (s_one (s_ret (d_ife (d_tcmp (o_eq hr.u64) (nomark _) (d_ix hr.u1 (d_var 1) d_int (fun _ _ => rfl)) d_str) (d_var 0) (d_callB (c_max rfl) M.max (d_cons (d_ix hr.u1 (d_var 1) d_int (fun _ _ => rfl)) (d_cons (d_op o_sub (d_var 0) (d_ix hr.u1 (d_var 1) d_int (fun _ _ => rfl))) d_nil))))))) hw
abbrev s_law_deed : Stmt := topS 32
theorem sc_law_deed : FnScope ["reel", "wide", "some"] ["reel", "wide"] (defScope s_law_deed) := ⟨rfl, rfl, rfl, by decide +kernel, rfl, by decide +kernel, by decide +kernel⟩
theorem ok_law_deed {tbs : List (Addr × Str)} {P : Program} {w : World} {K : PySem.W.Frag} {mg : Str → Option Value} {base : Heap} {f : Addr} {fd : FuncData} {k : Nat} {Φ Φ_law_draw : DF} (F : Fun K "_law_deed" "_law_deed" s_law_deed f fd) (M : Mg K mg) (C_law_draw : FD P w K mg tbs base k "_law_draw" 2 [true, false] Φ_law_draw)
    (hw : ∀ ds Q E, Φ ds Q E → _root_.LA.b_law_deed Φ_law_draw (env0 [true, false] ds 3) (bodyEnds [true, false] Q E)) : FnG P w K mg base (k + 1) f fd ["reel", "wide"] (spD K mg tbs [true, false] Φ) :=
  def_ok F sc_law_deed rfl (fun cdv A outer s H E Z hT hr =>
    (s_cons (s_if (d_pt' (d_orT (d_tcmp (o_eq hr.u64) (nomark _) (d_var 1) d_int) (d_or1 (d_tcmp (o_eq hr.u64) (nomark _) (d_callF C_law_draw hr (takes_of rfl rfl rfl rfl) (d_cons (d_var 0) (d_cons d_int d_nil))) d_int))))
    (s_one (s_ret (d_tup (d_cons d_str d_nil))))
    s_nil)
    (s_cons (s_set 2 (d_lst (d_cons (d_op o_add d_int (d_callF C_law_draw hr (takes_of rfl rfl rfl rfl) (d_cons (d_var 0) (d_cons (d_op o_sub (d_var 1) d_int) d_nil)))) (d_cons (d_callB (c_max rfl) M.max (d_cons d_int (d_cons (d_op o_fdiv (d_var 1) d_int) d_nil))) (d_cons (d_op o_sub (d_var 1) d_int) (d_cons d_int (d_cons (d_callB (c_max rfl) M.max (d_cons d_int (d_cons (d_op o_sub (d_op o_fdiv (d_var 1) d_int) (d_callF C_law_draw hr (takes_of rfl rfl rfl rfl) (d_cons (d_var 0) (d_cons d_int d_nil)))) d_nil))) d_nil)))))) sc_law_deed.nd)
    (s_one (s_ret (d_tup (d_cons (d_ix hr.u1 (d_lst (d_cons d_str (d_cons d_str d_nil))) (d_callF C_law_draw hr (takes_of rfl rfl rfl rfl) (d_cons (d_var 0) (d_cons d_int d_nil))) (fun _ _ => rfl)) (d_cons (d_ix hr.u1 (d_var 2) (d_callF C_law_draw hr (takes_of rfl rfl rfl rfl) (d_cons (d_var 0) (d_cons d_int d_nil))) (fun _ _ => rfl)) d_nil)))))))) hw
abbrev s_law_row : Stmt := topS 33
theorem sc_law_row : FnScope ["reel", "places", "most", "found", "wide", "k"] ["reel", "places", "most"] (defScope s_law_row) := ⟨rfl, rfl, rfl, by decide +kernel, rfl, by decide +kernel, by decide +kernel⟩
theorem ok_law_row {tbs : List (Addr × Str)} {P : Program} {w : World} {K : PySem.W.Frag} {mg : Str → Option Value} {base : Heap} {f : Addr} {fd : FuncData} {k : Nat} {Φ Φ_law_draw Φ_law_wide Φ_law_deed : DF} (F : Fun K "_law_row" "_law_row" s_law_row f fd) (M : Mg K mg) (C_law_draw : FD P w K mg tbs base k "_law_draw" 2 [true, false] Φ_law_draw) (C_law_wide : FD P w K mg tbs base k "_law_wide" 2 [false, false] Φ_law_wide) (C_law_deed : FD P w K mg tbs base k "_law_deed" 2 [true, false] Φ_law_deed)
    (hw : ∀ ds Q E, Φ ds Q E → _root_.LA.b_law_row Φ_law_draw Φ_law_wide Φ_law_deed (env0 [true, false, false] ds 6) (bodyEnds [true, false, false] Q E)) : FnG P w K mg base (k + 1) f fd ["reel", "places", "most"] (spD K mg tbs [true, false, false] Φ) :=
  def_ok F sc_law_row rfl (fun cdv A outer s H E Z hT hr =>
    (s_cons (s_set 3 (d_lst d_nil) sc_law_row.nd)
    (s_cons (s_set 4 (d_var 1) sc_law_row.nd)
    (s_cons (s_for (passes_of rfl) rfl (i_range M.range (d_cons (d_callF C_law_draw hr (takes_of rfl rfl rfl rfl) (d_cons (d_var 0) (d_cons (d_op o_add (d_var 2) d_int) d_nil))) d_nil)) (g_name 5 sc_law_row.nd)
    (s_cons (s_expr (d_mut 3 m_app PySem.F.slot_list_append PySem.F.type_list_append (d_cons (d_callF C_law_deed hr (takes_of rfl rfl rfl rfl) (d_cons (d_var 0) (d_cons (d_var 4) d_nil))) d_nil)))
    (s_one (s_set 4 (d_callF C_law_wide hr (takes_of rfl rfl rfl rfl) (d_cons (d_var 4) (d_cons (d_ix hr.u1 (d_var 3) (d_neg d_int) (fun _ _ => rfl)) d_nil))) sc_law_row.nd))))
    (s_one (s_ret (d_var 3))))))) hw
abbrev s_law_dressed : Stmt := topS 34
theorem sc_law_dressed : FnScope ["reel", "thing", "found", "one"] ["reel", "thing"] (defScope s_law_dressed) := ⟨rfl, rfl, rfl, by decide +kernel, rfl, by decide +kernel, by decide +kernel⟩
theorem ok_law_dressed {tbs : List (Addr × Str)} {P : Program} {w : World} {K : PySem.W.Frag} {mg : Str → Option Value} {base : Heap} {f : Addr} {fd : FuncData} {k : Nat} {Φ Φ_law_draw Φ_law_dressed : DF} (F : Fun K "_law_dressed" "_law_dressed" s_law_dressed f fd) (M : Mg K mg) (C_law_draw : FD P w K mg tbs base k "_law_draw" 2 [true, false] Φ_law_draw) (C_law_dressed : FD P w K mg tbs base k "_law_dressed" 2 [true, false] Φ_law_dressed)
    (hw : ∀ ds Q E, Φ ds Q E → _root_.LA.b_law_dressed Φ_law_draw Φ_law_dressed (env0 [true, false] ds 4) (bodyEnds [true, false] Q E)) : FnG P w K mg base (k + 1) f fd ["reel", "thing"] (spD K mg tbs [true, false] Φ) :=
  def_ok F sc_law_dressed rfl (fun cdv A outer s H E Z hT hr =>
    (s_cons (s_if (d_tv (d_isi rfl (C := "tuple") (by decide) M.isinstance M.tuple (d_var 1)))
    (s_cons (s_setLc 2 (own := [("one", 3)]) rfl sc_law_dressed.nd (i_any (d_var 1)) (blkOk_by (N := ["reel", "thing", "found", "one"]) (sc := defScope s_law_dressed) (by decide +kernel)) (fun _ _ _ _ _ => (g_name 3 sc_law_dressed.nd)) (fun _ _ _ _ _ => pts_yes) (fun _ _ _ _ _ => (d_callF C_law_dressed hr takes0 (d_cons (d_var 0) (d_cons (d_var 3) d_nil)))) (sw_true rfl rfl rfl (by decide +kernel)))
    (s_one (s_ret (d_ife (d_tcmp (o_eq hr.u64) (nomark _) (d_callF C_law_draw hr (takes_of rfl rfl rfl rfl) (d_cons (d_var 0) (d_cons d_int d_nil))) d_int) (d_var 2) (d_callTy c_tuple M.tuple (d_cons (d_var 2) d_nil))))))
    s_nil)
    (s_one (s_ret (d_var 1))))) hw
abbrev s_Layout___init__ : Stmt := inS 17 0
theorem sc_Layout___init__ : FnScope ["self", "width", "steps"] ["self", "width", "steps"] (defScope s_Layout___init__) := ⟨rfl, rfl, rfl, by decide +kernel, rfl, by decide +kernel, by decide +kernel⟩
theorem ok_Layout___init__ {tbs : List (Addr × Str)} {P : Program} {w : World} {K : PySem.W.Frag} {mg : Str → Option Value} {base : Heap} {f : Addr} {fd : FuncData} {k : Nat} {Φ : DF} (F : Fun K "__init__" "Layout.__init__" s_Layout___init__ f fd) (M : Mg K mg) (K_Layout : ClsOk K mg "Layout" ["width", "steps"])
    (hw : ∀ ds Q E, Φ ds Q E → _root_.P.b_Layout___init__ (env0 [true, false, false] ds 3) (bodyEnds [true, false, false] Q E)) : FnG P w K mg base (k + 1) f fd ["self", "width", "steps"] (spD K mg tbs [true, false, false] Φ) :=
  def_ok F sc_Layout___init__ rfl (fun cdv A outer s H E Z hT hr =>
    (s_cons (s_setA 0 K_Layout (by decide) (d_var 1))
    (s_one (s_setA 0 K_Layout (by decide) (d_var 2))))) hw
abbrev s_flat_one : Stmt := topS 18
theorem sc_flat_one : FnScope ["places", "ahead"] ["places", "ahead"] (defScope s_flat_one) := ⟨rfl, rfl, rfl, by decide +kernel, rfl, by decide +kernel, by decide +kernel⟩
theorem ok_flat_one {tbs : List (Addr × Str)} {P : Program} {w : World} {K : PySem.W.Frag} {mg : Str → Option Value} {base : Heap} {f : Addr} {fd : FuncData} {k : Nat} {Φ Φ_Layout___init__ : DF} (F : Fun K "flat_one" "flat_one" s_flat_one f fd) (M : Mg K mg) (C_Layout___init__ : KD P w K mg tbs base k "Layout" [false, false] Φ_Layout___init__)
    (hw : ∀ ds Q E, Φ ds Q E → _root_.P.b_flat_one Φ_Layout___init__ (env0 [false, false] ds 2) (bodyEnds [false, false] Q E)) : FnG P w K mg base ((k + 1) + 1) f fd ["places", "ahead"] (spD K mg tbs [false, false] Φ) :=
  def_ok F sc_flat_one rfl (fun cdv A outer s H E Z hT hr =>
    (s_cons (s_if (d_pt' (d_orT (d_tcmp o_is (nomark _) (d_var 1) d_non) (d_or1 (d_tcmp (o_eq hr.u64) (nomark _) (d_var 1) (d_var 0)))))
    (s_one (s_ret (d_make C_Layout___init__ hr (takes_of rfl rfl rfl rfl) (d_cons (d_var 0) (d_cons (d_lst (d_cons (d_tup (d_cons d_int (d_cons d_int d_nil))) d_nil)) d_nil)))))
    s_nil)
    (s_one (s_ret (d_make C_Layout___init__ hr (takes_of rfl rfl rfl rfl) (d_cons (d_var 0) (d_cons (d_ife (d_tcmp (o_eq hr.u64) (nomark _) (d_var 1) d_int) (d_lst (d_cons (d_tup (d_cons d_int (d_cons d_int d_nil))) d_nil)) (d_lst (d_cons (d_tup (d_cons d_int (d_cons d_int d_nil))) (d_cons (d_tup (d_cons (d_var 1) (d_cons d_int d_nil))) d_nil)))) d_nil))))))) hw
abbrev s_shift_of : Stmt := topS 15
theorem sc_shift_of : FnScope ["wide", "line"] ["wide", "line"] (defScope s_shift_of) := ⟨rfl, rfl, rfl, by decide +kernel, rfl, by decide +kernel, by decide +kernel⟩
theorem ok_shift_of {tbs : List (Addr × Str)} {P : Program} {w : World} {K : PySem.W.Frag} {mg : Str → Option Value} {base : Heap} {f : Addr} {fd : FuncData} {k : Nat} {Φ : DF} (F : Fun K "shift_of" "shift_of" s_shift_of f fd) (M : Mg K mg)
    (hw : ∀ ds Q E, Φ ds Q E → _root_.P.b_shift_of (env0 [false, false] ds 2) (bodyEnds [false, false] Q E)) : FnG P w K mg base (k + 1) f fd ["wide", "line"] (spD K mg tbs [false, false] Φ) :=
  def_ok F sc_shift_of rfl (fun cdv A outer s H E Z hT hr =>
    (s_one (s_ret (d_callB (c_max rfl) M.max (d_cons d_int (d_cons (d_op o_sub (d_var 0) (d_op o_mulA d_int (d_var 1))) d_nil)))))) hw
abbrev s_Layout_moved_by : Stmt := inS 17 3
theorem sc_Layout_moved_by : FnScope ["self", "line"] ["self", "line"] (defScope s_Layout_moved_by) := ⟨rfl, rfl, rfl, by decide +kernel, rfl, by decide +kernel, by decide +kernel⟩
theorem ok_Layout_moved_by {tbs : List (Addr × Str)} {P : Program} {w : World} {K : PySem.W.Frag} {mg : Str → Option Value} {base : Heap} {f : Addr} {fd : FuncData} {k : Nat} {Φ Φ_shift_of : DF} (F : Fun K "moved_by" "Layout.moved_by" s_Layout_moved_by f fd) (M : Mg K mg) (K_Layout : ClsOk K mg "Layout" ["width", "steps"]) (C_shift_of : FD P w K mg tbs base k "shift_of" 2 [false, false] Φ_shift_of)
    (hw : ∀ ds Q E, Φ ds Q E → _root_.P.b_Layout_moved_by Φ_shift_of (env0 [false, false] ds 2) (bodyEnds [false, false] Q E)) : FnG P w K mg base (k + 1) f fd ["self", "line"] (spD K mg tbs [false, false] Φ) :=
  def_ok F sc_Layout_moved_by rfl (fun cdv A outer s H E Z hT hr =>
    (s_one (s_ret (d_callF C_shift_of hr (takes_of rfl rfl rfl rfl) (d_cons (d_att K_Layout (by decide) (d_var 0)) (d_cons (d_var 1) d_nil)))))) hw
abbrev s_Layout_mirrored : Stmt := inS 17 4
theorem sc_Layout_mirrored : FnScope ["self", "low", "about", "ends", "step", "pairs", "end", "many"] ["self", "low", "about"] (defScope s_Layout_mirrored) := ⟨rfl, rfl, rfl, by decide +kernel, rfl, by decide +kernel, by decide +kernel⟩
theorem ok_Layout_mirrored {tbs : List (Addr × Str)} {P : Program} {w : World} {K : PySem.W.Frag} {mg : Str → Option Value} {base : Heap} {f : Addr} {fd : FuncData} {k : Nat} {Φ : DF} (F : Fun K "mirrored" "Layout.mirrored" s_Layout_mirrored f fd) (M : Mg K mg) (K_Layout : ClsOk K mg "Layout" ["width", "steps"])
    (hw : ∀ ds Q E, Φ ds Q E → _root_.P.b_Layout_mirrored (env0 [false, false, false] ds 8) (bodyEnds [false, false, false] Q E)) : FnG P w K mg base (k + 1) f fd ["self", "low", "about"] (spD K mg tbs [false, false, false] Φ) :=
  def_ok F sc_Layout_mirrored rfl (fun cdv A outer s H E Z hT hr =>
    (s_cons (s_set 3 (d_op o_add (d_lc (own := [("step", 4)]) rfl sc_Layout_mirrored.nd (i_any (d_sl (d_att K_Layout (by decide) (d_var 0)) (d_pt d_int) d_no)) (blkOk_by (N := ["self", "low", "about", "ends", "step", "pairs", "end", "many"]) (sc := defScope s_Layout_mirrored) (by decide +kernel)) (fun _ _ _ _ _ => (g_name 4 sc_Layout_mirrored.nd)) (fun _ _ _ _ _ => pts_yes) (fun _ _ _ _ _ => (d_ix hr.u1 (d_var 4) d_int (fun _ _ => rfl)))) (d_lst (d_cons (d_att K_Layout (by decide) (d_var 0)) d_nil))) sc_Layout_mirrored.nd)
    (s_cons (s_setLc 5 (own := [("step", 4), ("end", 6)]) rfl sc_Layout_mirrored.nd (i_zip M.zip (d_cons (d_att K_Layout (by decide) (d_var 0)) (d_cons (d_var 3) d_nil))) (blkOk_by (N := ["self", "low", "about", "ends", "step", "pairs", "end", "many"]) (sc := defScope s_Layout_mirrored) (by decide +kernel)) (fun _ _ _ _ _ => (g_tup rfl (g_cons (g_name 4 sc_Layout_mirrored.nd) (g_cons (g_name 6 sc_Layout_mirrored.nd) g_nil)))) (fun _ _ _ _ _ => (pts_oneD (d_tcmp o_gt (nomark _) (d_var 6) (d_var 1)))) (fun _ _ _ _ _ => (d_tup (d_cons (d_var 6) (d_cons (d_ix hr.u1 (d_var 4) d_int (fun _ _ => rfl)) d_nil)))) (sw_true rfl rfl rfl (by decide +kernel)))
    (s_one (s_ret (d_lc (own := [("end", 6), ("many", 7)]) rfl sc_Layout_mirrored.nd (i_any (d_or (d_revS (d_var 5)) (d_revL (d_var 5)))) (blkOk_by (N := ["self", "low", "about", "ends", "step", "pairs", "end", "many"]) (sc := defScope s_Layout_mirrored) (by decide +kernel)) (fun _ _ _ _ _ => (g_tup rfl (g_cons (g_name 6 sc_Layout_mirrored.nd) (g_cons (g_name 7 sc_Layout_mirrored.nd) g_nil)))) (fun _ _ _ _ _ => pts_yes) (fun _ _ _ _ _ => (d_tup (d_cons (d_op o_sub (d_op o_add (d_var 2) d_int) (d_var 6)) (d_cons (d_var 7) d_nil)))))))))) hw
abbrev s_wide_behind : Stmt := topS 16
theorem sc_wide_behind : FnScope ["wide", "deed"] ["wide", "deed"] (defScope s_wide_behind) := ⟨rfl, rfl, rfl, by decide +kernel, rfl, by decide +kernel, by decide +kernel⟩
theorem ok_wide_behind {tbs : List (Addr × Str)} {P : Program} {w : World} {K : PySem.W.Frag} {mg : Str → Option Value} {base : Heap} {f : Addr} {fd : FuncData} {k : Nat} {Φ : DF} (F : Fun K "wide_behind" "wide_behind" s_wide_behind f fd) (M : Mg K mg)
    (hw : ∀ ds Q E, Φ ds Q E → _root_.P.b_wide_behind (env0 [false, false] ds 2) (bodyEnds [false, false] Q E)) : FnG P w K mg base (k + 1) f fd ["wide", "deed"] (spD K mg tbs [false, false] Φ) :=
  def_ok F sc_wide_behind rfl (fun cdv A outer s H E Z hT hr =>
    (s_one (s_ret (d_ife (d_tcmp (o_eq hr.u64) (nomark _) (d_var 1) (d_tup (d_cons (d_gstr M.TURN) d_nil))) (d_var 0) (d_callB (c_max rfl) M.max (d_cons (d_ix hr.u1 (d_var 1) d_int (fun _ _ => rfl)) (d_cons (d_op o_sub (d_var 0) (d_ix hr.u1 (d_var 1) d_int (fun _ _ => rfl))) d_nil))))))) hw
abbrev s_sum_of : Stmt := topS 14
theorem sc_sum_of : FnScope ["one", "other", "found", "sums", "spots", "column", "step", "which", "steps"] ["one", "other"] (defScope s_sum_of) := ⟨rfl, rfl, rfl, by decide +kernel, rfl, by decide +kernel, by decide +kernel⟩
theorem ok_sum_of {tbs : List (Addr × Str)} {P : Program} {w : World} {K : PySem.W.Frag} {mg : Str → Option Value} {base : Heap} {f : Addr} {fd : FuncData} {k : Nat} {Φ : DF} (F : Fun K "sum_of" "sum_of" s_sum_of f fd) (M : Mg K mg)
    (hw : ∀ ds Q E, Φ ds Q E → _root_.P.b_sum_of (env0 [false, false] ds 9) (bodyEnds [false, false] Q E)) : FnG P w K mg base (k + 1) f fd ["one", "other"] (spD K mg tbs [false, false] Φ) :=
  def_ok F sc_sum_of rfl (fun cdv A outer s H E Z hT hr =>
    (s_cons (s_set 2 (d_lst d_nil) sc_sum_of.nd)
    (s_cons (s_set 3 (d_lst (d_cons d_int (d_cons d_int d_nil))) sc_sum_of.nd)
    (s_cons (s_set 4 (d_lst (d_cons d_int (d_cons d_int d_nil))) sc_sum_of.nd)
    (s_cons (s_for (passes_of rfl) rfl (i_any (d_sortSc (own := [("step", 6)]) rfl M.sorted rfl sc_sum_of.nd (i_any (d_op o_add (d_var 0) (d_var 1))) (blkOk_by (N := ["one", "other", "found", "sums", "spots", "column", "step", "which", "steps"]) (sc := defScope s_sum_of) (by decide +kernel)) (fun _ _ _ _ _ => (g_name 6 sc_sum_of.nd)) (fun _ _ _ _ _ => pts_yes) (fun _ _ _ _ _ => (d_ix hr.u1 (d_var 6) d_int (fun _ _ => rfl))))) (g_name 5 sc_sum_of.nd)
    (s_cons (s_for (passes_of rfl) rfl (i_enumT M.enumerate (d_cons (d_tup (d_cons (d_var 0) (d_cons (d_var 1) d_nil))) d_nil)) (g_tup rfl (g_cons (g_name 7 sc_sum_of.nd) (g_cons (g_name 8 sc_sum_of.nd) g_nil)))
    (s_one (s_while (passes_of rfl) (d_pt' (d_andT (d_tcmp (o_lt hr.u0) (nomark _) (d_ix hr.u1 (d_var 4) (d_var 7) (fun _ _ => rfl)) (d_callB c_len M.len (d_cons (d_var 8) d_nil))) (d_and1 (d_tcmp o_le (nomark _) (d_ix hr.u1 (d_ix hr.u1 (d_var 8) (d_ix hr.u1 (d_var 4) (d_var 7) (fun _ _ => rfl)) (fun _ _ => rfl)) d_int (fun _ _ => rfl)) (d_var 5)))))
    (s_cons (s_setI 3 hr.u1 (d_ix hr.u1 (d_ix hr.u1 (d_var 8) (d_ix hr.u1 (d_var 4) (d_var 7) (fun _ _ => rfl)) (fun _ _ => rfl)) d_int (fun _ _ => rfl)) (d_var 7))
    (s_one (s_augI 4 hr.u1 o_iadd (d_var 7) d_int))))))
    (s_one (s_if (d_pt' (d_orT (d_tcmp (o_eq hr.u64) (nomark _) (d_var 2) (d_lst d_nil)) (d_or1 (d_tcmp (o_ne hr.u64) (nomark _) (d_ix hr.u1 (d_ix hr.u1 (d_var 2) (d_neg d_int) (fun _ _ => rfl)) d_int (fun _ _ => rfl)) (d_callB (c_sum rfl) M.sum (d_cons (d_var 3) d_nil))))))
    (s_one (s_expr (d_mut 2 m_app PySem.F.slot_list_append PySem.F.type_list_append (d_cons (d_tup (d_cons (d_var 5) (d_cons (d_callB (c_sum rfl) M.sum (d_cons (d_var 3) d_nil)) d_nil))) d_nil))))
    s_nil))))
    (s_one (s_ret (d_var 2)))))))) hw
abbrev s_Layout_behind : Stmt := inS 17 5
theorem sc_Layout_behind : FnScope ["self", "deed", "line", "moved", "staying", "column", "many", "coming"] ["self", "deed"] (defScope s_Layout_behind) := ⟨rfl, rfl, rfl, by decide +kernel, rfl, by decide +kernel, by decide +kernel⟩
theorem ok_Layout_behind {tbs : List (Addr × Str)} {P : Program} {w : World} {K : PySem.W.Frag} {mg : Str → Option Value} {base : Heap} {f : Addr} {fd : FuncData} {k : Nat} {Φ Φ_Layout___init__ Φ_sum_of Φ_wide_behind Φ_Layout_mirrored Φ_Layout_moved_by : DF} (F : Fun K "behind" "Layout.behind" s_Layout_behind f fd) (M : Mg K mg) (K_Layout : ClsOk K mg "Layout" ["width", "steps"]) (C_Layout___init__ : KD P w K mg tbs base k "Layout" [false, false] Φ_Layout___init__) (C_sum_of : FD P w K mg tbs base k "sum_of" 2 [false, false] Φ_sum_of) (C_wide_behind : FD P w K mg tbs base k "wide_behind" 2 [false, false] Φ_wide_behind) (C_Layout_mirrored : MD P w K mg tbs base k "Layout" "mirrored" 3 [false, false, false] Φ_Layout_mirrored) (C_Layout_moved_by : MD P w K mg tbs base k "Layout" "moved_by" 2 [false, false] Φ_Layout_moved_by)
    (hw : ∀ ds Q E, Φ ds Q E → _root_.P.b_Layout_behind Φ_Layout___init__ Φ_sum_of Φ_wide_behind Φ_Layout_mirrored Φ_Layout_moved_by (env0 [false, false] ds 8) (bodyEnds [false, false] Q E)) : FnG P w K mg base ((k + 1) + 1) f fd ["self", "deed"] (spD K mg tbs [false, false] Φ) :=
  def_ok F sc_Layout_behind rfl (fun cdv A outer s H E Z hT hr =>
    (s_cons (s_if (d_tcmp (o_eq hr.u64) (nomark _) (d_var 1) (d_tup (d_cons (d_gstr M.TURN) d_nil)))
    (s_one (s_ret (d_make C_Layout___init__ hr (takes_of rfl rfl rfl rfl) (d_cons (d_att K_Layout (by decide) (d_var 0)) (d_cons (d_meth C_Layout_mirrored (hr.mono (Nat.le_succ _)) (takes_of rfl rfl rfl rfl) (d_var 0) (d_cons d_int (d_cons (d_op o_sub (d_att K_Layout (by decide) (d_var 0)) d_int) d_nil))) d_nil)))))
    s_nil)
    (s_cons (s_set 2 (d_ix hr.u1 (d_var 1) d_int (fun _ _ => rfl)) sc_Layout_behind.nd)
    (s_cons (s_set 3 (d_meth C_Layout_moved_by (hr.mono (Nat.le_succ _)) (takes_of rfl rfl rfl rfl) (d_var 0) (d_cons (d_var 2) d_nil)) sc_Layout_behind.nd)
    (s_cons (s_setLc 4 (own := [("column", 5), ("many", 6)]) rfl sc_Layout_behind.nd (i_any (d_att K_Layout (by decide) (d_var 0))) (blkOk_by (N := ["self", "deed", "line", "moved", "staying", "column", "many", "coming"]) (sc := defScope s_Layout_behind) (by decide +kernel)) (fun _ _ _ _ _ => (g_tup rfl (g_cons (g_name 5 sc_Layout_behind.nd) (g_cons (g_name 6 sc_Layout_behind.nd) g_nil)))) (fun _ _ _ _ _ => (pts_oneD (d_tcmp (o_lt hr.u0) (nomark _) (d_var 5) (d_var 2)))) (fun _ _ _ _ _ => (d_tup (d_cons (d_op o_add (d_var 5) (d_var 3)) (d_cons (d_var 6) d_nil)))) (sw_true rfl rfl rfl (by decide +kernel)))
    (s_cons (s_set 7 (d_meth C_Layout_mirrored (hr.mono (Nat.le_succ _)) (takes_of rfl rfl rfl rfl) (d_var 0) (d_cons (d_var 2) (d_cons (d_op o_add (d_op o_sub (d_op o_mulA d_int (d_var 2)) d_int) (d_var 3)) d_nil))) sc_Layout_behind.nd)
    (s_one (s_ret (d_make C_Layout___init__ hr (takes_of rfl rfl rfl rfl) (d_cons (d_callF C_wide_behind (hr.mono (Nat.le_succ _)) (takes_of rfl rfl rfl rfl) (d_cons (d_att K_Layout (by decide) (d_var 0)) (d_cons (d_var 1) d_nil))) (d_cons (d_callF C_sum_of (hr.mono (Nat.le_succ _)) (takes_of rfl rfl rfl rfl) (d_cons (d_callF C_sum_of (hr.mono (Nat.le_succ _)) (takes_of rfl rfl rfl rfl) (d_cons (d_lst (d_cons (d_tup (d_cons d_int (d_cons d_int d_nil))) d_nil)) (d_cons (d_var 4) d_nil))) (d_cons (d_var 7) d_nil))) d_nil))))))))))) hw
abbrev s_layouts : Stmt := topS 19
theorem sc_layouts : FnScope ["places", "row", "ahead", "found", "deed"] ["places", "row", "ahead"] (defScope s_layouts) := ⟨rfl, rfl, rfl, by decide +kernel, rfl, by decide +kernel, by decide +kernel⟩
theorem ok_layouts {tbs : List (Addr × Str)} {P : Program} {w : World} {K : PySem.W.Frag} {mg : Str → Option Value} {base : Heap} {f : Addr} {fd : FuncData} {k : Nat} {Φ Φ_Layout_behind Φ_flat_one : DF} (F : Fun K "layouts" "layouts" s_layouts f fd) (M : Mg K mg) (C_Layout_behind : MD P w K mg tbs base k "Layout" "behind" 2 [false, false] Φ_Layout_behind) (C_flat_one : FDK P w K mg tbs base k "flat_one" 2 ["ahead"] [false, false] Φ_flat_one)
    (hw : ∀ ds Q E, Φ ds Q E → _root_.P.b_layouts Φ_Layout_behind Φ_flat_one (env0 [false, false, false] ds 5) (bodyEnds [false, false, false] Q E)) : FnG P w K mg base (k + 1) f fd ["places", "row", "ahead"] (spD K mg tbs [false, false, false] Φ) :=
  def_ok F sc_layouts rfl (fun cdv A outer s H E Z hT hr =>
    (s_cons (s_set 3 (d_lst (d_cons (d_callFK C_flat_one hr (takes_of rfl rfl rfl rfl) (d_cons (d_var 0) d_nil) (d_var 2)) d_nil)) sc_layouts.nd)
    (s_cons (s_for (passes_of rfl) rfl (i_any (d_var 1)) (g_name 4 sc_layouts.nd)
    (s_one (s_expr (d_mut 3 m_app PySem.F.slot_list_append PySem.F.type_list_append (d_cons (d_meth C_Layout_behind hr (takes_of rfl rfl rfl rfl) (d_ix hr.u1 (d_var 3) (d_neg d_int) (fun _ _ => rfl)) (d_cons (d_var 4) d_nil)) d_nil)))))
    (s_one (s_ret (d_var 3)))))) hw
abbrev s_is_whole : Stmt := topS 10
theorem sc_is_whole : FnScope ["thing"] ["thing"] (defScope s_is_whole) := ⟨rfl, rfl, rfl, by decide +kernel, rfl, by decide +kernel, by decide +kernel⟩
theorem ok_is_whole {tbs : List (Addr × Str)} {P : Program} {w : World} {K : PySem.W.Frag} {mg : Str → Option Value} {base : Heap} {f : Addr} {fd : FuncData} {k : Nat} {Φ : DF} (F : Fun K "is_whole" "is_whole" s_is_whole f fd) (M : Mg K mg)
    (hw : ∀ ds Q E, Φ ds Q E → _root_.P.b_is_whole (env0 [false] ds 1) (bodyEnds [false] Q E)) : FnG P w K mg base (k + 1) f fd ["thing"] (spD K mg tbs [false] Φ) :=
  def_ok F sc_is_whole rfl (fun cdv A outer s H E Z hT hr =>
    (s_one (s_ret (d_andV (d_isi rfl (C := "int") (by decide) M.isinstance M.int (d_var 0)) (d_one (d_notV (d_isi rfl (C := "bool") (by decide) M.isinstance M.bool (d_var 0)))))))) hw
abbrev s_need_places : Stmt := topS 12
theorem sc_need_places : FnScope ["places"] ["places"] (defScope s_need_places) := ⟨rfl, rfl, rfl, by decide +kernel, rfl, by decide +kernel, by decide +kernel⟩
theorem ok_need_places {tbs : List (Addr × Str)} {P : Program} {w : World} {K : PySem.W.Frag} {mg : Str → Option Value} {base : Heap} {f : Addr} {fd : FuncData} {k : Nat} {Φ Φ_is_whole : DF} (F : Fun K "need_places" "need_places" s_need_places f fd) (M : Mg K mg) (X_NoPlaces : XC K mg "NoPlaces") (C_is_whole : FD P w K mg tbs base k "is_whole" 1 [false] Φ_is_whole)
    (hw : ∀ ds Q E, Φ ds Q E → _root_.P.b_need_places Φ_is_whole (env0 [false] ds 1) (bodyEnds [false] Q E)) : FnG P w K mg base (k + 1) f fd ["places"] (spD K mg tbs [false] Φ) :=
  def_ok F sc_need_places rfl (fun cdv A outer s H E Z hT hr =>
    (s_one (s_if (d_pt' (d_orT (d_notT (d_tv (d_callF C_is_whole hr (takes_of rfl rfl rfl rfl) (d_cons (d_var 0) d_nil)))) (d_or1 (d_notT (d_tchain o_le o_le d_int (d_var 0) (d_gint M.MOST_PLACES))))))
    (s_one (s_raise X_NoPlaces rfl (takes_of rfl rfl rfl rfl)))
    s_nil))) hw
abbrev s_is_many : Stmt := topS 11
theorem sc_is_many : FnScope ["thing"] ["thing"] (defScope s_is_many) := ⟨rfl, rfl, rfl, by decide +kernel, rfl, by decide +kernel, by decide +kernel⟩
theorem ok_is_many {tbs : List (Addr × Str)} {P : Program} {w : World} {K : PySem.W.Frag} {mg : Str → Option Value} {base : Heap} {f : Addr} {fd : FuncData} {k : Nat} {Φ : DF} (F : Fun K "is_many" "is_many" s_is_many f fd) (M : Mg K mg)
    (hw : ∀ ds Q E, Φ ds Q E → _root_.P.b_is_many (env0 [false] ds 1) (bodyEnds [false] Q E)) : FnG P w K mg base (k + 1) f fd ["thing"] (spD K mg tbs [false] Φ) :=
  def_ok F sc_is_many rfl (fun cdv A outer s H E Z hT hr =>
    (s_one (s_ret (d_isi2 rfl (C := "list") (C' := "tuple") (by decide) (by decide) M.isinstance M.list M.tuple (d_var 0))))) hw
abbrev s_deed_of : Stmt := topS 13
theorem sc_deed_of : FnScope ["thing"] ["thing"] (defScope s_deed_of) := ⟨rfl, rfl, rfl, by decide +kernel, rfl, by decide +kernel, by decide +kernel⟩
theorem ok_deed_of {tbs : List (Addr × Str)} {P : Program} {w : World} {K : PySem.W.Frag} {mg : Str → Option Value} {base : Heap} {f : Addr} {fd : FuncData} {k : Nat} {Φ Φ_is_whole Φ_is_many : DF} (F : Fun K "deed_of" "deed_of" s_deed_of f fd) (M : Mg K mg) (C_is_whole : FD P w K mg tbs base k "is_whole" 1 [false] Φ_is_whole) (C_is_many : FD P w K mg tbs base k "is_many" 1 [false] Φ_is_many)
    (hw : ∀ ds Q E, Φ ds Q E → _root_.P.b_deed_of Φ_is_whole Φ_is_many (env0 [false] ds 1) (bodyEnds [false] Q E)) : FnG P w K mg base (k + 1) f fd ["thing"] (spD K mg tbs [false] Φ) :=
  def_ok F sc_deed_of rfl (fun cdv A outer s H E Z hT hr =>
    (s_cons (s_if (d_pt' (d_orT (d_notT (d_tv (d_callF C_is_many hr (takes_of rfl rfl rfl rfl) (d_cons (d_var 0) d_nil)))) (d_orT (d_tcmp (o_eq hr.u64) (nomark _) (d_callB c_len M.len (d_cons (d_var 0) d_nil)) d_int) (d_or1 (d_notT (d_tv (d_isi rfl (C := "str") (by decide) M.isinstance M.str (d_ix hr.u1 (d_var 0) d_int (fun _ _ => rfl)))))))))
    (s_one (s_ret d_non))
    s_nil)
    (s_cons (s_if (d_pt' (d_andT (d_tcmp (o_eq hr.u64) (nomark _) (d_ix hr.u1 (d_var 0) d_int (fun _ _ => rfl)) (d_gstr M.TURN)) (d_and1 (d_tcmp (o_eq hr.u64) (nomark _) (d_callB c_len M.len (d_cons (d_var 0) d_nil)) d_int))))
    (s_one (s_ret (d_tup (d_cons (d_gstr M.TURN) d_nil))))
    s_nil)
    (s_cons (s_if (d_pt' (d_andT (d_tcmp (o_in hr.u65) rfl (d_ix hr.u1 (d_var 0) d_int (fun _ _ => rfl)) (d_tup (d_cons (d_gstr M.OVER) (d_cons (d_gstr M.UNDER) d_nil)))) (d_andT (d_tcmp (o_eq hr.u64) (nomark _) (d_callB c_len M.len (d_cons (d_var 0) d_nil)) d_int) (d_and1 (d_tv (d_callF C_is_whole hr (takes_of rfl rfl rfl rfl) (d_cons (d_ix hr.u1 (d_var 0) d_int (fun _ _ => rfl)) d_nil)))))))
    (s_one (s_ret (d_tup (d_cons (d_ix hr.u1 (d_var 0) d_int (fun _ _ => rfl)) (d_cons (d_ix hr.u1 (d_var 0) d_int (fun _ _ => rfl)) d_nil)))))
    s_nil)
    (s_one (s_ret d_non)))))) hw
abbrev s_Layout_lets : Stmt := inS 17 2
theorem sc_Layout_lets : FnScope ["self", "deed"] ["self", "deed"] (defScope s_Layout_lets) := ⟨rfl, rfl, rfl, by decide +kernel, rfl, by decide +kernel, by decide +kernel⟩
theorem ok_Layout_lets {tbs : List (Addr × Str)} {P : Program} {w : World} {K : PySem.W.Frag} {mg : Str → Option Value} {base : Heap} {f : Addr} {fd : FuncData} {k : Nat} {Φ : DF} (F : Fun K "lets" "Layout.lets" s_Layout_lets f fd) (M : Mg K mg) (K_Layout : ClsOk K mg "Layout" ["width", "steps"])
    (hw : ∀ ds Q E, Φ ds Q E → _root_.P.b_Layout_lets (env0 [false, false] ds 2) (bodyEnds [false, false] Q E)) : FnG P w K mg base (k + 1) f fd ["self", "deed"] (spD K mg tbs [false, false] Φ) :=
  def_ok F sc_Layout_lets rfl (fun cdv A outer s H E Z hT hr =>
    (s_one (s_ret (d_orV (d_cmp (o_eq hr.u64) (nomark _) (d_var 1) (d_tup (d_cons (d_gstr M.TURN) d_nil))) (d_one (d_chain o_le (o_lt hr.u0) d_int (d_ix hr.u1 (d_var 1) d_int (fun _ _ => rfl)) (d_att K_Layout (by decide) (d_var 0)))))))) hw
abbrev s_read_row : Stmt := topS 20
theorem sc_read_row : FnScope ["places", "thing", "found", "here", "one", "deed"] ["places", "thing"] (defScope s_read_row) := ⟨rfl, rfl, rfl, by decide +kernel, rfl, by decide +kernel, by decide +kernel⟩
theorem ok_read_row {tbs : List (Addr × Str)} {P : Program} {w : World} {K : PySem.W.Frag} {mg : Str → Option Value} {base : Heap} {f : Addr} {fd : FuncData} {k : Nat} {Φ Φ_Layout_behind Φ_Layout_lets Φ_deed_of Φ_flat_one Φ_is_many : DF} (F : Fun K "read_row" "read_row" s_read_row f fd) (M : Mg K mg) (C_Layout_behind : MD P w K mg tbs base k "Layout" "behind" 2 [false, false] Φ_Layout_behind) (C_Layout_lets : MD P w K mg tbs base k "Layout" "lets" 2 [false, false] Φ_Layout_lets) (C_deed_of : FD P w K mg tbs base k "deed_of" 1 [false] Φ_deed_of) (C_flat_one : FDK P w K mg tbs base k "flat_one" 2 ["ahead"] [false, false] Φ_flat_one) (C_is_many : FD P w K mg tbs base k "is_many" 1 [false] Φ_is_many)
    (hw : ∀ ds Q E, Φ ds Q E → _root_.P.b_read_row Φ_Layout_behind Φ_Layout_lets Φ_deed_of Φ_flat_one Φ_is_many (env0 [false, false] ds 6) (bodyEnds [false, false] Q E)) : FnG P w K mg base (k + 1) f fd ["places", "thing"] (spD K mg tbs [false, false] Φ) :=
  def_ok F sc_read_row rfl (fun cdv A outer s H E Z hT hr =>
    (s_cons (s_if (d_pt' (d_orT (d_notT (d_tv (d_callF C_is_many hr (takes_of rfl rfl rfl rfl) (d_cons (d_var 1) d_nil)))) (d_or1 (d_tcmp o_gt (nomark _) (d_callB c_len M.len (d_cons (d_var 1) d_nil)) (d_gint M.MOST_DEEDS)))))
    (s_one (s_ret d_non))
    s_nil)
    (s_cons (s_set 2 (d_lst d_nil) sc_read_row.nd)
    (s_cons (s_set 3 (d_callFD C_flat_one hr (takes_of rfl rfl rfl rfl) (d_cons (d_var 0) d_nil)) sc_read_row.nd)
    (s_cons (s_for (passes_of rfl) rfl (i_any (d_var 1)) (g_name 4 sc_read_row.nd)
    (s_cons (s_set 5 (d_callF C_deed_of hr (takes_of rfl rfl rfl rfl) (d_cons (d_var 4) d_nil)) sc_read_row.nd)
    (s_cons (s_if (d_pt' (d_orT (d_tcmp o_is (nomark _) (d_var 5) d_non) (d_or1 (d_notT (d_tv (d_meth C_Layout_lets hr (takes_of rfl rfl rfl rfl) (d_var 3) (d_cons (d_var 5) d_nil)))))))
    (s_one (s_ret d_non))
    s_nil)
    (s_cons (s_set 3 (d_meth C_Layout_behind hr (takes_of rfl rfl rfl rfl) (d_var 3) (d_cons (d_var 5) d_nil)) sc_read_row.nd)
    (s_one (s_expr (d_mut 2 m_app PySem.F.slot_list_append PySem.F.type_list_append (d_cons (d_var 5) d_nil))))))))
    (s_one (s_ret (d_var 2)))))))) hw
abbrev s_row_of : Stmt := topS 21
theorem sc_row_of : FnScope ["places", "row", "found"] ["places", "row"] (defScope s_row_of) := ⟨rfl, rfl, rfl, by decide +kernel, rfl, by decide +kernel, by decide +kernel⟩
theorem ok_row_of {tbs : List (Addr × Str)} {P : Program} {w : World} {K : PySem.W.Frag} {mg : Str → Option Value} {base : Heap} {f : Addr} {fd : FuncData} {k : Nat} {Φ Φ_read_row Φ_need_places : DF} (F : Fun K "row_of" "row_of" s_row_of f fd) (M : Mg K mg) (X_NoRow : XC K mg "NoRow") (C_read_row : FD P w K mg tbs base k "read_row" 2 [false, false] Φ_read_row) (C_need_places : FD P w K mg tbs base k "need_places" 1 [false] Φ_need_places)
    (hw : ∀ ds Q E, Φ ds Q E → _root_.P.b_row_of Φ_read_row Φ_need_places (env0 [false, false] ds 3) (bodyEnds [false, false] Q E)) : FnG P w K mg base (k + 1) f fd ["places", "row"] (spD K mg tbs [false, false] Φ) :=
  def_ok F sc_row_of rfl (fun cdv A outer s H E Z hT hr =>
    (s_cons (s_expr (d_callF C_need_places hr (takes_of rfl rfl rfl rfl) (d_cons (d_var 0) d_nil)))
    (s_cons (s_set 2 (d_callF C_read_row hr (takes_of rfl rfl rfl rfl) (d_cons (d_var 0) (d_cons (d_var 1) d_nil))) sc_row_of.nd)
    (s_cons (s_if (d_tcmp o_is (nomark _) (d_var 2) d_non)
    (s_one (s_raise X_NoRow rfl (takes_of rfl rfl rfl rfl)))
    s_nil)
    (s_one (s_ret (d_var 2))))))) hw
abbrev s_behind_all : Stmt := topS 22
theorem sc_behind_all : FnScope ["places", "row"] ["places", "row"] (defScope s_behind_all) := ⟨rfl, rfl, rfl, by decide +kernel, rfl, by decide +kernel, by decide +kernel⟩
theorem ok_behind_all {tbs : List (Addr × Str)} {P : Program} {w : World} {K : PySem.W.Frag} {mg : Str → Option Value} {base : Heap} {f : Addr} {fd : FuncData} {k : Nat} {Φ Φ_layouts Φ_row_of : DF} (F : Fun K "behind_all" "behind_all" s_behind_all f fd) (M : Mg K mg) (C_layouts : FDK P w K mg tbs base k "layouts" 3 ["ahead"] [false, false, false] Φ_layouts) (C_row_of : FD P w K mg tbs base k "row_of" 2 [false, false] Φ_row_of)
    (hw : ∀ ds Q E, Φ ds Q E → _root_.P.b_behind_all Φ_layouts Φ_row_of (env0 [false, false] ds 2) (bodyEnds [false, false] Q E)) : FnG P w K mg base (k + 1) f fd ["places", "row"] (spD K mg tbs [false, false] Φ) :=
  def_ok F sc_behind_all rfl (fun cdv A outer s H E Z hT hr =>
    (s_one (s_ret (d_ix hr.u1 (d_callFD C_layouts hr (takes_of rfl rfl rfl rfl) (d_cons (d_var 0) (d_cons (d_callF C_row_of hr (takes_of rfl rfl rfl rfl) (d_cons (d_var 0) (d_cons (d_var 1) d_nil))) d_nil))) (d_neg d_int) (fun _ _ => rfl))))) hw
abbrev s_stretches : Stmt := topS 23
theorem sc_stretches : FnScope ["places", "row"] ["places", "row"] (defScope s_stretches) := ⟨rfl, rfl, rfl, by decide +kernel, rfl, by decide +kernel, by decide +kernel⟩
theorem ok_stretches {tbs : List (Addr × Str)} {P : Program} {w : World} {K : PySem.W.Frag} {mg : Str → Option Value} {base : Heap} {f : Addr} {fd : FuncData} {k : Nat} {Φ Φ_behind_all : DF} (F : Fun K "stretches" "stretches" s_stretches f fd) (M : Mg K mg) (K_Layout : ClsOk K mg "Layout" ["width", "steps"]) (C_behind_all : FD P w K mg tbs base k "behind_all" 2 [false, false] Φ_behind_all)
    (hw : ∀ ds Q E, Φ ds Q E → _root_.P.b_stretches Φ_behind_all (env0 [false, false] ds 2) (bodyEnds [false, false] Q E)) : FnG P w K mg base (k + 1) f fd ["places", "row"] (spD K mg tbs [false, false] Φ) :=
  def_ok F sc_stretches rfl (fun cdv A outer s H E Z hT hr =>
    (s_one (s_ret (d_callTy c_list M.list (d_cons (d_att K_Layout (by decide) (d_callF C_behind_all hr (takes_of rfl rfl rfl rfl) (d_cons (d_var 0) (d_cons (d_var 1) d_nil)))) d_nil))))) hw
abbrev s_by_layers : Stmt := topS 24
theorem sc_by_layers : FnScope ["places", "row", "here", "found", "ends", "step", "column", "many", "end"] ["places", "row"] (defScope s_by_layers) := ⟨rfl, rfl, rfl, by decide +kernel, rfl, by decide +kernel, by decide +kernel⟩
theorem ok_by_layers {tbs : List (Addr × Str)} {P : Program} {w : World} {K : PySem.W.Frag} {mg : Str → Option Value} {base : Heap} {f : Addr} {fd : FuncData} {k : Nat} {Φ Φ_behind_all : DF} (F : Fun K "by_layers" "by_layers" s_by_layers f fd) (M : Mg K mg) (K_Layout : ClsOk K mg "Layout" ["width", "steps"]) (C_behind_all : FD P w K mg tbs base k "behind_all" 2 [false, false] Φ_behind_all)
    (hw : ∀ ds Q E, Φ ds Q E → _root_.P.b_by_layers Φ_behind_all (env0 [false, false] ds 9) (bodyEnds [false, false] Q E)) : FnG P w K mg base (k + 1) f fd ["places", "row"] (spD K mg tbs [false, false] Φ) :=
  def_ok F sc_by_layers rfl (fun cdv A outer s H E Z hT hr =>
    (s_cons (s_set 2 (d_callF C_behind_all hr (takes_of rfl rfl rfl rfl) (d_cons (d_var 0) (d_cons (d_var 1) d_nil))) sc_by_layers.nd)
    (s_cons (s_set 3 (d_dct (t := false)) sc_by_layers.nd)
    (s_cons (s_set 4 (d_op o_add (d_lc (own := [("step", 5)]) rfl sc_by_layers.nd (i_any (d_sl (d_att K_Layout (by decide) (d_var 2)) (d_pt d_int) d_no)) (blkOk_by (N := ["places", "row", "here", "found", "ends", "step", "column", "many", "end"]) (sc := defScope s_by_layers) (by decide +kernel)) (fun _ _ _ _ _ => (g_name 5 sc_by_layers.nd)) (fun _ _ _ _ _ => pts_yes) (fun _ _ _ _ _ => (d_ix hr.u1 (d_var 5) d_int (fun _ _ => rfl)))) (d_lst (d_cons (d_att K_Layout (by decide) (d_var 2)) d_nil))) sc_by_layers.nd)
    (s_cons (s_for (passes_of rfl) rfl (i_zip M.zip (d_cons (d_att K_Layout (by decide) (d_var 2)) (d_cons (d_var 4) d_nil))) (g_tup rfl (g_cons (g_tup rfl (g_cons (g_name 6 sc_by_layers.nd) (g_cons (g_name 7 sc_by_layers.nd) g_nil))) (g_cons (g_name 8 sc_by_layers.nd) g_nil)))
    (s_one (s_setI 3 hr.u1 (d_op o_sub (d_op o_add (d_gt2 hr.u1 (d_var 3) (d_var 7) d_int ⟨rfl, rfl, rfl, rfl⟩) (d_var 8)) (d_var 6)) (d_var 7))))
    (s_one (s_ret (d_sortIt rfl M.sorted (d_var 3))))))))) hw
abbrev s_law_steps : Stmt := topS 35
theorem sc_law_steps : FnScope ["heights", "at"] ["heights"] (defScope s_law_steps) := ⟨rfl, rfl, rfl, by decide +kernel, rfl, by decide +kernel, by decide +kernel⟩
theorem ok_law_steps {tbs : List (Addr × Str)} {P : Program} {w : World} {K : PySem.W.Frag} {mg : Str → Option Value} {base : Heap} {f : Addr} {fd : FuncData} {k : Nat} {Φ : DF} (F : Fun K "_law_steps" "_law_steps" s_law_steps f fd) (M : Mg K mg)
    (hw : ∀ ds Q E, Φ ds Q E → _root_.K03.b_law_steps (env0 [false] ds 2) (bodyEnds [false] Q E)) : FnG P w K mg base (k + 1) f fd ["heights"] (spD K mg tbs [false] Φ) :=
  def_ok F sc_law_steps rfl (fun cdv A outer s H E Z hT hr =>
    (s_one (s_ret (d_lc (own := [("at", 1)]) rfl sc_law_steps.nd (i_range M.range (d_cons (d_callB c_len M.len (d_cons (d_var 0) d_nil)) d_nil)) (blkOk_by (N := ["heights", "at"]) (sc := defScope s_law_steps) (by decide +kernel)) (fun _ _ _ _ _ => (g_name 1 sc_law_steps.nd)) (fun _ _ _ _ _ => (pts_oneD (d_pt' (d_orT (d_tcmp (o_eq hr.u64) (nomark _) (d_var 1) d_int) (d_or1 (d_tcmp (o_ne hr.u64) (nomark _) (d_ix hr.u1 (d_var 0) (d_var 1) (fun _ _ => rfl)) (d_ix hr.u1 (d_var 0) (d_op o_sub (d_var 1) d_int) (fun _ _ => rfl)))))))) (fun _ _ _ _ _ => (d_tup (d_cons (d_var 1) (d_cons (d_ix hr.u1 (d_var 0) (d_var 1) (fun _ _ => rfl)) d_nil)))))))) hw
abbrev s_law_about : Stmt := topS 28
theorem sc_law_about : FnScope ["pile", "place", "face"] ["pile"] (defScope s_law_about) := ⟨rfl, rfl, rfl, by decide +kernel, rfl, by decide +kernel, by decide +kernel⟩
theorem ok_law_about {tbs : List (Addr × Str)} {P : Program} {w : World} {K : PySem.W.Frag} {mg : Str → Option Value} {base : Heap} {f : Addr} {fd : FuncData} {k : Nat} {Φ : DF} (F : Fun K "_law_about" "_law_about" s_law_about f fd) (M : Mg K mg)
    (hw : ∀ ds Q E, Φ ds Q E → _root_.LA.b_law_about (env0 [false] ds 3) (bodyEnds [false] Q E)) : FnG P w K mg base (k + 1) f fd ["pile"] (spD K mg tbs [false] Φ) :=
  def_ok F sc_law_about rfl (fun cdv A outer s H E Z hT hr =>
    (s_one (s_ret (d_lc (own := [("place", 1), ("face", 2)]) rfl sc_law_about.nd (i_any (d_or (d_revS (d_var 0)) (d_revL (d_var 0)))) (blkOk_by (N := ["pile", "place", "face"]) (sc := defScope s_law_about) (by decide +kernel)) (fun _ _ _ _ _ => (g_tup rfl (g_cons (g_name 1 sc_law_about.nd) (g_cons (g_name 2 sc_law_about.nd) g_nil)))) (fun _ _ _ _ _ => pts_yes) (fun _ _ _ _ _ => (d_tup (d_cons (d_var 1) (d_cons (d_notV (d_var 2)) d_nil)))))))) hw
abbrev s_law_done : Stmt := topS 29
theorem sc_law_done : FnScope ["piles", "deed", "pile", "line", "found", "far", "rest", "comes"] ["piles", "deed"] (defScope s_law_done) := ⟨rfl, rfl, rfl, by decide +kernel, rfl, by decide +kernel, by decide +kernel⟩
theorem ok_law_done {tbs : List (Addr × Str)} {P : Program} {w : World} {K : PySem.W.Frag} {mg : Str → Option Value} {base : Heap} {f : Addr} {fd : FuncData} {k : Nat} {Φ Φ_law_about : DF} (F : Fun K "_law_done" "_law_done" s_law_done f fd) (M : Mg K mg) (C_law_about : FD P w K mg tbs base k "_law_about" 1 [false] Φ_law_about)
    (hw : ∀ ds Q E, Φ ds Q E → _root_.LA.b_law_done Φ_law_about (env0 [false, false] ds 8) (bodyEnds [false, false] Q E)) : FnG P w K mg base (k + 1) f fd ["piles", "deed"] (spD K mg tbs [false, false] Φ) :=
  def_ok F sc_law_done rfl (fun cdv A outer s H E Z hT hr =>
    (s_cons (s_if (d_tcmp (o_eq hr.u64) (nomark _) (d_ix hr.u1 (d_var 1) d_int (fun _ _ => rfl)) d_str)
    (s_one (s_ret (d_lc (own := [("pile", 2)]) rfl sc_law_done.nd (i_any (d_or (d_revS (d_var 0)) (d_revL (d_var 0)))) (blkOk_by (N := ["piles", "deed", "pile", "line", "found", "far", "rest", "comes"]) (sc := defScope s_law_done) (by decide +kernel)) (fun _ _ _ _ _ => (g_name 2 sc_law_done.nd)) (fun _ _ _ _ _ => pts_yes) (fun _ _ _ _ _ => (d_callF C_law_about hr takes0 (d_cons (d_var 2) d_nil))))))
    s_nil)
    (s_cons (s_set 3 (d_ix hr.u1 (d_var 1) d_int (fun _ _ => rfl)) sc_law_done.nd)
    (s_cons (s_set 4 (d_lst d_nil) sc_law_done.nd)
    (s_cons (s_for (passes_of rfl) rfl (i_range2 M.range (d_cons d_int (d_cons (d_op o_add (d_callB (c_max rfl) M.max (d_cons (d_var 3) (d_cons (d_op o_sub (d_callB c_len M.len (d_cons (d_var 0) d_nil)) (d_var 3)) d_nil))) d_int) d_nil))) (g_name 5 sc_law_done.nd)
    (s_cons (s_set 6 (d_ife (d_tcmp o_le (nomark _) (d_var 5) (d_var 3)) (d_ix hr.u1 (d_var 0) (d_op o_sub (d_var 3) (d_var 5)) (fun _ _ => rfl)) (d_lst d_nil)) sc_law_done.nd)
    (s_cons (s_set 7 (d_ife (d_tcmp o_le (nomark _) (d_op o_add (d_var 3) (d_var 5)) (d_callB c_len M.len (d_cons (d_var 0) d_nil))) (d_callF C_law_about hr (takes_of rfl rfl rfl rfl) (d_cons (d_ix hr.u1 (d_var 0) (d_op o_sub (d_op o_add (d_var 3) (d_var 5)) d_int) (fun _ _ => rfl)) d_nil)) (d_lst d_nil)) sc_law_done.nd)
    (s_one (s_expr (d_mut 4 m_app PySem.F.slot_list_append PySem.F.type_list_append (d_cons (d_ife (d_tcmp (o_eq hr.u64) (nomark _) (d_ix hr.u1 (d_var 1) d_int (fun _ _ => rfl)) d_str) (d_op o_add (d_var 7) (d_var 6)) (d_op o_add (d_var 6) (d_var 7))) d_nil)))))))
    (s_one (s_ret (d_or (d_revS (d_var 4)) (d_revL (d_var 4)))))))))) hw
abbrev s_law_piles : Stmt := topS 30
theorem sc_law_piles : FnScope ["places", "row", "found", "place", "deed"] ["places", "row"] (defScope s_law_piles) := ⟨rfl, rfl, rfl, by decide +kernel, rfl, by decide +kernel, by decide +kernel⟩
theorem ok_law_piles {tbs : List (Addr × Str)} {P : Program} {w : World} {K : PySem.W.Frag} {mg : Str → Option Value} {base : Heap} {f : Addr} {fd : FuncData} {k : Nat} {Φ Φ_law_done : DF} (F : Fun K "_law_piles" "_law_piles" s_law_piles f fd) (M : Mg K mg) (C_law_done : FD P w K mg tbs base k "_law_done" 2 [false, false] Φ_law_done)
    (hw : ∀ ds Q E, Φ ds Q E → _root_.LA.b_law_piles Φ_law_done (env0 [false, false] ds 5) (bodyEnds [false, false] Q E)) : FnG P w K mg base (k + 1) f fd ["places", "row"] (spD K mg tbs [false, false] Φ) :=
  def_ok F sc_law_piles rfl (fun cdv A outer s H E Z hT hr =>
    (s_cons (s_set 2 (d_lst (d_cons (d_lc (own := [("place", 3)]) rfl sc_law_piles.nd (i_range M.range (d_cons (d_var 0) d_nil)) (blkOk_by (N := ["places", "row", "found", "place", "deed"]) (sc := defScope s_law_piles) (by decide +kernel)) (fun _ _ _ _ _ => (g_name 3 sc_law_piles.nd)) (fun _ _ _ _ _ => pts_yes) (fun _ _ _ _ _ => (d_lst (d_cons (d_tup (d_cons (d_var 3) (d_cons d_bl d_nil))) d_nil)))) d_nil)) sc_law_piles.nd)
    (s_cons (s_for (passes_of rfl) rfl (i_any (d_var 1)) (g_name 4 sc_law_piles.nd)
    (s_one (s_expr (d_mut 2 m_app PySem.F.slot_list_append PySem.F.type_list_append (d_cons (d_callF C_law_done hr (takes_of rfl rfl rfl rfl) (d_cons (d_ix hr.u1 (d_var 2) (d_neg d_int) (fun _ _ => rfl)) (d_cons (d_var 4) d_nil))) d_nil)))))
    (s_one (s_ret (d_var 2)))))) hw
abbrev s_law : Stmt := topS 36
theorem sc_law : FnScope ["script", "reel", "k", "places", "row", "heights", "pile", "handed", "stays", "again", "told", "due", "many"] ["script"] (defScope s_law) := ⟨rfl, rfl, rfl, by decide +kernel, rfl, by decide +kernel, by decide +kernel⟩
theorem ok_law {tbs : List (Addr × Str)} {P : Program} {w : World} {K : PySem.W.Frag} {mg : Str → Option Value} {base : Heap} {f : Addr} {fd : FuncData} {k : Nat} {Φ Φ_law_steps Φ_stretches Φ_by_layers Φ_law_dressed Φ_law_piles Φ_law_row Φ_law_draw Φ_law_reel : DF} (F : Fun K "law" "law" s_law f fd) (M : Mg K mg) (C_law_steps : FD P w K mg tbs base k "_law_steps" 1 [false] Φ_law_steps) (C_stretches : FD P w K mg tbs base k "stretches" 2 [false, false] Φ_stretches) (C_by_layers : FD P w K mg tbs base k "by_layers" 2 [false, false] Φ_by_layers) (C_law_dressed : FD P w K mg tbs base k "_law_dressed" 2 [true, false] Φ_law_dressed) (C_law_piles : FD P w K mg tbs base k "_law_piles" 2 [false, false] Φ_law_piles) (C_law_row : FD P w K mg tbs base k "_law_row" 3 [true, false, false] Φ_law_row) (C_law_draw : FD P w K mg tbs base k "_law_draw" 2 [true, false] Φ_law_draw) (C_law_reel : FD P w K mg tbs base k "_law_reel" 1 [false] Φ_law_reel)
    (hw : ∀ ds Q E, Φ ds Q E → _root_.K03.b_law Φ_law_steps Φ_stretches Φ_by_layers Φ_law_dressed Φ_law_piles Φ_law_row Φ_law_draw Φ_law_reel (env0 [false] ds 13) (bodyEnds [false] Q E)) : FnG P w K mg base (k + 1) f fd ["script"] (spD K mg tbs [false] Φ) :=
  def_ok F sc_law rfl (fun cdv A outer s H E Z hT hr =>
    (s_cons (s_set 1 (d_callF C_law_reel hr (takes_of rfl rfl rfl rfl) (d_cons (d_var 0) d_nil)) sc_law.nd)
    (s_cons (s_for (passes_of rfl) rfl (i_range M.range (d_cons (d_op o_add d_int (d_callB (c_min rfl) M.min (d_cons (d_callB c_len M.len (d_cons (d_var 0) d_nil)) (d_cons d_int d_nil)))) d_nil)) (g_name 2 sc_law.nd)
    (s_cons (s_set 3 (d_ix hr.u1 (d_lst (d_cons (d_op o_add d_int (d_callF C_law_draw hr (takes_of rfl rfl rfl rfl) (d_cons (d_var 1) (d_cons d_int d_nil)))) (d_cons (d_op o_add d_int (d_callF C_law_draw hr (takes_of rfl rfl rfl rfl) (d_cons (d_var 1) (d_cons d_int d_nil)))) d_nil))) (d_callF C_law_draw hr (takes_of rfl rfl rfl rfl) (d_cons (d_var 1) (d_cons d_int d_nil))) (fun _ _ => rfl)) sc_law.nd)
    (s_cons (s_set 4 (d_callF C_law_row hr (takes_of rfl rfl rfl rfl) (d_cons (d_var 1) (d_cons (d_var 3) (d_cons d_int d_nil)))) sc_law.nd)
    (s_cons (s_set 5 (d_lc (own := [("pile", 6)]) rfl sc_law.nd (i_any (d_ix hr.u1 (d_callF C_law_piles hr (takes_of rfl rfl rfl rfl) (d_cons (d_var 3) (d_cons (d_var 4) d_nil))) (d_neg d_int) (fun _ _ => rfl))) (blkOk_by (N := ["script", "reel", "k", "places", "row", "heights", "pile", "handed", "stays", "again", "told", "due", "many"]) (sc := defScope s_law) (by decide +kernel)) (fun _ _ _ _ _ => (g_name 6 sc_law.nd)) (fun _ _ _ _ _ => pts_yes) (fun _ _ _ _ _ => (d_callB c_len M.len (d_cons (d_var 6) d_nil)))) sc_law.nd)
    (s_cons (s_set 7 (d_callF C_law_dressed hr (takes_of rfl rfl rfl rfl) (d_cons (d_var 1) (d_cons (d_callTy c_tuple M.tuple (d_cons (d_var 4) d_nil)) d_nil))) sc_law.nd)
    (s_cons (s_set 8 (d_callB (c_repr hr) M.repr (d_cons (d_var 7) d_nil)) sc_law.nd)
    (s_one (s_for (passes_of rfl) rfl (i_range M.range (d_cons d_int d_nil)) (g_name 9 sc_law.nd)
    (s_cons (s_set 10 (d_two (d_callF C_stretches hr (takes_of rfl rfl rfl rfl) (d_cons (d_var 3) (d_cons (d_var 7) d_nil))) (d_callF C_by_layers hr (takes_of rfl rfl rfl rfl) (d_cons (d_var 3) (d_cons (d_var 7) d_nil)))) sc_law.nd)
    (s_cons (s_set 11 (d_lst (d_cons (d_callF C_law_steps hr (takes_of rfl rfl rfl rfl) (d_cons (d_var 5) d_nil)) (d_cons (d_lc (own := [("many", 12)]) rfl sc_law.nd (i_any (d_sortU rfl M.sorted M.set (d_var 5))) (blkOk_by (N := ["script", "reel", "k", "places", "row", "heights", "pile", "handed", "stays", "again", "told", "due", "many"]) (sc := defScope s_law) (by decide +kernel)) (fun _ _ _ _ _ => (g_name 12 sc_law.nd)) (fun _ _ _ _ _ => pts_yes) (fun _ _ _ _ _ => (d_tup (d_cons (d_var 12) (d_cons (d_bm (m_countL hr.u65) PySem.F.plainAttrs_list PySem.F.slot_list_count PySem.F.type_list_count (d_var 5) (d_cons (d_var 12) d_nil)) d_nil))))) d_nil))) sc_law.nd)
    (s_cons (s_if (d_pt' (d_orT (d_tcmp o_neS (nomark _) (d_quiet [10] fun Z hT => (d_callB (c_repr hr) M.repr (d_cons (d_var 10) d_nil))) (d_callB (c_repr hr) M.repr (d_cons (d_var 11) d_nil))) (d_or1 (d_tcmp o_neS (nomark _) (d_callB (c_repr hr) M.repr (d_cons (d_var 7) d_nil)) (d_var 8)))))
    (s_one (s_ret d_bl))
    s_nil)
    (s_cons (s_expr (d_mutI 10 false m_app PySem.F.slot_list_append PySem.F.type_list_append (d_cons (d_tup (d_cons d_int (d_cons d_int d_nil))) d_nil)))
    (s_cons (s_expr (d_mutI0 10 true m_rev PySem.F.slot_list_reverse PySem.F.type_list_reverse))
    (s_one (s_expr (d_mutI 10 true m_app PySem.F.slot_list_append PySem.F.type_list_append (d_cons d_non d_nil)))))))))))))))))
    (s_one (s_ret d_bl))))) hw
end K03

open PySem PySem.Spec L2 DL
namespace K03
theorem all_mk {l : PySem.W.OpenLaw} {w : World} {K : PySem.W.Frag} {h : Heap} {mg : Str → Option Value} {fa f1 f2 f3 f4 f5 f6 f7 f8 f9 f10 f11 f12 f13 f14 f15 f16 f17 f18 f19 f20 f21 f22 f23 f24 f25 f26 f27 f28 f29 f30 C1 X1 X2 D8 D15 : Addr} (X : K.In h) (G : h.Ns mainGlobals mg) (hfa : mg "law" = some (.ref fa))
    {od1 an1 od2 an2 od3 an3 od4 an4 od5 an5 od6 an6 od7 an7 od8 an8 od9 an9 od10 an10 od11 an11 od12 an12 od13 an13 od14 an14 od15 an15 od16 an16 od17 an17 od18 an18 od19 an19 od20 an20 od21 an21 od22 an22 od23 an23 od24 an24 od25 an25 od26 an26 od27 an27 od28 an28 od29 an29 od30 an30 : Option Addr} {sl1 sl2 sl3 sl4 sl5 sl6 sl7 sl8 sl9 sl10 sl11 sl12 sl13 sl14 sl15 sl16 sl17 sl18 sl19 sl20 sl21 sl22 sl23 sl24 sl25 sl26 sl27 sl28 sl29 sl30 : Array (Option Value)} {oc1 kV1 dc1 pm1 cd1 ct1 oc2 kV2 dc2 pm2 cd2 ct2 oc3 kV3 dc3 pm3 cd3 ct3 oc4 kV4 dc4 pm4 cd4 ct4 oc5 kV5 dc5 pm5 cd5 ct5 oc6 kV6 dc6 pm6 cd6 ct6 oc7 kV7 dc7 pm7 cd7 ct7 oc8 dc8 pm8 cd8 ct8 oc9 kV9 dc9 pm9 cd9 ct9 oc10 kV10 dc10 pm10 cd10 ct10 oc11 kV11 dc11 pm11 cd11 ct11 oc12 kV12 dc12 pm12 cd12 ct12 oc13 kV13 dc13 pm13 cd13 ct13 oc14 kV14 dc14 pm14 cd14 ct14 oc15 dc15 pm15 cd15 ct15 oc16 kV16 dc16 pm16 cd16 ct16 oc17 kV17 dc17 pm17 cd17 ct17 oc18 kV18 dc18 pm18 cd18 ct18 oc19 kV19 dc19 pm19 cd19 ct19 oc20 kV20 dc20 pm20 cd20 ct20 oc21 kV21 dc21 pm21 cd21 ct21 oc22 kV22 dc22 pm22 cd22 ct22 oc23 kV23 dc23 pm23 cd23 ct23 oc24 kV24 dc24 pm24 cd24 ct24 oc25 kV25 dc25 pm25 cd25 ct25 oc26 kV26 dc26 pm26 cd26 ct26 oc27 kV27 dc27 pm27 cd27 ct27 oc28 kV28 dc28 pm28 cd28 ct28 oc29 kV29 dc29 pm29 cd29 ct29 oc30 kV30 dc30 pm30 cd30 ct30 : Value}
    {t_MOST_DEEDS t_MOST_PLACES t_OVER t_TURN t_UNDER : Tok}
    (nC1 : PySem.W.nsIn K mainGlobals "Layout" = some (some (.ref C1)))
    (pg1 : PySem.W.plainGet K C1 Str.empty = true)
    (hd1 : PySem.W.hasDictIn K C1 = true)
    (po1 : PySem.W.plainOver K C1 = true)
    (sa1 : PySem.W.findIn K (.ref C1) "__setattr__" = some (some (.builtin "object.__setattr__")))
    (mk1 : PySem.W.makesIn K C1 = true)
    (kc1 : PySem.W.keepIn K (.ref C1) = true)
    (nf1_width : PySem.W.findIn K (.ref C1) "width" = some none)
    (nf1_steps : PySem.W.findIn K (.ref C1) "steps" = some none)
    (nX1 : PySem.W.nsIn K mainGlobals "NoPlaces" = some (some (.ref X1)))
    (xF1 : PySem.W.excIn K X1 [.type "ValueError", .type "Exception", .type "BaseException", .type "object"] "ValueError.__new__" = true)
    (kX1 : PySem.W.keepIn K (.ref X1) = true)
    (bX1 : PySem.W.subIn K (.ref X1) (.type "BaseException") = some true)
    (tX1 : PySem.W.typeIn K (.ref X1) = some (.type "type"))
    (nX2 : PySem.W.nsIn K mainGlobals "NoRow" = some (some (.ref X2)))
    (xF2 : PySem.W.excIn K X2 [.type "ValueError", .type "Exception", .type "BaseException", .type "object"] "ValueError.__new__" = true)
    (kX2 : PySem.W.keepIn K (.ref X2) = true)
    (bX2 : PySem.W.subIn K (.ref X2) (.type "BaseException") = some true)
    (tX2 : PySem.W.typeIn K (.ref X2) = some (.type "type"))
    (a1 : PySem.W.nsIn K mainGlobals "_law_reel" = some (some (.ref f1)))
    (l1 : K.lookup f1 = some ⟨oc1, od1, .func (PySem.W.fnOf "_law_reel" "_law_reel" (defArgs s_law_reel) (defBody s_law_reel) (defScope s_law_reel) .none kV1 dc1 pm1 an1 cd1 ct1), sl1⟩)
    (c1 : PySem.W.codeIn K cd1 "_law_reel" = true)
    (k1 : PySem.W.keepIn K (.ref f1) = true)
    (a2 : PySem.W.nsIn K mainGlobals "_law_draw" = some (some (.ref f2)))
    (l2 : K.lookup f2 = some ⟨oc2, od2, .func (PySem.W.fnOf "_law_draw" "_law_draw" (defArgs s_law_draw) (defBody s_law_draw) (defScope s_law_draw) .none kV2 dc2 pm2 an2 cd2 ct2), sl2⟩)
    (c2 : PySem.W.codeIn K cd2 "_law_draw" = true)
    (k2 : PySem.W.keepIn K (.ref f2) = true)
    (a3 : PySem.W.nsIn K mainGlobals "_law_wide" = some (some (.ref f3)))
    (l3 : K.lookup f3 = some ⟨oc3, od3, .func (PySem.W.fnOf "_law_wide" "_law_wide" (defArgs s_law_wide) (defBody s_law_wide) (defScope s_law_wide) .none kV3 dc3 pm3 an3 cd3 ct3), sl3⟩)
    (c3 : PySem.W.codeIn K cd3 "_law_wide" = true)
    (k3 : PySem.W.keepIn K (.ref f3) = true)
    (a4 : PySem.W.nsIn K mainGlobals "_law_deed" = some (some (.ref f4)))
    (l4 : K.lookup f4 = some ⟨oc4, od4, .func (PySem.W.fnOf "_law_deed" "_law_deed" (defArgs s_law_deed) (defBody s_law_deed) (defScope s_law_deed) .none kV4 dc4 pm4 an4 cd4 ct4), sl4⟩)
    (c4 : PySem.W.codeIn K cd4 "_law_deed" = true)
    (k4 : PySem.W.keepIn K (.ref f4) = true)
    (a5 : PySem.W.nsIn K mainGlobals "_law_row" = some (some (.ref f5)))
    (l5 : K.lookup f5 = some ⟨oc5, od5, .func (PySem.W.fnOf "_law_row" "_law_row" (defArgs s_law_row) (defBody s_law_row) (defScope s_law_row) .none kV5 dc5 pm5 an5 cd5 ct5), sl5⟩)
    (c5 : PySem.W.codeIn K cd5 "_law_row" = true)
    (k5 : PySem.W.keepIn K (.ref f5) = true)
    (a6 : PySem.W.nsIn K mainGlobals "_law_dressed" = some (some (.ref f6)))
    (l6 : K.lookup f6 = some ⟨oc6, od6, .func (PySem.W.fnOf "_law_dressed" "_law_dressed" (defArgs s_law_dressed) (defBody s_law_dressed) (defScope s_law_dressed) .none kV6 dc6 pm6 an6 cd6 ct6), sl6⟩)
    (c6 : PySem.W.codeIn K cd6 "_law_dressed" = true)
    (k6 : PySem.W.keepIn K (.ref f6) = true)
    (a7 : PySem.W.findIn K (.ref C1) "__init__" = some (some (.ref f7)))
    (i7 : PySem.W.isFn K (.ref f7) = true)
    (l7 : K.lookup f7 = some ⟨oc7, od7, .func (PySem.W.fnOf "__init__" "Layout.__init__" (defArgs s_Layout___init__) (defBody s_Layout___init__) (defScope s_Layout___init__) .none kV7 dc7 pm7 an7 cd7 ct7), sl7⟩)
    (c7 : PySem.W.codeIn K cd7 "Layout.__init__" = true)
    (k7 : PySem.W.keepIn K (.ref f7) = true)
    (a8 : PySem.W.nsIn K mainGlobals "flat_one" = some (some (.ref f8)))
    (l8 : K.lookup f8 = some ⟨oc8, od8, .func (PySem.W.fnOf "flat_one" "flat_one" (defArgs s_flat_one) (defBody s_flat_one) (defScope s_flat_one) .none (.ref D8) dc8 pm8 an8 cd8 ct8), sl8⟩)
    (c8 : PySem.W.codeIn K cd8 "flat_one" = true)
    (k8 : PySem.W.keepIn K (.ref f8) = true)
    (w8 : PySem.W.nsIn K D8 "ahead" = some (some .none))
    (a9 : PySem.W.nsIn K mainGlobals "shift_of" = some (some (.ref f9)))
    (l9 : K.lookup f9 = some ⟨oc9, od9, .func (PySem.W.fnOf "shift_of" "shift_of" (defArgs s_shift_of) (defBody s_shift_of) (defScope s_shift_of) .none kV9 dc9 pm9 an9 cd9 ct9), sl9⟩)
    (c9 : PySem.W.codeIn K cd9 "shift_of" = true)
    (k9 : PySem.W.keepIn K (.ref f9) = true)
    (a10 : PySem.W.findIn K (.ref C1) "moved_by" = some (some (.ref f10)))
    (i10 : PySem.W.isFn K (.ref f10) = true)
    (l10 : K.lookup f10 = some ⟨oc10, od10, .func (PySem.W.fnOf "moved_by" "Layout.moved_by" (defArgs s_Layout_moved_by) (defBody s_Layout_moved_by) (defScope s_Layout_moved_by) .none kV10 dc10 pm10 an10 cd10 ct10), sl10⟩)
    (c10 : PySem.W.codeIn K cd10 "Layout.moved_by" = true)
    (k10 : PySem.W.keepIn K (.ref f10) = true)
    (a11 : PySem.W.findIn K (.ref C1) "mirrored" = some (some (.ref f11)))
    (i11 : PySem.W.isFn K (.ref f11) = true)
    (l11 : K.lookup f11 = some ⟨oc11, od11, .func (PySem.W.fnOf "mirrored" "Layout.mirrored" (defArgs s_Layout_mirrored) (defBody s_Layout_mirrored) (defScope s_Layout_mirrored) .none kV11 dc11 pm11 an11 cd11 ct11), sl11⟩)
    (c11 : PySem.W.codeIn K cd11 "Layout.mirrored" = true)
    (k11 : PySem.W.keepIn K (.ref f11) = true)
    (a12 : PySem.W.nsIn K mainGlobals "wide_behind" = some (some (.ref f12)))
    (l12 : K.lookup f12 = some ⟨oc12, od12, .func (PySem.W.fnOf "wide_behind" "wide_behind" (defArgs s_wide_behind) (defBody s_wide_behind) (defScope s_wide_behind) .none kV12 dc12 pm12 an12 cd12 ct12), sl12⟩)
    (c12 : PySem.W.codeIn K cd12 "wide_behind" = true)
    (k12 : PySem.W.keepIn K (.ref f12) = true)
    (a13 : PySem.W.nsIn K mainGlobals "sum_of" = some (some (.ref f13)))
    (l13 : K.lookup f13 = some ⟨oc13, od13, .func (PySem.W.fnOf "sum_of" "sum_of" (defArgs s_sum_of) (defBody s_sum_of) (defScope s_sum_of) .none kV13 dc13 pm13 an13 cd13 ct13), sl13⟩)
    (c13 : PySem.W.codeIn K cd13 "sum_of" = true)
    (k13 : PySem.W.keepIn K (.ref f13) = true)
    (a14 : PySem.W.findIn K (.ref C1) "behind" = some (some (.ref f14)))
    (i14 : PySem.W.isFn K (.ref f14) = true)
    (l14 : K.lookup f14 = some ⟨oc14, od14, .func (PySem.W.fnOf "behind" "Layout.behind" (defArgs s_Layout_behind) (defBody s_Layout_behind) (defScope s_Layout_behind) .none kV14 dc14 pm14 an14 cd14 ct14), sl14⟩)
    (c14 : PySem.W.codeIn K cd14 "Layout.behind" = true)
    (k14 : PySem.W.keepIn K (.ref f14) = true)
    (a15 : PySem.W.nsIn K mainGlobals "layouts" = some (some (.ref f15)))
    (l15 : K.lookup f15 = some ⟨oc15, od15, .func (PySem.W.fnOf "layouts" "layouts" (defArgs s_layouts) (defBody s_layouts) (defScope s_layouts) .none (.ref D15) dc15 pm15 an15 cd15 ct15), sl15⟩)
    (c15 : PySem.W.codeIn K cd15 "layouts" = true)
    (k15 : PySem.W.keepIn K (.ref f15) = true)
    (w15 : PySem.W.nsIn K D15 "ahead" = some (some .none))
    (a16 : PySem.W.nsIn K mainGlobals "is_whole" = some (some (.ref f16)))
    (l16 : K.lookup f16 = some ⟨oc16, od16, .func (PySem.W.fnOf "is_whole" "is_whole" (defArgs s_is_whole) (defBody s_is_whole) (defScope s_is_whole) .none kV16 dc16 pm16 an16 cd16 ct16), sl16⟩)
    (c16 : PySem.W.codeIn K cd16 "is_whole" = true)
    (k16 : PySem.W.keepIn K (.ref f16) = true)
    (a17 : PySem.W.nsIn K mainGlobals "need_places" = some (some (.ref f17)))
    (l17 : K.lookup f17 = some ⟨oc17, od17, .func (PySem.W.fnOf "need_places" "need_places" (defArgs s_need_places) (defBody s_need_places) (defScope s_need_places) .none kV17 dc17 pm17 an17 cd17 ct17), sl17⟩)
    (c17 : PySem.W.codeIn K cd17 "need_places" = true)
    (k17 : PySem.W.keepIn K (.ref f17) = true)
    (a18 : PySem.W.nsIn K mainGlobals "is_many" = some (some (.ref f18)))
    (l18 : K.lookup f18 = some ⟨oc18, od18, .func (PySem.W.fnOf "is_many" "is_many" (defArgs s_is_many) (defBody s_is_many) (defScope s_is_many) .none kV18 dc18 pm18 an18 cd18 ct18), sl18⟩)
    (c18 : PySem.W.codeIn K cd18 "is_many" = true)
    (k18 : PySem.W.keepIn K (.ref f18) = true)
    (a19 : PySem.W.nsIn K mainGlobals "deed_of" = some (some (.ref f19)))
    (l19 : K.lookup f19 = some ⟨oc19, od19, .func (PySem.W.fnOf "deed_of" "deed_of" (defArgs s_deed_of) (defBody s_deed_of) (defScope s_deed_of) .none kV19 dc19 pm19 an19 cd19 ct19), sl19⟩)
    (c19 : PySem.W.codeIn K cd19 "deed_of" = true)
    (k19 : PySem.W.keepIn K (.ref f19) = true)
    (a20 : PySem.W.findIn K (.ref C1) "lets" = some (some (.ref f20)))
    (i20 : PySem.W.isFn K (.ref f20) = true)
    (l20 : K.lookup f20 = some ⟨oc20, od20, .func (PySem.W.fnOf "lets" "Layout.lets" (defArgs s_Layout_lets) (defBody s_Layout_lets) (defScope s_Layout_lets) .none kV20 dc20 pm20 an20 cd20 ct20), sl20⟩)
    (c20 : PySem.W.codeIn K cd20 "Layout.lets" = true)
    (k20 : PySem.W.keepIn K (.ref f20) = true)
    (a21 : PySem.W.nsIn K mainGlobals "read_row" = some (some (.ref f21)))
    (l21 : K.lookup f21 = some ⟨oc21, od21, .func (PySem.W.fnOf "read_row" "read_row" (defArgs s_read_row) (defBody s_read_row) (defScope s_read_row) .none kV21 dc21 pm21 an21 cd21 ct21), sl21⟩)
    (c21 : PySem.W.codeIn K cd21 "read_row" = true)
    (k21 : PySem.W.keepIn K (.ref f21) = true)
    (a22 : PySem.W.nsIn K mainGlobals "row_of" = some (some (.ref f22)))
    (l22 : K.lookup f22 = some ⟨oc22, od22, .func (PySem.W.fnOf "row_of" "row_of" (defArgs s_row_of) (defBody s_row_of) (defScope s_row_of) .none kV22 dc22 pm22 an22 cd22 ct22), sl22⟩)
    (c22 : PySem.W.codeIn K cd22 "row_of" = true)
    (k22 : PySem.W.keepIn K (.ref f22) = true)
    (a23 : PySem.W.nsIn K mainGlobals "behind_all" = some (some (.ref f23)))
    (l23 : K.lookup f23 = some ⟨oc23, od23, .func (PySem.W.fnOf "behind_all" "behind_all" (defArgs s_behind_all) (defBody s_behind_all) (defScope s_behind_all) .none kV23 dc23 pm23 an23 cd23 ct23), sl23⟩)
    (c23 : PySem.W.codeIn K cd23 "behind_all" = true)
    (k23 : PySem.W.keepIn K (.ref f23) = true)
    (a24 : PySem.W.nsIn K mainGlobals "stretches" = some (some (.ref f24)))
    (l24 : K.lookup f24 = some ⟨oc24, od24, .func (PySem.W.fnOf "stretches" "stretches" (defArgs s_stretches) (defBody s_stretches) (defScope s_stretches) .none kV24 dc24 pm24 an24 cd24 ct24), sl24⟩)
    (c24 : PySem.W.codeIn K cd24 "stretches" = true)
    (k24 : PySem.W.keepIn K (.ref f24) = true)
    (a25 : PySem.W.nsIn K mainGlobals "by_layers" = some (some (.ref f25)))
    (l25 : K.lookup f25 = some ⟨oc25, od25, .func (PySem.W.fnOf "by_layers" "by_layers" (defArgs s_by_layers) (defBody s_by_layers) (defScope s_by_layers) .none kV25 dc25 pm25 an25 cd25 ct25), sl25⟩)
    (c25 : PySem.W.codeIn K cd25 "by_layers" = true)
    (k25 : PySem.W.keepIn K (.ref f25) = true)
    (a26 : PySem.W.nsIn K mainGlobals "_law_steps" = some (some (.ref f26)))
    (l26 : K.lookup f26 = some ⟨oc26, od26, .func (PySem.W.fnOf "_law_steps" "_law_steps" (defArgs s_law_steps) (defBody s_law_steps) (defScope s_law_steps) .none kV26 dc26 pm26 an26 cd26 ct26), sl26⟩)
    (c26 : PySem.W.codeIn K cd26 "_law_steps" = true)
    (k26 : PySem.W.keepIn K (.ref f26) = true)
    (a27 : PySem.W.nsIn K mainGlobals "_law_about" = some (some (.ref f27)))
    (l27 : K.lookup f27 = some ⟨oc27, od27, .func (PySem.W.fnOf "_law_about" "_law_about" (defArgs s_law_about) (defBody s_law_about) (defScope s_law_about) .none kV27 dc27 pm27 an27 cd27 ct27), sl27⟩)
    (c27 : PySem.W.codeIn K cd27 "_law_about" = true)
    (k27 : PySem.W.keepIn K (.ref f27) = true)
    (a28 : PySem.W.nsIn K mainGlobals "_law_done" = some (some (.ref f28)))
    (l28 : K.lookup f28 = some ⟨oc28, od28, .func (PySem.W.fnOf "_law_done" "_law_done" (defArgs s_law_done) (defBody s_law_done) (defScope s_law_done) .none kV28 dc28 pm28 an28 cd28 ct28), sl28⟩)
    (c28 : PySem.W.codeIn K cd28 "_law_done" = true)
    (k28 : PySem.W.keepIn K (.ref f28) = true)
    (a29 : PySem.W.nsIn K mainGlobals "_law_piles" = some (some (.ref f29)))
    (l29 : K.lookup f29 = some ⟨oc29, od29, .func (PySem.W.fnOf "_law_piles" "_law_piles" (defArgs s_law_piles) (defBody s_law_piles) (defScope s_law_piles) .none kV29 dc29 pm29 an29 cd29 ct29), sl29⟩)
    (c29 : PySem.W.codeIn K cd29 "_law_piles" = true)
    (k29 : PySem.W.keepIn K (.ref f29) = true)
    (a30 : PySem.W.nsIn K mainGlobals "law" = some (some (.ref f30)))
    (l30 : K.lookup f30 = some ⟨oc30, od30, .func (PySem.W.fnOf "law" "law" (defArgs s_law) (defBody s_law) (defScope s_law) .none kV30 dc30 pm30 an30 cd30 ct30), sl30⟩)
    (c30 : PySem.W.codeIn K cd30 "law" = true)
    (k30 : PySem.W.keepIn K (.ref f30) = true)
    (z_bool : PySem.W.nsIn K mainGlobals "bool" = some none)
    (z_enumerate : PySem.W.nsIn K mainGlobals "enumerate" = some none)
    (z_int : PySem.W.nsIn K mainGlobals "int" = some none)
    (z_isinstance : PySem.W.nsIn K mainGlobals "isinstance" = some none)
    (z_len : PySem.W.nsIn K mainGlobals "len" = some none)
    (z_list : PySem.W.nsIn K mainGlobals "list" = some none)
    (z_max : PySem.W.nsIn K mainGlobals "max" = some none)
    (z_min : PySem.W.nsIn K mainGlobals "min" = some none)
    (z_range : PySem.W.nsIn K mainGlobals "range" = some none)
    (z_repr : PySem.W.nsIn K mainGlobals "repr" = some none)
    (z_set : PySem.W.nsIn K mainGlobals "set" = some none)
    (z_sorted : PySem.W.nsIn K mainGlobals "sorted" = some none)
    (z_str : PySem.W.nsIn K mainGlobals "str" = some none)
    (z_sum : PySem.W.nsIn K mainGlobals "sum" = some none)
    (z_tuple : PySem.W.nsIn K mainGlobals "tuple" = some none)
    (z_zip : PySem.W.nsIn K mainGlobals "zip" = some none)
    (g_MOST_DEEDS : PySem.W.nsIn K mainGlobals "MOST_DEEDS" = some (some (.int 40 t_MOST_DEEDS)))
    (g_MOST_PLACES : PySem.W.nsIn K mainGlobals "MOST_PLACES" = some (some (.int 1000000000000000000000000000000 t_MOST_PLACES)))
    (g_OVER : PySem.W.nsIn K mainGlobals "OVER" = some (some (.str "over" t_OVER)))
    (g_TURN : PySem.W.nsIn K mainGlobals "TURN" = some (some (.str "turn" t_TURN)))
    (g_UNDER : PySem.W.nsIn K mainGlobals "UNDER" = some (some (.str "under" t_UNDER)))
    : ∃ fd : FuncData, (∀ (s : Shared) (v : Value), BindsTo s fd ⟨[v], []⟩ [("script", v)]) ∧ ∀ base : Heap, K.In base → base.Ns mainGlobals mg → FnG l.prog w K mg base 9 fa fd ["script"] (spD K mg [] [false] (Law 63)) := by
  have e := hfa.symm.trans (PySem.W.mg_of X G a30)
  cases e
  have M : Mg K mg := ⟨PySem.W.mg_none_of X G z_bool, PySem.W.mg_none_of X G z_enumerate, PySem.W.mg_none_of X G z_int, PySem.W.mg_none_of X G z_isinstance, PySem.W.mg_none_of X G z_len, PySem.W.mg_none_of X G z_list, PySem.W.mg_none_of X G z_max, PySem.W.mg_none_of X G z_min, PySem.W.mg_none_of X G z_range, PySem.W.mg_none_of X G z_repr, PySem.W.mg_none_of X G z_set, PySem.W.mg_none_of X G z_sorted, PySem.W.mg_none_of X G z_str, PySem.W.mg_none_of X G z_sum, PySem.W.mg_none_of X G z_tuple, PySem.W.mg_none_of X G z_zip, ⟨_, PySem.W.mg_of X G g_MOST_DEEDS⟩, ⟨_, PySem.W.mg_of X G g_MOST_PLACES⟩, ⟨_, PySem.W.mg_of X G g_OVER⟩, ⟨_, PySem.W.mg_of X G g_TURN⟩, ⟨_, PySem.W.mg_of X G g_UNDER⟩⟩
  have cl1 : Cls K C1 := ⟨pg1, hd1, po1, sa1⟩
  have K_Layout : ClsOk K mg "Layout" ["width", "steps"] := ⟨C1, PySem.W.mg_of X G nC1, cl1, fun f hf => by
    simp only [List.mem_cons, List.not_mem_nil, or_false] at hf
    rcases hf with rfl | rfl
    · exact nf1_width
    · exact nf1_steps⟩
  have X_NoPlaces : XC K mg "NoPlaces" := ⟨⟨X1, PySem.W.mg_of X G nX1, xF1, kX1, bX1, tX1⟩⟩
  have X_NoRow : XC K mg "NoRow" := ⟨⟨X2, PySem.W.mg_of X G nX2, xF2, kX2, bX2, tX2⟩⟩
  have F1 := fun_mk (st := s_law_reel) l1 c1 k1
  have F2 := fun_mk (st := s_law_draw) l2 c2 k2
  have F3 := fun_mk (st := s_law_wide) l3 c3 k3
  have F4 := fun_mk (st := s_law_deed) l4 c4 k4
  have F5 := fun_mk (st := s_law_row) l5 c5 k5
  have F6 := fun_mk (st := s_law_dressed) l6 c6 k6
  have F7 := fun_mk (st := s_Layout___init__) l7 c7 k7
  have F8 := fun_mk (st := s_flat_one) l8 c8 k8
  have F9 := fun_mk (st := s_shift_of) l9 c9 k9
  have F10 := fun_mk (st := s_Layout_moved_by) l10 c10 k10
  have F11 := fun_mk (st := s_Layout_mirrored) l11 c11 k11
  have F12 := fun_mk (st := s_wide_behind) l12 c12 k12
  have F13 := fun_mk (st := s_sum_of) l13 c13 k13
  have F14 := fun_mk (st := s_Layout_behind) l14 c14 k14
  have F15 := fun_mk (st := s_layouts) l15 c15 k15
  have F16 := fun_mk (st := s_is_whole) l16 c16 k16
  have F17 := fun_mk (st := s_need_places) l17 c17 k17
  have F18 := fun_mk (st := s_is_many) l18 c18 k18
  have F19 := fun_mk (st := s_deed_of) l19 c19 k19
  have F20 := fun_mk (st := s_Layout_lets) l20 c20 k20
  have F21 := fun_mk (st := s_read_row) l21 c21 k21
  have F22 := fun_mk (st := s_row_of) l22 c22 k22
  have F23 := fun_mk (st := s_behind_all) l23 c23 k23
  have F24 := fun_mk (st := s_stretches) l24 c24 k24
  have F25 := fun_mk (st := s_by_layers) l25 c25 k25
  have F26 := fun_mk (st := s_law_steps) l26 c26 k26
  have F27 := fun_mk (st := s_law_about) l27 c27 k27
  have F28 := fun_mk (st := s_law_done) l28 c28 k28
  have F29 := fun_mk (st := s_law_piles) l29 c29 k29
  have F30 := fun_mk (st := s_law) l30 c30 k30
  refine ⟨PySem.W.fnOf "law" "law" (defArgs s_law) (defBody s_law) (defScope s_law) .none kV30 dc30 pm30 an30 cd30 ct30, fun s v => .of_eq rfl, fun base _ _ => ?_⟩
  have C_law_reel : FD l.prog w K mg [] base 1 "_law_reel" 1 [false] _root_.LA.F_law_reel := FD.of (ok_law_reel F1 M   _root_.LA.W_law_reel) (PySem.W.mg_of X G a1) F1.kp (F1.binds fun _ _ _ _ _ _ us hl => match us, hl with | [_], _ => rfl)
  have C_law_draw : FD l.prog w K mg [] base 1 "_law_draw" 2 [true, false] _root_.LA.F_law_draw := FD.of (ok_law_draw F2 M   _root_.LA.W_law_draw) (PySem.W.mg_of X G a2) F2.kp (F2.binds fun _ _ _ _ _ _ us hl => match us, hl with | [_, _], _ => rfl)
  have C_law_wide : FD l.prog w K mg [] base 1 "_law_wide" 2 [false, false] _root_.LA.F_law_wide := FD.of (ok_law_wide F3 M   _root_.LA.W_law_wide) (PySem.W.mg_of X G a3) F3.kp (F3.binds fun _ _ _ _ _ _ us hl => match us, hl with | [_, _], _ => rfl)
  have C_law_deed : FD l.prog w K mg [] base 2 "_law_deed" 2 [true, false] _root_.LA.F_law_deed := FD.of (ok_law_deed F4 M  (C_law_draw.mono (by decide)) _root_.LA.W_law_deed) (PySem.W.mg_of X G a4) F4.kp (F4.binds fun _ _ _ _ _ _ us hl => match us, hl with | [_, _], _ => rfl)
  have C_law_row : FD l.prog w K mg [] base 3 "_law_row" 3 [true, false, false] _root_.LA.F_law_row := FD.of (ok_law_row F5 M  (C_law_draw.mono (by decide)) (C_law_wide.mono (by decide)) (C_law_deed.mono (by decide)) _root_.LA.W_law_row) (PySem.W.mg_of X G a5) F5.kp (F5.binds fun _ _ _ _ _ _ us hl => match us, hl with | [_, _, _], _ => rfl)
  have C_law_dressed_z : FD l.prog w K mg [] base 1 "_law_dressed" 2 [true, false] (fun _ _ _ => False) := FD.of (ps := ["reel", "thing"]) ⟨fun vs H Q E z => by obtain ⟨_, _, _, _, _, _, _, _, _, z, _⟩ := z; exact z.elim, fun A outer s H args us vs Q E _ _ _ _ z => by obtain ⟨_, _, _, _, _, _, _, _, _, z, _⟩ := z; exact z.elim⟩ (PySem.W.mg_of X G a6) F6.kp (F6.binds fun _ _ _ _ _ _ us hl => match us, hl with | [_, _], _ => rfl)
  have C_law_dressed_0 : FD l.prog w K mg [] base 2 "_law_dressed" 2 [true, false] (_root_.LA.F_law_dressed 0) := FD.of (ok_law_dressed F6 M  (C_law_draw.mono (by decide)) C_law_dressed_z _root_.LA.W_law_dressed0) (PySem.W.mg_of X G a6) F6.kp (F6.binds fun _ _ _ _ _ _ us hl => match us, hl with | [_, _], _ => rfl)
  have C_law_dressed_1 : FD l.prog w K mg [] base 3 "_law_dressed" 2 [true, false] (_root_.LA.F_law_dressed 1) := FD.of (ok_law_dressed F6 M  (C_law_draw.mono (by decide)) C_law_dressed_0 (_root_.LA.W_law_dressed 0)) (PySem.W.mg_of X G a6) F6.kp (F6.binds fun _ _ _ _ _ _ us hl => match us, hl with | [_, _], _ => rfl)
  have C_law_dressed_2 : FD l.prog w K mg [] base 4 "_law_dressed" 2 [true, false] (_root_.LA.F_law_dressed 2) := FD.of (ok_law_dressed F6 M  (C_law_draw.mono (by decide)) C_law_dressed_1 (_root_.LA.W_law_dressed 1)) (PySem.W.mg_of X G a6) F6.kp (F6.binds fun _ _ _ _ _ _ us hl => match us, hl with | [_, _], _ => rfl)
  have C_law_dressed := C_law_dressed_2
  have C_Layout___init__ : KD l.prog w K mg [] base 1 "Layout" [false, false] _root_.P.F_Layout___init__ := KD.of (ok_Layout___init__ F7 M K_Layout  _root_.P.W_Layout___init__) (PySem.W.mg_of X G nC1) ⟨mk1, a7, i7, kc1⟩ (F7.binds fun _ _ _ _ _ _ us hl => match us, hl with | [_, _, _], _ => rfl)
  have C_flat_one : FDK l.prog w K mg [] base 3 "flat_one" 2 ["ahead"] [false, false] _root_.P.F_flat_one := FDK.of (ok_flat_one F8 M  (C_Layout___init__.mono (by decide)) _root_.P.W_flat_one) (PySem.W.mg_of X G a8) F8.kp
    (FunD.binds0 (kws := [("ahead", V.non)]) ⟨⟨_, _, _, _, _, _, _, _, _, _, rfl, l8, c8, .inl ⟨rfl, rfl⟩, .inr ⟨D8, rfl, fun q hq => by rw [List.mem_singleton.mp hq]; exact ⟨_, w8, rfl⟩⟩⟩, k8⟩ 1 (by simp) rfl fun D doc pm an cdv ct us ks h1 h2 => match us, ks, h1, h2 with | [_], [_], _, _ => ⟨_, _, _, _, _, _, rfl, rfl, rfl⟩)
    (kb_of (fun us ws h1 h2 => match us, ws, h1, h2 with | [_], [_], _, _ => rfl) (by decide))
  have C_shift_of : FD l.prog w K mg [] base 1 "shift_of" 2 [false, false] _root_.P.F_shift_of := FD.of (ok_shift_of F9 M   _root_.P.W_shift_of) (PySem.W.mg_of X G a9) F9.kp (F9.binds fun _ _ _ _ _ _ us hl => match us, hl with | [_, _], _ => rfl)
  have C_Layout_moved_by : MD l.prog w K mg [] base 2 "Layout" "moved_by" 2 [false, false] _root_.P.F_Layout_moved_by := MD.of (ok_Layout_moved_by F10 M K_Layout (C_shift_of.mono (by decide)) _root_.P.W_Layout_moved_by) (PySem.W.mg_of X G nC1) cl1 ⟨a10, i10, k10⟩ (F10.binds fun _ _ _ _ _ _ us hl => match us, hl with | [_, _], _ => rfl)
  have C_Layout_mirrored : MD l.prog w K mg [] base 1 "Layout" "mirrored" 3 [false, false, false] _root_.P.F_Layout_mirrored := MD.of (ok_Layout_mirrored F11 M K_Layout  _root_.P.W_Layout_mirrored) (PySem.W.mg_of X G nC1) cl1 ⟨a11, i11, k11⟩ (F11.binds fun _ _ _ _ _ _ us hl => match us, hl with | [_, _, _], _ => rfl)
  have C_wide_behind : FD l.prog w K mg [] base 1 "wide_behind" 2 [false, false] _root_.P.F_wide_behind := FD.of (ok_wide_behind F12 M   _root_.P.W_wide_behind) (PySem.W.mg_of X G a12) F12.kp (F12.binds fun _ _ _ _ _ _ us hl => match us, hl with | [_, _], _ => rfl)
  have C_sum_of : FD l.prog w K mg [] base 1 "sum_of" 2 [false, false] _root_.P.F_sum_of := FD.of (ok_sum_of F13 M   _root_.P.W_sum_of) (PySem.W.mg_of X G a13) F13.kp (F13.binds fun _ _ _ _ _ _ us hl => match us, hl with | [_, _], _ => rfl)
  have C_Layout_behind : MD l.prog w K mg [] base 4 "Layout" "behind" 2 [false, false] _root_.P.F_Layout_behind := MD.of (ok_Layout_behind F14 M K_Layout (C_Layout___init__.mono (by decide)) (C_sum_of.mono (by decide)) (C_wide_behind.mono (by decide)) (C_Layout_mirrored.mono (by decide)) (C_Layout_moved_by.mono (by decide)) _root_.P.W_Layout_behind) (PySem.W.mg_of X G nC1) cl1 ⟨a14, i14, k14⟩ (F14.binds fun _ _ _ _ _ _ us hl => match us, hl with | [_, _], _ => rfl)
  have C_layouts : FDK l.prog w K mg [] base 5 "layouts" 3 ["ahead"] [false, false, false] _root_.P.F_layouts := FDK.of (ok_layouts F15 M  (C_Layout_behind.mono (by decide)) (C_flat_one.mono (by decide)) _root_.P.W_layouts) (PySem.W.mg_of X G a15) F15.kp
    (FunD.binds0 (kws := [("ahead", V.non)]) ⟨⟨_, _, _, _, _, _, _, _, _, _, rfl, l15, c15, .inl ⟨rfl, rfl⟩, .inr ⟨D15, rfl, fun q hq => by rw [List.mem_singleton.mp hq]; exact ⟨_, w15, rfl⟩⟩⟩, k15⟩ 2 (by simp) rfl fun D doc pm an cdv ct us ks h1 h2 => match us, ks, h1, h2 with | [_, _], [_], _, _ => ⟨_, _, _, _, _, _, rfl, rfl, rfl⟩)
    (kb_of (fun us ws h1 h2 => match us, ws, h1, h2 with | [_, _], [_], _, _ => rfl) (by decide))
  have C_is_whole : FD l.prog w K mg [] base 1 "is_whole" 1 [false] _root_.P.F_is_whole := FD.of (ok_is_whole F16 M   _root_.P.W_is_whole) (PySem.W.mg_of X G a16) F16.kp (F16.binds fun _ _ _ _ _ _ us hl => match us, hl with | [_], _ => rfl)
  have C_need_places : FD l.prog w K mg [] base 2 "need_places" 1 [false] _root_.P.F_need_places := FD.of (ok_need_places F17 M X_NoPlaces (C_is_whole.mono (by decide)) _root_.P.W_need_places) (PySem.W.mg_of X G a17) F17.kp (F17.binds fun _ _ _ _ _ _ us hl => match us, hl with | [_], _ => rfl)
  have C_is_many : FD l.prog w K mg [] base 1 "is_many" 1 [false] _root_.P.F_is_many := FD.of (ok_is_many F18 M   _root_.P.W_is_many) (PySem.W.mg_of X G a18) F18.kp (F18.binds fun _ _ _ _ _ _ us hl => match us, hl with | [_], _ => rfl)
  have C_deed_of : FD l.prog w K mg [] base 2 "deed_of" 1 [false] _root_.P.F_deed_of := FD.of (ok_deed_of F19 M  (C_is_whole.mono (by decide)) (C_is_many.mono (by decide)) _root_.P.W_deed_of) (PySem.W.mg_of X G a19) F19.kp (F19.binds fun _ _ _ _ _ _ us hl => match us, hl with | [_], _ => rfl)
  have C_Layout_lets : MD l.prog w K mg [] base 1 "Layout" "lets" 2 [false, false] _root_.P.F_Layout_lets := MD.of (ok_Layout_lets F20 M K_Layout  _root_.P.W_Layout_lets) (PySem.W.mg_of X G nC1) cl1 ⟨a20, i20, k20⟩ (F20.binds fun _ _ _ _ _ _ us hl => match us, hl with | [_, _], _ => rfl)
  have C_read_row : FD l.prog w K mg [] base 5 "read_row" 2 [false, false] _root_.P.F_read_row := FD.of (ok_read_row F21 M  (C_Layout_behind.mono (by decide)) (C_Layout_lets.mono (by decide)) (C_deed_of.mono (by decide)) (C_flat_one.mono (by decide)) (C_is_many.mono (by decide)) _root_.P.W_read_row) (PySem.W.mg_of X G a21) F21.kp (F21.binds fun _ _ _ _ _ _ us hl => match us, hl with | [_, _], _ => rfl)
  have C_row_of : FD l.prog w K mg [] base 6 "row_of" 2 [false, false] _root_.P.F_row_of := FD.of (ok_row_of F22 M X_NoRow (C_read_row.mono (by decide)) (C_need_places.mono (by decide)) _root_.P.W_row_of) (PySem.W.mg_of X G a22) F22.kp (F22.binds fun _ _ _ _ _ _ us hl => match us, hl with | [_, _], _ => rfl)
  have C_behind_all : FD l.prog w K mg [] base 7 "behind_all" 2 [false, false] _root_.P.F_behind_all := FD.of (ok_behind_all F23 M  (C_layouts.mono (by decide)) (C_row_of.mono (by decide)) _root_.P.W_behind_all) (PySem.W.mg_of X G a23) F23.kp (F23.binds fun _ _ _ _ _ _ us hl => match us, hl with | [_, _], _ => rfl)
  have C_stretches : FD l.prog w K mg [] base 8 "stretches" 2 [false, false] _root_.P.F_stretches := FD.of (ok_stretches F24 M K_Layout (C_behind_all.mono (by decide)) _root_.P.W_stretches) (PySem.W.mg_of X G a24) F24.kp (F24.binds fun _ _ _ _ _ _ us hl => match us, hl with | [_, _], _ => rfl)
  have C_by_layers : FD l.prog w K mg [] base 8 "by_layers" 2 [false, false] _root_.P.F_by_layers := FD.of (ok_by_layers F25 M K_Layout (C_behind_all.mono (by decide)) _root_.P.W_by_layers) (PySem.W.mg_of X G a25) F25.kp (F25.binds fun _ _ _ _ _ _ us hl => match us, hl with | [_, _], _ => rfl)
  have C_law_steps : FD l.prog w K mg [] base 1 "_law_steps" 1 [false] _root_.K03.F_law_steps := FD.of (ok_law_steps F26 M   _root_.K03.W_law_steps) (PySem.W.mg_of X G a26) F26.kp (F26.binds fun _ _ _ _ _ _ us hl => match us, hl with | [_], _ => rfl)
  have C_law_about : FD l.prog w K mg [] base 1 "_law_about" 1 [false] _root_.LA.F_law_about := FD.of (ok_law_about F27 M   _root_.LA.W_law_about) (PySem.W.mg_of X G a27) F27.kp (F27.binds fun _ _ _ _ _ _ us hl => match us, hl with | [_], _ => rfl)
  have C_law_done : FD l.prog w K mg [] base 2 "_law_done" 2 [false, false] _root_.LA.F_law_done := FD.of (ok_law_done F28 M  (C_law_about.mono (by decide)) _root_.LA.W_law_done) (PySem.W.mg_of X G a28) F28.kp (F28.binds fun _ _ _ _ _ _ us hl => match us, hl with | [_, _], _ => rfl)
  have C_law_piles : FD l.prog w K mg [] base 3 "_law_piles" 2 [false, false] _root_.LA.F_law_piles := FD.of (ok_law_piles F29 M  (C_law_done.mono (by decide)) _root_.LA.W_law_piles) (PySem.W.mg_of X G a29) F29.kp (F29.binds fun _ _ _ _ _ _ us hl => match us, hl with | [_, _], _ => rfl)
  exact ok_law F30 M  (C_law_steps.mono (by decide)) (C_stretches.mono (by decide)) (C_by_layers.mono (by decide)) (C_law_dressed.mono (by decide)) (C_law_piles.mono (by decide)) (C_law_row.mono (by decide)) (C_law_draw.mono (by decide)) (C_law_reel.mono (by decide)) _root_.K03.W_law
end K03
open PySem PySem.W PyProof.Rows
set_option maxHeartbeats 0 in
theorem PySem.Challenge.cw_foldvat_k03_stretches_holds : PySem.Challenge.rw_foldvat_k03_stretches.Holds := by
  w_on; o_law; k_head; (case hw => w_witness2)
  k_fill
  refine DL.walk_G (l := PySem.Challenge.rw_foldvat_k03_stretches) (n := 63) (k := 9) (x := "script") (sp := fun w mg => DL.spD _ mg [] [false] (DL.Law 63)) rfl (by decide) rfl ⟨rfl, by decide, by decide⟩ (fun w h Y => by first | exact PySem.W.kIn_of Y | exact PySem.W.km_in_of Y) ?F (fun _ _ H a ns hl _ hS => DL.law_sp hl hS (fun _ hp => by cases hp))
  case F =>
    intro w mg fa h KX G hmg
    refine' K03.all_mk KX G hmg ?nC1 ?pg1 ?hd1 ?po1 ?sa1 ?mk1 ?kc1 ?nf1_width ?nf1_steps ?nX1 ?xF1 ?kX1 ?bX1 ?tX1 ?nX2 ?xF2 ?kX2 ?bX2 ?tX2 ?a1 ?l1 ?c1 ?k1 ?a2 ?l2 ?c2 ?k2 ?a3 ?l3 ?c3 ?k3 ?a4 ?l4 ?c4 ?k4 ?a5 ?l5 ?c5 ?k5 ?a6 ?l6 ?c6 ?k6 ?a7 ?i7 ?l7 ?c7 ?k7 ?a8 ?l8 ?c8 ?k8 ?w8 ?a9 ?l9 ?c9 ?k9 ?a10 ?i10 ?l10 ?c10 ?k10 ?a11 ?i11 ?l11 ?c11 ?k11 ?a12 ?l12 ?c12 ?k12 ?a13 ?l13 ?c13 ?k13 ?a14 ?i14 ?l14 ?c14 ?k14 ?a15 ?l15 ?c15 ?k15 ?w15 ?a16 ?l16 ?c16 ?k16 ?a17 ?l17 ?c17 ?k17 ?a18 ?l18 ?c18 ?k18 ?a19 ?l19 ?c19 ?k19 ?a20 ?i20 ?l20 ?c20 ?k20 ?a21 ?l21 ?c21 ?k21 ?a22 ?l22 ?c22 ?k22 ?a23 ?l23 ?c23 ?k23 ?a24 ?l24 ?c24 ?k24 ?a25 ?l25 ?c25 ?k25 ?a26 ?l26 ?c26 ?k26 ?a27 ?l27 ?c27 ?k27 ?a28 ?l28 ?c28 ?k28 ?a29 ?l29 ?c29 ?k29 ?a30 ?l30 ?c30 ?k30 ?z_bool ?z_enumerate ?z_int ?z_isinstance ?z_len ?z_list ?z_max ?z_min ?z_range ?z_repr ?z_set ?z_sorted ?z_str ?z_sum ?z_tuple ?z_zip ?g_MOST_DEEDS ?g_MOST_PLACES ?g_OVER ?g_TURN ?g_UNDER
    (case nC1 => k_is)
    (case pg1 => k_is)
    (case hd1 => k_is)
    (case po1 => k_is)
    (case sa1 => k_is)
    (case mk1 => k_is)
    (case kc1 => k_is)
    (case nf1_width => k_is)
    (case nf1_steps => k_is)
    (case nX1 => k_is)
    (case xF1 => k_exc)
    (case kX1 => k_is)
    (case bX1 => k_is)
    (case tX1 => k_is)
    (case nX2 => k_is)
    (case xF2 => k_exc)
    (case kX2 => k_is)
    (case bX2 => k_is)
    (case tX2 => k_is)
    (case a1 => k_is)
    (case l1 => k_is)
    (case c1 => k_is)
    (case k1 => k_is)
    (case a2 => k_is)
    (case l2 => k_is)
    (case c2 => k_is)
    (case k2 => k_is)
    (case a3 => k_is)
    (case l3 => k_is)
    (case c3 => k_is)
    (case k3 => k_is)
    (case a4 => k_is)
    (case l4 => k_is)
    (case c4 => k_is)
    (case k4 => k_is)
    (case a5 => k_is)
    (case l5 => k_is)
    (case c5 => k_is)
    (case k5 => k_is)
    (case a6 => k_is)
    (case l6 => k_is)
    (case c6 => k_is)
    (case k6 => k_is)
    (case a7 => k_is)
    (case i7 => k_is)
    (case l7 => k_is)
    (case c7 => k_is)
    (case k7 => k_is)
    (case a8 => k_is)
    (case l8 => k_is)
    (case c8 => k_is)
    (case k8 => k_is)
    (case w8 => k_is)
    (case a9 => k_is)
    (case l9 => k_is)
    (case c9 => k_is)
    (case k9 => k_is)
    (case a10 => k_is)
    (case i10 => k_is)
    (case l10 => k_is)
    (case c10 => k_is)
    (case k10 => k_is)
    (case a11 => k_is)
    (case i11 => k_is)
    (case l11 => k_is)
    (case c11 => k_is)
    (case k11 => k_is)
    (case a12 => k_is)
    (case l12 => k_is)
    (case c12 => k_is)
    (case k12 => k_is)
    (case a13 => k_is)
    (case l13 => k_is)
    (case c13 => k_is)
    (case k13 => k_is)
    (case a14 => k_is)
    (case i14 => k_is)
    (case l14 => k_is)
    (case c14 => k_is)
    (case k14 => k_is)
    (case a15 => k_is)
    (case l15 => k_is)
    (case c15 => k_is)
    (case k15 => k_is)
    (case w15 => k_is)
    (case a16 => k_is)
    (case l16 => k_is)
    (case c16 => k_is)
    (case k16 => k_is)
    (case a17 => k_is)
    (case l17 => k_is)
    (case c17 => k_is)
    (case k17 => k_is)
    (case a18 => k_is)
    (case l18 => k_is)
    (case c18 => k_is)
    (case k18 => k_is)
    (case a19 => k_is)
    (case l19 => k_is)
    (case c19 => k_is)
    (case k19 => k_is)
    (case a20 => k_is)
    (case i20 => k_is)
    (case l20 => k_is)
    (case c20 => k_is)
    (case k20 => k_is)
    (case a21 => k_is)
    (case l21 => k_is)
    (case c21 => k_is)
    (case k21 => k_is)
    (case a22 => k_is)
    (case l22 => k_is)
    (case c22 => k_is)
    (case k22 => k_is)
    (case a23 => k_is)
    (case l23 => k_is)
    (case c23 => k_is)
    (case k23 => k_is)
    (case a24 => k_is)
    (case l24 => k_is)
    (case c24 => k_is)
    (case k24 => k_is)
    (case a25 => k_is)
    (case l25 => k_is)
    (case c25 => k_is)
    (case k25 => k_is)
    (case a26 => k_is)
    (case l26 => k_is)
    (case c26 => k_is)
    (case k26 => k_is)
    (case a27 => k_is)
    (case l27 => k_is)
    (case c27 => k_is)
    (case k27 => k_is)
    (case a28 => k_is)
    (case l28 => k_is)
    (case c28 => k_is)
    (case k28 => k_is)
    (case a29 => k_is)
    (case l29 => k_is)
    (case c29 => k_is)
    (case k29 => k_is)
    (case a30 => k_is)
    (case l30 => k_is)
    (case c30 => k_is)
    (case k30 => k_is)
    (case z_bool => k_is)
    (case z_enumerate => k_is)
    (case z_int => k_is)
    (case z_isinstance => k_is)
    (case z_len => k_is)
    (case z_list => k_is)
    (case z_max => k_is)
    (case z_min => k_is)
    (case z_range => k_is)
    (case z_repr => k_is)
    (case z_set => k_is)
    (case z_sorted => k_is)
    (case z_str => k_is)
    (case z_sum => k_is)
    (case z_tuple => k_is)
    (case z_zip => k_is)
    (case g_MOST_DEEDS => k_is)
    (case g_MOST_PLACES => k_is)
    (case g_OVER => k_is)
    (case g_TURN => k_is)
    (case g_UNDER => k_is)


