import PyProof.Rows.All
import Wide.All
import OpenK.AllK
import Wide.FinOn
import HandS.ForMost
import HandS.ForExc
import HandS.Wide
import HandS.Deep
import HandS.TupLe
import HandS.Style
import HandS.Small
import HandS.Zip
import HandS.IsInst
import HandS.SortInts
import HandS.More
import HandS.WordsDict
import HandS.TupLen
import HandS.Text
import HandS.Replace
import PyProof.Draws
import PyProof.EnumMake
import HandS.DictComp
import KE.KRevSl
import PyProof.Rows.RegReprOcc
import PyProof.Rows.StrMul
import PyProof.Rows.StrJoinRep
import PySem.Challenge.RW_foldvat_k37_beginnings_told
set_option Elab.async false
set_option linter.all false
set_option maxRecDepth 100000
/-! DL1: data as trees over the hand layer: what a value holds, the slots of a def as trees, the readings. -/
namespace DL
open PySem PySem.Spec L2

inductive D where
  | none | bool (b : Bool) | int (i : Int) | str (x : Str)
  | list (xs : List D) | tuple (xs : List D) | dict (t : Bool) (kvs : List (D × D))
  | obj (c : Str) (fs : List (Str × D)) | exc (c : Str)
  /-- a list that nobody changes, whoever holds it (the script) -/
  | scr (xs : List D)
  /-- a tuple of the module's top -/
  | ktup (xs : List D)
mutual
/-- as plain data -/
def D.pd : D → PyData
  | .none => .none | .bool b => .bool b | .int i => .int i | .str x => .str x
  | .list xs => .list (D.pds xs) | .tuple xs => .tuple (D.pds xs)
  | .dict _ _ => .dict [] | .obj _ _ => .dict [] | .exc _ => .dict [] | .scr _ => .dict [] | .ktup xs => .tuple (D.pds xs)
def D.pds : List D → List PyData
  | [] => []
  | x :: xs => D.pd x :: D.pds xs
end
abbrev Sg := L2.St

/-- a key of a dict as data -/
def keyD : Key → D
  | .inl i => .int i
  | .inr x => .str x

/-! ### what a value holds -/
section
variable (K : PySem.W.Frag) (mg : Str → Option Value)

/-- an exception of a class, held -/
def ExcAt (C : Addr) (a : Addr) : HO := .ext fun h => ∃ oe, PySem.W.InstAt h a oe C none

mutual
inductive Rp (F : Hp) : V → D → Prop
  | non : Rp F .non .none
  | bl (b : Bool) : Rp F (.bl b) (.bool b)
  | int (i : Int) : Rp F (.int i) (.int i)
  | str (x : Str) : Rp F (.str x) (.str x)
  | lst {a : Addr} {xs : List V} {ds : List D} : F a = some (.lst xs) → Rps F xs ds → Rp F (.ref a) (.list ds)
  | scr {a : Addr} {xs : List V} {ds : List D} : SqL K F a xs → Rps F xs ds → Rp F (.ref a) (.scr ds)
  | tup {a : Addr} {xs : List V} {ds : List D} : F a = some (.tup xs) → Rps F xs ds → Rp F (.ref a) (.tuple ds)
  | ktup {a : Addr} {xs : List V} {ds : List D} : SqT K F a xs → Rps F xs ds → Rp F (.ref a) (.ktup ds)
  | dK {a : Addr} {kvs : List (Key × V)} {ds : List (D × D)} : F a = some (.dK kvs) → ds.map (·.1) = kvs.map (fun p => keyD p.1) → Rps F (kvs.map (·.2)) (ds.map (·.2)) → Rp F (.ref a) (.dict false ds)
  | dT {a : Addr} {kvs : List (List Key × V)} {ds : List (D × D)} : F a = some (.dT kvs) → ds.map (·.1) = kvs.map (fun p => .tuple (p.1.map keyD)) → Rps F (kvs.map (·.2)) (ds.map (·.2)) → Rp F (.ref a) (.dict true ds)
  | obj {a C dx : Addr} {c : Str} {fvs : List (Str × V)} {fs : List (Str × D)} : mg c = some (.ref C) → F a = some (.ins C dx fvs) → fs.map (·.1) = fvs.map (·.1) → Rps F (fvs.map (·.2)) (fs.map (·.2)) → Rp F (.ref a) (.obj c fs)
  | exc {a C : Addr} {c : Str} : mg c = some (.ref C) → F a = some (ExcAt C a) → Rp F (.ref a) (.exc c)
inductive Rps (F : Hp) : List V → List D → Prop
  | nil : Rps F [] []
  | cons {v : V} {vs : List V} {d : D} {ds : List D} : Rp F v d → Rps F vs ds → Rps F (v :: vs) (d :: ds)
end
end

section
variable {K : PySem.W.Frag} {mg : Str → Option Value} {F F' : Hp}

theorem Same.seqT (e : Same F F') {a : Addr} {xs : List V} (h : SqT K F a xs) : SqT K F' a xs := by
  rcases h with h | h
  · rcases h with h | ⟨o, h⟩
    · exact .inl (.inl (e _ _ h))
    · exact .inl (.inr ⟨o, e _ _ h⟩)
  · exact .inr h

mutual
theorem Rp.mono (e : Same F F') : ∀ {v : V} {d : D}, Rp K mg F v d → Rp K mg F' v d
  | _, _, .non => .non
  | _, _, .bl b => .bl b
  | _, _, .int i => .int i
  | _, _, .str x => .str x
  | _, _, .lst h r => .lst (e _ _ h) (Rps.mono e r)
  | _, _, .scr h r => .scr (e.seq h) (Rps.mono e r)
  | _, _, .tup h r => .tup (e _ _ h) (Rps.mono e r)
  | _, _, .ktup h r => .ktup (Same.seqT e h) (Rps.mono e r)
  | _, _, .dK h k r => .dK (e _ _ h) k (Rps.mono e r)
  | _, _, .dT h k r => .dT (e _ _ h) k (Rps.mono e r)
  | _, _, .obj m h k r => .obj m (e _ _ h) k (Rps.mono e r)
  | _, _, .exc m h => .exc m (e _ _ h)
theorem Rps.mono (e : Same F F') : ∀ {vs : List V} {ds : List D}, Rps K mg F vs ds → Rps K mg F' vs ds
  | _, _, .nil => .nil
  | _, _, .cons h r => .cons (Rp.mono e h) (Rps.mono e r)
end

theorem Rps.length {vs : List V} {ds : List D} (r : Rps K mg F vs ds) : vs.length = ds.length := by
  induction ds generalizing vs with
  | nil => cases r; rfl
  | cons d ds ih => cases r with | cons h t => simp [ih t]
theorem Rps.get {vs : List V} {ds : List D} (r : Rps K mg F vs ds) : ∀ {i : Nat} {d : D}, ds[i]? = some d → ∃ v, vs[i]? = some v ∧ Rp K mg F v d := by
  induction ds generalizing vs with
  | nil => intro i d h; simp at h
  | cons d ds ih =>
    cases r with
    | cons h t =>
      intro i e he
      cases i with
      | zero => simp at he; subst he; exact ⟨_, rfl, h⟩
      | succ i => simp at he; obtain ⟨v, h1, h2⟩ := ih t he; exact ⟨v, by simpa using h1, h2⟩
theorem Rps.getV {vs : List V} {ds : List D} (r : Rps K mg F vs ds) : ∀ {i : Nat} {v : V}, vs[i]? = some v → ∃ d, ds[i]? = some d ∧ Rp K mg F v d := by
  induction ds generalizing vs with
  | nil => cases r; intro i d h; simp at h
  | cons d ds ih =>
    cases r with
    | cons h t =>
      intro i e he
      cases i with
      | zero => simp at he; subst he; exact ⟨_, rfl, h⟩
      | succ i => simp at he; obtain ⟨v, h1, h2⟩ := ih t he; exact ⟨v, by simpa using h1, h2⟩
theorem Rps.append {vs ws : List V} {ds es : List D} (r : Rps K mg F vs ds) (q : Rps K mg F ws es) : Rps K mg F (vs ++ ws) (ds ++ es) := by
  induction ds generalizing vs with
  | nil => cases r; exact q
  | cons d ds ih => cases r with | cons h t => exact .cons h (ih t)
theorem Rps.one {v : V} {d : D} (h : Rp K mg F v d) : Rps K mg F [v] [d] := .cons h .nil
theorem Rps.take {vs : List V} {ds : List D} (r : Rps K mg F vs ds) (n : Nat) : Rps K mg F (vs.take n) (ds.take n) := by
  induction ds generalizing vs n with
  | nil => cases r; simp; exact .nil
  | cons d ds ih =>
    cases r with
    | cons h t =>
      cases n with
      | zero => exact .nil
      | succ n => exact .cons h (ih t n)
theorem Rps.drop {vs : List V} {ds : List D} (r : Rps K mg F vs ds) (n : Nat) : Rps K mg F (vs.drop n) (ds.drop n) := by
  induction ds generalizing vs n with
  | nil => cases r; simp; exact .nil
  | cons d ds ih =>
    cases r with
    | cons h t =>
      cases n with
      | zero => exact .cons h t
      | succ n => exact ih t n
theorem Rps.rev {vs : List V} {ds : List D} (r : Rps K mg F vs ds) : Rps K mg F vs.reverse ds.reverse := by
  induction ds generalizing vs with
  | nil => cases r; exact .nil
  | cons d ds ih => cases r with | cons h t => rw [List.reverse_cons, List.reverse_cons]; exact (ih t).append (.one h)
theorem Rps.set {vs : List V} {ds : List D} (r : Rps K mg F vs ds) {v : V} {d : D} (h : Rp K mg F v d) (n : Nat) : Rps K mg F (vs.set n v) (ds.set n d) := by
  induction ds generalizing vs n with
  | nil => cases r; exact .nil
  | cons e ds ih =>
    cases r with
    | cons q t =>
      cases n with
      | zero => exact .cons h t
      | succ n => exact .cons q (ih t n)
theorem Rps.rep {v : V} {d : D} (h : Rp K mg F v d) (n : Nat) : Rps K mg F (List.replicate n v) (List.replicate n d) := by
  induction n with
  | zero => exact .nil
  | succ n ih => exact .cons h ih

/-- a value without a place -/
def gnd : D → Bool
  | .none => true | .bool _ => true | .int _ => true | .str _ => true | _ => false
theorem Rp.gnd {B : Hp} {v : V} {d : D} (r : Rp K mg F v d) (h : gnd d = true) : Rp K mg B v d := by
  cases r with
  | non => exact .non
  | bl b => exact .bl b
  | int i => exact .int i
  | str x => exact .str x
  | lst => cases h
  | scr => cases h
  | tup => cases h
  | ktup => cases h
  | dK => cases h
  | dT => cases h
  | obj => cases h
  | exc => cases h

mutual
/-- plain data: no dicts -/
def pln : D → Bool
  | .none => true | .bool _ => true | .int _ => true | .str _ => true
  | .list xs => plns xs | .tuple xs => plns xs | .ktup xs => plns xs | _ => false
def plns : List D → Bool
  | [] => true
  | x :: xs => pln x && plns xs
end
mutual
theorem Rp.dp : ∀ {v : V} {d : D}, Rp K mg F v d → pln d = true → Dp K F v d.pd
  | _, _, .non, _ => .non
  | _, _, .bl b, _ => .bl b
  | _, _, .int i, _ => .int i
  | _, _, .str x, _ => .str x
  | _, _, .lst h r, p => .lst (SqL.of h) (Rps.dp r (by simpa [pln] using p))
  | _, _, .scr h r, p => by simp [pln] at p
  | _, _, .tup h r, p => .tup (SqT.of h) (Rps.dp r (by simpa [pln] using p))
  | _, _, .ktup h r, p => .tup h (Rps.dp r (by simpa [pln] using p))
  | _, _, .dK h k r, p => by simp [pln] at p
  | _, _, .dT h k r, p => by simp [pln] at p
  | _, _, .obj m h k r, p => by simp [pln] at p
  | _, _, .exc m h, p => by simp [pln] at p
theorem Rps.dp : ∀ {vs : List V} {ds : List D}, Rps K mg F vs ds → plns ds = true → DpAll K F vs (D.pds ds)
  | _, _, .nil, _ => .nil
  | _, _, .cons h r, p => by
    simp [plns] at p
    exact .cons (Rp.dp h p.1) (Rps.dp r p.2)
end
end

/-! ### the slots as trees -/
/-- a slot: unknown; data that nobody changes (n: made since the def began); a list or dict of the def's own; one that a caller lent -/
inductive Slot where
  | un | fz (d : D) (n : Bool) | ow (d : D) (n : Bool) | io (d : D)
abbrev DEnv := List Slot
/-- what an expression gives -/
inductive T where
  | fz (d : D) (n : Bool) | ow (d : D) (n : Bool) | al (i : Nat)

structure Zx where
  io : List (Nat × Addr)
  H0 : Hp
  F0 : Hp

def sel (n : Bool) (G F : Hp) : Hp := if n then G else F

def isOwn : Slot → Bool
  | .ow _ _ => true | .io _ => true | _ => false
def Own (σ : St) (env : DEnv) (a : Addr) : Prop := ∃ (i : Nat) (s : Slot), env[i]? = some s ∧ isOwn s = true ∧ σ[i]? = some (some (.ref a))

section
variable (K : PySem.W.Frag) (mg : Str → Option Value)
/-- what stands at an own object's place, its items in B -/
def OwnC (B H : Hp) (a : Addr) (d : D) : Prop :=
  (∃ ds vs, d = .list ds ∧ H a = some (.lst vs) ∧ Rps K mg B vs ds) ∨
  (∃ ds kvs, d = .dict false ds ∧ H a = some (.dK kvs) ∧ ds.map (·.1) = kvs.map (fun p => keyD p.1) ∧ Rps K mg B (kvs.map (·.2)) (ds.map (·.2))) ∨
  (∃ ds kvs, d = .dict true ds ∧ H a = some (.dT kvs) ∧ ds.map (·.1) = kvs.map (fun p => D.tuple (p.1.map keyD)) ∧ Rps K mg B (kvs.map (·.2)) (ds.map (·.2))) ∨
  (∃ c fs C dx fvs, d = .obj c fs ∧ H a = some (.ins C dx fvs) ∧ mg c = some (.ref C) ∧ fs.map (·.1) = fvs.map (·.1) ∧ Rps K mg B (fvs.map (·.2)) (fs.map (·.2)))

def SlotOk (Z : Zx) (F G H : Hp) (σ : St) (i : Nat) : Slot → Prop
  | .un => True
  | .fz d n => ∃ v, σ[i]? = some (some v) ∧ Rp K mg (sel n G F) v d
  | .ow d n => ∃ a, σ[i]? = some (some (.ref a)) ∧ F a = none ∧ OwnC K mg (sel n G F) H a d ∧ Z.H0 a = none
  | .io d => ∃ a, σ[i]? = some (some (.ref a)) ∧ F a = none ∧ OwnC K mg F H a d ∧ (i, a) ∈ Z.io

structure EnvR (Z : Zx) (F G H : Hp) (σ : St) (env : DEnv) : Prop where
  fh : Same F H
  gf : Same G F
  f0 : Same Z.F0 F
  gn : ∀ a o, G a = some o → Z.H0 a = none
  fn : ∀ a o, F a = some o → Z.F0 a = none → Z.H0 a = none
  frame : ∀ a o, Z.H0 a = some o → (∀ p ∈ Z.io, p.2 ≠ a) → H a = some o
  dom : ∀ a o, Z.H0 a = some o → ∃ u, H a = some u
  len : env.length = σ.length
  slot : ∀ i s, env[i]? = some s → SlotOk K mg Z F G H σ i s
  dist : ∀ (i j : Nat) (s t : Slot) (a : Addr), env[i]? = some s → isOwn s = true → env[j]? = some t → isOwn t = true → σ[i]? = some (some (.ref a)) → σ[j]? = some (some (.ref a)) → i = j
  io : ∀ p ∈ Z.io, ∃ d, env[p.1]? = some (.io d) ∧ σ[p.1]? = some (some (.ref p.2))
  iof : ∀ p ∈ Z.io, Z.F0 p.2 = none
end

/-- the data of what an expression gave -/
def rd (env : DEnv) : T → Option D
  | .fz d _ => some d
  | .ow d _ => some d
  | .al i => match env[i]? with
    | some (.ow d _) => some d
    | some (.io d) => some d
    | some (.fz d _) => some d
    | _ => none
def rdn (env : DEnv) : T → Bool
  | .fz d n => n || gnd d
  | .ow _ n => n
  | .al i => match env[i]? with
    | some (.ow _ n) => n
    | some (.fz d n) => n || gnd d
    | _ => false

section
variable (K : PySem.W.Frag) (mg : Str → Option Value)
def RT (Z : Zx) (F G H : Hp) (σ : St) (env : DEnv) (v : V) : T → Prop
  | .fz d n => Rp K mg (sel n G F) v d
  | .ow d n => ∃ a, v = .ref a ∧ F a = none ∧ OwnC K mg (sel n G F) H a d ∧ ¬ Own σ env a ∧ Z.H0 a = none
  | .al i => σ[i]? = some (some v) ∧ ∃ d, rd env (.al i) = some d
end

/-- what stays over an expression -/
structure Ext (σ : St) (env env' : DEnv) (F G H F' G' H' : Hp) : Prop where
  f : Same F F'
  g : Same G G'
  h : ∀ b o, H b = some o → ¬ Own σ env b → H' b = some o
  d : ∀ b o, H b = some o → ∃ u, H' b = some u
  n : ∀ b o, H b = some o → F b = none → ¬ Own σ env b → F' b = none
  o : ∀ b, Own σ env' b → Own σ env b
  r : ∀ i d, rd env (.al i) = some d → ∃ d', rd env' (.al i) = some d'
  l : env'.length = env.length

theorem Ext.refl {σ : St} {env : DEnv} {F G H : Hp} : Ext σ env env F G H F G H :=
  ⟨.refl _, .refl _, fun _ _ h _ => h, fun _ o h => ⟨o, h⟩, fun _ _ _ h _ => h, fun _ h => h, fun _ d h => ⟨d, h⟩, rfl⟩
theorem Ext.trans {σ : St} {env env1 env2 : DEnv} {F G H F1 G1 H1 F2 G2 H2 : Hp} (a : Ext σ env env1 F G H F1 G1 H1) (b : Ext σ env1 env2 F1 G1 H1 F2 G2 H2) : Ext σ env env2 F G H F2 G2 H2 :=
  ⟨a.f.trans b.f, a.g.trans b.g, fun c o h k => b.h c o (a.h c o h k) (fun z => k (a.o c z)),
    fun c o h => by obtain ⟨u, e⟩ := a.d c o h; exact b.d c u e,
    fun c o h e k => by
      have h1 := a.h c o h k
      exact b.n c o h1 (a.n c o h e k) (fun z => k (a.o c z)),
    fun c h => a.o c (b.o c h), fun i d h => by obtain ⟨d', e⟩ := a.r i d h; exact b.r i d' e, b.l.trans a.l⟩
end DL

/-! DL2: states as trees: what may change, what stays. -/
namespace DL
open PySem PySem.Spec L2
section
variable {K : PySem.W.Frag} {mg : Str → Option Value} {Z : Zx} {F G H F' G' H' : Hp} {σ : Sg} {env : DEnv}

theorem same_upd {H : Hp} {p : Addr} {o : HO} (h : H p = none) : Same H (upd H p o) := fun b x e => by
  rw [upd_ne (ne_of_none e h)]
  exact e
theorem same_upd2 {H B : Hp} {p : Addr} {o : HO} (s : Same B H) (h : B p = none) : Same B (upd H p o) := fun b x e => by
  rw [upd_ne (ne_of_none e h)]
  exact s _ _ e
theorem snone {H B : Hp} {p : Addr} (s : Same B H) (h : H p = none) : B p = none := by
  cases e : B p with
  | none => rfl
  | some o => rw [s _ _ e] at h; cases h

theorem OwnC.mono {B B' H : Hp} {a : Addr} {d : D} (e : Same B B') : OwnC K mg B H a d → OwnC K mg B' H a d := by
  rintro (⟨ds, vs, h1, h2, h3⟩ | ⟨ds, vs, h1, h2, h3, h4⟩ | ⟨ds, vs, h1, h2, h3, h4⟩ | ⟨cn, fs, C, dx, fvs, h1, h2, h3, h4, h5⟩)
  · exact .inl ⟨ds, vs, h1, h2, h3.mono e⟩
  · exact .inr (.inl ⟨ds, vs, h1, h2, h3, h4.mono e⟩)
  · exact .inr (.inr (.inl ⟨ds, vs, h1, h2, h3, h4.mono e⟩))
  · exact .inr (.inr (.inr ⟨cn, fs, C, dx, fvs, h1, h2, h3, h4, h5.mono e⟩))
theorem OwnC.at_ {B H H' : Hp} {a : Addr} {d : D} (e : ∀ o, H a = some o → H' a = some o) : OwnC K mg B H a d → OwnC K mg B H' a d := by
  rintro (⟨ds, vs, h1, h2, h3⟩ | ⟨ds, vs, h1, h2, h3, h4⟩ | ⟨ds, vs, h1, h2, h3, h4⟩ | ⟨cn, fs, C, dx, fvs, h1, h2, h3, h4, h5⟩)
  · exact .inl ⟨ds, vs, h1, e _ h2, h3⟩
  · exact .inr (.inl ⟨ds, vs, h1, e _ h2, h3, h4⟩)
  · exact .inr (.inr (.inl ⟨ds, vs, h1, e _ h2, h3, h4⟩))
  · exact .inr (.inr (.inr ⟨cn, fs, C, dx, fvs, h1, e _ h2, h3, h4, h5⟩))
theorem OwnC.there {B H : Hp} {a : Addr} {d : D} : OwnC K mg B H a d → ∃ o, H a = some o := by
  rintro (⟨ds, vs, h1, h2, h3⟩ | ⟨ds, vs, h1, h2, h3, h4⟩ | ⟨ds, vs, h1, h2, h3, h4⟩ | ⟨cn, fs, C, dx, fvs, h1, h2, h3, h4, h5⟩)
  · exact ⟨_, h2⟩
  · exact ⟨_, h2⟩
  · exact ⟨_, h2⟩
  · exact ⟨_, h2⟩
theorem sel_same {n : Bool} (f : Same F F') (g : Same G G') : Same (sel n G F) (sel n G' F') := by
  cases n
  · exact f
  · exact g
theorem sel_le {n : Bool} (g : Same G F) : Same (sel n G F) F := by
  cases n
  · exact .refl _
  · exact g

theorem EnvR.own_at (R : EnvR K mg Z F G H σ env) {a : Addr} (h : Own σ env a) : F a = none ∧ ∃ o, H a = some o := by
  obtain ⟨i, s, e, hs, ha⟩ := h
  have q := R.slot i s e
  cases s with
  | un => cases hs
  | fz d n => cases hs
  | ow d n =>
    obtain ⟨b, e1, e2, e3, _⟩ := q
    rw [ha] at e1; cases e1
    exact ⟨e2, e3.there⟩
  | io d =>
    obtain ⟨b, e1, e2, e3, _⟩ := q
    rw [ha] at e1; cases e1
    exact ⟨e2, e3.there⟩
theorem EnvR.not_own (R : EnvR K mg Z F G H σ env) {a : Addr} (h : H a = none) : ¬ Own σ env a := fun o => by
  obtain ⟨_, u, e⟩ := R.own_at o
  rw [h] at e; cases e
theorem EnvR.not_own_f (R : EnvR K mg Z F G H σ env) {a : Addr} {o : HO} (h : F a = some o) : ¬ Own σ env a := fun q => by
  obtain ⟨e, _⟩ := R.own_at q
  rw [h] at e; cases e
theorem EnvR.h0 (R : EnvR K mg Z F G H σ env) {a : Addr} (h : H a = none) : Z.H0 a = none := by
  cases e : Z.H0 a with
  | none => rfl
  | some o => obtain ⟨u, e'⟩ := R.dom a o e; rw [h] at e'; cases e'

/-- the same slots over other heaps -/
theorem EnvR.next (R : EnvR K mg Z F G H σ env) (f : Same F F') (g : Same G G') (fh : Same F' H') (gf : Same G' F') (gn : ∀ a o, G' a = some o → Z.H0 a = none) (fn : ∀ a o, F' a = some o → Z.F0 a = none → Z.H0 a = none)
    (own : ∀ a, Own σ env a → F' a = none ∧ ∀ o, H a = some o → H' a = some o) (fr : ∀ a o u, Z.H0 a = some u → H a = some o → H' a = some o) : EnvR K mg Z F' G' H' σ env where
  fh := fh
  gf := gf
  f0 := R.f0.trans f
  gn := gn
  fn := fn
  frame := fun a o h k => fr _ _ _ h (R.frame a o h k)
  dom := fun a o h => by obtain ⟨u, e⟩ := R.dom a o h; exact ⟨u, fr _ _ _ h e⟩
  len := R.len
  slot := fun i s e => by
    have q := R.slot i s e
    cases s with
    | un => trivial
    | fz d n => obtain ⟨v, e1, e2⟩ := q; exact ⟨v, e1, e2.mono (sel_same f g)⟩
    | ow d n =>
      obtain ⟨a, e1, e2, e3, e4⟩ := q
      obtain ⟨k1, k2⟩ := own a ⟨i, _, e, rfl, e1⟩
      exact ⟨a, e1, k1, (e3.mono (sel_same f g)).at_ k2, e4⟩
    | io d =>
      obtain ⟨a, e1, e2, e3, e4⟩ := q
      obtain ⟨k1, k2⟩ := own a ⟨i, _, e, rfl, e1⟩
      exact ⟨a, e1, k1, (e3.mono f).at_ k2, e4⟩
  dist := R.dist
  io := R.io
  iof := R.iof

/-- something new is tracked, and forgotten -/
theorem EnvR.grow (R : EnvR K mg Z F G H σ env) (s : Same H H') : EnvR K mg Z F G H' σ env :=
  R.next (.refl _) (.refl _) (R.fh.trans s) R.gf R.gn R.fn (fun a o => ⟨(R.own_at o).1, fun _ e => s _ _ e⟩) fun _ _ _ _ e => s _ _ e
theorem Ext.grow (s : Same H H') : Ext σ env env F G H F G H' :=
  ⟨.refl _, .refl _, fun b o e _ => s _ _ e, fun b o e => ⟨o, s _ _ e⟩, fun _ _ _ h _ => h, fun _ h => h, fun _ d h => ⟨d, h⟩, rfl⟩

def addF (n : Bool) (p : Addr) (o : HO) (G : Hp) : Hp := if n then upd G p o else G

/-- an object is frozen -/
theorem EnvR.frz {p : Addr} {o : HO} (n : Bool) (R : EnvR K mg Z F G H σ env) (hp : H p = some o) (hF : F p = none) (hn : ¬ Own σ env p) (h0 : Z.H0 p = none) :
    EnvR K mg Z (upd F p o) (addF n p o G) H σ env := by
  have hG : G p = none := snone R.gf hF
  refine R.next (same_upd hF) ?_ ?_ ?_ ?_ ?_ ?_ (fun _ _ _ _ e => e)
  · cases n
    · exact .refl _
    · exact same_upd hG
  · intro b u e
    by_cases hb : b = p
    · subst hb; rw [upd_same] at e; cases e; exact hp
    · rw [upd_ne hb] at e; exact R.fh _ _ e
  · cases n
    · exact same_upd2 R.gf hG
    · intro b u e
      by_cases hb : b = p
      · subst hb; rw [show addF true b o G = upd G b o from rfl, upd_same] at e; cases e; exact upd_same
      · rw [show addF true p o G = upd G p o from rfl, upd_ne hb] at e; rw [upd_ne hb]; exact R.gf _ _ e
  · intro b u e
    by_cases hb : b = p
    · rw [hb]; exact h0
    · cases n
      · exact R.gn _ _ e
      · rw [show addF true p o G = upd G p o from rfl, upd_ne hb] at e; exact R.gn _ _ e
  · intro b u e k
    by_cases hb : b = p
    · rw [hb]; exact h0
    · rw [upd_ne hb] at e; exact R.fn _ _ e k
  · intro a q
    have hne : a ≠ p := fun z => hn (z ▸ q)
    exact ⟨by rw [upd_ne hne]; exact (R.own_at q).1, fun _ e => e⟩
theorem addF_same {n : Bool} {p : Addr} {o : HO} (h : G p = none) : Same G (addF n p o G) := by
  cases n
  · exact .refl _
  · exact same_upd h
theorem Ext.frz {p : Addr} {o : HO} (n : Bool) (hF : F p = none) (hG : G p = none) (hH : H p = none) : Ext σ env env F G H (upd F p o) (addF n p o G) (upd H p o) :=
  ⟨same_upd hF, addF_same hG, fun b u e _ => same_upd hH _ _ e, fun b u e => ⟨u, same_upd hH _ _ e⟩, fun b u e k _ => by rw [upd_ne (ne_of_none e hH)]; exact k, fun _ h => h, fun _ d h => ⟨d, h⟩, rfl⟩
theorem sel_addF {n : Bool} {p : Addr} {o : HO} : sel n (addF n p o G) (upd F p o) p = some o := by
  cases n
  · exact upd_same
  · exact upd_same
theorem sel_addF_le {n m : Bool} {p : Addr} {o : HO} (hF : F p = none) (hG : G p = none) : Same (sel n G F) (sel n (addF m p o G) (upd F p o)) := sel_same (same_upd hF) (addF_same hG)

/-- a new object is laid and frozen at once -/
theorem EnvR.lay {p : Addr} {o : HO} (n : Bool) (R : EnvR K mg Z F G H σ env) (hp : H p = none) :
    EnvR K mg Z (upd F p o) (addF n p o G) (upd H p o) σ env ∧ Ext σ env env F G H (upd F p o) (addF n p o G) (upd H p o) := by
  have hF := snone R.fh hp
  refine ⟨(R.grow (same_upd hp)).frz n upd_same hF ?_ (R.h0 hp), Ext.frz n hF (snone R.gf hF) hp⟩
  exact R.not_own hp
end

/-! ### what expressions ask -/
/-- an own object without a name is newer than H -/
def NewT (H : Hp) (v : V) : T → Prop
  | .ow _ _ => ∃ a, v = .ref a ∧ H a = none
  | _ => True
abbrev DW := DEnv → (T → DEnv → Prop) → (Str → DEnv → Prop) → Prop
abbrev DT := DEnv → (Bool → DEnv → Prop) → (Str → DEnv → Prop) → Prop
abbrev DA := DEnv → (List T → DEnv → Prop) → (Str → DEnv → Prop) → Prop

section
variable (K : PySem.W.Frag) (mg : Str → Option Value) (Z : Zx) (W : WX)
def Wx (E : Str → DEnv → Prop) (σ : Sg) : Prop := ∀ (c : Str) (env' : DEnv) (F' G' H' : Hp) (C : Addr), E c env' → EnvR K mg Z F' G' H' σ env' → mg c = some (.ref C) → W (.ref C) none σ H'
def tD (w : DW) : TE := fun σ H Q => ∃ (F G : Hp) (env : DEnv) (P : T → DEnv → Prop) (E : Str → DEnv → Prop), EnvR K mg Z F G H σ env ∧ w env P E ∧
  (∀ (t : T) (env' : DEnv) (F' G' H' : Hp) (v : V), P t env' → EnvR K mg Z F' G' H' σ env' → Ext σ env env' F G H F' G' H' → RT K mg Z F' G' H' σ env' v t → NewT H v t → Q v H') ∧ Wx K mg Z W E σ
def tDT (w : DT) : TT := fun σ H Q => ∃ (F G : Hp) (env : DEnv) (P : Bool → DEnv → Prop) (E : Str → DEnv → Prop), EnvR K mg Z F G H σ env ∧ w env P E ∧
  (∀ (b : Bool) (env' : DEnv) (F' G' H' : Hp), P b env' → EnvR K mg Z F' G' H' σ env' → Ext σ env env' F G H F' G' H' → Q b H') ∧ Wx K mg Z W E σ
/-- the values of a row of arguments, none of them an own object without a name -/
def RTs (F G H : Hp) (σ : Sg) (env : DEnv) : List V → List T → Prop
  | [], [] => True
  | v :: vs, t :: ts => (∀ d n, t ≠ .ow d n) ∧ RT K mg Z F G H σ env v t ∧ RTs F G H σ env vs ts
  | _, _ => False
def tDA (w : DA) : TA := fun σ H Q => ∃ (F G : Hp) (env : DEnv) (P : List T → DEnv → Prop) (E : Str → DEnv → Prop), EnvR K mg Z F G H σ env ∧ w env P E ∧
  (∀ (t : List T) (env' : DEnv) (F' G' H' : Hp) (v : List V), P t env' → EnvR K mg Z F' G' H' σ env' → Ext σ env env' F G H F' G' H' → RTs K mg Z F' G' H' σ env' v t → Q v H') ∧ Wx K mg Z W E σ
end

theorem PE.of {X : Cx} {e : Expr} {t t' : TE} (h : PE X e t) (k : ∀ σ H Q, t' σ H Q → t σ H Q) : PE X e t' := ⟨fun pins s σ H Q I q => h.run pins s σ H Q I (k σ H Q q)⟩
theorem PT.of {X : Cx} {e : Expr} {t t' : TT} (h : PT X e t) (k : ∀ σ H Q, t' σ H Q → t σ H Q) : PT X e t' := ⟨fun pins s σ H Q I q => h.run pins s σ H Q I (k σ H Q q)⟩
theorem PA.of {X : Cx} {e : List Expr} {t t' : TA} (h : PA X e t) (k : ∀ σ H Q, t' σ H Q → t σ H Q) : PA X e t' := ⟨fun pos pins s σ H Q I q => h.run pos pins s σ H Q I (k σ H Q q)⟩

abbrev DE (X : Cx) (Z : Zx) (W : WX) (e : Expr) (w : DW) : Prop := PE X e (tD X.K X.mg Z W w)
abbrev DTe (X : Cx) (Z : Zx) (W : WX) (e : Expr) (w : DT) : Prop := PT X e (tDT X.K X.mg Z W w)
abbrev DAr (X : Cx) (Z : Zx) (W : WX) (es : List Expr) (w : DA) : Prop := PA X es (tDA X.K X.mg Z W w)

/-! ### constants and names -/
def dC (d : D) : DW := fun env P _ => P (.fz d true) env
def lookT (env : DEnv) (i : Nat) : Option T := match env[i]? with
  | some (.fz d n) => some (.fz d n)
  | some (.ow _ _) => some (.al i)
  | some (.io _) => some (.al i)
  | _ => none
def dVar (i : Nat) : DW := fun env P _ => ∃ t, lookT env i = some t ∧ P t env
/-- an own object without a name is frozen -/
def hold : T → T
  | .ow d n => .fz d n
  | t => t

section
variable {X : Cx} {Z : Zx} {W : WX} {pos : Pos}
theorem d_const {e : Expr} {v : V} {d : D} (h : PE X e (tC v)) (hd : ∀ F : Hp, Rp X.K X.mg F v d) : DE X Z W e (dC d) := by
  refine PE.of h fun σ H Q ⟨F, G, env, P, E, R, w, q, _⟩ => ?_
  exact q _ _ F G H v w R .refl (hd _) trivial
theorem d_int {i j} : DE X Z W (.Constant (.int i) j pos) (dC (.int i)) := d_const pe_int fun _ => .int i
theorem d_bl {b j} : DE X Z W (.Constant (.bool b) j pos) (dC (.bool b)) := d_const pe_bl fun _ => .bl b
theorem d_non {j} : DE X Z W (.Constant .none j pos) (dC .none) := d_const pe_non fun _ => .non
theorem d_str {x j} : DE X Z W (.Constant (.str x) j pos) (dC (.str x)) := d_const pe_str fun _ => .str x
/-- a constant of the module, by its data -/
theorem d_glob {x : Str} {v : V} {u : Value} {d : D} (hg : Gl X x) (hm : X.mg x = some u) (r : RelV v u) (hd : ∀ F : Hp, Rp X.K X.mg F v d) (hdb : (x == ("__debug__" : Str)) = false := by decide) : DE X Z W (.Name x pos) (dC d) :=
  d_const (pe_glob hg hm r hdb) hd
theorem d_var (i : Nat) {x : Str} (hN : X.N[i]? = some x := by rfl) (hv : Vis X.env.scope x := by first | exact Or.inl rfl | exact Or.inr (Or.inl rfl) | exact Or.inr (Or.inr rfl)) (hd : (x == ("__debug__" : Str)) = false := by decide)
    (hcd : (x == ("__classdict__" : Str)) = false := by decide) : DE X Z W (.Name x pos) (dVar i) := by
  refine PE.of (pe_var hN hv hd hcd) fun σ H Q ⟨F, G, env, P, E, R, ⟨t, e, w⟩, q, _⟩ => ?_
  unfold lookT at e
  cases es : env[i]? with
  | none => rw [es] at e; cases e
  | some s =>
    rw [es] at e
    have ok := R.slot i s es
    cases s with
    | un => cases e
    | fz d n =>
      cases e
      obtain ⟨v, e1, r⟩ := ok
      exact ⟨v, e1, q _ _ F G H v w R .refl r trivial⟩
    | ow d n =>
      cases e
      obtain ⟨a, e1, _⟩ := ok
      exact ⟨_, e1, q _ _ F G H _ w R .refl ⟨e1, d, by simp [rd, es]⟩ trivial⟩
    | io d =>
      cases e
      obtain ⟨a, e1, _⟩ := ok
      exact ⟨_, e1, q _ _ F G H _ w R .refl ⟨e1, d, by simp [rd, es]⟩ trivial⟩
end

/-! ### values that are held, values that are read -/
section
variable {K : PySem.W.Frag} {mg : Str → Option Value} {Z : Zx} {F G H F' G' H' : Hp} {σ : Sg} {env env' : DEnv}
theorem RT.ext {v : V} {t : T} (h : RT K mg Z F G H σ env v t) (ho : ∀ d n, t ≠ .ow d n) (e : Ext σ env env' F G H F' G' H') : RT K mg Z F' G' H' σ env' v t := by
  cases t with
  | fz d n => exact Rp.mono (sel_same e.f e.g) h
  | ow d n => exact absurd rfl (ho d n)
  | al i =>
    obtain ⟨h1, d, h2⟩ := h
    obtain ⟨d', h3⟩ := e.r i d h2
    exact ⟨h1, d', h3⟩
theorem RTs.ext {vs : List V} {ts : List T} (h : RTs K mg Z F G H σ env vs ts) (e : Ext σ env env' F G H F' G' H') : RTs K mg Z F' G' H' σ env' vs ts := by
  induction ts generalizing vs with
  | nil => cases vs with
    | nil => trivial
    | cons => exact h.elim
  | cons t ts ih => cases vs with
    | nil => exact h.elim
    | cons v vs => obtain ⟨h1, h2, h3⟩ := h; exact ⟨h1, RT.ext h2 h1 e, ih h3⟩
theorem hold_ow {t : T} : ∀ d n, hold t ≠ .ow d n := by
  intro d n
  cases t <;> (intro h; cases h)

/-- an own object is frozen: its tree over the grown heap -/
theorem OwnC.rp {B : Hp} {a : Addr} {d : D} {o : HO} (h : OwnC K mg B H a d) (e : H a = some o) {B' : Hp} (s : Same B B') (eb : B' a = some o) : Rp K mg B' (.ref a) d := by
  rcases h with ⟨ds, vs, h1, h2, h3⟩ | ⟨ds, vs, h1, h2, h3, h4⟩ | ⟨ds, vs, h1, h2, h3, h4⟩ | ⟨cn, fs, C, dx, fvs, h1, h2, h3, h4, h5⟩
  · subst h1; rw [h2] at e; cases e; exact .lst eb (h3.mono s)
  · subst h1; rw [h2] at e; cases e; exact .dK eb h3 (h4.mono s)
  · subst h1; rw [h2] at e; cases e; exact .dT eb h3 (h4.mono s)
  · subst h1; rw [h2] at e; cases e; exact .obj h3 eb h4 (h5.mono s)
theorem OwnC.rpH {B : Hp} {a : Addr} {d : D} (h : OwnC K mg B H a d) (s : Same B H) : Rp K mg H (.ref a) d := by
  obtain ⟨o, e⟩ := h.there
  exact h.rp e s e

/-- what hold does; H0, F0, G0, env0: the start -/
theorem RT.hold {F₀ G₀ H₀ : Hp} {env₀ : DEnv} {v : V} {t : T} (R : EnvR K mg Z F G H σ env) (x : Ext σ env₀ env F₀ G₀ H₀ F G H) (h : RT K mg Z F G H σ env v t) (nw : NewT H₀ v t) :
    ∃ F' G', EnvR K mg Z F' G' H σ env ∧ Ext σ env₀ env F₀ G₀ H₀ F' G' H ∧ RT K mg Z F' G' H σ env v (hold t) := by
  cases t with
  | fz d n => exact ⟨F, G, R, x, h⟩
  | al i => exact ⟨F, G, R, x, h⟩
  | ow d n =>
    obtain ⟨a, rfl, h1, h2, h3, h4⟩ := h
    obtain ⟨_, e, h0⟩ := nw
    cases e
    obtain ⟨o, ho⟩ := h2.there
    have hG := snone R.gf h1
    refine ⟨upd F a o, addF n a o G, R.frz n ho h1 h3 h4, ⟨x.f.trans (same_upd h1), x.g.trans (addF_same hG), x.h, x.d, fun b u e k nb => ?_, x.o, x.r, x.l⟩, ?_⟩
    · rw [upd_ne (ne_of_none e h0)]
      exact x.n b u e k nb
    · exact h2.rp ho (sel_addF_le h1 hG) sel_addF
end
end DL

/-! DL3: operations by the trees. -/
namespace DL
open PySem PySem.Spec L2

section
variable {K : PySem.W.Frag} {mg : Str → Option Value} {Z : Zx} {F G H F' G' H' B : Hp} {σ : Sg} {env env' : DEnv}
/-- v is to be read as d, its items in B -/
def Rv (K : PySem.W.Frag) (mg : Str → Option Value) (B H : Hp) (v : V) (d : D) : Prop := Rp K mg B v d ∨ ∃ a, v = .ref a ∧ OwnC K mg B H a d

theorem EnvR.gh (R : EnvR K mg Z F G H σ env) : Same G H := R.gf.trans R.fh
theorem EnvR.selH (R : EnvR K mg Z F G H σ env) {n : Bool} : Same (sel n G F) H := by
  cases n
  · exact R.fh
  · exact R.gh
theorem Rp.selg {n : Bool} {v : V} {d : D} (h : Rp K mg (sel n G F) v d) : Rp K mg (sel (n || DL.gnd d) G F) v d := by
  cases e : DL.gnd d with
  | true => exact h.gnd e
  | false => rw [Bool.or_false]; exact h
theorem RT.rv {v : V} {t : T} {d : D} (R : EnvR K mg Z F G H σ env) (h : RT K mg Z F G H σ env v t) (e : rd env t = some d) : Rv K mg (sel (rdn env t) G F) H v d := by
  cases t with
  | fz x n => cases e; exact .inl (Rp.selg h)
  | ow x n => cases e; obtain ⟨a, e1, _, e2, _⟩ := h; exact .inr ⟨a, e1, e2⟩
  | al i =>
    obtain ⟨h1, _⟩ := h
    cases es : env[i]? with
    | none => simp [rd, es] at e
    | some s =>
      have q := R.slot i s es
      simp only [rd, es] at e
      simp only [rdn, es]
      cases s with
      | un => cases e
      | fz x n => cases e; obtain ⟨w, e1, e2⟩ := q; rw [h1] at e1; cases e1; exact .inl e2.selg
      | ow x n => cases e; obtain ⟨a, e1, _, e2, _⟩ := q; rw [h1] at e1; cases e1; exact .inr ⟨a, rfl, e2⟩
      | io x => cases e; obtain ⟨a, e1, _, e2, _⟩ := q; rw [h1] at e1; cases e1; exact .inr ⟨a, rfl, e2⟩
theorem Rv.rp {v : V} {d : D} (h : Rv K mg B H v d) (s : Same B H) : Rp K mg H v d := by
  rcases h with h | ⟨a, rfl, h⟩
  · exact h.mono s
  · exact h.rpH s
theorem Rv.list {v : V} {ds : List D} (h : Rv K mg B H v (.list ds)) (s : Same B H) : ∃ a vs, v = .ref a ∧ H a = some (.lst vs) ∧ Rps K mg B vs ds := by
  rcases h with h | ⟨a, rfl, h⟩
  · cases h with
    | lst h r => exact ⟨_, _, rfl, s _ _ h, r⟩
  · rcases h with ⟨es, vs, h1, h2, h3⟩ | ⟨es, vs, h1, h2, h3, h4⟩ | ⟨es, vs, h1, h2, h3, h4⟩ | ⟨cn, fs, C, dx, fvs, h1, h2, h3, h4, h5⟩
    · cases h1; exact ⟨_, _, rfl, h2, h3⟩
    · cases h1
    · cases h1
    · cases h1
theorem Rv.tup {v : V} {ds : List D} (h : Rv K mg B H v (.tuple ds)) : ∃ a vs, v = .ref a ∧ B a = some (.tup vs) ∧ Rps K mg B vs ds := by
  rcases h with h | ⟨a, rfl, h⟩
  · cases h with
    | tup h r => exact ⟨_, _, rfl, h, r⟩
  · rcases h with ⟨es, vs, h1, h2, h3⟩ | ⟨es, vs, h1, h2, h3, h4⟩ | ⟨es, vs, h1, h2, h3, h4⟩ | ⟨cn, fs, C, dx, fvs, h1, h2, h3, h4, h5⟩ <;> cases h1
theorem Rv.ktup {v : V} {ds : List D} (h : Rv K mg B H v (.ktup ds)) : ∃ a vs, v = .ref a ∧ SqT K B a vs ∧ Rps K mg B vs ds := by
  rcases h with h | ⟨a, rfl, h⟩
  · cases h with
    | ktup h r => exact ⟨_, _, rfl, h, r⟩
  · rcases h with ⟨es, vs, h1, h2, h3⟩ | ⟨es, vs, h1, h2, h3, h4⟩ | ⟨es, vs, h1, h2, h3, h4⟩ | ⟨cn, fs, C, dx, fvs, h1, h2, h3, h4, h5⟩ <;> cases h1
theorem Rv.int {v : V} {i : Int} (h : Rv K mg B H v (.int i)) : v = .int i := by
  rcases h with h | ⟨a, rfl, h⟩
  · cases h; rfl
  · rcases h with ⟨es, vs, h1, h2, h3⟩ | ⟨es, vs, h1, h2, h3, h4⟩ | ⟨es, vs, h1, h2, h3, h4⟩ | ⟨cn, fs, C, dx, fvs, h1, h2, h3, h4, h5⟩ <;> cases h1
theorem Rv.bl {v : V} {i : Bool} (h : Rv K mg B H v (.bool i)) : v = .bl i := by
  rcases h with h | ⟨a, rfl, h⟩
  · cases h; rfl
  · rcases h with ⟨es, vs, h1, h2, h3⟩ | ⟨es, vs, h1, h2, h3, h4⟩ | ⟨es, vs, h1, h2, h3, h4⟩ | ⟨cn, fs, C, dx, fvs, h1, h2, h3, h4, h5⟩ <;> cases h1
theorem Rv.str {v : V} {i : Str} (h : Rv K mg B H v (.str i)) : v = .str i := by
  rcases h with h | ⟨a, rfl, h⟩
  · cases h; rfl
  · rcases h with ⟨es, vs, h1, h2, h3⟩ | ⟨es, vs, h1, h2, h3, h4⟩ | ⟨es, vs, h1, h2, h3, h4⟩ | ⟨cn, fs, C, dx, fvs, h1, h2, h3, h4, h5⟩ <;> cases h1
theorem Rv.non {v : V} (h : Rv K mg B H v .none) : v = .non := by
  rcases h with h | ⟨a, rfl, h⟩
  · cases h; rfl
  · rcases h with ⟨es, vs, h1, h2, h3⟩ | ⟨es, vs, h1, h2, h3, h4⟩ | ⟨es, vs, h1, h2, h3, h4⟩ | ⟨cn, fs, C, dx, fvs, h1, h2, h3, h4, h5⟩ <;> cases h1
theorem Rv.scr {v : V} {ds : List D} (h : Rv K mg B H v (.scr ds)) : ∃ a vs, v = .ref a ∧ SqL K B a vs ∧ Rps K mg B vs ds := by
  rcases h with h | ⟨a, rfl, h⟩
  · cases h with
    | scr h r => exact ⟨_, _, rfl, h, r⟩
  · rcases h with ⟨es, vs, h1, h2, h3⟩ | ⟨es, vs, h1, h2, h3, h4⟩ | ⟨es, vs, h1, h2, h3, h4⟩ | ⟨cn, fs, C, dx, fvs, h1, h2, h3, h4, h5⟩ <;> cases h1
/-- lists and tuples, their items -/
def seqOf : D → Option (List D)
  | .list xs => some xs | .tuple xs => some xs | .scr xs => some xs | .ktup xs => some xs | _ => none
theorem Rv.seq {v : V} {d : D} {ds : List D} (h : Rv K mg B H v d) (s : Same B H) (e : seqOf d = some ds) : ∃ a vs, v = .ref a ∧ (SqL K H a vs ∨ SqT K H a vs) ∧ Rps K mg B vs ds := by
  cases d <;> first
    | (cases e; done)
    | (cases e
       first
         | (obtain ⟨a, vs, h1, h2, h3⟩ := h.list s; exact ⟨a, vs, h1, .inl (SqL.of h2), h3⟩)
         | (obtain ⟨a, vs, h1, h2, h3⟩ := h.tup; exact ⟨a, vs, h1, .inr (SqT.of (s _ _ h2)), h3⟩)
         | (obtain ⟨a, vs, h1, h2, h3⟩ := h.scr; exact ⟨a, vs, h1, .inl (s.seq h2), h3⟩)
         | (obtain ⟨a, vs, h1, h2, h3⟩ := h.ktup; exact ⟨a, vs, h1, .inr (Same.seqT s h2), h3⟩))

/-! ### what is new -/
theorem RT.newOwn {p : Addr} {o : HO} {d : D} {n : Bool} (R : EnvR K mg Z F G H σ env) (hp : H p = none) (hc : OwnC K mg (sel n G F) (upd H p o) p d) :
    EnvR K mg Z F G (upd H p o) σ env ∧ Ext σ env env F G H F G (upd H p o) ∧ RT K mg Z F G (upd H p o) σ env (.ref p) (.ow d n) ∧ NewT H (.ref p) (.ow d n) :=
  ⟨R.grow (same_upd hp), Ext.grow (same_upd hp), ⟨p, rfl, snone R.fh hp, hc, R.not_own hp, R.h0 hp⟩, p, rfl, hp⟩
theorem RT.newList {p : Addr} {vs : List V} {ds : List D} {n : Bool} (R : EnvR K mg Z F G H σ env) (hp : H p = none) (r : Rps K mg (sel n G F) vs ds) :
    EnvR K mg Z F G (upd H p (.lst vs)) σ env ∧ Ext σ env env F G H F G (upd H p (.lst vs)) ∧ RT K mg Z F G (upd H p (.lst vs)) σ env (.ref p) (.ow (.list ds) n) ∧ NewT H (.ref p) (.ow (.list ds) n) :=
  RT.newOwn R hp (.inl ⟨ds, vs, rfl, upd_same, r⟩)
theorem RT.newTup {p : Addr} {vs : List V} {ds : List D} {n : Bool} (R : EnvR K mg Z F G H σ env) (hp : H p = none) (r : Rps K mg (sel n G F) vs ds) :
    EnvR K mg Z (upd F p (.tup vs)) (addF n p (.tup vs) G) (upd H p (.tup vs)) σ env ∧ Ext σ env env F G H (upd F p (.tup vs)) (addF n p (.tup vs) G) (upd H p (.tup vs)) ∧
      RT K mg Z (upd F p (.tup vs)) (addF n p (.tup vs) G) (upd H p (.tup vs)) σ env (.ref p) (.fz (.tuple ds) n) := by
  obtain ⟨h1, h2⟩ := R.lay n hp
  have hF := snone R.fh hp
  exact ⟨h1, h2, .tup sel_addF (r.mono (sel_addF_le hF (snone R.gf hF)))⟩
theorem sel_and {n m : Bool} (gf : Same G F) : Same (sel n G F) (sel (n && m) G F) := by
  cases n <;> cases m
  · exact .refl _
  · exact .refl _
  · exact gf
  · exact .refl _
theorem sel_and' {n m : Bool} (gf : Same G F) : Same (sel m G F) (sel (n && m) G F) := by
  cases n <;> cases m
  · exact .refl _
  · exact gf
  · exact .refl _
  · exact .refl _
end

/-! ### operations on two values -/
abbrev F2 := D → D → Bool → Bool → (T → Prop) → Prop
abbrev After (X : Cx) (Z : Zx) (F G H : Hp) (σ : Sg) (env : DEnv) (P : T → Prop) (Q : VK) : Prop :=
  ∀ (t : T) (F' G' H' : Hp) (v : V), P t → EnvR X.K X.mg Z F' G' H' σ env → Ext σ env env F G H F' G' H' → RT X.K X.mg Z F' G' H' σ env v t → NewT H v t → Q v H'
def OpD (X : Cx) (g : Value → Value → Sem Value) (f : F2) : Prop := ∃ r : R2, OpR X g r ∧
  ∀ (Z : Zx) (F G H : Hp) (σ : Sg) (env : DEnv) (v1 v2 : V) (d1 d2 : D) (n1 n2 : Bool) (P : T → Prop) (Q : VK),
    EnvR X.K X.mg Z F G H σ env → Rv X.K X.mg (sel n1 G F) H v1 d1 → Rv X.K X.mg (sel n2 G F) H v2 d2 → f d1 d2 n1 n2 P → After X Z F G H σ env P Q → r v1 v2 H Q
/-- two values by an operation -/
def dOp (f : F2) (wa wb : DW) : DW := fun env P E => wa env (fun ta env1 => wb env1 (fun tb env2 => ∃ x y, rd env2 (hold ta) = some x ∧ rd env2 (hold tb) = some y ∧ f x y (rdn env2 (hold ta)) (rdn env2 (hold tb)) fun t => P t env2) E) E
section
variable {X : Cx} {Z : Zx} {W : WX} {pos : Pos}
theorem d_op0 {g : Value → Value → Sem Value} {f : F2} {e a b : Expr} {wa wb : DW} (h : OpD X g f) (k : ∀ {r : R2} {ta tb : TE}, OpR X g r → PE X a ta → PE X b tb → PE X e (tOp r ta tb)) (ha : DE X Z W a wa) (hb : DE X Z W b wb) : DE X Z W e (dOp f wa wb) := by
  obtain ⟨r, hr, hf⟩ := h
  refine PE.of (k hr ha hb) fun σ H Q ⟨F, G, env, P, E, R, w, q, qe⟩ => ?_
  refine ⟨F, G, env, _, E, R, w, fun ta env1 F1 G1 H1 v1 p1 R1 x1 r1 n1 => ?_, qe⟩
  obtain ⟨F2, G2, R2, x2, r2⟩ := RT.hold R1 x1 r1 n1
  refine ⟨F2, G2, env1, _, E, R2, p1, fun tb env3 F3 G3 H3 v3 p3 R3 x3 r3 n3 => ?_, qe⟩
  obtain ⟨F4, G4, R4, x4, r4⟩ := RT.hold R3 x3 r3 n3
  obtain ⟨x, y, e1, e2, p⟩ := p3
  have r2' := RT.ext r2 hold_ow x4
  have xx := x2.trans x4
  refine hf Z F4 G4 H3 σ env3 v1 v3 x y _ _ _ _ R4 (RT.rv R4 r2' e1) (RT.rv R4 r4 e2) p fun t F' G' H' v pt R' x' r' n' => ?_
  refine q t env3 F' G' H' v pt R' (xx.trans x') r' ?_
  cases t with
  | fz => trivial
  | al => trivial
  | ow d n =>
    obtain ⟨a', rfl, e⟩ := n'
    refine ⟨a', rfl, ?_⟩
    cases eH : H a' with
    | none => rfl
    | some o => obtain ⟨u, z⟩ := xx.d _ _ eH; rw [e] at z; cases z
theorem d_op {op : Operator} {f : F2} {a b : Expr} {wa wb : DW} (h : OpD X (binaryOp op) f) (ha : DE X Z W a wa) (hb : DE X Z W b wb) : DE X Z W (.BinOp a op b pos) (dOp f wa wb) :=
  d_op0 h (fun h1 h2 h3 => pe_op h1 h2 h3) ha hb
theorem d_cmp {op : CmpOp} {f : F2} {a b : Expr} {wa wb : DW} (h : OpD X (compareOp op) f) (hm : behindInMarks op b = false) (ha : DE X Z W a wa) (hb : DE X Z W b wb) : DE X Z W (.Compare a [op] [b] pos) (dOp f wa wb) :=
  d_op0 h (fun h1 h2 h3 => pe_cmpR h1 h2 h3 hm) ha hb
end
end DL

/-! DL4: the operators. -/
namespace DL
open PySem PySem.Spec L2

def dI (i : Int) : T := .fz (.int i) true
def dB (b : Bool) : T := .fz (.bool b) true
def dS (x : Str) : T := .fz (.str x) true

section
variable {X : Cx}
theorem OpR.or {f : Value → Value → Sem Value} {r r' : R2} (h : OpR X f r) (h' : OpR X f r') : OpR X f (fun x y H Q => r x y H Q ∨ r' x y H Q) := by
  intro pins s σ H x y v u Q I rx ry q
  rcases q with q | q
  · exact h pins s σ H x y v u Q I rx ry q
  · exact h' pins s σ H x y v u Q I rx ry q

/-- two ints in, under C, one value out -/
def fI (C : Int → Int → Prop) (g : Int → Int → T) : F2 := fun x y _ _ P => ∃ i j, x = .int i ∧ y = .int j ∧ C i j ∧ P (g i j)
theorem opD_I {f : Value → Value → Sem Value} {C : Int → Int → Prop} {g : Int → Int → Int} (h : OpR X f (rI C fun i j => .int (g i j))) : OpD X f (fI C fun i j => dI (g i j)) := by
  refine ⟨_, h, fun Z F G H σ env v1 v2 d1 d2 n1 n2 P Q R h1 h2 hf q => ?_⟩
  obtain ⟨i, j, rfl, rfl, hc, p⟩ := hf
  exact ⟨i, j, h1.int, h2.int, hc, q _ F G H _ p R .refl (.int _) trivial⟩
theorem opD_B {f : Value → Value → Sem Value} {g : Int → Int → Bool} (h : OpR X f (rI0 fun i j => .bl (g i j))) : OpD X f (fI (fun _ _ => True) fun i j => dB (g i j)) := by
  refine ⟨_, h, fun Z F G H σ env v1 v2 d1 d2 n1 n2 P Q R h1 h2 hf q => ?_⟩
  obtain ⟨i, j, rfl, rfl, hc, p⟩ := hf
  exact ⟨i, j, h1.int, h2.int, q _ F G H _ p R .refl (.bl _) trivial⟩
theorem opD_I0 {f : Value → Value → Sem Value} {g : Int → Int → Int} (h : OpR X f (rI0 fun i j => .int (g i j))) : OpD X f (fI (fun _ _ => True) fun i j => dI (g i j)) := by
  refine ⟨_, h, fun Z F G H σ env v1 v2 d1 d2 n1 n2 P Q R h1 h2 hf q => ?_⟩
  obtain ⟨i, j, rfl, rfl, hc, p⟩ := hf
  exact ⟨i, j, h1.int, h2.int, q _ F G H _ p R .refl (.int _) trivial⟩

def fAdd : F2 := fun x y n m P => match x, y with
  | .int i, .int j => P (dI (i + j))
  | .str a, .str b => a.length + b.length ≤ sizeLine ∧ P (dS (a ++ b))
  | .list xs, .list ys => xs.length + ys.length ≤ sizeLine ∧ P (.ow (.list (xs ++ ys)) (n && m))
  | .tuple xs, .tuple ys => xs ≠ [] ∧ xs.length + ys.length ≤ sizeLine ∧ P (.fz (.tuple (xs ++ ys)) (n && m))
  | _, _ => False
theorem o_add : OpD X (binaryOp .Add) fAdd := by
  refine ⟨_, OpR.or op_add (OpR.or op_add_str (OpR.or op_cat op_catT)), fun Z F G H σ env v1 v2 d1 d2 n1 n2 P Q R h1 h2 hf q => ?_⟩
  unfold fAdd at hf
  split at hf
  · exact .inl ⟨_, _, h1.int, h2.int, q _ F G H _ hf R .refl (.int _) trivial⟩
  · exact .inr (.inl ⟨_, _, h1.str, h2.str, hf.1, q _ F G H _ hf.2 R .refl (.str _) trivial⟩)
  · obtain ⟨a, vs, rfl, ha, ra⟩ := h1.list R.selH
    obtain ⟨b, ws, rfl, hb, rb⟩ := h2.list R.selH
    refine .inr (.inr (.inl ⟨a, b, vs, ws, rfl, rfl, ha, hb, by rw [ra.length, rb.length]; exact hf.1, fun p hp => ?_⟩))
    obtain ⟨k1, k2, k3, k4⟩ := RT.newList (n := n1 && n2) R hp ((ra.mono (sel_and R.gf)).append (rb.mono (sel_and' R.gf)))
    exact q _ _ _ _ _ hf.2 k1 k2 k3 k4
  · obtain ⟨a, vs, rfl, ha, ra⟩ := h1.tup
    obtain ⟨b, ws, rfl, hb, rb⟩ := h2.tup
    have e1 := ra.length
    have e2 := rb.length
    obtain ⟨hx, hl, p⟩ := hf
    refine .inr (.inr (.inr ⟨a, b, vs, ws, rfl, rfl, SqT.of (R.selH _ _ ha), SqT.of (R.selH _ _ hb), fun z => hx (by subst z; exact List.length_eq_zero_iff.mp (by rw [← e1]; rfl)), by rw [e1, e2]; exact hl, fun z => ?_, fun z p' hp => ?_⟩))
    · subst z
      have e3 := List.length_eq_zero_iff.mp (show _ = 0 from e2.symm)
      subst e3
      rw [List.append_nil] at p
      exact q _ F G H _ p R .refl (Rp.mono (sel_and R.gf) (.tup ha ra)) trivial
    · obtain ⟨k1, k2, k3⟩ := RT.newTup (n := n1 && n2) R hp ((ra.mono (sel_and R.gf)).append (rb.mono (sel_and' R.gf)))
      exact q _ _ _ _ _ p k1 k2 k3 trivial
  · exact hf.elim

def fMul : F2 := fun x y n _ P => match x, y with
  | .int i, .int j => CMulW i j ∧ P (dI (i * j))
  | .list xs, .int k => -(2 ^ 63) ≤ k ∧ k < 2 ^ 63 ∧ xs.length * k.toNat ≤ sizeLine ∧ P (.ow (.list (List.replicate k.toNat xs).flatten) n)
  | _, _ => False
theorem Rps.flat {K : PySem.W.Frag} {mg : Str → Option Value} {B : Hp} {vs : List V} {ds : List D} (r : Rps K mg B vs ds) : ∀ n : Nat, Rps K mg B (List.replicate n vs).flatten (List.replicate n ds).flatten
  | 0 => .nil
  | n + 1 => by
    rw [List.replicate_succ, List.replicate_succ, List.flatten_cons, List.flatten_cons]
    exact r.append (Rps.flat r n)
theorem o_mul : OpD X (binaryOp .Mult) fMul := by
  refine ⟨_, OpR.or op_mulW op_rep, fun Z F G H σ env v1 v2 d1 d2 n1 n2 P Q R h1 h2 hf q => ?_⟩
  unfold fMul at hf
  split at hf
  · exact .inl ⟨_, _, h1.int, h2.int, hf.1, q _ F G H _ hf.2 R .refl (.int _) trivial⟩
  · obtain ⟨a, vs, rfl, ha, ra⟩ := h1.list R.selH
    obtain ⟨z1, z2, z3, p⟩ := hf
    refine .inr ⟨a, _, vs, rfl, h2.int, ha, z1, z2, by rw [ra.length]; exact z3, fun p' hp => ?_⟩
    obtain ⟨k1, k2, k3, k4⟩ := RT.newList (n := n1) R hp (Rps.flat ra _)
    exact q _ _ _ _ _ p k1 k2 k3 k4
  · exact hf.elim
theorem o_sub : OpD X (binaryOp .Sub) (fI (fun _ _ => True) fun i j => dI (i - j)) := opD_I0 op_sub
theorem o_fdiv : OpD X (binaryOp .FloorDiv) (fI CDivW fun i j => dI (i / j)) := opD_I op_fdivW
theorem o_mod : OpD X (binaryOp .Mod) (fI (fun _ j => 0 < j) fun i j => dI (i % j)) := opD_I op_mod
theorem o_pow : OpD X (binaryOp .Pow) (fI CPow fun i j => dI (i ^ j.toNat)) := opD_I op_pow
theorem o_shl : OpD X (binaryOp .LShift) (fI CPow fun i j => dI (i * 2 ^ j.toNat)) := opD_I op_shl
theorem o_shr : OpD X (binaryOp .RShift) (fI (fun _ j => 0 ≤ j) fun i j => dI (i / 2 ^ j.toNat)) := opD_I op_shr
theorem o_and : OpD X (binaryOp .BitAnd) (fI (fun _ _ => True) fun i j => dI (Builtin.bitAnd i j)) := opD_I0 op_and
theorem o_or : OpD X (binaryOp .BitOr) (fI (fun _ _ => True) fun i j => dI (Builtin.bitOr i j)) := opD_I0 op_or

/-! ### comparisons -/
def fOrd (g : Int → Int → Bool) (gs : Str → Str → Bool) : F2 := fun x y _ _ P => match x, y with
  | .int i, .int j => P (dB (g i j))
  | .str i, .str j => P (dB (gs i j))
  | _, _ => False
theorem opD_ord {f : Value → Value → Sem Value} {g : Int → Int → Bool} {gs : Str → Str → Bool} (h : OpR X f (rI0 fun i j => .bl (g i j)))
    (h2 : OpR X f (fun x y H Q => ∃ i j, x = .str i ∧ y = .str j ∧ Q (.bl (gs i j)) H)) : OpD X f (fOrd g gs) := by
  refine ⟨_, OpR.or h h2, fun Z F G H σ env v1 v2 d1 d2 n1 n2 P Q R h1 h2 hf q => ?_⟩
  unfold fOrd at hf
  split at hf
  · exact .inl ⟨_, _, h1.int, h2.int, q _ F G H _ hf R .refl (.bl _) trivial⟩
  · exact .inr ⟨_, _, h1.str, h2.str, q _ F G H _ hf R .refl (.bl _) trivial⟩
  · exact hf.elim
/-- the ints of a row -/
def intsOf : List D → Option (List Int)
  | [] => some []
  | .int i :: r => (intsOf r).map (i :: ·)
  | _ :: _ => none
theorem Rps.ints {K : PySem.W.Frag} {mg : Str → Option Value} {B : Hp} {vs : List V} {ds : List D} (r : Rps K mg B vs ds) : ∀ {ns : List Int}, intsOf ds = some ns → vs = ns.map V.int := by
  induction ds generalizing vs with
  | nil => intro ns e; cases e; cases r; rfl
  | cons d ds ih =>
    intro ns e
    cases r with
    | cons h t =>
      cases d <;> first | (cases e; done) | skip
      rename_i i
      cases em : intsOf ds with
      | none => simp [intsOf, em] at e
      | some ms =>
        simp [intsOf, em] at e
        subst e
        cases h
        rw [ih t em]
        rfl
def fLt : F2 := fun x y n m P => match x, y with
  | .int i, .int j => P (dB (decide (i < j)))
  | .str i, .str j => P (dB (decide (i.cps.toList < j.cps.toList)))
  | .tuple xs, .tuple ys => ∃ ns ms, intsOf xs = some ns ∧ intsOf ys = some ms ∧ P (dB (HT.lexLt ns ms))
  | _, _ => False
theorem o_lt (hu : X.A.units < cLine) : OpD X (compareOp .Lt) fLt := by
  refine ⟨_, OpR.or op_lt (OpR.or op_lt_str (op_ltT hu)), fun Z F G H σ env v1 v2 d1 d2 n1 n2 P Q R h1 h2 hf q => ?_⟩
  unfold fLt at hf
  split at hf
  · exact .inl ⟨_, _, h1.int, h2.int, q _ F G H _ hf R .refl (.bl _) trivial⟩
  · exact .inr (.inl ⟨_, _, h1.str, h2.str, q _ F G H _ hf R .refl (.bl _) trivial⟩)
  · obtain ⟨a, vs, rfl, ha, ra⟩ := h1.tup
    obtain ⟨b, ws, rfl, hb, rb⟩ := h2.tup
    obtain ⟨ns, ms, e1, e2, p⟩ := hf
    have k1 := ra.ints e1
    have k2 := rb.ints e2
    subst k1 k2
    exact .inr (.inr ⟨a, b, ns, ms, rfl, rfl, SqT.of (R.selH _ _ ha), SqT.of (R.selH _ _ hb), q _ F G H _ p R .refl (.bl _) trivial⟩)
  · exact hf.elim
theorem o_le : OpD X (compareOp .LtE) (fOrd (fun i j => decide (i ≤ j)) fun i j => !decide (j.cps.toList < i.cps.toList)) := opD_ord op_le op_le_str
theorem o_gt : OpD X (compareOp .Gt) (fOrd (fun i j => decide (j < i)) fun i j => decide (j.cps.toList < i.cps.toList)) := opD_ord op_gt op_gt_str
theorem o_ge : OpD X (compareOp .GtE) (fOrd (fun i j => decide (j ≤ i)) fun i j => !decide (i.cps.toList < j.cps.toList)) := opD_ord op_ge op_ge_str

/-- == of plain data -/
def deq (x y : D) : Bool := PyData.eqv x.pd y.pd
def okD (x : D) : Bool := pln x && SeqAt.shaped x.pd
def fEq : F2 := fun x y _ _ P => okD x = true ∧ okD y = true ∧ P (dB (deq x y))
def fNe : F2 := fun x y _ _ P => okD x = true ∧ okD y = true ∧ P (dB (!deq x y))
theorem okD_of {x : D} (h : okD x = true) : pln x = true ∧ SeqAt.shaped x.pd = true := by simpa [okD] using h
theorem o_eq (hu : X.A.units + 64 < cLine) : OpD X (compareOp .Eq) fEq := by
  refine ⟨_, op_eqD hu, fun Z F G H σ env v1 v2 d1 d2 n1 n2 P Q R h1 h2 ⟨k1, k2, p⟩ q => ?_⟩
  obtain ⟨a1, a2⟩ := okD_of k1
  obtain ⟨b1, b2⟩ := okD_of k2
  exact ⟨_, _, (h1.rp R.selH).dp a1, (h2.rp R.selH).dp b1, a2, b2, q _ F G H _ p R .refl (.bl _) trivial⟩
theorem o_ne (hu : X.A.units + 64 < cLine) : OpD X (compareOp .NotEq) fNe := by
  refine ⟨_, op_neD hu, fun Z F G H σ env v1 v2 d1 d2 n1 n2 P Q R h1 h2 ⟨k1, k2, p⟩ q => ?_⟩
  obtain ⟨a1, a2⟩ := okD_of k1
  obtain ⟨b1, b2⟩ := okD_of k2
  exact ⟨_, _, (h1.rp R.selH).dp a1, (h2.rp R.selH).dp b1, a2, b2, q _ F G H _ p R .refl (.bl _) trivial⟩

/-- is, of None and of bools -/
def isN : D → Bool
  | .none => true | _ => false
def fIs (neg : Bool) : F2 := fun x y _ _ P => match x, y with
  | .bool a, .bool b => P (dB (neg != decide (a = b)))
  | x, .none => P (dB (neg != isN x))
  | _, _ => False
theorem Rp.isN {K : PySem.W.Frag} {mg : Str → Option Value} {B : Hp} {v : V} {d : D} (h : Rp K mg B v d) : decide (v = .non) = DL.isN d := by cases h <;> rfl
theorem Rv.isN {K : PySem.W.Frag} {mg : Str → Option Value} {B H : Hp} {v : V} {d : D} (h : Rv K mg B H v d) : decide (v = .non) = DL.isN d := by
  rcases h with h | ⟨a, rfl, h⟩
  · exact h.isN
  · rcases h with ⟨es, vs, h1, h2, h3⟩ | ⟨es, vs, h1, h2, h3, h4⟩ | ⟨es, vs, h1, h2, h3, h4⟩ | ⟨cn, fs, C, dx, fvs, h1, h2, h3, h4, h5⟩ <;> (subst h1; rfl)
theorem o_is : OpD X (compareOp .Is) (fIs false) := by
  refine ⟨_, OpR.or op_isN op_is_bl, fun Z F G H σ env v1 v2 d1 d2 n1 n2 P Q R h1 h2 hf q => ?_⟩
  unfold fIs at hf
  split at hf
  · exact .inr ⟨_, _, h1.bl, h2.bl, by have := q _ F G H _ hf R .refl (.bl _) trivial; simpa using this⟩
  · exact .inl ⟨h2.non, by rw [h1.isN]; have := q _ F G H _ hf R .refl (.bl _) trivial; simpa using this⟩
  · exact hf.elim
theorem o_isnot : OpD X (compareOp .IsNot) (fIs true) := by
  refine ⟨_, OpR.or op_notN op_isnot_bl, fun Z F G H σ env v1 v2 d1 d2 n1 n2 P Q R h1 h2 hf q => ?_⟩
  unfold fIs at hf
  split at hf
  · exact .inr ⟨_, _, h1.bl, h2.bl, by have := q _ F G H _ hf R .refl (.bl _) trivial; simpa using this⟩
  · exact .inl ⟨h2.non, by rw [h1.isN]; have := q _ F G H _ hf R .refl (.bl _) trivial; simpa using this⟩
  · exact hf.elim
end
end DL

/-! DL5: dicts by trees, subscripts, slices, in. -/
namespace DL
open PySem PySem.Spec L2

/-! ### keys -/
def keyK : D → Option Key
  | .int i => some (.inl i)
  | .str x => some (.inr x)
  | _ => none
def keysK : List D → Option (List Key)
  | [] => some []
  | d :: r => match keyK d, keysK r with
    | some k, some ks => some (k :: ks)
    | _, _ => none
def keyT : D → Option (List Key)
  | .tuple xs => keysK xs
  | _ => none
def dget (kvs : List (D × D)) (k : D) : Option D := (kvs.find? fun p => deq p.1 k).map (·.2)
def dput (kvs : List (D × D)) (k v : D) : List (D × D) :=
  if (kvs.any fun p => deq p.1 k) = true then kvs.map (fun p => if deq p.1 k = true then (p.1, v) else p) else kvs ++ [(k, v)]

theorem keyK_of {d : D} {k : Key} (h : keyK d = some k) : d = keyD k := by
  cases d <;> first | (cases h; done) | (cases h; rfl)
theorem keysK_of : ∀ {ds : List D} {ks : List Key}, keysK ds = some ks → ds = ks.map keyD
  | [], ks, h => by cases h; rfl
  | d :: r, ks, h => by
    unfold keysK at h
    cases e1 : keyK d with
    | none => rw [e1] at h; cases h
    | some k =>
      cases e2 : keysK r with
      | none => rw [e1, e2] at h; cases h
      | some l =>
        rw [e1, e2] at h
        cases h
        rw [keyK_of e1, keysK_of e2]
        rfl
theorem keyT_of {d : D} {k : List Key} (h : keyT d = some k) : d = .tuple (k.map keyD) := by
  cases d <;> first | (cases h; done) | (rw [keysK_of (show keysK _ = some k from h)])
theorem deq_key (a b : Key) : deq (keyD a) (keyD b) = decide (a = b) := by
  cases a <;> cases b <;> simp [deq, keyD, D.pd, PyData.eqv] <;> (rw [Bool.eq_iff_iff]; simp)
theorem eqvAll_keys : ∀ a b : List Key, PyData.eqvAll (D.pds (a.map keyD)) (D.pds (b.map keyD)) = decide (a = b)
  | [], [] => by simp [D.pds, PyData.eqvAll]
  | [], _ :: _ => by simp [D.pds, PyData.eqvAll]
  | _ :: _, [] => by simp [D.pds, PyData.eqvAll]
  | x :: xs, y :: ys => by
    simp only [List.map_cons, D.pds, PyData.eqvAll]
    rw [show PyData.eqv (keyD x).pd (keyD y).pd = decide (x = y) from deq_key x y, eqvAll_keys xs ys]
    simp
theorem deq_keyT (a b : List Key) : deq (.tuple (a.map keyD)) (.tuple (b.map keyD)) = decide (a = b) := by
  show PyData.eqv (PyData.tuple _) (PyData.tuple _) = _
  simp only [PyData.eqv]
  exact eqvAll_keys a b

section
variable {K : PySem.W.Frag} {mg : Str → Option Value} {B : Hp} {κ : Type} [DecidableEq κ] {kd : κ → D}
/-- looking up: the same on both sides -/
theorem dget_val (hk : ∀ a b : κ, deq (kd a) (kd b) = decide (a = b)) {k : κ} : ∀ {kvs : List (κ × V)} {ds : List (D × D)}, ds.map (·.1) = kvs.map (fun p => kd p.1) → Rps K mg B (kvs.map (·.2)) (ds.map (·.2)) →
    (valV kvs k = none ∧ dget ds (kd k) = none) ∨ ∃ v d, valV kvs k = some v ∧ dget ds (kd k) = some d ∧ Rp K mg B v d
  | [], [], _, _ => .inl ⟨rfl, rfl⟩
  | [], _ :: _, h, _ => by simp at h
  | _ :: _, [], h, _ => by simp at h
  | (k1, v) :: r, (d1, d) :: t, h, q => by
    simp only [List.map_cons, List.cons.injEq] at h
    obtain ⟨h1, h2⟩ := h
    subst h1
    cases q with
    | cons q1 q2 =>
      by_cases e : k1 = k
      · subst e
        refine .inr ⟨v, d, valV_pos rfl, ?_, q1⟩
        simp [dget, hk]
      · have z := dget_val hk (k := k) h2 q2
        have e1 : valV ((k1, v) :: r) k = valV r k := by simp [valV, e]
        have e2 : dget ((kd k1, d) :: t) (kd k) = dget t (kd k) := by simp [dget, hk, e]
        rw [e1, e2]
        exact z
theorem any_key (hk : ∀ a b : κ, deq (kd a) (kd b) = decide (a = b)) {k : κ} : ∀ {kvs : List (κ × V)} {ds : List (D × D)}, ds.map (·.1) = kvs.map (fun p => kd p.1) →
    (ds.any fun p => deq p.1 (kd k)) = kvs.any fun kv => decide (kv.1 = k)
  | [], [], _ => rfl
  | [], _ :: _, h => by simp at h
  | _ :: _, [], h => by simp at h
  | (k1, v) :: r, (d1, d) :: t, h => by
    simp only [List.map_cons, List.cons.injEq] at h
    obtain ⟨h1, h2⟩ := h
    subst h1
    rw [List.any_cons, List.any_cons, any_key hk h2, hk]
theorem put_keys (hk : ∀ a b : κ, deq (kd a) (kd b) = decide (a = b)) {k : κ} {v : V} {d : D} (hv : Rp K mg B v d) {kvs : List (κ × V)} {ds : List (D × D)} (h : ds.map (·.1) = kvs.map (fun p => kd p.1)) (q : Rps K mg B (kvs.map (·.2)) (ds.map (·.2))) :
    (dput ds (kd k) d).map (·.1) = (putK kvs k v).map (fun p => kd p.1) ∧ Rps K mg B ((putK kvs k v).map (·.2)) ((dput ds (kd k) d).map (·.2)) := by
  unfold dput putK
  rw [any_key hk h]
  cases e : kvs.any fun kv => decide (kv.1 = k) with
  | false =>
    simp only [Bool.false_eq_true, if_false]
    simp only [List.map_append, List.map_cons, List.map_nil]
    exact ⟨by rw [h], q.append (.one hv)⟩
  | true =>
    simp only [if_true]
    clear e
    induction kvs generalizing ds with
    | nil =>
      cases ds with
      | nil => exact ⟨rfl, .nil⟩
      | cons => simp at h
    | cons p r ih =>
      cases ds with
      | nil => simp at h
      | cons p' t =>
        obtain ⟨k1, v1⟩ := p
        obtain ⟨d1, d2⟩ := p'
        simp only [List.map_cons, List.cons.injEq] at h
        obtain ⟨h1, h2⟩ := h
        subst h1
        cases q with
        | cons q1 q2 =>
          obtain ⟨i1, i2⟩ := ih h2 q2
          by_cases ek : k1 = k
          · subst ek
            simp only [List.map_cons, hk, decide_true, if_true]
            exact ⟨congrArg _ i1, .cons hv i2⟩
          · simp only [List.map_cons, hk, ek, decide_false, Bool.false_eq_true, if_false]
            exact ⟨congrArg _ i1, .cons q1 i2⟩
end

section
variable {K : PySem.W.Frag} {mg : Str → Option Value} {Z : Zx} {F G H F' G' H' B : Hp} {σ : Sg} {env env' : DEnv}
theorem Rv.dictK {v : V} {ds : List (D × D)} (h : Rv K mg B H v (.dict false ds)) (s : Same B H) : ∃ a kvs, v = .ref a ∧ H a = some (.dK kvs) ∧ ds.map (·.1) = kvs.map (fun p => keyD p.1) ∧ Rps K mg B (kvs.map (·.2)) (ds.map (·.2)) := by
  rcases h with h | ⟨a, rfl, h⟩
  · cases h with
    | dK h k r => exact ⟨_, _, rfl, s _ _ h, k, r⟩
  · rcases h with ⟨es, vs, h1, h2, h3⟩ | ⟨es, vs, h1, h2, h3, h4⟩ | ⟨es, vs, h1, h2, h3, h4⟩ | ⟨cn, fs, C, dx, fvs, h1, h2, h3, h4, h5⟩
    · cases h1
    · cases h1; exact ⟨_, _, rfl, h2, h3, h4⟩
    · cases h1
    · cases h1
theorem Rv.dictT {v : V} {ds : List (D × D)} (h : Rv K mg B H v (.dict true ds)) (s : Same B H) : ∃ a kvs, v = .ref a ∧ H a = some (.dT kvs) ∧ ds.map (·.1) = kvs.map (fun p => D.tuple (p.1.map keyD)) ∧ Rps K mg B (kvs.map (·.2)) (ds.map (·.2)) := by
  rcases h with h | ⟨a, rfl, h⟩
  · cases h with
    | dT h k r => exact ⟨_, _, rfl, s _ _ h, k, r⟩
  · rcases h with ⟨es, vs, h1, h2, h3⟩ | ⟨es, vs, h1, h2, h3, h4⟩ | ⟨es, vs, h1, h2, h3, h4⟩ | ⟨cn, fs, C, dx, fvs, h1, h2, h3, h4, h5⟩
    · cases h1
    · cases h1
    · cases h1; exact ⟨_, _, rfl, h2, h3, h4⟩
    · cases h1
theorem keyV {v : V} {k : Key} (h : Rv K mg B H v (keyD k)) : v = kV k := by
  cases k with
  | inl i => exact h.int
  | inr x => exact h.str
theorem keysV : ∀ {ks : List Key} {vs : List V}, Rps K mg B vs (ks.map keyD) → vs = ks.map kV
  | [], _, h => by cases h; rfl
  | k :: ks, _, h => by
    cases h with
    | cons h r => rw [keyV (H := B) (.inl h), keysV r]; rfl
/-- a key fits a dict -/
def fitK (t : Bool) (k : D) : Prop := if t then ∃ ks, keyT k = some ks else ∃ kk, keyK k = some kk
/-- what a dict holds at a key -/
theorem Rv.dget {va vk : V} {t : Bool} {ds : List (D × D)} {k : D} {n m : Bool} (R : EnvR K mg Z F G H σ env) (h : Rv K mg (sel n G F) H va (.dict t ds)) (hk : Rv K mg (sel m G F) H vk k) (f : fitK t k) :
    ∃ a o, va = .ref a ∧ DGet H a vk o ∧ ((o = none ∧ DL.dget ds k = none) ∨ ∃ v d, o = some v ∧ DL.dget ds k = some d ∧ Rp K mg (sel n G F) v d) := by
  cases t with
  | false =>
    obtain ⟨kk, ek⟩ := f
    obtain ⟨a, kvs, rfl, e, h1, h2⟩ := h.dictK R.selH
    have e2 := keyK_of ek
    subst e2
    refine ⟨a, _, rfl, .inl ⟨kvs, kk, .inl e, keyV hk, rfl⟩, dget_val deq_key h1 h2⟩
  | true =>
    obtain ⟨ks, ek⟩ := f
    obtain ⟨a, kvs, rfl, e, h1, h2⟩ := h.dictT R.selH
    have e2 := keyT_of ek
    subst e2
    obtain ⟨b, vs, rfl, eb, rb⟩ := hk.tup
    have e3 := keysV rb
    subst e3
    exact ⟨a, _, rfl, .inr ⟨kvs, ks, b, .inl e, rfl, R.selH _ _ eb, rfl⟩, dget_val (kd := fun q : List Key => D.tuple (q.map keyD)) deq_keyT h1 h2⟩
end

/-! ### in -/
section
variable {X : Cx}
def rDIn (neg : Bool) : R2 := fun y x H Q => ∃ a o, x = .ref a ∧ DGet H a y o ∧ Q (.bl (neg != o.isSome)) H
theorem op_dIn (hu : X.A.units + 1 < cLine) : OpR X (compareOp .In) (rDIn false) := by
  intro pins s σ H y x v u Q I ry rx h
  obtain ⟨a, o, rfl, g, q⟩ := h
  obtain rfl : u = Value.ref a := rx
  exact d_in hu I g ry fun s' I' => ⟨.bl o.isSome, H, I', rfl, by simpa using q⟩
theorem op_dNotIn (hu : X.A.units + 1 < cLine) : OpR X (compareOp .NotIn) (rDIn true) := by
  intro pins s σ H y x v u Q I ry rx h
  obtain ⟨a, o, rfl, g, q⟩ := h
  obtain rfl : u = Value.ref a := rx
  exact d_notIn hu I g ry fun s' I' => ⟨.bl (!o.isSome), H, I', rfl, by simpa using q⟩
/-- in a tuple of plain data -/
def rTIn (K : PySem.W.Frag) (neg : Bool) : R2 := fun x y H Q => ∃ d ds, Dp K H x d ∧ Dp K H y (.tuple ds) ∧ SeqAt.shaped d = true ∧ SeqAt.shaped (.tuple ds) = true ∧ Q (.bl (neg != ds.any fun z => PyData.eqv z d)) H
theorem op_tIn (hu : X.A.units + 65 < cLine) : OpR X (compareOp .In) (rTIn X.K false) := by
  intro pins s σ H x y v u Q I rx ry h
  obtain ⟨d, ds, hd, he, sd, se, q⟩ := h
  obtain ⟨as, r1⟩ := Dp.reads I d x v hd rx
  obtain ⟨bs, r2⟩ := Dp.reads I (.tuple ds) y u he ry
  exact SeqAt.in_tuple_reads r2 r1 (SeqAt.canLay_of_shaped se) (SeqAt.canLay_of_shaped sd) (PyProof.Rows.room_in_shaped sd hu) ⟨.bl _, H, I, rfl, by simpa using q⟩
theorem op_tNotIn (hu : X.A.units + 65 < cLine) : OpR X (compareOp .NotIn) (rTIn X.K true) := by
  intro pins s σ H x y v u Q I rx ry h
  obtain ⟨d, ds, hd, he, sd, se, q⟩ := h
  obtain ⟨as, r1⟩ := Dp.reads I d x v hd rx
  obtain ⟨bs, r2⟩ := Dp.reads I (.tuple ds) y u he ry
  exact SeqAt.notIn_tuple_reads r2 r1 (SeqAt.canLay_of_shaped se) (SeqAt.canLay_of_shaped sd) (PyProof.Rows.room_in_shaped sd hu) ⟨.bl _, H, I, rfl, by simpa using q⟩

def fIn (neg : Bool) : F2 := fun x y _ _ P => match y with
  | .str z => ∃ c, x = .str ⟨#[c]⟩ ∧ P (dB (neg != decide (c ∈ z.cps.toList)))
  | .list ds => okD x = true ∧ okD (.list ds) = true ∧ P (dB (neg != ds.any fun z => deq z x))
  | .tuple ds => okD x = true ∧ okD (.tuple ds) = true ∧ P (dB (neg != ds.any fun z => deq z x))
  | .ktup ds => okD x = true ∧ okD (.ktup ds) = true ∧ P (dB (neg != ds.any fun z => deq z x))
  | .dict t ds => fitK t x ∧ P (dB (neg != (dget ds x).isSome))
  | _ => False
theorem any_pds (x : D) : ∀ ds : List D, ((D.pds ds).any fun z => PyData.eqv z x.pd) = ds.any fun z => deq z x
  | [] => rfl
  | d :: ds => by
    show (PyData.eqv d.pd x.pd || (D.pds ds).any fun z => PyData.eqv z x.pd) = (deq d x || ds.any fun z => deq z x)
    rw [any_pds x ds]; rfl
theorem o_in_core {f : Value → Value → Sem Value} {neg : Bool} {rs rl rt rd : R2} (hs : OpR X f rs) (hl : OpR X f rl) (ht : OpR X f rt) (hd : OpR X f rd)
    (es : rs = fun x y H Q => ∃ (c : Nat) (z : Str), x = .str ⟨#[c]⟩ ∧ y = .str z ∧ Q (.bl (neg != decide (c ∈ z.cps.toList))) H)
    (el : rl = fun x y H Q => ∃ d ds, Dp X.K H x d ∧ Dp X.K H y (.list ds) ∧ SeqAt.shaped d = true ∧ SeqAt.shaped (.list ds) = true ∧ Q (.bl (neg != ds.any fun z => PyData.eqv z d)) H)
    (et : rt = rTIn X.K neg) (ed : rd = rDIn neg) : OpD X f (fIn neg) := by
  refine ⟨_, OpR.or hs (OpR.or hl (OpR.or ht hd)), fun Z F G H σ env v1 v2 d1 d2 n1 n2 P Q R h1 h2 hf q => ?_⟩
  subst es el et ed
  unfold fIn at hf
  split at hf
  · obtain ⟨c, rfl, p⟩ := hf
    exact .inl ⟨c, _, h1.str, h2.str, q _ F G H _ p R .refl (.bl _) trivial⟩
  · obtain ⟨a1, a2⟩ := okD_of hf.1
    obtain ⟨b1, b2⟩ := okD_of hf.2.1
    exact .inr (.inl ⟨_, _, (h1.rp R.selH).dp a1, (h2.rp R.selH).dp b1, a2, b2, by rw [any_pds]; exact q _ F G H _ hf.2.2 R .refl (.bl _) trivial⟩)
  · obtain ⟨a1, a2⟩ := okD_of hf.1
    obtain ⟨b1, b2⟩ := okD_of hf.2.1
    exact .inr (.inr (.inl ⟨_, _, (h1.rp R.selH).dp a1, (h2.rp R.selH).dp b1, a2, b2, by rw [any_pds]; exact q _ F G H _ hf.2.2 R .refl (.bl _) trivial⟩))
  · obtain ⟨a1, a2⟩ := okD_of hf.1
    obtain ⟨b1, b2⟩ := okD_of hf.2.1
    exact .inr (.inr (.inl ⟨_, _, (h1.rp R.selH).dp a1, (h2.rp R.selH).dp b1, a2, b2, by rw [any_pds]; exact q _ F G H _ hf.2.2 R .refl (.bl _) trivial⟩))
  · obtain ⟨a, o, e, g, w⟩ := Rv.dget R h2 h1 hf.1
    refine .inr (.inr (.inr ⟨a, o, e, g, ?_⟩))
    have z := q _ F G H _ hf.2 R .refl (.bl _) trivial
    rcases w with ⟨rfl, w⟩ | ⟨v, d, rfl, w, _⟩
    · rw [w] at z; exact z
    · rw [w] at z; exact z
  · exact hf.elim
theorem o_in (hu : X.A.units + 65 < cLine) : OpD X (compareOp .In) (fIn false) :=
  o_in_core op_in_sign (op_inD hu) (op_tIn hu) (op_dIn (by omega)) (by simp only [Bool.false_bne]) (by unfold rInD; simp only [Bool.false_bne]) rfl rfl
theorem o_notin (hu : X.A.units + 65 < cLine) : OpD X (compareOp .NotIn) (fIn true) :=
  o_in_core op_notIn_sign (op_notInD hu) (op_tNotIn hu) (op_dNotIn (by omega)) (by simp only [Bool.true_bne]) (by unfold rNotInD; simp only [Bool.true_bne]) rfl rfl
end
end DL

/-! DL6: rows of arguments, displays, subscripts, slices, tests. -/
namespace DL
open PySem PySem.Spec L2

section
variable {K : PySem.W.Frag} {mg : Str → Option Value} {Z : Zx} {W : WX} {F G H F' G' H' B : Hp} {σ : Sg} {env env' : DEnv}
theorem newT_back {H0 : Hp} {v : V} {t : T} (d : ∀ b o, H0 b = some o → ∃ u, H b = some u) (n : NewT H v t) : NewT H0 v t := by
  cases t with
  | fz => trivial
  | al => trivial
  | ow d' m =>
    obtain ⟨a', rfl, e⟩ := n
    refine ⟨a', rfl, ?_⟩
    cases eH : H0 a' with
    | none => rfl
    | some o => obtain ⟨u, z⟩ := d _ _ eH; rw [e] at z; cases z
end

/-! ### rows of arguments -/
def dNil : DA := fun env P _ => P [] env
def dCons (wa : DW) (wr : DA) : DA := fun env P E => wa env (fun t env1 => wr env1 (fun ts env2 => P (hold t :: ts) env2) E) E
section
variable {X : Cx} {Z : Zx} {W : WX} {pos : Pos}
theorem d_nil : DAr X Z W [] dNil := PA.of pa_nil fun σ H Q ⟨F, G, env, P, E, R, w, q, qe⟩ => q [] env F G H [] w R .refl trivial
theorem d_cons {e : Expr} {es : List Expr} {wa : DW} {wr : DA} (ha : DE X Z W e wa) (hr : DAr X Z W es wr) (hs : starEach (e :: es) X.env = (false, eval e X.env) :: starEach es X.env := by rfl) : DAr X Z W (e :: es) (dCons wa wr) := by
  refine PA.of (pa_cons ha hr hs) fun σ H Q ⟨F, G, env, P, E, R, w, q, qe⟩ => ?_
  refine ⟨F, G, env, _, E, R, w, fun t env1 F1 G1 H1 v1 p1 R1 x1 r1 n1 => ?_, qe⟩
  obtain ⟨F2, G2, R2, x2, r2⟩ := RT.hold R1 x1 r1 n1
  refine ⟨F2, G2, env1, _, E, R2, p1, fun ts env3 F3 G3 H3 v3 p3 R3 x3 r3 => ?_, qe⟩
  exact q _ env3 F3 G3 H3 _ p3 R3 (x2.trans x3) ⟨hold_ow, RT.ext r2 hold_ow x3, r3⟩
end

/-! ### things are frozen -/
def frz1 (env : DEnv) : T → Option (D × Bool × DEnv)
  | .fz d n => some (d, n || gnd d, env)
  | .ow d n => some (d, n, env)
  | .al i => match env[i]? with
    | some (.ow d n) => some (d, n, env.set i (.fz d n))
    | some (.fz d n) => some (d, n || gnd d, env)
    | _ => none
def frzL (env : DEnv) : List T → Option (List D × Bool × DEnv)
  | [] => some ([], true, env)
  | t :: ts => (frz1 env t).bind fun x => (frzL x.2.2 ts).map fun y => (x.1 :: y.1, x.2.1 && y.2.1, y.2.2)
section
variable {K : PySem.W.Frag} {mg : Str → Option Value} {Z : Zx} {W : WX} {F G H F' G' H' B : Hp} {σ : Sg} {env env' : DEnv}
/-- an own slot is frozen -/
theorem EnvR.frzSlot {i : Nat} {d : D} {n : Bool} (R : EnvR K mg Z F G H σ env) (e : env[i]? = some (.ow d n)) :
    ∃ F' G', EnvR K mg Z F' G' H σ (env.set i (.fz d n)) ∧ Ext σ env (env.set i (.fz d n)) F G H F' G' H ∧ ∃ a, σ[i]? = some (some (.ref a)) ∧ Rp K mg (sel n G' F') (.ref a) d := by
  obtain ⟨a, h1, h2, h3, h4⟩ := R.slot i _ e
  obtain ⟨o, ho⟩ := h3.there
  have hG := snone R.gf h2
  have hown : Own σ env a := ⟨i, _, e, rfl, h1⟩
  have hi : i < env.length := by
    rcases Nat.lt_or_ge i env.length with h | h
    · exact h
    · rw [List.getElem?_eq_none h] at e; cases e
  have rp : Rp K mg (sel n (addF n a o G) (upd F a o)) (.ref a) d := h3.rp ho (sel_addF_le h2 hG) sel_addF
  -- owners of the new row of slots are owners of the old one, elsewhere
  have own' : ∀ {j : Nat} {s : Slot}, (env.set i (.fz d n))[j]? = some s → isOwn s = true → env[j]? = some s ∧ j ≠ i := fun {j s} ej hs => by
    by_cases hj : i = j
    · subst hj
      rw [List.getElem?_set_self hi] at ej
      cases ej
      cases hs
    · rw [List.getElem?_set_ne hj] at ej
      exact ⟨ej, fun z => hj z.symm⟩
  have ne_a : ∀ {b : Addr}, Own σ (env.set i (.fz d n)) b → Own σ env b ∧ b ≠ a := fun {b} ⟨j, s, ej, hs, hb⟩ => by
    obtain ⟨ej', hj⟩ := own' ej hs
    refine ⟨⟨j, s, ej', hs, hb⟩, fun z => hj ?_⟩
    subst z
    exact R.dist j i s _ b ej' hs e rfl hb h1
  refine ⟨upd F a o, addF n a o G, ⟨?_, ?_, R.f0.trans (same_upd h2), ?_, ?_, R.frame, R.dom, by rw [List.length_set]; exact R.len, ?_, ?_, ?_, R.iof⟩, ⟨same_upd h2, addF_same hG, fun b u e _ => e, fun b u e => ⟨u, e⟩, ?_, fun b h => (ne_a h).1, ?_, by rw [List.length_set]⟩, a, h1, rp⟩
  · intro b u eb
    by_cases hb : b = a
    · subst hb; rw [upd_same] at eb; cases eb; exact ho
    · rw [upd_ne hb] at eb; exact R.fh _ _ eb
  · cases n
    · exact same_upd2 R.gf hG
    · intro b u eb
      rw [show addF true a o G = upd G a o from rfl] at eb
      by_cases hb : b = a
      · subst hb; rw [upd_same] at eb; cases eb; exact upd_same
      · rw [upd_ne hb] at eb; rw [upd_ne hb]; exact R.gf _ _ eb
  · intro b u eb
    by_cases hb : b = a
    · rw [hb]; exact h4
    · cases n
      · exact R.gn _ _ eb
      · rw [show addF true a o G = upd G a o from rfl, upd_ne hb] at eb; exact R.gn _ _ eb
  · intro b u eb k
    by_cases hb : b = a
    · rw [hb]; exact h4
    · rw [upd_ne hb] at eb; exact R.fn _ _ eb k
  · intro j s ej
    by_cases hj : i = j
    · subst hj
      rw [List.getElem?_set_self hi] at ej
      cases ej
      exact ⟨_, h1, rp⟩
    · rw [List.getElem?_set_ne hj] at ej
      have q := R.slot j s ej
      have nea : ∀ {b : Addr}, isOwn s = true → σ[j]? = some (some (.ref b)) → b ≠ a := fun {b} hs hb z => by
        subst z
        exact hj (R.dist j i s _ b ej hs e rfl hb h1).symm
      cases s with
      | un => trivial
      | fz x m => obtain ⟨v, e1, e2⟩ := q; exact ⟨v, e1, e2.mono (sel_addF_le h2 hG (m := n))⟩
      | ow x m =>
        obtain ⟨b, e1, e2, e3, e4⟩ := q
        exact ⟨b, e1, by rw [upd_ne (nea rfl e1)]; exact e2, e3.mono (sel_addF_le h2 hG (m := n)), e4⟩
      | io x =>
        obtain ⟨b, e1, e2, e3, e4⟩ := q
        exact ⟨b, e1, by rw [upd_ne (nea rfl e1)]; exact e2, e3.mono (same_upd h2), e4⟩
  · intro j l s t b ej hs el ht hb hb'
    obtain ⟨ej', _⟩ := own' ej hs
    obtain ⟨el', _⟩ := own' el ht
    exact R.dist j l s t b ej' hs el' ht hb hb'
  · intro p hp
    obtain ⟨x, e1, e2⟩ := R.io p hp
    refine ⟨x, ?_, e2⟩
    have : i ≠ p.1 := fun z => by rw [← z, e] at e1; cases e1
    rw [List.getElem?_set_ne this]
    exact e1
  · intro b u eb k nb
    have : b ≠ a := fun z => nb (z ▸ hown)
    rw [upd_ne this]
    exact k
  · intro j x ex
    by_cases hj : i = j
    · subst hj
      exact ⟨d, by simp [rd, List.getElem?_set_self hi]⟩
    · refine ⟨x, ?_⟩
      rw [← ex]
      simp only [rd, List.getElem?_set_ne hj]
/-- a thing is frozen -/
theorem RT.frz {v : V} {t : T} {x : D × Bool × DEnv} (R : EnvR K mg Z F G H σ env) (h : RT K mg Z F G H σ env v t) (ho : ∀ d n, t ≠ .ow d n) (e : frz1 env t = some x) :
    ∃ F' G', EnvR K mg Z F' G' H σ x.2.2 ∧ Ext σ env x.2.2 F G H F' G' H ∧ Rp K mg (sel x.2.1 G' F') v x.1 := by
  cases t with
  | ow d n => exact absurd rfl (ho d n)
  | fz d n => cases e; exact ⟨F, G, R, .refl, Rp.selg h⟩
  | al i =>
    obtain ⟨h1, _⟩ := h
    unfold frz1 at e
    cases es : env[i]? with
    | none => simp only [es] at e; cases e
    | some s =>
      simp only [es] at e
      cases s with
      | un => cases e
      | io d => cases e
      | fz d n =>
        cases e
        obtain ⟨w, e1, e2⟩ := R.slot i _ es
        rw [h1] at e1; cases e1
        exact ⟨F, G, R, .refl, e2.selg⟩
      | ow d n =>
        cases e
        obtain ⟨F', G', R', x', a, e1, r⟩ := R.frzSlot es
        rw [h1] at e1; cases e1
        exact ⟨F', G', R', x', r⟩
theorem RTs.frz {vs : List V} {ts : List T} {x : List D × Bool × DEnv} (R : EnvR K mg Z F G H σ env) (h : RTs K mg Z F G H σ env vs ts) (e : frzL env ts = some x) :
    ∃ F' G', EnvR K mg Z F' G' H σ x.2.2 ∧ Ext σ env x.2.2 F G H F' G' H ∧ Rps K mg (sel x.2.1 G' F') vs x.1 := by
  induction ts generalizing vs env F G x with
  | nil =>
    cases e
    cases vs with
    | nil => exact ⟨F, G, R, .refl, .nil⟩
    | cons => exact h.elim
  | cons t ts ih =>
    cases vs with
    | nil => exact h.elim
    | cons v vs =>
      obtain ⟨h1, h2, h3⟩ := h
      unfold frzL at e
      cases e1 : frz1 env t with
      | none => rw [e1] at e; cases e
      | some y =>
        obtain ⟨F1, G1, R1, x1, r1⟩ := RT.frz R h2 h1 e1
        rw [e1] at e
        simp only [Option.bind_some] at e
        cases e2 : frzL y.2.2 ts with
        | none => rw [e2] at e; cases e
        | some z =>
          rw [e2] at e
          cases e
          obtain ⟨F2, G2, R2, x2, r2⟩ := ih R1 (h3.ext x1) e2
          refine ⟨F2, G2, R2, x1.trans x2, .cons ?_ ?_⟩
          · exact Rp.mono (sel_and R2.gf) (r1.mono (sel_same x2.f x2.g))
          · exact r2.mono (sel_and' R2.gf)
end

/-! ### displays -/
def dTup (wa : DA) : DW := fun env P E => wa env (fun ts env1 => ∃ x, frzL env1 ts = some x ∧ x.1.length ≤ sizeLine ∧ P (.fz (.tuple x.1) x.2.1) x.2.2) E
def dLst (wa : DA) : DW := fun env P E => wa env (fun ts env1 => ∃ x, frzL env1 ts = some x ∧ x.1.length ≤ sizeLine ∧ P (.ow (.list x.1) x.2.1) x.2.2) E
section
variable {X : Cx} {Z : Zx} {W : WX} {pos : Pos} {es : List Expr} {wa : DA}
theorem d_tup {x1} (h : DAr X Z W es wa) : DE X Z W (.Tuple es x1 pos) (dTup wa) := by
  refine PE.of (pe_tup h) fun σ H Q ⟨F, G, env, P, E, R, w, q, qe⟩ => ?_
  refine ⟨F, G, env, _, E, R, w, fun ts env1 F1 G1 H1 vs ⟨x, e, hl, p⟩ R1 x1 r1 => ?_, qe⟩
  obtain ⟨F2, G2, R2, x2, r2⟩ := RTs.frz R1 r1 e
  refine ⟨by rw [r2.length]; exact hl, fun p' hp => ?_⟩
  obtain ⟨k1, k2, k3⟩ := RT.newTup R2 hp r2
  exact q _ _ _ _ _ _ p k1 ((x1.trans x2).trans k2) k3 trivial
theorem d_lst (h : DAr X Z W es wa) : DE X Z W (.List es pos) (dLst wa) := by
  refine PE.of (pe_lst h) fun σ H Q ⟨F, G, env, P, E, R, w, q, qe⟩ => ?_
  refine ⟨F, G, env, _, E, R, w, fun ts env1 F1 G1 H1 vs ⟨x, e, hl, p⟩ R1 x1 r1 => ?_, qe⟩
  obtain ⟨F2, G2, R2, x2, r2⟩ := RTs.frz R1 r1 e
  refine ⟨by rw [r2.length]; exact hl, fun p' hp => ?_⟩
  obtain ⟨k1, k2, k3, k4⟩ := RT.newList R2 hp r2
  exact q _ _ _ _ _ _ p k1 ((x1.trans x2).trans k2) k3 (newT_back (x1.trans x2).d k4)
end

/-! ### subscripts -/
def fIx : F2 := fun x y n _ P => match x, y with
  | .str z, .int i => ∃ c, z.length ≤ sizeLine ∧ atI z.cps.toList i = some c ∧ P (dS ⟨#[c]⟩)
  | .dict t ds, k => fitK t k ∧ ∃ d, dget ds k = some d ∧ P (.fz d n)
  | x, .int i => ∃ ds d, seqOf x = some ds ∧ atI ds i = some d ∧ P (.fz d n)
  | _, _ => False
def IxD (X : Cx) (f : F2) : Prop := ∃ r : R2, IxR X r ∧
  ∀ (Z : Zx) (F G H : Hp) (σ : Sg) (env : DEnv) (v1 v2 : V) (d1 d2 : D) (n1 n2 : Bool) (P : T → Prop) (Q : VK),
    EnvR X.K X.mg Z F G H σ env → Rv X.K X.mg (sel n1 G F) H v1 d1 → Rv X.K X.mg (sel n2 G F) H v2 d2 → f d1 d2 n1 n2 P → After X Z F G H σ env P Q → r v1 v2 H Q
theorem Rps.atI {K : PySem.W.Frag} {mg : Str → Option Value} {B : Hp} {vs : List V} {ds : List D} (r : Rps K mg B vs ds) {i : Int} {d : D} (h : L2.atI ds i = some d) : ∃ v, L2.atI vs i = some v ∧ Rp K mg B v d := by
  unfold L2.atI at h ⊢
  rw [r.length]
  cases e : ixN ds.length i with
  | none => rw [e] at h; cases h
  | some j =>
    rw [e] at h
    simp only [Option.bind_some] at h ⊢
    exact r.get h
section
variable {X : Cx}
def rIxDict : R2 := fun x y H Q => ∃ a v, x = .ref a ∧ DGet H a y (some v) ∧ Q v H
theorem ix_dict (hu : X.A.units + 1 < cLine) : IxR X rIxDict := by
  intro value slice pins s σ H x y v u Q I rx ry h hs
  obtain ⟨a, w, rfl, g, q⟩ := h
  obtain rfl : v = Value.ref a := rx
  exact PyProof.Rows.tail_any (dict_typeIs I g) PySem.F.slot_dict_getitem.lookup (d_getItem hu I g ry fun w' s3 I3 rw' => ⟨w, H, I3, rw', q⟩) hs
theorem o_ix (hu : X.A.units + 1 < cLine) : IxD X fIx := by
  refine ⟨_, IxR.or ix_list (IxR.or ix_tup (IxR.or ix_str (ix_dict hu))), fun Z F G H σ env v1 v2 d1 d2 n1 n2 P Q R h1 h2 hf q => ?_⟩
  unfold fIx at hf
  split at hf
  · obtain ⟨c, hl, e, p⟩ := hf
    exact .inr (.inr (.inl ⟨_, _, c, h1.str, h2.int, hl, e, q _ F G H _ p R .refl (.str _) trivial⟩))
  · obtain ⟨f, d, e, p⟩ := hf
    obtain ⟨a, o, e1, g, w⟩ := Rv.dget R h1 h2 f
    rcases w with ⟨rfl, w⟩ | ⟨v, d', rfl, w, r⟩
    · rw [e] at w; cases w
    · rw [e] at w; cases w
      exact .inr (.inr (.inr ⟨a, v, e1, g, q _ F G H _ p R .refl r trivial⟩))
  · obtain ⟨ds, d, e, ea, p⟩ := hf
    obtain ⟨a, vs, rfl, hs, r⟩ := h1.seq R.selH e
    obtain ⟨v, ev, rv⟩ := r.atI ea
    have z := q _ F G H _ p R .refl rv trivial
    rcases hs with hs | hs
    · exact .inl ⟨a, vs, _, v, rfl, h2.int, hs, ev, z⟩
    · exact .inr (.inl ⟨a, vs, _, v, rfl, h2.int, hs, ev, z⟩)
  · exact hf.elim
theorem d_ix {Z : Zx} {W : WX} {pos : Pos} {a b : Expr} {wa wb : DW} (hu : X.A.units + 1 < cLine) (ha : DE X Z W a wa) (hb : DE X Z W b wb) (hs : PlainIx b) : DE X Z W (.Subscript a b pos) (dOp fIx wa wb) := by
  obtain ⟨r, hr, hf⟩ := o_ix hu
  refine PE.of (pe_ix hr ha hb hs) fun σ H Q ⟨F, G, env, P, E, R, w, q, qe⟩ => ?_
  refine ⟨F, G, env, _, E, R, w, fun ta env1 F1 G1 H1 v1 p1 R1 x1 r1 n1 => ?_, qe⟩
  obtain ⟨F2, G2, R2, x2, r2⟩ := RT.hold R1 x1 r1 n1
  refine ⟨F2, G2, env1, _, E, R2, p1, fun tb env3 F3 G3 H3 v3 p3 R3 x3 r3 n3 => ?_, qe⟩
  obtain ⟨F4, G4, R4, x4, r4⟩ := RT.hold R3 x3 r3 n3
  obtain ⟨x, y, e1, e2, p⟩ := p3
  have r2' := RT.ext r2 hold_ow x4
  have xx := x2.trans x4
  refine hf Z F4 G4 H3 σ env3 v1 v3 x y _ _ _ _ R4 (RT.rv R4 r2' e1) (RT.rv R4 r4 e2) p fun t F' G' H' v pt R' x' r' n' => ?_
  exact q t env3 F' G' H' v pt R' (xx.trans x') r' (newT_back xx.d n')
end
end DL

/-! DLs: slices. -/
namespace DL
open PySem PySem.Spec PyProof.Rows
section
variable {prog : Program} {w : World} {A : Around} {E : Value → Shared → Prop} {s : Shared}
theorem tup_whole {t sl : Addr} {items : Array Value} {vl vu : Value} {lo hi : Option Int} {Q : Value → Shared → Prop} (ht : IsTup s.heap t items) (hs : s.heap.IsSliceOf sl vl vu .none)
    (pl : IsPart vl lo) (pu : IsPart vu hi) (hw : HT.sIx items.size 0 lo = 0 ∧ HT.sIx items.size items.size hi = items.size) (h : Q (.ref t) s) : wpAny (model prog w) A (getItem (.ref t) (.ref sl)) Q E s := by
  obtain ⟨os, hos, hcs, hds⟩ := id hs
  have hTs : s.TypeIs (.ref sl) "slice" := ⟨os, hos, hcs⟩
  unfold getItem
  try with_reducible refine wpAny_holding ?_
  first | refine wpAny_bind (wpAny_pure ?_) | skip
  refine wpAny_bind (wpAny_sequenceKey ht.typeIs (by decide) ?_)
  refine wpAny_bind (wpAny_callSpecial?_slot (name := Str.ofString "__getitem__") ht.typeIs slot_tuple_getitem
      (wpAny_call_entry slot_tuple_getitem ht.typeIs entry_tuple_getitem ?_ (args_tuple_getitem _ _)))
  show wpAny _ _ (Builtin.Tuple.tupleItemsOf (Value.ref t) >>= _) _ _ s
  refine wpAny_bind (tupleItemsOf_ ht ?_)
  refine wpAny_bind (wpAny_typeOf hTs ?_)
  rw [if_pos (by decide)]
  refine wpAny_bind (HT.sliceApplied_gen (n := items.size) hs pl pu ?_)
  have yes : (((HT.sIx items.size 0 lo : Nat) : Int) == 0 && (1 : Int) == 1 && HT.sIx items.size items.size hi - HT.sIx items.size 0 lo == items.size) = true := by
    rw [hw.1, hw.2]
    simp
  show wpAny _ _ (if (((HT.sIx items.size 0 lo : Nat) : Int) == 0 && (1 : Int) == 1 && HT.sIx items.size items.size hi - HT.sIx items.size 0 lo == items.size) = true then _ else _) _ _ s
  rw [if_pos yes]
  unfold Builtin.Tuple.tupleIsExact
  refine wpAny_bind (wpAny_bind (wpAny_typeOf ht.typeIs (wpAny_pure ?_)))
  rw [if_pos (show ((Value.type "tuple" == Value.type "tuple") = true) from by decide)]
  exact wpAny_bind (wpAny_rule (wpAny_pure ⟨_, rfl, wpAny_pure h⟩))
end
end DL
namespace DL
open PySem PySem.Spec L2
section
variable {X : Cx}
def rSlW (K : PySem.W.Frag) : V → Option Int → Option Int → Hp → VK → Prop := fun x lo hi H Q => ∃ a xs, x = .ref a ∧ SqT K H a xs ∧ (HT.sIx xs.length 0 lo = 0 ∧ HT.sIx xs.length xs.length hi = xs.length) ∧ Q (.ref a) H
theorem sl_whole : SlR X (rSlW X.K) := by
  intro pins s σ H x v vl vu lo hi sl Q I rx hs pl pu h
  obtain ⟨a, xs, rfl, hx, hw, q⟩ := h
  cases rx
  obtain ⟨its, r, ht, hz⟩ := I.tuple hx
  have hlen : its.toArray.size = xs.length := by rw [List.size_toArray]; exact r.length.symm
  exact ⟨"tuple", _, PyProof.Rows.slot_tuple_getitem.lookup, ht.typeIs, tup_whole ht hs pl pu (by rw [hlen]; exact hw) ⟨.ref a, H, I, rfl, q⟩⟩

def cutL {α : Type} (xs : List α) (lo hi : Option Int) : List α := (xs.drop (HT.sIx xs.length 0 lo)).take (HT.sIx xs.length xs.length hi - HT.sIx xs.length 0 lo)
theorem Rps.cut {K : PySem.W.Frag} {mg : Str → Option Value} {B : Hp} {vs : List V} {ds : List D} (r : Rps K mg B vs ds) (lo hi : Option Int) : Rps K mg B (cutV vs lo hi) (cutL ds lo hi) := by
  unfold cutV cutL
  rw [r.length]
  exact (r.drop _).take _
abbrev DO := DEnv → (Option Int → DEnv → Prop) → (Str → DEnv → Prop) → Prop
def dNo : DO := fun env P _ => P none env
def dPt (w : DW) : DO := fun env P E => w env (fun t env1 => ∃ i n, t = .fz (.int i) n ∧ P (some i) env1) E
def fSl (x : D) (l u : Option Int) (n : Bool) (P : T → Prop) : Prop := match x with
  | .list ds => P (.ow (.list (cutL ds l u)) n)
  | .scr ds => P (.ow (.list (cutL ds l u)) n)
  | .tuple ds => P (.fz (.tuple (cutL ds l u)) n)
  | .str z => z.length ≤ sizeLine ∧ P (dS (cutS z l u))
  | _ => False
def dSl (wa : DW) (lo hi : DO) : DW := fun env P E => wa env (fun t env1 => lo env1 (fun l env2 => hi env2 (fun u env3 => ∃ x, rd env3 (hold t) = some x ∧ fSl x l u (rdn env3 (hold t)) fun t' => P t' env3) E) E) E
def tDO (K : PySem.W.Frag) (mg : Str → Option Value) (Z : Zx) (W : WX) (w : DO) : TO := fun σ H Q => ∃ (F G : Hp) (env : DEnv) (P : Option Int → DEnv → Prop) (E : Str → DEnv → Prop), EnvR K mg Z F G H σ env ∧ w env P E ∧
  (∀ (b : Option Int) (env' : DEnv) (F' G' H' : Hp), P b env' → EnvR K mg Z F' G' H' σ env' → Ext σ env env' F G H F' G' H' → Q b H') ∧ Wx K mg Z W E σ
abbrev DPo (X : Cx) (Z : Zx) (W : WX) (e : Option Expr) (w : DO) : Prop := PO X e (tDO X.K X.mg Z W w)
theorem PO.of {X : Cx} {e : Option Expr} {t t' : TO} (h : PO X e t) (k : ∀ σ H Q, t' σ H Q → t σ H Q) : PO X e t' := ⟨fun pins s σ H Q I q => h.run pins s σ H Q I (k σ H Q q)⟩
section
variable {Z : Zx} {W : WX} {pos p2 : Pos} {e : Expr} {lo hi : Option Expr} {wa : DW} {wl wh : DO}
theorem d_no : DPo X Z W none dNo := PO.of po_none fun σ H Q ⟨F, G, env, P, E, R, w, q, qe⟩ => q none env F G H w R .refl
theorem d_pt (h : DE X Z W e wa) : DPo X Z W (some e) (dPt wa) := by
  refine PO.of (po_some h) fun σ H Q ⟨F, G, env, P, E, R, w, q, qe⟩ => ?_
  refine ⟨F, G, env, _, E, R, w, fun t env1 F1 G1 H1 v1 p1 R1 x1 r1 n1 => ?_, qe⟩
  obtain ⟨i, n, rfl, p⟩ := p1
  have r1' : Rp X.K X.mg (sel n G1 F1) v1 (.int i) := r1
  cases r1'
  exact ⟨i, rfl, q _ _ _ _ _ p R1 x1⟩
theorem d_sl (ha : DE X Z W e wa) (hl : DPo X Z W lo wl) (hh : DPo X Z W hi wh) : DE X Z W (.Subscript e (.Slice lo hi none p2) pos) (dSl wa wl wh) := by
  refine PE.of (pe_slice (SlR.or sl_list (SlR.or sl_tup (SlR.or sl_whole sl_str))) ha hl hh) fun σ H Q ⟨F, G, env, P, E, R, w, q, qe⟩ => ?_
  refine ⟨F, G, env, _, E, R, w, fun ta env1 F1 G1 H1 v1 p1 R1 x1 r1 n1 => ?_, qe⟩
  obtain ⟨F2, G2, R2, x2, r2⟩ := RT.hold R1 x1 r1 n1
  refine ⟨F2, G2, env1, _, E, R2, p1, fun l env3 F3 G3 H3 p3 R3 x3 => ?_, qe⟩
  refine ⟨F3, G3, env3, _, E, R3, p3, fun u env4 F4 G4 H4 p4 R4 x4 => ?_, qe⟩
  obtain ⟨x, ex, p⟩ := p4
  have xx := (x2.trans x3).trans x4
  have rv := RT.rv R4 (RT.ext r2 hold_ow (x3.trans x4)) ex
  unfold fSl at p
  split at p
  · obtain ⟨a, vs, rfl, ha, ra⟩ := rv.list R4.selH
    refine .inl ⟨a, vs, rfl, SqL.of ha, fun p' hp => ?_⟩
    obtain ⟨k1, k2, k3, k4⟩ := RT.newList R4 hp (ra.cut l u)
    exact q _ _ _ _ _ _ p k1 (xx.trans k2) k3 (newT_back xx.d k4)
  · obtain ⟨a, vs, rfl, ha, ra⟩ := rv.scr
    refine .inl ⟨a, vs, rfl, R4.selH.seq ha, fun p' hp => ?_⟩
    obtain ⟨k1, k2, k3, k4⟩ := RT.newList R4 hp (ra.cut l u)
    exact q _ _ _ _ _ _ p k1 (xx.trans k2) k3 (newT_back xx.d k4)
  · obtain ⟨a, vs, rfl, ha, ra⟩ := rv.tup
    have hs : SqT X.K H4 a vs := SqT.of (R4.selH _ _ ha)
    by_cases hw : HT.sIx vs.length 0 l = 0 ∧ HT.sIx vs.length vs.length u = vs.length
    · refine .inr (.inr (.inl ⟨a, vs, rfl, hs, hw, ?_⟩))
      have e : cutV vs l u = vs := by
        unfold cutV
        rw [hw.1, hw.2]
        simp
      have rc := ra.cut l u
      rw [e] at rc
      exact q _ _ _ _ _ _ p R4 xx (Rp.tup ha rc) trivial
    · refine .inr (.inl ⟨a, vs, rfl, hs, hw, fun p' hp => ?_⟩)
      obtain ⟨k1, k2, k3⟩ := RT.newTup R4 hp (ra.cut l u)
      exact q _ _ _ _ _ _ p k1 (xx.trans k2) k3 trivial
  · exact .inr (.inr (.inr ⟨_, rv.str, p.1, q _ _ _ _ _ _ p.2 R4 xx (.str _) trivial⟩))
  · exact p.elim
end
end
end DL

/-! DL7: tests, choices, attributes. -/
namespace DL
open PySem PySem.Spec L2

/-! ### tests -/
def dTB (w : DW) : DT := fun env P E => w env (fun t env1 => ∃ b n, t = .fz (.bool b) n ∧ P b env1) E
def dAndT (a b : DT) : DT := fun env P E => a env (fun c env1 => (c = true → b env1 P E) ∧ (c = false → P false env1)) E
def dOrT (a b : DT) : DT := fun env P E => a env (fun c env1 => (c = true → P true env1) ∧ (c = false → b env1 P E)) E
def dNotT (a : DT) : DT := fun env P E => a env (fun c env1 => P (!c) env1) E
def dAndV (a b : DW) : DW := fun env P E => a env (fun t env1 => ∃ c n, t = .fz (.bool c) n ∧ (c = true → b env1 P E) ∧ (c = false → P (dB false) env1)) E
def dOrV (a b : DW) : DW := fun env P E => a env (fun t env1 => ∃ c n, t = .fz (.bool c) n ∧ (c = true → P (dB true) env1) ∧ (c = false → b env1 P E)) E
def dNotV (a : DW) : DW := fun env P E => a env (fun t env1 => ∃ c n, t = .fz (.bool c) n ∧ P (dB (!c)) env1) E
def dIfE (c : DT) (a b : DW) : DW := fun env P E => c env (fun k env1 => (k = true → a env1 P E) ∧ (k = false → b env1 P E)) E
/-- a op b op' c -/
def dChain (f f' : F2) (wa wb wc : DW) : DW := fun env P E => wa env (fun ta env1 => wb env1 (fun tb env2 => ∃ x y, rd env2 (hold ta) = some x ∧ rd env2 (hold tb) = some y ∧
  f x y (rdn env2 (hold ta)) (rdn env2 (hold tb)) fun t => ∃ k n, t = .fz (.bool k) n ∧ (k = true → wc env2 (fun tc env3 => ∃ y' z, rd env3 (hold tb) = some y' ∧ rd env3 (hold tc) = some z ∧
    f' y' z (rdn env3 (hold tb)) (rdn env3 (hold tc)) fun t' => P t' env3) E) ∧ (k = false → P (dB false) env2)) E) E

section
variable {X : Cx} {Z : Zx} {W : WX} {pos : Pos} {e a b c : Expr} {wa wb wc : DW} {ta tb : DT}
theorem Rp.bl' {K : PySem.W.Frag} {mg : Str → Option Value} {B : Hp} {v : V} {k : Bool} (h : Rp K mg B v (.bool k)) : v = .bl k := by cases h; rfl
theorem d_tv (h : DE X Z W e wa) (he : ∀ whole, isTrue e X.env whole = (do let v ← whole; standAt e.pos; holding [v] (truthy v)) := by intro _; rfl) : DTe X Z W e (dTB wa) := by
  refine PT.of (pt_val h he) fun σ H Q ⟨F, G, env, P, E, R, w, q, qe⟩ => ?_
  refine ⟨F, G, env, _, E, R, w, fun t env1 F1 G1 H1 v1 ⟨k, n, et, p⟩ R1 x1 r1 n1 => ?_, qe⟩
  subst et
  exact ⟨k, Rp.bl' r1, q _ _ _ _ _ p R1 x1⟩
theorem d_opT0 {g : Value → Value → Sem Value} {f : F2} (h : OpD X g f) (k : ∀ {r : R2} {ta tb : TE}, OpR X g r → PE X a ta → PE X b tb → PT X e (tTest (tOp r ta tb))) (ha : DE X Z W a wa) (hb : DE X Z W b wb) : DTe X Z W e (dTB (dOp f wa wb)) := by
  obtain ⟨r, hr, hf⟩ := h
  refine PT.of (k hr ha hb) fun σ H Q ⟨F, G, env, P, E, R, w, q, qe⟩ => ?_
  refine ⟨F, G, env, _, E, R, w, fun ta env1 F1 G1 H1 v1 p1 R1 x1 r1 n1 => ?_, qe⟩
  obtain ⟨F2, G2, R2, x2, r2⟩ := RT.hold R1 x1 r1 n1
  refine ⟨F2, G2, env1, _, E, R2, p1, fun tb env3 F3 G3 H3 v3 p3 R3 x3 r3 n3 => ?_, qe⟩
  obtain ⟨F4, G4, R4, x4, r4⟩ := RT.hold R3 x3 r3 n3
  obtain ⟨x, y, e1, e2, p⟩ := p3
  have r2' := RT.ext r2 hold_ow x4
  have xx := x2.trans x4
  refine hf Z F4 G4 H3 σ env3 v1 v3 x y _ _ _ _ R4 (RT.rv R4 r2' e1) (RT.rv R4 r4 e2) p fun t F' G' H' v ⟨k, n, et, pt⟩ R' x' r' n' => ?_
  subst et
  exact ⟨k, Rp.bl' r', q _ _ _ _ _ pt R' (xx.trans x')⟩
theorem d_tcmp {op : CmpOp} {f : F2} (h : OpD X (compareOp op) f) (hm : behindInMarks op b = false) (ha : DE X Z W a wa) (hb : DE X Z W b wb) : DTe X Z W (.Compare a [op] [b] pos) (dTB (dOp f wa wb)) :=
  d_opT0 h (fun h1 h2 h3 => pt_cmpR h1 h2 h3 hm) ha hb
/-- the heart of a chain -/
theorem chain_imp {g g' : Value → Value → Sem Value} {f f' : F2} {r r' : R2}
    (hf : ∀ (Z : Zx) (F G H : Hp) (σ : Sg) (env : DEnv) (v1 v2 : V) (d1 d2 : D) (n1 n2 : Bool) (P : T → Prop) (Q : VK), EnvR X.K X.mg Z F G H σ env → Rv X.K X.mg (sel n1 G F) H v1 d1 → Rv X.K X.mg (sel n2 G F) H v2 d2 → f d1 d2 n1 n2 P → After X Z F G H σ env P Q → r v1 v2 H Q)
    (hf' : ∀ (Z : Zx) (F G H : Hp) (σ : Sg) (env : DEnv) (v1 v2 : V) (d1 d2 : D) (n1 n2 : Bool) (P : T → Prop) (Q : VK), EnvR X.K X.mg Z F G H σ env → Rv X.K X.mg (sel n1 G F) H v1 d1 → Rv X.K X.mg (sel n2 G F) H v2 d2 → f' d1 d2 n1 n2 P → After X Z F G H σ env P Q → r' v1 v2 H Q)
    {σ : Sg} {H : Hp} {Q : VK} (h : tD X.K X.mg Z W (dChain f f' wa wb wc) σ H Q) : tChain r r' (tD X.K X.mg Z W wa) (tD X.K X.mg Z W wb) (tD X.K X.mg Z W wc) σ H Q := by
  obtain ⟨F, G, env, P, E, R, w, q, qe⟩ := h
  refine ⟨F, G, env, _, E, R, w, fun ta env1 F1 G1 H1 v1 p1 R1 x1 r1 n1 => ?_, qe⟩
  obtain ⟨F2, G2, R2, x2, r2⟩ := RT.hold R1 x1 r1 n1
  refine ⟨F2, G2, env1, _, E, R2, p1, fun tb env3 F3 G3 H3 v3 p3 R3 x3 r3 n3 => ?_, qe⟩
  obtain ⟨F4, G4, R4, x4, r4⟩ := RT.hold R3 x3 r3 n3
  obtain ⟨x, y, e1, e2, p⟩ := p3
  have r2' := RT.ext r2 hold_ow x4
  have xx := x2.trans x4
  refine hf Z F4 G4 H3 σ env3 v1 v3 x y _ _ _ _ R4 (RT.rv R4 r2' e1) (RT.rv R4 r4 e2) p fun t F' G' H' v ⟨k, n, et, pt, pf⟩ R' x' r' n' => ?_
  subst et
  refine ⟨k, Rp.bl' r', ?_⟩
  cases k with
  | false =>
    rw [if_neg Bool.false_ne_true]
    exact q _ _ _ _ _ _ (pf rfl) R' (xx.trans x') (.bl _) trivial
  | true =>
    rw [if_pos rfl]
    refine ⟨F', G', env3, _, E, R', pt rfl, fun tc env5 F5 G5 H5 v5 p5 R5 x5 r5 n5 => ?_, qe⟩
    obtain ⟨F6, G6, R6, x6, r6⟩ := RT.hold R5 x5 r5 n5
    obtain ⟨y', z, e3, e4, p'⟩ := p5
    have r4' := RT.ext (RT.ext r4 hold_ow x') hold_ow x6
    refine hf' Z F6 G6 H5 σ env5 v3 v5 y' z _ _ _ _ R6 (RT.rv R6 r4' e3) (RT.rv R6 r6 e4) p' fun t' F'' G'' H'' v'' pt' R'' x'' r'' n'' => ?_
    have xy := (xx.trans x').trans (x6.trans x'')
    exact q _ _ _ _ _ _ pt' R'' xy r'' (newT_back ((xx.trans x').trans x6).d n'')
theorem d_chain {op op' : CmpOp} {f f' : F2} (h : OpD X (compareOp op) f) (h' : OpD X (compareOp op') f') (ha : DE X Z W a wa) (hb : DE X Z W b wb) (hc : DE X Z W c wc) (hm : lastMarks [op, op'] [b, c] = false := by with_unfolding_all rfl) :
    DE X Z W (.Compare a [op, op'] [b, c] pos) (dChain f f' wa wb wc) := by
  obtain ⟨r, hr, hf⟩ := h
  obtain ⟨r', hr', hf'⟩ := h'
  exact PE.of (pe_chain hr hr' ha hb hc hm) fun σ H Q hw => chain_imp (g := compareOp op) (g' := compareOp op') hf hf' hw
theorem d_tchain {op op' : CmpOp} {f f' : F2} (h : OpD X (compareOp op) f) (h' : OpD X (compareOp op') f') (ha : DE X Z W a wa) (hb : DE X Z W b wb) (hc : DE X Z W c wc) (hm : lastMarks [op, op'] [b, c] = false := by with_unfolding_all rfl) :
    DTe X Z W (.Compare a [op, op'] [b, c] pos) (dTB (dChain f f' wa wb wc)) := by
  obtain ⟨r, hr, hf⟩ := h
  obtain ⟨r', hr', hf'⟩ := h'
  refine PT.of (pt_chain hr hr' ha hb hc hm) fun σ H Q ⟨F, G, env, P, E, R, w, q, qe⟩ => ?_
  refine chain_imp (Z := Z) (W := W) (wa := wa) (wb := wb) (wc := wc) (g := compareOp op) (g' := compareOp op') hf hf' ⟨F, G, env, _, E, R, w, fun t env1 F1 G1 H1 v1 ⟨k, n, et, p⟩ R1 x1 r1 n1 => ?_, qe⟩
  subst et
  exact ⟨k, Rp.bl' r1, q _ _ _ _ _ p R1 x1⟩

/-! ### and, or, not -/
theorem PW.of {X : Cx} {e : Expr} {t t' : TT} (h : PW X e t) (k : ∀ σ H Q, t' σ H Q → t σ H Q) : PW X e t' := ⟨fun wh pins s σ H Q I q => h.run wh pins s σ H Q I (k σ H Q q)⟩
abbrev DWt (X : Cx) (Z : Zx) (W : WX) (e : Expr) (w : DT) : Prop := PW X e (tDT X.K X.mg Z W w)
theorem d_and1 (h : DTe X Z W a ta) : DWt X Z W (.BoolOp .And [a] pos) ta := pw_and1 h
theorem d_or1 (h : DTe X Z W a ta) : DWt X Z W (.BoolOp .Or [a] pos) ta := pw_or1 h
theorem d_pt' (h : DWt X Z W e ta) : DTe X Z W e ta := h.pt
variable {rest : List Expr}
theorem d_andT (ha : DTe X Z W a ta) (hb : DWt X Z W (.BoolOp .And (b :: rest) pos) tb) : DWt X Z W (.BoolOp .And (a :: b :: rest) pos) (dAndT ta tb) := by
  refine PW.of (pw_and ha hb) fun σ H Q ⟨F, G, env, P, E, R, w, q, qe⟩ => ?_
  refine ⟨F, G, env, _, E, R, w, fun k env1 F1 G1 H1 ⟨p1, p2⟩ R1 x1 => ?_, qe⟩
  cases k with
  | true => rw [if_pos rfl]; exact ⟨F1, G1, env1, _, E, R1, p1 rfl, fun k2 env2 F2 G2 H2 p R2 x2 => q _ _ _ _ _ p R2 (x1.trans x2), qe⟩
  | false => rw [if_neg Bool.false_ne_true]; exact q _ _ _ _ _ (p2 rfl) R1 x1
theorem d_orT (ha : DTe X Z W a ta) (hb : DWt X Z W (.BoolOp .Or (b :: rest) pos) tb) : DWt X Z W (.BoolOp .Or (a :: b :: rest) pos) (dOrT ta tb) := by
  refine PW.of (pw_or ha hb) fun σ H Q ⟨F, G, env, P, E, R, w, q, qe⟩ => ?_
  refine ⟨F, G, env, _, E, R, w, fun k env1 F1 G1 H1 ⟨p1, p2⟩ R1 x1 => ?_, qe⟩
  cases k with
  | false => rw [if_neg Bool.false_ne_true]; exact ⟨F1, G1, env1, _, E, R1, p2 rfl, fun k2 env2 F2 G2 H2 p R2 x2 => q _ _ _ _ _ p R2 (x1.trans x2), qe⟩
  | true => rw [if_pos rfl]; exact q _ _ _ _ _ (p1 rfl) R1 x1
theorem d_notT (ha : DTe X Z W a ta) : DTe X Z W (.UnaryOp .Not a pos) (dNotT ta) :=
  PT.of (pt_not ha) fun σ H Q ⟨F, G, env, P, E, R, w, q, qe⟩ => ⟨F, G, env, _, E, R, w, fun k env1 F1 G1 H1 p R1 x1 => q _ _ _ _ _ p R1 x1, qe⟩
theorem d_one {op} (h : DE X Z W a wa) : DE X Z W (.BoolOp op [a] pos) wa := pe_one h
theorem d_andV (ha : DE X Z W a wa) (hb : DE X Z W (.BoolOp .And (b :: rest) pos) wb) : DE X Z W (.BoolOp .And (a :: b :: rest) pos) (dAndV wa wb) := by
  refine PE.of (pe_and ha hb) fun σ H Q ⟨F, G, env, P, E, R, w, q, qe⟩ => ?_
  refine ⟨F, G, env, _, E, R, w, fun t env1 F1 G1 H1 v1 ⟨k, n, et, p1, p2⟩ R1 x1 r1 n1 => ?_, qe⟩
  subst et
  refine ⟨k, Rp.bl' r1, ?_⟩
  cases k with
  | true => rw [if_pos rfl]; exact ⟨F1, G1, env1, _, E, R1, p1 rfl, fun k2 env2 F2 G2 H2 v2 p R2 x2 r2 n2 => q _ _ _ _ _ _ p R2 (x1.trans x2) r2 (newT_back x1.d n2), qe⟩
  | false => rw [if_neg Bool.false_ne_true]; exact q _ _ _ _ _ _ (p2 rfl) R1 x1 (.bl _) trivial
theorem d_orV (ha : DE X Z W a wa) (hb : DE X Z W (.BoolOp .Or (b :: rest) pos) wb) : DE X Z W (.BoolOp .Or (a :: b :: rest) pos) (dOrV wa wb) := by
  refine PE.of (pe_or ha hb) fun σ H Q ⟨F, G, env, P, E, R, w, q, qe⟩ => ?_
  refine ⟨F, G, env, _, E, R, w, fun t env1 F1 G1 H1 v1 ⟨k, n, et, p1, p2⟩ R1 x1 r1 n1 => ?_, qe⟩
  subst et
  refine ⟨k, Rp.bl' r1, ?_⟩
  cases k with
  | false => rw [if_neg Bool.false_ne_true]; exact ⟨F1, G1, env1, _, E, R1, p2 rfl, fun k2 env2 F2 G2 H2 v2 p R2 x2 r2 n2 => q _ _ _ _ _ _ p R2 (x1.trans x2) r2 (newT_back x1.d n2), qe⟩
  | true => rw [if_pos rfl]; exact q _ _ _ _ _ _ (p1 rfl) R1 x1 (.bl _) trivial
theorem d_notV (ha : DE X Z W a wa) : DE X Z W (.UnaryOp .Not a pos) (dNotV wa) := by
  refine PE.of (pe_not ha) fun σ H Q ⟨F, G, env, P, E, R, w, q, qe⟩ => ?_
  refine ⟨F, G, env, _, E, R, w, fun t env1 F1 G1 H1 v1 ⟨k, n, et, p1⟩ R1 x1 r1 n1 => ?_, qe⟩
  subst et
  exact ⟨k, Rp.bl' r1, q _ _ _ _ _ _ p1 R1 x1 (.bl _) trivial⟩
theorem d_ife (hc : DTe X Z W c ta) (ha : DE X Z W a wa) (hb : DE X Z W b wb) : DE X Z W (.IfExp c a b pos) (dIfE ta wa wb) := by
  refine PE.of (pe_ifExp hc ha hb) fun σ H Q ⟨F, G, env, P, E, R, w, q, qe⟩ => ?_
  refine ⟨F, G, env, _, E, R, w, fun k env1 F1 G1 H1 ⟨p1, p2⟩ R1 x1 => ?_, qe⟩
  cases k with
  | true => rw [if_pos rfl]; exact ⟨F1, G1, env1, _, E, R1, p1 rfl, fun k2 env2 F2 G2 H2 v2 p R2 x2 r2 n2 => q _ _ _ _ _ _ p R2 (x1.trans x2) r2 (newT_back x1.d n2), qe⟩
  | false => rw [if_neg Bool.false_ne_true]; exact ⟨F1, G1, env1, _, E, R1, p2 rfl, fun k2 env2 F2 G2 H2 v2 p R2 x2 r2 n2 => q _ _ _ _ _ _ p R2 (x1.trans x2) r2 (newT_back x1.d n2), qe⟩

/-! ### -x -/
def dNeg (wa : DW) : DW := fun env P E => wa env (fun t env1 => ∃ i n, t = .fz (.int i) n ∧ P (dI (-i)) env1) E
theorem d_neg (ha : DE X Z W a wa) : DE X Z W (.UnaryOp .USub a pos) (dNeg wa) := by
  refine PE.of (pe_un un_neg ha) fun σ H Q ⟨F, G, env, P, E, R, w, q, qe⟩ => ?_
  refine ⟨F, G, env, _, E, R, w, fun t env1 F1 G1 H1 v1 ⟨i, n, et, p1⟩ R1 x1 r1 n1 => ?_, qe⟩
  subst et
  have r1' : Rp X.K X.mg (sel n G1 F1) v1 (.int i) := r1
  cases r1'
  exact ⟨i, rfl, q _ _ _ _ _ _ p1 R1 x1 (.int _) trivial⟩

/-! ### e.f of an instance -/
def dAt (c f : Str) (wa : DW) : DW := fun env P E => wa env (fun t env1 => ∃ fs n d, t = .fz (.obj c fs) n ∧ fs.lookup f = some d ∧ P (.fz d n) env1) E
theorem lookup_rps {K : PySem.W.Frag} {mg : Str → Option Value} {B : Hp} {f : Str} : ∀ {fs : List (Str × D)} {gs : List (Str × V)}, fs.map (·.1) = gs.map (·.1) → Rps K mg B (gs.map (·.2)) (fs.map (·.2)) → ∀ {d : D}, fs.lookup f = some d → ∃ v, gs.lookup f = some v ∧ Rp K mg B v d
  | [], [], _, _, d, h => by cases h
  | [], _ :: _, h, _, _, _ => by simp at h
  | _ :: _, [], h, _, _, _ => by simp at h
  | (a, x) :: fs, (b, y) :: gs, h, r, d, hl => by
    simp only [List.map_cons, List.cons.injEq] at h
    obtain ⟨h1, h2⟩ := h
    subst h1
    cases r with
    | cons r1 r2 =>
      rw [List.lookup_cons] at hl
      rw [List.lookup_cons]
      cases e : f == a with
      | true => rw [e] at hl; cases hl; exact ⟨y, rfl, r1⟩
      | false => rw [e] at hl; exact lookup_rps h2 r2 hl
theorem d_at {cn f : Str} (hc : ∀ C, X.mg cn = some (.ref C) → Cls X.K C ∧ NoAttr X.K C f) (ha : DE X Z W a wa) (hb : attributeBase a f X.env (eval a X.env) = eval a X.env := by rfl) : DE X Z W (.Attribute a f pos) (dAt cn f wa) := by
  refine PE.of (pe_fld ha hb) fun σ H Q ⟨F, G, env, P, E, R, w, q, qe⟩ => ?_
  refine ⟨F, G, env, _, E, R, w, fun t env1 F1 G1 H1 v1 ⟨fs, n, d, et, el, p1⟩ R1 x1 r1 n1 => ?_, qe⟩
  subst et
  have r1' : Rp X.K X.mg (sel n G1 F1) v1 (.obj cn fs) := r1
  cases r1' with
  | obj hm hF hk hr =>
    obtain ⟨v, ev, rv⟩ := lookup_rps hk hr el
    obtain ⟨h1, h2⟩ := hc _ hm
    exact ⟨_, _, _, _, v, rfl, R1.selH _ _ hF, h1, h2, ev, q _ _ _ _ _ _ p1 R1 x1 rv trivial⟩
end
end DL

/-! DL8: slots are stored, own objects are changed. -/
namespace DL
open PySem PySem.Spec L2

section
variable {K : PySem.W.Frag} {mg : Str → Option Value} {Z : Zx} {W : WX} {F G H F' G' H' B : Hp} {σ : Sg} {env env' : DEnv}
theorem len_of {α : Type} {l : List α} {i : Nat} {s : α} (e : l[i]? = some s) : i < l.length := by
  rcases Nat.lt_or_ge i l.length with h | h
  · exact h
  · rw [List.getElem?_eq_none h] at e; cases e

/-- a slot is stored -/
theorem EnvR.put {i : Nat} {v : V} {s s0 : Slot} (R : EnvR K mg Z F G H σ env) (e0 : env[i]? = some s0) (hio : ∀ d, s0 ≠ .io d) (hn : ∀ d, s ≠ .io d) (ok : SlotOk K mg Z F G H (σ.set i (some v)) i s) (hd : isOwn s = true → ∀ a, v = .ref a → ¬ Own σ env a) :
    EnvR K mg Z F G H (σ.set i (some v)) (env.set i s) := by
  have hi := len_of e0
  have hiσ : i < σ.length := by rw [← R.len]; exact hi
  have other : ∀ {j : Nat}, i ≠ j → (σ.set i (some v))[j]? = σ[j]? := fun h => List.getElem?_set_ne h
  have otherE : ∀ {j : Nat}, i ≠ j → (env.set i s)[j]? = env[j]? := fun h => List.getElem?_set_ne h
  refine ⟨R.fh, R.gf, R.f0, R.gn, R.fn, R.frame, R.dom, by rw [List.length_set, List.length_set]; exact R.len, ?_, ?_, ?_, R.iof⟩
  · intro j t ej
    by_cases hj : i = j
    · subst hj
      rw [List.getElem?_set_self hi] at ej
      cases ej
      exact ok
    · rw [otherE hj] at ej
      have q := R.slot j t ej
      cases t with
      | un => trivial
      | fz d n => obtain ⟨w, e1, e2⟩ := q; exact ⟨w, by rw [other hj]; exact e1, e2⟩
      | ow d n => obtain ⟨w, e1, e2⟩ := q; exact ⟨w, by rw [other hj]; exact e1, e2⟩
      | io d => obtain ⟨w, e1, e2⟩ := q; exact ⟨w, by rw [other hj]; exact e1, e2⟩
  · intro j l t u a ej ht el hu ha hb
    by_cases hj : i = j
    · subst hj
      by_cases hl : i = l
      · exact hl
      · rw [List.getElem?_set_self hi] at ej
        cases ej
        rw [List.getElem?_set_self hiσ] at ha
        cases ha
        rw [otherE hl] at el
        rw [other hl] at hb
        exact absurd ⟨l, u, el, hu, hb⟩ (hd ht a rfl)
    · by_cases hl : i = l
      · subst hl
        rw [List.getElem?_set_self hi] at el
        cases el
        rw [List.getElem?_set_self hiσ] at hb
        cases hb
        rw [otherE hj] at ej
        rw [other hj] at ha
        exact absurd ⟨j, t, ej, ht, ha⟩ (hd hu a rfl)
      · rw [otherE hj] at ej
        rw [otherE hl] at el
        rw [other hj] at ha
        rw [other hl] at hb
        exact R.dist j l t u a ej ht el hu ha hb
  · intro p hp
    obtain ⟨x, e1, e2⟩ := R.io p hp
    have : i ≠ p.1 := fun z => by
      rw [← z, e0] at e1
      cases e1
      exact hio x rfl
    exact ⟨x, by rw [otherE this]; exact e1, by rw [other this]; exact e2⟩

def okS : Slot → Bool
  | .io _ => false | _ => true
/-- a slot stored from a thing -/
def setS (env : DEnv) (i : Nat) (t : T) : Option DEnv := match env[i]? with
  | none => none
  | some s => if okS s = true then (match t with
    | .fz d n => some (env.set i (.fz d n))
    | .ow d n => some (env.set i (.ow d n))
    | .al j => (frz1 env (.al j)).map fun x => x.2.2.set i (.fz x.1 x.2.1)) else none
theorem frz1_io {t : T} {x : D × Bool × DEnv} (e : frz1 env t = some x) {i : Nat} {s : Slot} (es : env[i]? = some s) (hs : okS s = true) : ∃ s', x.2.2[i]? = some s' ∧ okS s' = true := by
  cases t with
  | fz d n => cases e; exact ⟨s, es, hs⟩
  | ow d n => cases e; exact ⟨s, es, hs⟩
  | al j =>
    unfold frz1 at e
    cases ej : env[j]? with
    | none => simp only [ej] at e; cases e
    | some q =>
      simp only [ej] at e
      cases q with
      | un => cases e
      | io d => cases e
      | fz d n => cases e; exact ⟨s, es, hs⟩
      | ow d n =>
        cases e
        by_cases h : j = i
        · subst h
          exact ⟨.fz d n, List.getElem?_set_self (len_of ej), rfl⟩
        · exact ⟨s, by rw [List.getElem?_set_ne h]; exact es, hs⟩
theorem okS_io {s : Slot} (h : okS s = true) : ∀ d, s ≠ .io d := fun d e => by subst e; cases h
theorem EnvR.setS {i : Nat} {v : V} {t : T} (R : EnvR K mg Z F G H σ env) (h : RT K mg Z F G H σ env v t) (e : setS env i t = some env') :
    ∃ F' G', EnvR K mg Z F' G' H (σ.set i (some v)) env' ∧ Same F F' ∧ Same G G' := by
  unfold DL.setS at e
  cases es : env[i]? with
  | none => simp only [es] at e; cases e
  | some s =>
    simp only [es] at e
    by_cases hk : okS s = true
    · rw [if_pos hk] at e
      have hiσ : i < σ.length := by rw [← R.len]; exact len_of es
      cases t with
      | fz d n =>
        cases e
        exact ⟨F, G, R.put es (okS_io hk) (fun _ z => nomatch z) ⟨v, List.getElem?_set_self hiσ, h⟩ (fun z => nomatch z), .refl _, .refl _⟩
      | ow d n =>
        cases e
        obtain ⟨a, rfl, h1, h2, h3, h4⟩ := h
        exact ⟨F, G, R.put es (okS_io hk) (fun _ z => nomatch z) ⟨a, List.getElem?_set_self hiσ, h1, h2, h4⟩ (fun _ b eb => by cases eb; exact h3), .refl _, .refl _⟩
      | al j =>
        cases ef : frz1 env (.al j) with
        | none => simp only [ef] at e; cases e
        | some x =>
          simp only [ef, Option.map_some, Option.some.injEq] at e
          obtain ⟨F', G', R', x', r⟩ := RT.frz R h (fun _ _ z => nomatch z) ef
          obtain ⟨s', es', hs'⟩ := frz1_io ef es hk
          subst e
          exact ⟨F', G', R'.put es' (okS_io hs') (fun _ z => nomatch z) ⟨v, List.getElem?_set_self hiσ, r⟩ (fun z => nomatch z), x'.f, x'.g⟩
    · rw [if_neg hk] at e; cases e

/-! ### an own object is changed -/
def ownS (env : DEnv) (j : Nat) : Option (D × Bool) := match env[j]? with
  | some (.ow d n) => some (d, n)
  | some (.io d) => some (d, false)
  | _ => none
def mutS (env : DEnv) (j : Nat) (d : D) (n : Bool) : DEnv := match env[j]? with
  | some (.io _) => env.set j (.io d)
  | _ => env.set j (.ow d n)
theorem EnvR.own {j : Nat} {d : D} {n : Bool} (R : EnvR K mg Z F G H σ env) (e : ownS env j = some (d, n)) : ∃ a, σ[j]? = some (some (.ref a)) ∧ Own σ env a ∧ F a = none ∧ OwnC K mg (sel n G F) H a d := by
  unfold ownS at e
  cases es : env[j]? with
  | none => simp only [es] at e; cases e
  | some s =>
    simp only [es] at e
    have q := R.slot j s es
    cases s with
    | un => cases e
    | fz x m => cases e
    | ow x m => cases e; obtain ⟨a, e1, e2, e3, e4⟩ := q; exact ⟨a, e1, ⟨j, _, es, rfl, e1⟩, e2, e3⟩
    | io x => cases e; obtain ⟨a, e1, e2, e3, e4⟩ := q; exact ⟨a, e1, ⟨j, _, es, rfl, e1⟩, e2, e3⟩
theorem EnvR.mut {j : Nat} {d d' : D} {n n' : Bool} {a : Addr} {o' : HO} (R : EnvR K mg Z F G H σ env) (e : ownS env j = some (d, n)) (ha : σ[j]? = some (some (.ref a))) (hc : OwnC K mg (sel n' G F) (upd H a o') a d') :
    EnvR K mg Z F G (upd H a o') σ (mutS env j d' n') ∧ Ext σ env (mutS env j d' n') F G H F G (upd H a o') := by
  unfold ownS at e
  cases es : env[j]? with
  | none => simp only [es] at e; cases e
  | some s =>
    simp only [es] at e
    have hj := len_of es
    -- the new slot
    obtain ⟨s', hm, ho, ho', hk⟩ : ∃ s', mutS env j d' n' = env.set j s' ∧ isOwn s = true ∧ isOwn s' = true ∧
        (F a = none ∧ (∃ o, H a = some o) ∧ (∀ o, Z.H0 a = some o → ∃ p ∈ Z.io, p.2 = a) ∧ SlotOk K mg Z F G (upd H a o') σ j s') := by
      have q := R.slot j s es
      cases s with
      | un => cases e
      | fz x m => cases e
      | ow x m =>
        obtain ⟨b, e1, e2, e3, e4⟩ := q
        rw [ha] at e1; cases e1
        exact ⟨.ow d' n', by simp [mutS, es], rfl, rfl, e2, e3.there, (fun o z => by rw [e4] at z; cases z), a, ha, e2, hc, e4⟩
      | io x =>
        obtain ⟨b, e1, e2, e3, e4⟩ := q
        rw [ha] at e1; cases e1
        refine ⟨.io d', by simp [mutS, es], rfl, rfl, e2, e3.there, (fun o _ => ⟨_, e4, rfl⟩), a, ha, e2, ?_, e4⟩
        exact hc.mono (sel_le R.gf)
    obtain ⟨hF, hH, h0, hok⟩ := hk
    rw [hm]
    have iso : ∀ {l : Nat} {t : Slot}, (env.set j s')[l]? = some t → isOwn t = true → ∃ t', env[l]? = some t' ∧ isOwn t' = true := fun {l t} el ht => by
      by_cases h : j = l
      · subst h; exact ⟨s, es, ho⟩
      · rw [List.getElem?_set_ne h] at el; exact ⟨t, el, ht⟩
    have own' : ∀ b, Own σ (env.set j s') b → Own σ env b := fun b ⟨l, t, el, ht, hb⟩ => by
      obtain ⟨t', e1, e2⟩ := iso el ht
      exact ⟨l, t', e1, e2, hb⟩
    have hgone : Same F (upd H a o') := fun b u eb => by
      have : b ≠ a := fun z => by subst z; rw [hF] at eb; cases eb
      rw [upd_ne this]; exact R.fh _ _ eb
    have me : Own σ env a := ⟨j, s, es, ho, ha⟩
    refine ⟨⟨hgone, R.gf, R.f0, R.gn, R.fn, ?_, ?_, by rw [List.length_set]; exact R.len, ?_, ?_, ?_, R.iof⟩, ⟨.refl _, .refl _, ?_, ?_, fun b u _ k _ => k, own', ?_, by rw [List.length_set]⟩⟩
    · intro b u eb k
      have : b ≠ a := fun z => by
        subst z
        obtain ⟨p, hp, e2⟩ := h0 u eb
        exact k p hp e2
      rw [upd_ne this]; exact R.frame b u eb k
    · intro b u eb
      by_cases hb : b = a
      · subst hb; exact ⟨_, upd_same⟩
      · rw [upd_ne hb]; exact R.dom b u eb
    · intro l t el
      by_cases h : j = l
      · subst h
        rw [List.getElem?_set_self hj] at el
        cases el
        exact hok
      · rw [List.getElem?_set_ne h] at el
        have q := R.slot l t el
        have ne : ∀ {b : Addr}, isOwn t = true → σ[l]? = some (some (.ref b)) → b ≠ a := fun {b} ht hb z => by
          subst z
          exact h (R.dist j l s t _ es ho el ht ha hb)
        cases t with
        | un => trivial
        | fz x m => exact q
        | ow x m => obtain ⟨b, e1, e2, e3, e4⟩ := q; exact ⟨b, e1, e2, e3.at_ (fun u eu => by rw [upd_ne (ne rfl e1)]; exact eu), e4⟩
        | io x => obtain ⟨b, e1, e2, e3, e4⟩ := q; exact ⟨b, e1, e2, e3.at_ (fun u eu => by rw [upd_ne (ne rfl e1)]; exact eu), e4⟩
    · intro l m t u b el ht em hu hb hb'
      obtain ⟨t', e1, e2⟩ := iso el ht
      obtain ⟨u', e3, e4⟩ := iso em hu
      exact R.dist l m t' u' b e1 e2 e3 e4 hb hb'
    · intro p hp
      obtain ⟨x, e1, e2⟩ := R.io p hp
      by_cases h : j = p.1
      · rw [← h, List.getElem?_set_self hj]
        rw [← h, es] at e1
        cases e1
        have : s' = .io d' := by
          have z : mutS env j d' n' = env.set j (.io d') := by simp [mutS, es]
          rw [hm] at z
          have z2 := congrArg (fun l : DEnv => l[j]?) z
          simp only [List.getElem?_set_self hj, Option.some.injEq] at z2
          exact z2
        subst this
        exact ⟨d', rfl, by rw [h]; exact e2⟩
      · exact ⟨x, by rw [List.getElem?_set_ne h]; exact e1, e2⟩
    · intro b u eb nb
      have : b ≠ a := fun z => nb (z ▸ me)
      rw [upd_ne this]; exact eb
    · intro b u eb
      by_cases hb : b = a
      · subst hb; exact ⟨_, upd_same⟩
      · exact ⟨u, by rw [upd_ne hb]; exact eb⟩
    · intro l x ex
      by_cases h : j = l
      · subst h
        cases s' with
        | un => cases ho'
        | fz y m => cases ho'
        | ow y m => exact ⟨y, by simp [rd, List.getElem?_set_self hj]⟩
        | io y => exact ⟨y, by simp [rd, List.getElem?_set_self hj]⟩
      · refine ⟨x, ?_⟩
        rw [← ex]
        simp only [rd, List.getElem?_set_ne h]
end
end DL

/-! DL9: statements, targets, loops. -/
namespace DL
open PySem PySem.Spec L2

structure Up (F G F' G' : Hp) : Prop where
  f : Same F F'
  g : Same G G'
theorem Up.refl {F G : Hp} : Up F G F G := ⟨.refl _, .refl _⟩
theorem Up.trans {F G F1 G1 F2 G2 : Hp} (a : Up F G F1 G1) (b : Up F1 G1 F2 G2) : Up F G F2 G2 := ⟨a.f.trans b.f, a.g.trans b.g⟩
theorem Ext.up {σ : Sg} {env env' : DEnv} {F G H F' G' H' : Hp} (x : Ext σ env env' F G H F' G' H') : Up F G F' G' := ⟨x.f, x.g⟩
structure DEnds where
  nx : DEnv → Prop
  rt : T → DEnv → Prop
  bk : DEnv → Prop
  ct : DEnv → Prop
  ex : Str → DEnv → Prop
abbrev DSt := DEnv → DEnds → Prop
section
variable (K : PySem.W.Frag) (mg : Str → Option Value) (Z : Zx) (W : WX)
/-- what a def hands back -/
def RR (F G H : Hp) (v : V) : T → Prop
  | .fz d n => Rp K mg (sel n G F) v d
  | .ow d n => ∃ a, v = .ref a ∧ F a = none ∧ OwnC K mg (sel n G F) H a d ∧ Z.H0 a = none
  | .al _ => False
def Nx (F G : Hp) (P : DEnv → Prop) (Q : Sg → Hp → Prop) : Prop := ∀ (env' : DEnv) (F' G' H' : Hp) (σ' : Sg), P env' → EnvR K mg Z F' G' H' σ' env' → Up F G F' G' → Q σ' H'
def Rt (P : T → DEnv → Prop) (Q : VK) : Prop := ∀ (t : T) (env' : DEnv) (F' G' H' : Hp) (σ' : Sg) (v : V), P t env' → EnvR K mg Z F' G' H' σ' env' → RR K mg Z F' G' H' v t → Q v H'
structure EndsOk (F G : Hp) (Ds : DEnds) (D : Ends) : Prop where
  nx : Nx K mg Z F G Ds.nx D.nx
  rt : Rt K mg Z Ds.rt D.rt
  bk : Nx K mg Z F G Ds.bk D.bk
  ct : Nx K mg Z F G Ds.ct D.ct
  ex : ∀ σ, Wx K mg Z W Ds.ex σ
def tDS (w : DSt) : TS := fun D σ H => ∃ (F G : Hp) (env : DEnv) (Ds : DEnds), EnvR K mg Z F G H σ env ∧ w env Ds ∧ EndsOk K mg Z W F G Ds D
end
theorem Nx.mono {K : PySem.W.Frag} {mg : Str → Option Value} {Z : Zx} {F G F' G' : Hp} {P : DEnv → Prop} {Q : Sg → Hp → Prop} (h : Nx K mg Z F G P Q) (s : Up F G F' G') : Nx K mg Z F' G' P Q := fun e F1 G1 H1 σ1 p R k => h e F1 G1 H1 σ1 p R (s.trans k)
theorem EndsOk.mono {K : PySem.W.Frag} {mg : Str → Option Value} {Z : Zx} {W : WX} {F G F' G' : Hp} {Ds : DEnds} {D : Ends} (h : EndsOk K mg Z W F G Ds D) (s : Up F G F' G') : EndsOk K mg Z W F' G' Ds D := ⟨h.nx.mono s, h.rt, h.bk.mono s, h.ct.mono s, h.ex⟩
theorem PS.of {X : Cx} {e : Stmt} {t t' : TS} (h : PS X e t) (k : ∀ D σ H, t' D σ H → t D σ H) : PS X e t' := ⟨fun pins s σ H D I q => h.run pins s σ H D I (k D σ H q)⟩
theorem PSs.of {X : Cx} {e : List Stmt} {t t' : TS} (h : PSs X e t) (k : ∀ D σ H, t' D σ H → t D σ H) : PSs X e t' := ⟨fun pins s σ H D I q => h.run pins s σ H D I (k D σ H q)⟩
abbrev DS (X : Cx) (Z : Zx) (W : WX) (e : Stmt) (w : DSt) : Prop := PS X e (tDS X.K X.mg Z W w)
abbrev DSs (X : Cx) (Z : Zx) (W : WX) (e : List Stmt) (w : DSt) : Prop := PSs X e (tDS X.K X.mg Z W w)

def dSkip : DSt := fun env D => D.nx env
def dSeq (a b : DSt) : DSt := fun env D => a env { D with nx := fun e => b e D }
def dBrk : DSt := fun env D => D.bk env
def dCnt : DSt := fun env D => D.ct env
def dExp (w : DW) : DSt := fun env D => w env (fun _ e => D.nx e) D.ex
/-- what is handed back -/
def retT (env : DEnv) : T → Option T
  | .fz d n => some (.fz d n)
  | .ow d n => some (.ow d n)
  | .al i => match env[i]? with
    | some (.ow d n) => some (.ow d n)
    | some (.fz d n) => some (.fz d n)
    | _ => none
def dRet (w : DW) : DSt := fun env D => w env (fun t e => ∃ t', retT e t = some t' ∧ D.rt t' e) D.ex
def dRetN : DSt := fun env D => D.rt (.fz .none true) env
def dIf (c : DT) (a b : DSt) : DSt := fun env D => c env (fun k e => (k = true → a e D) ∧ (k = false → b e D)) D.ex
def dSet (i : Nat) (w : DW) : DSt := fun env D => w env (fun t e => ∃ e', setS e i t = some e' ∧ D.nx e') D.ex
def dWhile (c : DT) (b : DSt) : DSt := fun env D => ∃ (I : Nat → DEnv → Prop) (m0 : Nat), I m0 env ∧ ∀ m e, I m e →
  c e (fun k e1 => (k = true → b e1 { D with nx := fun e' => ∃ m', m' < m ∧ I m' e', ct := fun e' => ∃ m', m' < m ∧ I m' e', bk := D.nx }) ∧ (k = false → D.nx e1)) D.ex

section
variable {X : Cx} {Z : Zx} {W : WX} {pos : Pos} {st : Stmt} {rest : List Stmt} {a b : DSt} {e : Expr} {w : DW} {c : DT}
theorem s_nil : DSs X Z W [] dSkip := PSs.of pss_nil fun D σ H ⟨F, G, env, Ds, R, w, k⟩ => k.nx env F G H σ w R .refl
theorem s_cons (h1 : DS X Z W st a) (h2 : DSs X Z W rest b) : DSs X Z W (st :: rest) (dSeq a b) :=
  PSs.of (pss_cons h1 h2) fun D σ H ⟨F, G, env, Ds, R, w, k⟩ => ⟨F, G, env, _, R, w, ⟨fun e F1 G1 H1 σ1 p R1 s => ⟨F1, G1, e, Ds, R1, p, k.mono s⟩, k.rt, k.bk, k.ct, k.ex⟩⟩
theorem s_one (h : DS X Z W st a) : DSs X Z W [st] a := pss_one h
theorem s_pass : DS X Z W (.Pass pos) dSkip := PS.of ps_pass fun D σ H ⟨F, G, env, Ds, R, w, k⟩ => k.nx env F G H σ w R .refl
theorem s_break : DS X Z W (.Break pos) dBrk := PS.of ps_break fun D σ H ⟨F, G, env, Ds, R, w, k⟩ => k.bk env F G H σ w R .refl
theorem s_continue : DS X Z W (.Continue pos) dCnt := PS.of ps_continue fun D σ H ⟨F, G, env, Ds, R, w, k⟩ => k.ct env F G H σ w R .refl
theorem s_expr (h : DE X Z W e w) (hs : swapsWith e none pos.line X.env = pure false := by rfl) : DS X Z W (.Expr e pos) (dExp w) :=
  PS.of (ps_expr h hs) fun D σ H ⟨F, G, env, Ds, R, w, k⟩ => ⟨F, G, env, _, _, R, w, fun t e F1 G1 H1 v p R1 x1 r1 n1 => k.nx e F1 G1 H1 σ p R1 x1.up, k.ex σ⟩
theorem RT.ret {K : PySem.W.Frag} {mg : Str → Option Value} {Z : Zx} {F G H : Hp} {σ : Sg} {env : DEnv} {v : V} {t t' : T} (R : EnvR K mg Z F G H σ env) (h : RT K mg Z F G H σ env v t) (e : retT env t = some t') : RR K mg Z F G H v t' := by
  cases t with
  | fz d n => cases e; exact h
  | ow d n => cases e; obtain ⟨a, h1, h2, h3, h4, h5⟩ := h; exact ⟨a, h1, h2, h3, h5⟩
  | al i =>
    obtain ⟨h1, _⟩ := h
    unfold retT at e
    cases es : env[i]? with
    | none => simp only [es] at e; cases e
    | some s =>
      simp only [es] at e
      have q := R.slot i s es
      cases s with
      | un => cases e
      | io d => cases e
      | fz d n => cases e; obtain ⟨w, e1, e2⟩ := q; rw [h1] at e1; cases e1; exact e2
      | ow d n => cases e; obtain ⟨w, e1, e2, e3, e4⟩ := q; rw [h1] at e1; cases e1; exact ⟨w, rfl, e2, e3, e4⟩
theorem s_ret (h : DE X Z W e w) : DS X Z W (.Return (some e) pos) (dRet w) :=
  PS.of (ps_ret h) fun D σ H ⟨F, G, env, Ds, R, w, k⟩ => ⟨F, G, env, _, _, R, w, fun t e F1 G1 H1 v ⟨t', et, p⟩ R1 x1 r1 n1 => k.rt t' e F1 G1 H1 σ v p R1 (RT.ret R1 r1 et), k.ex σ⟩
theorem s_retN : DS X Z W (.Return none pos) dRetN := PS.of ps_retN fun D σ H ⟨F, G, env, Ds, R, w, k⟩ => k.rt _ env F G H σ .non w R .non
theorem s_if {sa sb : List Stmt} (hc : DTe X Z W e c) (ha : DSs X Z W sa a) (hb : DSs X Z W sb b) : DS X Z W (.If e sa sb pos) (dIf c a b) := by
  refine PS.of (ps_if hc ha hb) fun D σ H ⟨F, G, env, Ds, R, w, k⟩ => ?_
  refine ⟨F, G, env, _, _, R, w, fun q e1 F1 G1 H1 ⟨p1, p2⟩ R1 x1 => ?_, k.ex σ⟩
  cases q with
  | true => rw [if_pos rfl]; exact ⟨F1, G1, e1, Ds, R1, p1 rfl, k.mono x1.up⟩
  | false => rw [if_neg Bool.false_ne_true]; exact ⟨F1, G1, e1, Ds, R1, p2 rfl, k.mono x1.up⟩
/-- a store, by any reading of its value -/
theorem set_imp {te : TE} {i : Nat} (hk : ∀ σ H Q, tD X.K X.mg Z W w σ H Q → te σ H Q) {D : Ends} {σ : Sg} {H : Hp} (h : tDS X.K X.mg Z W (dSet i w) D σ H) : tAsg te (gName i) D σ H := by
  obtain ⟨F, G, env, Ds, R, w, k⟩ := h
  refine hk _ _ _ ⟨F, G, env, _, _, R, w, fun t e F1 G1 H1 v ⟨e', es, p⟩ R1 x1 r1 n1 => ?_, k.ex σ⟩
  obtain ⟨F2, G2, R2, s2⟩ := R1.setS r1 es
  exact k.nx e' F2 G2 H1 _ p R2 (x1.up.trans ⟨s2.1, s2.2⟩)
theorem s_set (i : Nat) {x : Str} {pos' : Pos} (he : DE X Z W e w) (hN : X.N.Nodup) (hi : X.N[i]? = some x := by rfl) (hx : Loc X.env.scope x := by first | exact Or.inl rfl | exact Or.inr rfl)
    (hs : swapsWith e (some (.Name x pos')) pos.line X.env = pure false := by rfl) (hf : X.fn x = true ∨ X.env.scope.names.lookup x = some .local := by first | exact .inl rfl | exact .inr rfl | assumption) :
    DS X Z W (.Assign [.Name x pos'] e pos) (dSet i w) :=
  PS.of (ps_set hN hi hx he hs hf) fun D σ H h => set_imp (fun _ _ _ q => q) h
theorem s_while {body : List Stmt} (hp : PassesOwn (model X.prog X.w) X.A X.env X.xe) (hc : DTe X Z W e c) (hb : DSs X Z W body b) : DS X Z W (.While e body [] pos) (dWhile c b) := by
  refine PS.of (ps_while hp hc hb) fun D σ H ⟨F, G, env, Ds, R, ⟨I, m0, i0, st⟩, k⟩ => ?_
  refine ⟨fun m σ H => ∃ F' G' env', EnvR X.K X.mg Z F' G' H σ env' ∧ Up F G F' G' ∧ I m env', ⟨m0, F, G, env, R, .refl, i0⟩, fun m σ1 H1 ⟨F1, G1, e1, R1, s1, i1⟩ => ?_⟩
  refine ⟨F1, G1, e1, _, _, R1, st m e1 i1, fun q e2 F2 G2 H2 ⟨p1, p2⟩ R2 x2 => ?_, k.ex σ1⟩
  cases q with
  | false => rw [if_neg Bool.false_ne_true]; exact k.nx e2 F2 G2 H2 σ1 (p2 rfl) R2 (s1.trans x2.up)
  | true =>
    rw [if_pos rfl]
    refine ⟨fun σ' H' => ∃ m', m' < m ∧ ∃ F' G' env', EnvR X.K X.mg Z F' G' H' σ' env' ∧ Up F G F' G' ∧ I m' env', fun σ' H' ⟨m', hm, z⟩ => ⟨m', hm, z⟩, F2, G2, e2, _, R2, p1 rfl, ?_⟩
    have go : Nx X.K X.mg Z F2 G2 (fun e' => ∃ m', m' < m ∧ I m' e') (fun σ' H' => ∃ m', m' < m ∧ ∃ F' G' env', EnvR X.K X.mg Z F' G' H' σ' env' ∧ Up F G F' G' ∧ I m' env') := fun e' F' G' H' σ' ⟨m', hm, i'⟩ R' s' => ⟨m', hm, F', G', e', R', (s1.trans x2.up).trans s', i'⟩
    exact ⟨go, k.rt, k.nx.mono (s1.trans x2.up), go, k.ex⟩
end

/-! ### targets -/
abbrev DG := D → Bool → DEnv → Option DEnv
def gN (i : Nat) : DG := fun d n env => setS env i (.fz d n)
def gTs : List DG → List D → Bool → DEnv → Option DEnv
  | [], [], _, env => some env
  | g :: gs, d :: ds, n, env => (g d n env).bind (gTs gs ds n)
  | _, _, _, _ => none
def gTp (gs : List DG) : DG := fun d n env => (seqOf d).bind fun ds => gTs gs ds n env
/-- slots are stored at these places alone, data there -/
structure OnlyAt (σ σ' : Sg) (env env' : DEnv) (tl : List Nat) : Prop where
  w : ∀ vs : List Nat, (∀ i ∈ tl, i ∈ vs) → wipe σ' vs = wipe σ vs
  e : ∀ j : Nat, j ∉ tl → env'[j]? = env[j]? ∧ σ'[j]? = σ[j]?
  o : ∀ j ∈ tl, ∀ s : Slot, env'[j]? = some s → isOwn s = false
  l : env'.length = env.length
theorem wipe_set {σ : Sg} {i : Nat} {v : Option V} : ∀ {vs : List Nat}, i ∈ vs → wipe (σ.set i v) vs = wipe σ vs
  | [], h => by simp at h
  | w :: vs, h => by
    unfold wipe
    by_cases hi : i ∈ vs
    · rw [wipe_set hi]
    · rcases List.mem_cons.mp h with rfl | h
      · have : ∀ vs : List Nat, (wipe (σ.set i v) vs).set i none = (wipe σ vs).set i none := fun vs => by
          induction vs with
          | nil => simp [wipe]
          | cons u us ih =>
            unfold wipe
            by_cases hu : u = i
            · subst hu; rw [ih]
            · rw [List.set_comm _ _ hu, ih, List.set_comm _ _ (Ne.symm hu)]
        exact this vs
      · exact absurd h hi
def tDG (K : PySem.W.Frag) (mg : Str → Option Value) (Z : Zx) (g : DG) (tl : List Nat) : TG := fun v σ H Q => ∃ (F G : Hp) (env : DEnv) (d : D) (n : Bool) (env' : DEnv), EnvR K mg Z F G H σ env ∧ Rp K mg (sel n G F) v d ∧ g d n env = some env' ∧ ∀ σ', EnvR K mg Z F G H σ' env' → OnlyAt σ σ' env env' tl → Q σ' H
def tDGs (K : PySem.W.Frag) (mg : Str → Option Value) (Z : Zx) (g : List DG) (tl : List Nat) : TGs := fun vs σ H Q => ∃ (F G : Hp) (env : DEnv) (ds : List D) (n : Bool) (env' : DEnv), EnvR K mg Z F G H σ env ∧ Rps K mg (sel n G F) vs ds ∧ gTs g ds n env = some env' ∧ ∀ σ', EnvR K mg Z F G H σ' env' → OnlyAt σ σ' env env' tl → Q σ' H
theorem PG.of {X : Cx} {e : Expr} {t t' : TG} (h : PG X e t) (k : ∀ v σ H Q, t' v σ H Q → t v σ H Q) : PG X e t' := ⟨fun pins s σ H v u Q I r q => h.run pins s σ H v u Q I r (k v σ H Q q)⟩
theorem PGs.of {X : Cx} {e : List Expr} {t t' : TGs} (h : PGs X e t) (k : ∀ v σ H Q, t' v σ H Q → t v σ H Q) : PGs X e t' := ⟨fun pins s σ H v u Q I r q => h.run pins s σ H v u Q I r (k v σ H Q q)⟩
theorem PG.or {X : Cx} {e : Expr} {t t' : TG} (h : PG X e t) (h' : PG X e t') : PG X e (fun v σ H Q => t v σ H Q ∨ t' v σ H Q) :=
  ⟨fun pins s σ H v u Q I r q => q.elim (fun q => h.run pins s σ H v u Q I r q) fun q => h'.run pins s σ H v u Q I r q⟩
abbrev DGt (X : Cx) (Z : Zx) (e : Expr) (g : DG) (tl : List Nat) : Prop := PG X e (tDG X.K X.mg Z g tl)
abbrev DGts (X : Cx) (Z : Zx) (e : List Expr) (g : List DG) (tl : List Nat) : Prop := PGs X e (tDGs X.K X.mg Z g tl)
section
variable {X : Cx} {Z : Zx} {W : WX} {pos : Pos}
theorem setS_F {K : PySem.W.Frag} {mg : Str → Option Value} {F G H : Hp} {σ : Sg} {env env' : DEnv} {i : Nat} {v : V} {d : D} {n : Bool} (R : EnvR K mg Z F G H σ env) (h : Rp K mg (sel n G F) v d) (e : setS env i (.fz d n) = some env') : EnvR K mg Z F G H (σ.set i (some v)) env' := by
  unfold DL.setS at e
  cases es : env[i]? with
  | none => simp only [es] at e; cases e
  | some s =>
    simp only [es] at e
    by_cases hk : okS s = true
    · rw [if_pos hk] at e
      have hiσ : i < σ.length := by rw [← R.len]; exact len_of es
      cases e
      exact R.put es (okS_io hk) (fun _ z => nomatch z) ⟨v, List.getElem?_set_self hiσ, h⟩ (fun z => nomatch z)
    · rw [if_neg hk] at e; cases e
theorem only_set {σ : Sg} {env env' : DEnv} {i : Nat} {v : Option V} {d : D} {n : Bool} (e : setS env i (.fz d n) = some env') : OnlyAt σ (σ.set i v) env env' [i] := by
  unfold DL.setS at e
  cases es : env[i]? with
  | none => simp only [es] at e; cases e
  | some s =>
    simp only [es] at e
    by_cases hk : okS s = true
    · rw [if_pos hk] at e
      cases e
      refine ⟨fun vs h => wipe_set (h i List.mem_cons_self), fun j hj => ?_, fun j hj s' e' => ?_, List.length_set⟩
      · have : i ≠ j := fun z => hj (z ▸ List.mem_cons_self)
        exact ⟨List.getElem?_set_ne this, List.getElem?_set_ne this⟩
      · have : j = i := by simpa using hj
        subst this
        rw [List.getElem?_set_self (len_of es)] at e'
        cases e'
        rfl
    · rw [if_neg hk] at e; cases e
theorem g_name (i : Nat) {x : Str} (hN : X.N.Nodup) (hi : X.N[i]? = some x := by rfl) (hx : Loc X.env.scope x := by first | exact Or.inl rfl | exact Or.inr rfl) (hf : X.fn x = true ∨ X.env.scope.names.lookup x = some .local := by first | exact .inl rfl | exact .inr rfl | assumption) : DGt X Z (.Name x pos) (gN i) [i] :=
  PG.of (pg_name hN hi hx hf) fun v σ H Q ⟨F, G, env, d, n, env', R, r, e, q⟩ => q _ (setS_F R r e) (only_set e)
theorem only_app {σ σ1 σ2 : Sg} {env env1 env2 : DEnv} {tl tls : List Nat} (a : OnlyAt σ σ1 env env1 tl) (b : OnlyAt σ1 σ2 env1 env2 tls) : OnlyAt σ σ2 env env2 (tl ++ tls) := by
  refine ⟨fun vs h => (b.w vs fun i hi => h i (List.mem_append_right _ hi)).trans (a.w vs fun i hi => h i (List.mem_append_left _ hi)), fun j hj => ?_, fun j hj s e => ?_, b.l.trans a.l⟩
  · have h1 := a.e j fun z => hj (List.mem_append_left _ z)
    have h2 := b.e j fun z => hj (List.mem_append_right _ z)
    exact ⟨h2.1.trans h1.1, h2.2.trans h1.2⟩
  · by_cases h : j ∈ tls
    · exact b.o j h s e
    · rw [(b.e j h).1] at e
      rcases List.mem_append.mp hj with z | z
      · exact a.o j z s e
      · exact absurd z h
theorem g_nil : DGts X Z [] [] [] := PGs.of pgs_nil fun v σ H Q ⟨F, G, env, ds, n, env', R, r, e, q⟩ => by
  cases ds with
  | nil => cases r; cases e; exact ⟨rfl, q _ R ⟨fun _ _ => rfl, fun _ _ => ⟨rfl, rfl⟩, fun _ h => by simp at h, rfl⟩⟩
  | cons => cases e
theorem g_cons {t : Expr} {ts : List Expr} {g : DG} {gs : List DG} {tl tls : List Nat} (h1 : DGt X Z t g tl) (h2 : DGts X Z ts gs tls) (hs : (assignEach (t :: ts) X.env).map (·.2) = assign t X.env :: (assignEach ts X.env).map (·.2) := by rfl) : DGts X Z (t :: ts) (g :: gs) (tl ++ tls) := by
  refine PGs.of (pgs_cons h1 h2 hs) fun v σ H Q ⟨F, G, env, ds, n, env', R, r, e, q⟩ => ?_
  cases ds with
  | nil => cases e
  | cons d ds =>
    cases r with
    | cons r1 r2 =>
      unfold gTs at e
      cases e1 : g d n env with
      | none => rw [e1] at e; cases e
      | some env1 =>
        rw [e1] at e
        exact ⟨_, _, rfl, F, G, env, d, n, env1, R, r1, e1, fun σ' R' o1 => ⟨F, G, env1, ds, n, env', R', r2, e, fun σ2 R2 o2 => q σ2 R2 (only_app o1 o2)⟩⟩
theorem gTs_len : ∀ {gs : List DG} {ds : List D} {n : Bool} {env env' : DEnv}, gTs gs ds n env = some env' → ds.length = gs.length
  | [], [], _, _, _, _ => rfl
  | [], _ :: _, _, _, _, e => by cases e
  | _ :: _, [], _, _, _, e => by cases e
  | g :: gs, d :: ds, n, env, env', e => by
    unfold gTs at e
    cases e1 : g d n env with
    | none => rw [e1] at e; cases e
    | some env1 => rw [e1] at e; simp [gTs_len e]
theorem g_tup {ts : List Expr} {k : Nat} {gs : List DG} {tl : List Nat} (hc : X.calm = true) (h : DGts X Z ts gs tl) (hn : (assignEach ts X.env).length = gs.length := by rfl) (hst : (assignEach ts X.env).findIdx? (·.1) = none := by rfl) : DGt X Z (.Tuple ts k pos) (gTp gs) tl := by
  refine PG.of (PG.or (pg_tup hc h hn hst) (pg_lst hc h hn hst)) fun v σ H Q ⟨F, G, env, d, n, env', R, r, e, q⟩ => ?_
  unfold gTp at e
  cases es : seqOf d with
  | none => rw [es] at e; cases e
  | some ds =>
    rw [es] at e
    simp only [Option.bind_some] at e
    obtain ⟨a, vs, rfl, hs, rs⟩ := Rv.seq (H := H) (.inl r) R.selH es
    have hl := rs.length.trans (gTs_len e)
    rcases hs with hs | hs
    · exact .inr ⟨a, vs, rfl, hs, hl, F, G, env, ds, n, env', R, rs, e, q⟩
    · exact .inl ⟨a, vs, rfl, hs, hl, F, G, env, ds, n, env', R, rs, e, q⟩

/-- a, b = e -/
def dUnp (g : DG) (w : DW) : DSt := fun env D => w env (fun t e => ∃ x, frz1 e (hold t) = some x ∧ ∃ e', g x.1 x.2.1 x.2.2 = some e' ∧ D.nx e') D.ex
theorem s_unp {tg e : Expr} {w : DW} {g : DG} {tl : List Nat} (he : DE X Z W e w) (hg : DGt X Z tg g tl) (hs : swapsWithSole [tg] e pos.line X.env = pure false := by rfl) (hw : swappedStores [tg] e X.env = pure none := by rfl)
    (h1 : (assignEach [tg] X.env).map (·.2) = [assign tg X.env] := by rfl) : DS X Z W (.Assign [tg] e pos) (dUnp g w) := by
  refine PS.of (ps_asg he hg hs hw h1) fun D σ H ⟨F, G, env, Ds, R, w, k⟩ => ?_
  refine ⟨F, G, env, _, _, R, w, fun t e1 F1 G1 H1 v ⟨x, ex, e', eg, p⟩ R1 x1 r1 n1 => ?_, k.ex σ⟩
  obtain ⟨F2, G2, R2, x2, r2⟩ := RT.hold R1 x1 r1 n1
  obtain ⟨F3, G3, R3, x3, r3⟩ := RT.frz R2 r2 hold_ow ex
  exact ⟨F3, G3, x.2.2, x.1, x.2.1, e', R3, r3, eg, fun σ' R' _ => k.nx e' F3 G3 H1 σ' p R' (x2.up.trans x3.up)⟩
/-- a, b = x, y of plain names -/
def dPar (i j : Nat) (wa : DA) : DSt := fun env D => wa env (fun ts e => ∃ d n d' n', ts = [.fz d n, .fz d' n'] ∧ ∃ e1, setS e i (.fz d n) = some e1 ∧ ∃ e2, setS e1 j (.fz d' n') = some e2 ∧ D.nx e2) D.ex
theorem s_par (i j : Nat) {x y : Str} {a b : Expr} {wa : DA} {px py pt : Pos} {kt k2 pt2} (hc : X.calm = true) (hN : X.N.Nodup) (ha : DAr X Z W [a, b] wa) (hw : swappedStores [.Tuple [.Name x px, .Name y py] kt pt] (.Tuple [a, b] k2 pt2) X.env = pure (some [x, y]))
    (hi : X.N[i]? = some x := by rfl) (hj : X.N[j]? = some y := by rfl) (hij : i ≠ j := by decide) (hx : X.env.scope.names.lookup x = some .local := by rfl) (hy : X.env.scope.names.lookup y = some .local := by rfl)
    (hs : swapsWithSole [.Tuple [.Name x px, .Name y py] kt pt] (.Tuple [a, b] k2 pt2) pos.line X.env = pure false := by rfl) : DS X Z W (.Assign [.Tuple [.Name x px, .Name y py] kt pt] (.Tuple [a, b] k2 pt2) pos) (dPar i j wa) := by
  refine PS.of (ps_par hc hN hi hj hij hx hy ha hw hs) fun D σ H ⟨F, G, env, Ds, R, w, k⟩ => ?_
  refine ⟨F, G, env, _, _, R, w, fun ts e1 F1 G1 H1 vs ⟨d, n, d', n', et, ea, es1, eb, es2, p⟩ R1 x1 r1 => ?_, k.ex σ⟩
  subst et
  match vs, r1 with
  | [v1, v2], ⟨o1, q1, o2, q2, _⟩ =>
    refine ⟨v1, v2, rfl, ?_⟩
    have R2 := setS_F R1 (show Rp X.K X.mg (sel n G1 F1) v1 d from q1) es1
    have R3 := setS_F R2 (show Rp X.K X.mg (sel n' G1 F1) v2 d' from q2) es2
    exact k.nx eb F1 G1 H1 _ p R3 x1.up
end
end DL

/-! DL10: what is walked, for, comprehensions. -/
namespace DL
open PySem PySem.Spec L2

section
variable (K : PySem.W.Frag) (mg : Str → Option Value) (Z : Zx)
/-- an iterator yields these things, one by one -/
structure IterOk (F0 G0 : Hp) (n : Bool) (J : It) (items : List D) : Prop where
  stop : ∀ i H, Same F0 H → items.length ≤ i → J.stop i H
  go : ∀ i H d, Same F0 H → items[i]? = some d → J.go i H
  yld : ∀ i H d x H' F G env σ, items[i]? = some d → J.yld i H x H' → EnvR K mg Z F G H σ env → Up F0 G0 F G → ∃ F' G', EnvR K mg Z F' G' H' σ env ∧ Ext σ env env F G H F' G' H' ∧ Rp K mg (sel n G' F') x d
end
abbrev DI := DEnv → (List D → Bool → DEnv → Prop) → (Str → DEnv → Prop) → Prop
def tDI (K : PySem.W.Frag) (mg : Str → Option Value) (Z : Zx) (W : WX) (w : DI) : TI := fun σ H R => ∃ (F G : Hp) (env : DEnv) (P : List D → Bool → DEnv → Prop) (E : Str → DEnv → Prop), EnvR K mg Z F G H σ env ∧ w env P E ∧
  (∀ (items : List D) (n : Bool) (env' : DEnv) (F' G' H' : Hp) (J : It), P items n env' → EnvR K mg Z F' G' H' σ env' → Ext σ env env' F G H F' G' H' → IterOk K mg Z F' G' n J items → R J H') ∧ Wx K mg Z W E σ
abbrev DIe (X : Cx) (Z : Zx) (W : WX) (tg e : Expr) (w : DI) : Prop := PI X tg e (tDI X.K X.mg Z W w)
theorem PI.of {X : Cx} {tg e : Expr} {t t' : TI} (h : PI X tg e t) (k : ∀ σ H Q, t' σ H Q → t σ H Q) : PI X tg e t' := ⟨fun pins s σ H R I q => h.run pins s σ H R I (k σ H R q)⟩

/-- a list, a tuple or a text walked -/
def iAny (K : PySem.W.Frag) (tl : TE) : TI := fun σ H R => tl σ H fun x H1 => (∃ a xs, x = .ref a ∧ SqL K H1 a xs ∧ R (Itl K a) H1) ∨ (∃ a xs, x = .ref a ∧ SqT K H1 a xs ∧ R (Itt K a) H1) ∨ ∃ z, x = .str z ∧ R (Its z) H1
theorem pi_any {X : Cx} {tg l : Expr} {tl : TE} (hl : PE X l tl) : PI X tg l (iAny X.K tl) := by
  refine ⟨fun pins s σ H R I h => ?_⟩
  refine thn (hl.run pins s σ H _ I h) fun v s1 ⟨x, H1, I1, r1, q1⟩ => ?_
  rcases q1 with ⟨a, xs, rfl, hq, q⟩ | ⟨a, xs, rfl, hq, q⟩ | ⟨z, rfl, q⟩
  · cases r1
    obtain ⟨its, rv, p, hz⟩ := I1.list hq
    exact wpAny_pyIter_list p.isList (pi_one (tk := s1.toks) I1 _ (turn_list a _) ⟨_, Heap.get?_push_size _ rfl, rfl, rfl⟩ q)
  · cases r1
    obtain ⟨its, rv, p, hz⟩ := I1.tuple hq
    exact wpAny_pyIter_tuple (show s1.heap.IsTuple a its.toArray from p) (pi_one (tk := s1.toks) I1 _ (turn_tuple a _) ⟨_, Heap.get?_push_size _ rfl, rfl, rfl⟩ q)
  · obtain ⟨t, rfl⟩ := r1
    cases ha : z.cps.all (· < 128)
    · exact wpAny_pyIter_wide ha (pi_one (tk := s1.toks) I1 _ (turn_str _ z t "str_iterator" (.inr rfl)) ⟨_, Heap.get?_push_size _ rfl, rfl, rfl⟩ q)
    · exact wpAny_pyIter_ascii ha (pi_one (tk := s1.toks) I1 _ (turn_str _ z t "str_ascii_iterator" (.inl rfl)) ⟨_, Heap.get?_push_size _ rfl, rfl, rfl⟩ q)

/-- the things that are walked -/
def itemsOf : D → Option (List D)
  | .str z => some (z.cps.toList.map fun c => .str ⟨#[c]⟩)
  | d => seqOf d
def dIt (w : DW) : DI := fun env P E => w env (fun t e => ∃ x, frz1 e (hold t) = some x ∧ ∃ ds, itemsOf x.1 = some ds ∧ P ds x.2.1 x.2.2) E
section
variable {K : PySem.W.Frag} {mg : Str → Option Value} {Z : Zx} {F G H : Hp}
theorem Same.seqL {F F' : Hp} (e : Same F F') {a : Addr} {xs : List V} (h : SqL K F a xs) : SqL K F' a xs := L2.Same.seq e h
theorem iter_list {a : Addr} {vs : List V} {ds : List D} {n : Bool} (hs : SqL K F a vs) (r : Rps K mg (sel n G F) vs ds) : IterOk K mg Z F G n (Itl K a) ds where
  stop := fun i H s h => ⟨vs, s.seq hs, by rw [r.length]; exact h⟩
  go := fun i H d s h => by obtain ⟨v, e, _⟩ := r.get h; exact ⟨vs, v, s.seq hs, e⟩
  yld := fun i H d x H' F' G' env σ h y R u => by
    obtain ⟨rfl, f⟩ := y
    obtain ⟨v, e, rv⟩ := r.get h
    have z := f vs (R.fh.seq (u.f.seq hs))
    rw [e] at z; cases z
    exact ⟨F', G', R, .refl, rv.mono (sel_same u.f u.g)⟩
theorem iter_tup {a : Addr} {vs : List V} {ds : List D} {n : Bool} (hs : SqT K F a vs) (r : Rps K mg (sel n G F) vs ds) : IterOk K mg Z F G n (Itt K a) ds where
  stop := fun i H s h => ⟨vs, Same.seqT s hs, by rw [r.length]; exact h⟩
  go := fun i H d s h => by obtain ⟨v, e, _⟩ := r.get h; exact ⟨vs, v, Same.seqT s hs, e⟩
  yld := fun i H d x H' F' G' env σ h y R u => by
    obtain ⟨rfl, f⟩ := y
    obtain ⟨v, e, rv⟩ := r.get h
    have z := f vs (Same.seqT R.fh (Same.seqT u.f hs))
    rw [e] at z; cases z
    exact ⟨F', G', R, .refl, rv.mono (sel_same u.f u.g)⟩
theorem iter_str {z : Str} {n : Bool} : IterOk K mg Z F G n (Its z) (z.cps.toList.map fun c => .str ⟨#[c]⟩) where
  stop := fun i H s h => by show z.cps.size ≤ i; simpa using h
  go := fun i H d s h => by
    have := len_of h
    show i < z.cps.size
    simpa using this
  yld := fun i H d x H' F' G' env σ h y R u => by
    obtain ⟨rfl, c, e, rfl⟩ := y
    refine ⟨F', G', R, .refl, ?_⟩
    rw [List.getElem?_map, Array.getElem?_toList, e] at h
    cases h
    exact .str _
/-- frozen things, by their places -/
theorem Rp.seq {v : V} {d : D} {ds : List D} {B : Hp} (h : Rp K mg B v d) (e : seqOf d = some ds) : ∃ a vs, v = .ref a ∧ (SqL K B a vs ∨ SqT K B a vs) ∧ Rps K mg B vs ds := Rv.seq (H := B) (.inl h) (.refl _) e
theorem sel_seq {a : Addr} {vs : List V} {n : Bool} (R : Same G F) (h : SqL K (sel n G F) a vs ∨ SqT K (sel n G F) a vs) : SqL K F a vs ∨ SqT K F a vs :=
  h.elim (fun h => .inl ((sel_le R).seq h)) fun h => .inr (Same.seqT (sel_le R) h)
end
section
variable {X : Cx} {Z : Zx} {W : WX} {pos : Pos} {tg e : Expr} {w : DW}
theorem i_any (he : DE X Z W e w) : DIe X Z W tg e (dIt w) := by
  refine PI.of (pi_any he) fun σ H R ⟨F, G, env, P, E, Rr, w, q, qe⟩ => ?_
  refine ⟨F, G, env, _, E, Rr, w, fun t e1 F1 G1 H1 v ⟨x, ex, ds, ed, p⟩ R1 x1 r1 n1 => ?_, qe⟩
  obtain ⟨F2, G2, R2, x2, r2⟩ := RT.hold R1 x1 r1 n1
  obtain ⟨F3, G3, R3, x3, r3⟩ := RT.frz R2 r2 hold_ow ex
  obtain ⟨d, n, env3⟩ := x
  dsimp only at ed p r3 R3 x3
  unfold itemsOf at ed
  split at ed
  · cases ed
    cases (show Rp X.K X.mg _ v (.str _) from r3)
    exact .inr (.inr ⟨_, rfl, q _ n env3 F3 G3 H1 _ p R3 (x2.trans x3) iter_str⟩)
  · obtain ⟨a, vs, rfl, hs, rs⟩ := r3.seq ed
    rcases sel_seq R3.gf hs with hs | hs
    · exact .inl ⟨a, vs, rfl, R3.fh.seq hs, q _ n env3 F3 G3 H1 _ p R3 (x2.trans x3) (iter_list hs rs)⟩
    · exact .inr (.inl ⟨a, vs, rfl, Same.seqT R3.fh hs, q _ n env3 F3 G3 H1 _ p R3 (x2.trans x3) (iter_tup hs rs)⟩)

/-! ### range, zip, enumerate -/
def rangeD (lo : Int) (n : Nat) : List D := (List.range n).map fun k => .int (lo + (k : Nat))
def dRange (wa : DA) : DI := fun env P E => wa env (fun ts e => (∃ j n, ts = [.fz (.int j) n] ∧ -(2 ^ 62) ≤ j ∧ j < 2 ^ 62 ∧ P (rangeD 0 j.toNat) true e)) E
def dRange2 (wa : DA) : DI := fun env P E => wa env (fun ts e => (∃ i n j m, ts = [.fz (.int i) n, .fz (.int j) m] ∧ (-(2 ^ 62) ≤ i ∧ i < 2 ^ 62 ∧ -(2 ^ 62) ≤ j ∧ j < 2 ^ 62) ∧ P (rangeD i (j - i).toNat) true e)) E
theorem iter_range {F G : Hp} {lo : Int} {m : Nat} {n : Bool} : IterOk X.K X.mg Z F G n (Itr lo m) (rangeD lo m) where
  stop := fun i H s h => by show m ≤ i; simpa [rangeD] using h
  go := fun i H d s h => by have := len_of h; show i < m; simpa [rangeD] using this
  yld := fun i H d x H' F' G' env σ h y R u => by
    obtain ⟨rfl, rfl⟩ := y
    refine ⟨F', G', R, .refl, ?_⟩
    have hl := len_of h
    unfold rangeD at h
    rw [List.getElem?_map, List.getElem?_range (by simpa [rangeD] using hl)] at h
    cases h
    exact .int _
theorem i_range {a : Expr} {wa : DA} {p : Pos} (hm : X.mg "range" = none) (ha : DAr X Z W [a] wa) (hg : Gl X "range" := by rfl) (hs : starEach [a] X.env = [(false, eval a X.env)] := by rfl) : DIe X Z W tg (.Call (.Name "range" p) [a] [] pos) (dRange wa) := by
  refine PI.of (pi_range1 hg hm ha hs) fun σ H R ⟨F, G, env, P, E, Rr, w, q, qe⟩ => ?_
  refine ⟨F, G, env, _, E, Rr, w, fun ts e1 F1 G1 H1 vs ⟨j, n, et, h1, h2, p⟩ R1 x1 r1 => ?_, qe⟩
  subst et
  match vs, r1 with
  | [v], ⟨_, r, _⟩ =>
    cases (show Rp X.K X.mg _ v (.int j) from r)
    exact ⟨j, rfl, h1, h2, q _ true e1 F1 G1 H1 _ p R1 x1 iter_range⟩
theorem i_range2 {a b : Expr} {wa : DA} {p : Pos} (hm : X.mg "range" = none) (ha : DAr X Z W [a, b] wa) (hg : Gl X "range" := by rfl) (hs : starEach [a, b] X.env = [(false, eval a X.env), (false, eval b X.env)] := by rfl) (hs2 : starEach [b] X.env = [(false, eval b X.env)] := by rfl) :
    DIe X Z W tg (.Call (.Name "range" p) [a, b] [] pos) (dRange2 wa) := by
  refine PI.of (pi_range2 hg hm ha hs hs2) fun σ H R ⟨F, G, env, P, E, Rr, w, q, qe⟩ => ?_
  refine ⟨F, G, env, _, E, Rr, w, fun ts e1 F1 G1 H1 vs ⟨i, n, j, m, et, hb, p⟩ R1 x1 r1 => ?_, qe⟩
  subst et
  match vs, r1 with
  | [v, u], ⟨_, r, _, r', _⟩ =>
    cases (show Rp X.K X.mg _ v (.int i) from r)
    cases (show Rp X.K X.mg _ u (.int j) from r')
    exact ⟨i, j, rfl, hb, q _ true e1 F1 G1 H1 _ p R1 x1 iter_range⟩
def zipD : List D → List D → List D
  | x :: xs, y :: ys => .tuple [x, y] :: zipD xs ys
  | _, _ => []
theorem zipD_get : ∀ {xs ys : List D} {i : Nat} {d : D}, (zipD xs ys)[i]? = some d → ∃ x y, xs[i]? = some x ∧ ys[i]? = some y ∧ d = .tuple [x, y]
  | [], _, _, _, h => by simp [zipD] at h
  | _ :: _, [], _, _, h => by simp [zipD] at h
  | x :: xs, y :: ys, 0, d, h => by simp [zipD] at h; exact ⟨x, y, rfl, rfl, h.symm⟩
  | x :: xs, y :: ys, i + 1, d, h => by
    obtain ⟨a, b, h1, h2, h3⟩ := zipD_get (xs := xs) (ys := ys) (i := i) (by simpa [zipD] using h)
    exact ⟨a, b, by simpa using h1, by simpa using h2, h3⟩
theorem zipD_len : ∀ {xs ys : List D}, (zipD xs ys).length = min xs.length ys.length
  | [], _ => by simp [zipD]
  | _ :: _, [] => by simp [zipD]
  | x :: xs, y :: ys => by simp only [zipD, List.length_cons, zipD_len (xs := xs) (ys := ys)]; omega
def kindSeq : D → Option (Bool × List D)
  | .list xs => some (false, xs) | .scr xs => some (false, xs) | .tuple xs => some (true, xs) | .ktup xs => some (true, xs) | _ => none
def dZip (wa : DA) : DI := fun env P E => wa env (fun ts e => ∃ x y n e', frzL e ts = some ([x, y], n, e') ∧ ∃ k xs ys, kindSeq x = some (k, xs) ∧ kindSeq y = some (k, ys) ∧ P (zipD xs ys) n e') E
theorem Rp.kind {K : PySem.W.Frag} {mg : Str → Option Value} {B : Hp} {v : V} {d : D} {k : Bool} {ds : List D} (h : Rp K mg B v d) (e : kindSeq d = some (k, ds)) : ∃ a vs, v = .ref a ∧ (if k then SqT K B a vs else SqL K B a vs) ∧ Rps K mg B vs ds := by
  cases h with
  | lst h r => cases e; exact ⟨_, _, rfl, SqL.of h, r⟩
  | scr h r => cases e; exact ⟨_, _, rfl, h, r⟩
  | tup h r => cases e; exact ⟨_, _, rfl, SqT.of h, r⟩
  | ktup h r => cases e; exact ⟨_, _, rfl, h, r⟩
  | _ => cases e
theorem lay_pair {K : PySem.W.Frag} {mg : Str → Option Value} {F G H : Hp} {σ : Sg} {env : DEnv} {t : Addr} {x y : V} {d e : D} {n : Bool} (R : EnvR K mg Z F G H σ env) (hp : H t = none) (rx : Rp K mg (sel n G F) x d) (ry : Rp K mg (sel n G F) y e) :
    ∃ F' G', EnvR K mg Z F' G' (upd H t (.tup [x, y])) σ env ∧ Ext σ env env F G H F' G' (upd H t (.tup [x, y])) ∧ Rp K mg (sel n G' F') (.ref t) (.tuple [d, e]) := by
  obtain ⟨k1, k2, k3⟩ := RT.newTup (n := n) R hp (.cons rx (.cons ry .nil))
  exact ⟨_, _, k1, k2, k3⟩
theorem i_zip {a b : Expr} {wa : DA} {p tpos : Pos} {elts : List Expr} {kk : Nat} (hm : X.mg "zip" = none) (ha : DAr X Z W [a, b] wa) (hg : Gl X "zip" := by rfl) (hs : starEach [a, b] X.env = (false, eval a X.env) :: starEach [b] X.env := by rfl)
    (hpl : (backTo pos (starEach [b] X.env)).any (·.1) = false := by rfl) : DIe X Z W (.Tuple elts kk tpos) (.Call (.Name "zip" p) [a, b] [] pos) (dZip wa) := by
  refine PI.of (RZ.pi_zipA hg hm ha hs hpl) fun σ H R ⟨F, G, env, P, E, Rr, w, q, qe⟩ => ?_
  refine ⟨F, G, env, _, E, Rr, w, fun ts e1 F1 G1 H1 vs ⟨x, y, n, e', ef, k, xs, ys, ex, ey, p⟩ R1 x1 r1 => ?_, qe⟩
  obtain ⟨F2, G2, R2, x2, r2⟩ := RTs.frz R1 r1 ef
  cases r2 with
  | cons ra rr =>
    cases rr with
    | cons rb rr =>
      cases rr
      obtain ⟨a, va, rfl, sa, qa⟩ := ra.kind ex
      obtain ⟨b, vb, rfl, sb, qb⟩ := rb.kind ey
      cases k with
      | false =>
        have sa' : SqL X.K F2 a va := (sel_le R2.gf).seq sa
        have sb' : SqL X.K F2 b vb := (sel_le R2.gf).seq sb
        refine ⟨a, b, va, vb, rfl, .inl ⟨R2.fh.seq sa', R2.fh.seq sb', q _ n e' F2 G2 H1 _ p R2 (x1.trans x2) ⟨fun i H s h => ?_, fun i H d s h => ?_, fun i H d x H' F' G' env σ h yl R u => ?_⟩⟩⟩
        · rw [zipD_len] at h
          exact ⟨va, vb, s.seq sa', s.seq sb', by rw [qa.length, qb.length]; omega⟩
        · obtain ⟨d1, d2, h1, h2, _⟩ := zipD_get h
          obtain ⟨v1, e1, _⟩ := qa.get h1
          obtain ⟨v2, e2, _⟩ := qb.get h2
          exact ⟨va, vb, v1, v2, s.seq sa', s.seq sb', e1, e2⟩
        · obtain ⟨t, w1, w2, rfl, ht, rfl, f1, f2⟩ := yl
          obtain ⟨d1, d2, h1, h2, rfl⟩ := zipD_get h
          obtain ⟨v1, e1, q1⟩ := qa.get h1
          obtain ⟨v2, e2, q2⟩ := qb.get h2
          have z1 := f1 va (R.fh.seq (u.f.seq sa'))
          have z2 := f2 vb (R.fh.seq (u.f.seq sb'))
          rw [e1] at z1; cases z1
          rw [e2] at z2; cases z2
          exact lay_pair R ht (q1.mono (sel_same u.f u.g)) (q2.mono (sel_same u.f u.g))
      | true =>
        have sa' : SqT X.K F2 a va := Same.seqT (sel_le R2.gf) sa
        have sb' : SqT X.K F2 b vb := Same.seqT (sel_le R2.gf) sb
        refine ⟨a, b, va, vb, rfl, .inr ⟨Same.seqT R2.fh sa', Same.seqT R2.fh sb', q _ n e' F2 G2 H1 _ p R2 (x1.trans x2) ⟨fun i H s h => ?_, fun i H d s h => ?_, fun i H d x H' F' G' env σ h yl R u => ?_⟩⟩⟩
        · rw [zipD_len] at h
          exact ⟨va, vb, Same.seqT s sa', Same.seqT s sb', by rw [qa.length, qb.length]; omega⟩
        · obtain ⟨d1, d2, h1, h2, _⟩ := zipD_get h
          obtain ⟨v1, e1, _⟩ := qa.get h1
          obtain ⟨v2, e2, _⟩ := qb.get h2
          exact ⟨va, vb, v1, v2, Same.seqT s sa', Same.seqT s sb', e1, e2⟩
        · obtain ⟨t, w1, w2, rfl, ht, rfl, f1, f2⟩ := yl
          obtain ⟨d1, d2, h1, h2, rfl⟩ := zipD_get h
          obtain ⟨v1, e1, q1⟩ := qa.get h1
          obtain ⟨v2, e2, q2⟩ := qb.get h2
          have z1 := f1 va (Same.seqT R.fh (Same.seqT u.f sa'))
          have z2 := f2 vb (Same.seqT R.fh (Same.seqT u.f sb'))
          rw [e1] at z1; cases z1
          rw [e2] at z2; cases z2
          exact lay_pair R ht (q1.mono (sel_same u.f u.g)) (q2.mono (sel_same u.f u.g))
def enumD (i : Nat) : List D → List D
  | [] => []
  | x :: xs => .tuple [.int (i : Nat), x] :: enumD (i + 1) xs
theorem enumD_get : ∀ {xs : List D} {k i : Nat} {d : D}, (enumD k xs)[i]? = some d → ∃ x, xs[i]? = some x ∧ d = .tuple [.int ((k + i : Nat) : Int), x]
  | [], _, _, _, h => by simp [enumD] at h
  | x :: xs, k, 0, d, h => by simp [enumD] at h; exact ⟨x, rfl, by rw [← h]; rfl⟩
  | x :: xs, k, i + 1, d, h => by
    obtain ⟨a, h1, h2⟩ := enumD_get (xs := xs) (k := k + 1) (i := i) (by simpa [enumD] using h)
    refine ⟨a, by simpa using h1, ?_⟩
    rw [h2]
    have : k + 1 + i = k + (i + 1) := by omega
    rw [this]
theorem enumD_len : ∀ {xs : List D} {k : Nat}, (enumD k xs).length = xs.length
  | [], _ => rfl
  | x :: xs, k => by simp [enumD, enumD_len (xs := xs)]
def dEnum (wa : DA) : DI := fun env P E => wa env (fun ts e => ∃ x n e', frzL e ts = some ([x], n, e') ∧ ∃ xs, kindSeq x = some (false, xs) ∧ P (enumD 0 xs) n e') E
theorem i_enum {a : Expr} {wa : DA} {p tpos : Pos} {elts : List Expr} {kk : Nat} (hm : X.mg "enumerate" = none) (ha : DAr X Z W [a] wa) (hg : Gl X "enumerate" := by rfl) (hs : starEach [a] X.env = [(false, eval a X.env)] := by rfl) :
    DIe X Z W (.Tuple elts kk tpos) (.Call (.Name "enumerate" p) [a] [] pos) (dEnum wa) := by
  refine PI.of (pi_enum hg hm ha hs) fun σ H R ⟨F, G, env, P, E, Rr, w, q, qe⟩ => ?_
  refine ⟨F, G, env, _, E, Rr, w, fun ts e1 F1 G1 H1 vs ⟨x, n, e', ef, xs, ex, p⟩ R1 x1 r1 => ?_, qe⟩
  obtain ⟨F2, G2, R2, x2, r2⟩ := RTs.frz R1 r1 ef
  cases r2 with
  | cons ra rr =>
    cases rr
    obtain ⟨a, va, rfl, sa, qa⟩ := ra.kind ex
    have sa' : SqL X.K F2 a va := (sel_le R2.gf).seq sa
    refine ⟨a, va, rfl, R2.fh.seq sa', q _ n e' F2 G2 H1 _ p R2 (x1.trans x2) ⟨fun i H s h => ?_, fun i H d s h => ?_, fun i H d x H' F' G' env σ h yl R u => ?_⟩⟩
    · rw [enumD_len] at h
      exact ⟨va, s.seq sa', by rw [qa.length]; exact h⟩
    · obtain ⟨d1, h1, _⟩ := enumD_get h
      obtain ⟨v1, e1, _⟩ := qa.get h1
      exact ⟨va, v1, s.seq sa', e1⟩
    · obtain ⟨t, w1, rfl, ht, rfl, f1⟩ := yl
      obtain ⟨d1, h1, rfl⟩ := enumD_get h
      obtain ⟨v1, e1, q1⟩ := qa.get h1
      have z1 := f1 va (R.fh.seq (u.f.seq sa'))
      rw [e1] at z1; cases z1
      have e0 : ((0 + i : Nat) : Int) = (i : Nat) := by rw [Nat.zero_add]
      rw [e0]
      exact lay_pair R ht (.int _) (q1.mono (sel_same u.f u.g))
end

/-! ### for -/
def dForL (g : DG) (b : DSt) (n : Bool) : List D → DEnv → DEnds → Prop
  | [], env, D => D.nx env
  | x :: xs, env, D => ∃ e1, g x n env = some e1 ∧ b e1 { D with nx := fun e => dForL g b n xs e D, ct := fun e => dForL g b n xs e D, bk := D.nx }
def dFor (w : DI) (g : DG) (b : DSt) : DSt := fun env D => w env (fun items n e => dForL g b n items e D) D.ex
section
variable {X : Cx} {Z : Zx} {W : WX} {pos : Pos} {tg iter : Expr} {w : DI} {g : DG} {tl : List Nat} {b : DSt} {body : List Stmt}
theorem s_for (hp : PassesOwn (model X.prog X.w) X.A X.env X.xe) (hc : X.calm = true) (hi : DIe X Z W tg iter w) (hg : DGt X Z tg g tl) (hb : DSs X Z W body b) (hs : ∀ x, foldedSetIterable iter X.env x = pure x := by intro _; rfl) : DS X Z W (.For tg iter body [] pos) (dFor w g b) := by
  refine PS.of (ps_for hp hc hi hg hb hs) fun D σ H ⟨F, G, env, Ds, R, w, k⟩ => ?_
  refine ⟨F, G, env, _, _, R, w, fun items n e1 F1 G1 H1 J p R1 x1 it => ?_, k.ex σ⟩
  refine ⟨fun i m σ H => ∃ F' G' env', EnvR X.K X.mg Z F' G' H σ env' ∧ Up F1 G1 F' G' ∧ m = items.length - i ∧ i ≤ items.length ∧ dForL g b n (items.drop i) env' Ds, ⟨items.length, F1, G1, e1, R1, .refl, by omega, Nat.zero_le _, by simpa using p⟩, ?_⟩
  rintro i m σ2 H2 ⟨F2, G2, e2, R2, u2, rfl, hi, p2⟩
  by_cases hlt : i < items.length
  · have ed : items[i]? = some items[i] := List.getElem?_eq_getElem hlt
    have s2 : Same F1 H2 := u2.f.trans R2.fh
    refine .inr ⟨it.go i H2 _ s2 ed, fun σ' H' => ∃ F' G' env', EnvR X.K X.mg Z F' G' H' σ' env' ∧ Up F1 G1 F' G' ∧ dForL g b n (items.drop (i + 1)) env' Ds,
      fun σ' H' ⟨F', G', e', R', u', p'⟩ => ⟨items.length - (i + 1), by omega, F', G', e', R', u', rfl, hlt, p'⟩, fun x H' y => ?_⟩
    obtain ⟨F3, G3, R3, x3, r3⟩ := it.yld i H2 _ x H' F2 G2 e2 σ2 ed y R2 u2
    rw [List.drop_eq_getElem_cons hlt] at p2
    obtain ⟨e4, eg, pb⟩ := p2
    refine ⟨F3, G3, e2, items[i], n, e4, R3, r3, eg, fun σ' R' _ => ⟨F3, G3, e4, _, R', pb, ?_⟩⟩
    have u3 : Up F1 G1 F3 G3 := u2.trans x3.up
    have go : Nx X.K X.mg Z F3 G3 (fun e => dForL g b n (items.drop (i + 1)) e Ds) (fun σ' H' => ∃ F' G' env', EnvR X.K X.mg Z F' G' H' σ' env' ∧ Up F1 G1 F' G' ∧ dForL g b n (items.drop (i + 1)) env' Ds) := fun e' F' G' H' σ' p' R' u' => ⟨F', G', e', R', u3.trans u', p'⟩
    exact ⟨go, k.rt, k.nx.mono (x1.up.trans u3), go, k.ex⟩
  · have e : i = items.length := by omega
    subst e
    rw [List.drop_length] at p2
    exact .inl ⟨it.stop _ H2 (u2.f.trans R2.fh) (Nat.le_refl _), k.nx e2 F2 G2 H2 σ2 p2 R2 (x1.up.trans u2)⟩
end
end DL

/-! DL11: list comprehensions. -/
namespace DL
open PySem PySem.Spec L2

section
variable {K : PySem.W.Frag} {mg : Str → Option Value} {Z : Zx} {F G H : Hp} {σ σ' : Sg} {env env' : DEnv}
/-- other slots, where neither row has an own object -/
theorem EnvR.re (R : EnvR K mg Z F G H σ env) (hl : env'.length = env.length) (hs : σ'.length = σ.length)
    (h : ∀ j : Nat, (env'[j]? = env[j]? ∧ σ'[j]? = σ[j]?) ∨ ∃ s s' : Slot, env[j]? = some s ∧ env'[j]? = some s' ∧ isOwn s = false ∧ isOwn s' = false ∧ SlotOk K mg Z F G H σ' j s') : EnvR K mg Z F G H σ' env' := by
  have back : ∀ {j : Nat} {s : Slot}, env'[j]? = some s → isOwn s = true → env[j]? = some s ∧ σ'[j]? = σ[j]? := fun {j s} e o => by
    rcases h j with ⟨e1, e2⟩ | ⟨s0, s1, e1, e2, o1, o2, _⟩
    · exact ⟨e1 ▸ e, e2⟩
    · rw [e2] at e; cases e; rw [o2] at o; cases o
  refine ⟨R.fh, R.gf, R.f0, R.gn, R.fn, R.frame, R.dom, by rw [hl, hs]; exact R.len, fun j s e => ?_, fun i j s t a e1 o1 e2 o2 a1 a2 => ?_, fun p hp => ?_, R.iof⟩
  · rcases h j with ⟨e1, e2⟩ | ⟨s0, s1, e1, e2, o1, o2, ok⟩
    · have q := R.slot j s (e1 ▸ e)
      cases s with
      | un => trivial
      | fz d n => obtain ⟨v, q1, q2⟩ := q; exact ⟨v, by rw [e2]; exact q1, q2⟩
      | ow d n => obtain ⟨v, q1, q2⟩ := q; exact ⟨v, by rw [e2]; exact q1, q2⟩
      | io d => obtain ⟨v, q1, q2⟩ := q; exact ⟨v, by rw [e2]; exact q1, q2⟩
    · rw [e2] at e; cases e; exact ok
  · obtain ⟨k1, k2⟩ := back e1 o1
    obtain ⟨k3, k4⟩ := back e2 o2
    exact R.dist i j s t a k1 o1 k3 o2 (k2 ▸ a1) (k4 ▸ a2)
  · obtain ⟨d, e1, e2⟩ := R.io p hp
    rcases h p.1 with ⟨q1, q2⟩ | ⟨s0, s1, q1, q2, o1, o2, _⟩
    · exact ⟨d, by rw [q1]; exact e1, by rw [q2]; exact e2⟩
    · rw [e1] at q1; cases q1; cases o1
def wipeE (env : DEnv) : List Nat → DEnv
  | [] => env
  | v :: vs => (wipeE env vs).set v .un
theorem wipeE_len : ∀ vs : List Nat, (wipeE env vs).length = env.length
  | [] => rfl
  | v :: vs => by unfold wipeE; rw [List.length_set, wipeE_len vs]
theorem wipeE_at {j : Nat} : ∀ vs : List Nat, (j ∈ vs ∧ j < env.length ∧ (wipeE env vs)[j]? = some .un) ∨ ((wipeE env vs)[j]? = env[j]? ∧ (j ∉ vs ∨ env.length ≤ j))
  | [] => .inr ⟨rfl, .inl (by simp)⟩
  | v :: vs => by
    unfold wipeE
    by_cases h : v = j
    · subst h
      by_cases hl : v < env.length
      · exact .inl ⟨List.mem_cons_self, hl, List.getElem?_set_self (by rw [wipeE_len]; exact hl)⟩
      · refine .inr ⟨?_, .inr (by omega)⟩
        rw [List.getElem?_eq_none (by rw [List.length_set, wipeE_len]; omega), List.getElem?_eq_none (by omega)]
    · rw [List.getElem?_set_ne h]
      rcases wipeE_at (j := j) vs with ⟨a, b, c⟩ | ⟨a, b⟩
      · exact .inl ⟨List.mem_cons_of_mem _ a, b, c⟩
      · refine .inr ⟨a, b.imp_left fun k z => ?_⟩
        rcases List.mem_cons.mp z with z | z
        · exact h z.symm
        · exact k z
theorem wipe_at {j : Nat} : ∀ vs : List Nat, j ∉ vs → (wipe σ vs)[j]? = σ[j]?
  | [], _ => rfl
  | v :: vs, h => by
    unfold wipe
    have h1 : v ≠ j := fun e => h (e ▸ List.mem_cons_self)
    rw [List.getElem?_set_ne h1]
    exact wipe_at vs fun z => h (List.mem_cons_of_mem _ z)
/-- no own object stands at these slots -/
def offE (env : DEnv) (vs : List Nat) : Prop := ∀ v ∈ vs, ∃ s, env[v]? = some s ∧ isOwn s = false
theorem EnvR.wipe (R : EnvR K mg Z F G H σ env) {vs : List Nat} (h : offE env vs) : EnvR K mg Z F G H (L2.wipe σ vs) (wipeE env vs) := by
  refine R.re (wipeE_len vs) (wipe_length σ vs) fun j => ?_
  rcases wipeE_at (env := env) (j := j) vs with ⟨a, b, c⟩ | ⟨a, b⟩
  · obtain ⟨s, e, o⟩ := h j a
    exact .inr ⟨s, .un, e, c, o, rfl, trivial⟩
  · refine .inl ⟨a, ?_⟩
    rcases b with b | b
    · exact wipe_at vs b
    · rw [List.getElem?_eq_none (by rw [wipe_length, ← R.len]; exact b), List.getElem?_eq_none (by rw [← R.len]; exact b)]
/-- the slots vs as they were in e0 -/
def outE (e0 env : DEnv) : List Nat → DEnv
  | [] => env
  | v :: vs => match e0[v]? with
    | some s => (outE e0 env vs).set v s
    | none => outE e0 env vs
theorem outE_len {e0 : DEnv} : ∀ vs : List Nat, (outE e0 env vs).length = env.length
  | [] => rfl
  | v :: vs => by
    unfold outE
    split
    · rw [List.length_set, outE_len vs]
    · exact outE_len vs
theorem outE_at {e0 env : DEnv} {j : Nat} (hl : e0.length = env.length) : ∀ vs : List Nat, (j ∈ vs → (outE e0 env vs)[j]? = e0[j]?) ∧ (j ∉ vs → (outE e0 env vs)[j]? = env[j]?)
  | [] => ⟨fun h => by simp at h, fun _ => rfl⟩
  | v :: vs => by
    have ih := outE_at (e0 := e0) (env := env) (j := j) hl vs
    unfold outE
    cases e : e0[v]? with
    | none =>
      refine ⟨fun h => ?_, fun h => ih.2 fun z => h (List.mem_cons_of_mem _ z)⟩
      by_cases hj : j ∈ vs
      · exact ih.1 hj
      · rcases List.mem_cons.mp h with rfl | h
        · have := List.getElem?_eq_none_iff.mp e
          rw [e]
          exact List.getElem?_eq_none (by rw [outE_len]; omega)
        · exact absurd h hj
    | some s =>
      by_cases hv : v = j
      · subst hv
        refine ⟨fun _ => ?_, fun h => absurd List.mem_cons_self h⟩
        have := len_of e
        show ((outE e0 env vs).set v s)[v]? = _
        rw [List.getElem?_set_self (by rw [outE_len]; omega), e]
      · show (j ∈ v :: vs → ((outE e0 env vs).set v s)[j]? = _) ∧ (j ∉ v :: vs → ((outE e0 env vs).set v s)[j]? = _)
        rw [List.getElem?_set_ne hv]
        refine ⟨fun h => ?_, fun h => ih.2 fun z => h (List.mem_cons_of_mem _ z)⟩
        rcases List.mem_cons.mp h with h | h
        · exact absurd h.symm hv
        · exact ih.1 h
theorem EnvR.out {F0 G0 H0 : Hp} {e0 : DEnv} (R0 : EnvR K mg Z F0 G0 H0 σ e0) (u : Up F0 G0 F G) {vs : List Nat} (h0 : offE e0 vs) (R : EnvR K mg Z F G H (L2.wipe σ vs) (wipeE env vs)) : EnvR K mg Z F G H σ (outE e0 (wipeE env vs) vs) := by
  have hl : e0.length = (wipeE env vs).length := by rw [R0.len, R.len, wipe_length]
  refine R.re (by rw [outE_len]) (by rw [wipe_length]) fun j => ?_
  by_cases hj : j ∈ vs
  · obtain ⟨s, e, o⟩ := h0 j hj
    have e2 := ((outE_at hl vs).1 hj).trans e
    have ew : (wipeE env vs)[j]? = some .un := by
      rcases wipeE_at (env := env) (j := j) vs with ⟨a, b, c⟩ | ⟨a, b⟩
      · exact c
      · rcases b with b | b
        · exact absurd hj b
        · have := len_of e
          rw [hl, wipeE_len] at this
          omega
    refine .inr ⟨.un, s, ew, e2, rfl, o, ?_⟩
    have q := R0.slot j s e
    cases s with
    | un => trivial
    | fz d n => obtain ⟨v, q1, q2⟩ := q; exact ⟨v, q1, q2.mono (sel_same u.f u.g)⟩
    | ow d n => cases o
    | io d => cases o
  · exact .inl ⟨(outE_at hl vs).2 hj, (wipe_at vs hj).symm⟩
end

/-! ### the comprehension by trees -/
def dYes : DT := fun env P _ => P true env
def dLcL (g : DG) (tt : DT) (te : DW) (vs : List Nat) (n : Bool) (P : List D → Bool → DEnv → Prop) (E : Str → DEnv → Prop) : List D → List D → Bool → DEnv → Prop
  | [], acc, an, env => P acc an env
  | x :: xs, acc, an, env => ∃ e1, g x n (wipeE env vs) = some e1 ∧ tt e1 (fun b e2 => offE e2 vs ∧ (b = true → te e2 (fun t e3 => ∃ y, frz1 e3 (hold t) = some y ∧ acc.length < sizeLine ∧ offE y.2.2 vs ∧ dLcL g tt te vs n P E xs (acc ++ [y.1]) (an && y.2.1) y.2.2) E) ∧
      (b = false → dLcL g tt te vs n P E xs acc an e2)) E
def dLc (w : DI) (g : DG) (tt : DT) (te : DW) (vs : List Nat) : DW := fun env P E => w env (fun items n e0 => offE e0 vs ∧ dLcL g tt te vs n (fun ds an e => P (.ow (.list ds) an) (outE e0 (wipeE e vs) vs)) (fun _ _ => False) items [] true e0) E

section
variable {X : Cx} {Z : Zx} {W : WX}
def W0 : WX := fun _ _ _ _ => False
theorem Ext.off {σ : Sg} {e0 e1 e2 : DEnv} {F0 G0 H0 F1 G1 H1 F2 G2 H2 : Hp} {vs : List Nat} (R1 : e0.length = e1.length) (off : offE e0 vs) (x : Ext σ e0 (outE e0 (wipeE e1 vs) vs) F0 G0 H0 F1 G1 H1) (y : Ext (L2.wipe σ vs) (wipeE e1 vs) e2 F1 G1 H1 F2 G2 H2) (o2 : offE e2 vs) :
    Ext σ e0 (outE e0 (wipeE e2 vs) vs) F0 G0 H0 F2 G2 H2 := by
  have l1 : e0.length = (wipeE e1 vs).length := by rw [wipeE_len]; exact R1
  have l2 : e0.length = (wipeE e2 vs).length := by rw [wipeE_len, y.l]; exact l1
  have up : ∀ b, Own (L2.wipe σ vs) (wipeE e1 vs) b → Own σ (outE e0 (wipeE e1 vs) vs) b := fun b ⟨j, s, ej, hs, hb⟩ => by
    rcases wipeE_at (env := e1) (j := j) vs with ⟨p, q, r⟩ | ⟨p, q⟩
    · rw [r] at ej; cases ej; cases hs
    · rcases q with q | q
      · exact ⟨j, s, by rw [(outE_at l1 vs).2 q]; exact ej, hs, by rw [← wipe_at vs q]; exact hb⟩
      · have := len_of ej
        rw [wipeE_len] at this
        omega
  have dn : ∀ b, Own σ (outE e0 (wipeE e2 vs) vs) b → Own (L2.wipe σ vs) e2 b := fun b ⟨j, s, ej, hs, hb⟩ => by
    by_cases hj : j ∈ vs
    · rw [(outE_at l2 vs).1 hj] at ej
      obtain ⟨s', e', o'⟩ := off j hj
      rw [ej] at e'; cases e'; rw [o'] at hs; cases hs
    · rw [(outE_at l2 vs).2 hj] at ej
      rcases wipeE_at (env := e2) (j := j) vs with ⟨p, q, r⟩ | ⟨p, q⟩
      · exact absurd p hj
      · exact ⟨j, s, by rw [← p]; exact ej, hs, by rw [wipe_at vs hj]; exact hb⟩
  refine ⟨x.f.trans y.f, x.g.trans y.g, fun b u e n => y.h b u (x.h b u e n) fun z => n (x.o b (up b z)), fun b u e => ?_, fun b u e k n => ?_, fun b z => x.o b (up b (y.o b (dn b z))), fun i d e => ?_, ?_⟩
  · obtain ⟨u', e'⟩ := x.d b u e
    exact y.d b u' e'
  · exact y.n b u (x.h b u e n) (x.n b u e k n) fun z => n (x.o b (up b z))
  · by_cases hi : i ∈ vs
    · refine ⟨d, ?_⟩
      simp only [rd, (outE_at l2 vs).1 hi]
      exact e
    · obtain ⟨d1, h1⟩ := x.r i d e
      have h1' : rd (wipeE e1 vs) (.al i) = some d1 := by
        simp only [rd, (outE_at l1 vs).2 hi] at h1
        exact h1
      obtain ⟨d2, h2⟩ := y.r i d1 h1'
      refine ⟨d2, ?_⟩
      simp only [rd, (outE_at l2 vs).2 hi]
      rcases wipeE_at (env := e2) (j := i) vs with ⟨p, q, r⟩ | ⟨p, q⟩
      · exact absurd p hi
      · rw [p]; exact h2
  · rw [outE_len, ← l2]
theorem wipe_wipe {σ : Sg} : ∀ {vs ws : List Nat}, (∀ v ∈ vs, v ∈ ws) → L2.wipe (L2.wipe σ vs) ws = L2.wipe σ ws
  | [], _, _ => rfl
  | v :: vs, ws, h => by
    show L2.wipe ((L2.wipe σ vs).set v none) ws = _
    rw [wipe_set (h v List.mem_cons_self), wipe_wipe fun i hi => h i (List.mem_cons_of_mem _ hi)]
theorem wipeE_wipeE {env : DEnv} {vs : List Nat} : wipeE (wipeE env vs) vs = wipeE env vs := by
  apply List.ext_getElem?
  intro j
  rcases wipeE_at (env := wipeE env vs) (j := j) vs with ⟨a, b, c⟩ | ⟨a, _⟩
  · rcases wipeE_at (env := env) (j := j) vs with ⟨a', b', c'⟩ | ⟨a', b'⟩
    · rw [c, c']
    · rcases b' with b' | b'
      · exact absurd a b'
      · rw [wipeE_len] at b; omega
  · exact a
/-- over a turn of a block: from the store to what stands behind it, without the block's own slots -/
theorem Ext.blk {σ σ4 : Sg} {e2 e4 e5 : DEnv} {F3 G3 H3 F5 G5 H5 : Hp} {vs tl : List Nat} (htl : ∀ i ∈ tl, i ∈ vs) (o : OnlyAt (L2.wipe σ vs) σ4 (wipeE e2 vs) e4 tl) (y : Ext σ4 e4 e5 F3 G3 H3 F5 G5 H5) :
    Ext (L2.wipe σ vs) (wipeE e2 vs) (wipeE e5 vs) F3 G3 H3 F5 G5 H5 ∧ ∀ b, Own σ4 e4 b → Own (L2.wipe σ vs) (wipeE e2 vs) b := by
  have own : ∀ b, Own σ4 e4 b → Own (L2.wipe σ vs) (wipeE e2 vs) b := fun b ⟨j, s, ej, hs, hb⟩ => by
    by_cases hj : j ∈ tl
    · rw [o.o j hj s ej] at hs; cases hs
    · obtain ⟨h1, h2⟩ := o.e j hj
      exact ⟨j, s, by rw [← h1]; exact ej, hs, by rw [← h2]; exact hb⟩
  refine ⟨⟨y.f, y.g, fun b u e n => y.h b u e fun z => n (own b z), y.d, fun b u e k n => y.n b u e k fun z => n (own b z), fun b ⟨j, s, ej, hs, hb⟩ => ?_, fun i d e => ?_, ?_⟩, own⟩
  · rcases wipeE_at (env := e5) (j := j) vs with ⟨p, q, r⟩ | ⟨p, q⟩
    · rw [r] at ej; cases ej; cases hs
    · have hj : j ∉ vs := by
        rcases q with q | q
        · exact q
        · have := len_of ej; rw [wipeE_len] at this; omega
      refine own b (y.o b ⟨j, s, by rw [← p]; exact ej, hs, ?_⟩)
      have h2 := (o.e j fun z => hj (htl j z)).2
      rw [h2]; exact hb
  · rcases wipeE_at (env := e2) (j := i) vs with ⟨p, q, r⟩ | ⟨p, q⟩
    · simp [rd, r] at e
    · have hi : i ∉ vs := by
        rcases q with q | q
        · exact q
        · have : (wipeE e2 vs)[i]? = none := List.getElem?_eq_none (by rw [wipeE_len]; exact q)
          simp [rd, this] at e
      have e4' : rd e4 (.al i) = some d := by
        rw [← e]
        simp only [rd, (o.e i fun z => hi (htl i z)).1]
      obtain ⟨d', h⟩ := y.r i d e4'
      refine ⟨d', ?_⟩
      rcases wipeE_at (env := e5) (j := i) vs with ⟨p', q', r'⟩ | ⟨p', q'⟩
      · exact absurd p' hi
      · simp only [rd, p']
        exact h
  · rw [wipeE_len, y.l, o.l]
theorem outE_self {e0 : DEnv} {vs : List Nat} : outE e0 (wipeE e0 vs) vs = e0 := by
  apply List.ext_getElem?
  intro j
  have l : e0.length = (wipeE e0 vs).length := by rw [wipeE_len]
  by_cases hj : j ∈ vs
  · exact (outE_at l vs).1 hj
  · rw [(outE_at l vs).2 hj]
    rcases wipeE_at (env := e0) (j := j) vs with ⟨p, q, r⟩ | ⟨p, q⟩
    · exact absurd p hj
    · exact p
theorem lc_imp {w : DI} {g : DG} {tl : List Nat} {tt : DT} {te : DW} {vs : List Nat} {wi : TI} (htl : ∀ i ∈ tl, i ∈ vs) (hi : ∀ σ H R, tDI X.K X.mg Z W w σ H R → wi σ H R)
    {σ : Sg} {H : Hp} {Q : VK} (h : tD X.K X.mg Z W (dLc w g tt te vs) σ H Q) : tLc wi (tDG X.K X.mg Z g tl) (tDT X.K X.mg Z W0 tt) (tD X.K X.mg Z W0 te) vs σ H Q := by
  obtain ⟨F, G, env, P, E, R, w, q, qe⟩ := h
  refine hi _ _ _ ⟨F, G, env, _, E, R, w, fun items n e1 F1 G1 H1 J ⟨off, p⟩ R1 x1 it D hD => ?_, qe⟩
  have l1 : e1.length = e1.length := rfl
  refine ⟨fun i m H2 => ∃ F2 G2 e2 acc an vacc, EnvR X.K X.mg Z F2 G2 H2 (L2.wipe σ vs) (wipeE e2 vs) ∧ Ext σ e1 (outE e1 (wipeE e2 vs) vs) F1 G1 H1 F2 G2 H2 ∧ offE e2 vs ∧ e1.length = e2.length ∧ m = items.length - i ∧ i ≤ items.length ∧
    H2 D = some (.lst vacc) ∧ F2 D = none ∧ ¬ Own (L2.wipe σ vs) (wipeE e2 vs) D ∧ Rps X.K X.mg (sel an G2 F2) vacc acc ∧
    dLcL g tt te vs n (fun ds an e => P (.ow (.list ds) an) (outE e1 (wipeE e vs) vs)) (fun _ _ => False) (items.drop i) acc an e2, ⟨items.length, F1, G1, e1, [], true, [], ?_, ?_, off, rfl, by omega, Nat.zero_le _, upd_same, snone R1.fh hD, ?_, .nil, by simpa using p⟩, ?_⟩
  · exact (R1.wipe off).grow (same_upd hD)
  · rw [outE_self]
    exact Ext.grow (same_upd hD)
  · exact (R1.wipe off).not_own hD
  rintro i m H2 ⟨F2, G2, e2, acc, an, vacc, R2, x2, off2, l2, rfl, hi', hD2, hF2, nO, racc, p2⟩
  by_cases hlt : i < items.length
  · have ed : items[i]? = some items[i] := List.getElem?_eq_getElem hlt
    have s2 : Same F1 H2 := x2.f.trans R2.fh
    refine .inr ⟨it.go i H2 _ s2 ed, fun H' => ∃ F2 G2 e2 acc an vacc, EnvR X.K X.mg Z F2 G2 H' (L2.wipe σ vs) (wipeE e2 vs) ∧ Ext σ e1 (outE e1 (wipeE e2 vs) vs) F1 G1 H1 F2 G2 H' ∧ offE e2 vs ∧ e1.length = e2.length ∧
      H' D = some (.lst vacc) ∧ F2 D = none ∧ ¬ Own (L2.wipe σ vs) (wipeE e2 vs) D ∧ Rps X.K X.mg (sel an G2 F2) vacc acc ∧
      dLcL g tt te vs n (fun ds an e => P (.ow (.list ds) an) (outE e1 (wipeE e vs) vs)) (fun _ _ => False) (items.drop (i + 1)) acc an e2,
      fun H' ⟨F2, G2, e2, acc, an, vacc, a1, a2, a3, a4, a5, a6, a7, a8, a9⟩ => ⟨items.length - (i + 1), by omega, F2, G2, e2, acc, an, vacc, a1, a2, a3, a4, rfl, hlt, a5, a6, a7, a8, a9⟩, fun x H' y => ?_⟩
    obtain ⟨F3, G3, R3, x3, r3⟩ := it.yld i H2 _ x H' F2 G2 _ _ ed y R2 x2.up
    rw [List.drop_eq_getElem_cons hlt] at p2
    obtain ⟨e4, eg, pb⟩ := p2
    refine ⟨F3, G3, wipeE e2 vs, items[i], n, e4, R3, r3, eg, fun σ4 R4 only => ?_⟩
    have w4 : L2.wipe σ4 vs = L2.wipe σ vs := (only.w vs htl).trans (wipe_wipe fun _ h => h)
    refine ⟨w4, F3, G3, e4, _, _, R4, pb, fun b e5 F5 G5 H5 ⟨off5, pt, pf⟩ R5 x5 => ?_, fun c e' F' G' H' C z => z.elim⟩
    have hD3 : H' D = some (.lst vacc) := x3.h D _ hD2 nO
    have hF3 : F3 D = none := x3.n D _ hD2 hF2 nO
    -- behind any part of the turn
    have on : ∀ {e6 : DEnv} {F6 G6 H6 : Hp}, EnvR X.K X.mg Z F6 G6 H6 σ4 e6 → offE e6 vs → Ext σ4 e4 e6 F3 G3 H' F6 G6 H6 → EnvR X.K X.mg Z F6 G6 H6 (L2.wipe σ vs) (wipeE e6 vs) ∧ Ext σ e1 (outE e1 (wipeE e6 vs) vs) F1 G1 H1 F6 G6 H6 ∧ e1.length = e6.length ∧
        H6 D = some (.lst vacc) ∧ F6 D = none ∧ ¬ Own (L2.wipe σ vs) (wipeE e6 vs) D := fun {e6 F6 G6 H6} R6 off6 x6 => by
      have Rw := R6.wipe off6
      rw [w4] at Rw
      obtain ⟨y, own⟩ := Ext.blk htl only x6
      have n4 : ¬ Own σ4 e4 D := fun z => nO (own D z)
      have z := Ext.off l2 off x2 (x3.trans y) (fun v hv => ?_)
      · rw [wipeE_wipeE] at z
        refine ⟨Rw, z, ?_, x6.h D _ hD3 n4, x6.n D _ hD3 hF3 n4, fun o => nO (y.o D o)⟩
        rw [l2, x6.l, only.l, wipeE_len]
      · obtain ⟨s, es, _⟩ := off6 v hv
        rcases wipeE_at (env := e6) (j := v) vs with ⟨p, q, r⟩ | ⟨p, q⟩
        · exact ⟨.un, r, rfl⟩
        · have := len_of es
          rcases q with q | q
          · exact absurd hv q
          · omega
    cases b with
    | false =>
      dsimp only
      rw [if_neg Bool.false_ne_true]
      obtain ⟨a1, a2, a4, a5, a6, a7⟩ := on R5 off5 x5
      exact ⟨F5, G5, e5, acc, an, vacc, a1, a2, off5, a4, a5, a6, a7, racc.mono (sel_same (x3.f.trans x5.f) (x3.g.trans x5.g)), pf rfl⟩
    | true =>
      dsimp only
      rw [if_pos rfl]
      refine ⟨F5, G5, e5, _, _, R5, pt rfl, fun t e6 F6 G6 H6 vy ⟨y, ey, hl, off6, py⟩ R6 x6 r6 n6 => ?_, fun c e' F' G' H' C z => z.elim⟩
      obtain ⟨F7, G7, R7, x7, r7⟩ := RT.hold R6 x6 r6 n6
      obtain ⟨F8, G8, R8, x8, r8⟩ := RT.frz R7 r7 hold_ow ey
      have xx := x5.trans (x7.trans x8)
      obtain ⟨a1, a2, a4, a5, a6, a7⟩ := on R8 off6 xx
      have upF : Up F2 G2 F8 G8 := x3.up.trans xx.up
      refine ⟨vacc, a5, by rw [racc.length]; exact hl, F8, G8, y.2.2, acc ++ [y.1], an && y.2.1, vacc ++ [vy], ?_, ?_, off6, a4, upd_same, a6, a7, ?_, py⟩
      · refine a1.next (.refl _) (.refl _) ?_ a1.gf a1.gn a1.fn (fun b ob => ⟨(a1.own_at ob).1, fun o eo => ?_⟩) (fun b o u h0 eo => ?_)
        · exact fun b o eb => by
            have : b ≠ D := fun z => by subst z; rw [a6] at eb; cases eb
            rw [upd_ne this]; exact a1.fh _ _ eb
        · have : b ≠ D := fun z => a7 (z ▸ ob)
          rw [upd_ne this]; exact eo
        · have : b ≠ D := fun z => by
            subst z
            rw [R1.h0 hD] at h0; cases h0
          rw [upd_ne this]; exact eo
      · refine ⟨a2.f, a2.g, fun b o eb nb => ?_, fun b o eb => ?_, a2.n, a2.o, a2.r, a2.l⟩
        · have : b ≠ D := fun z => by subst z; rw [hD] at eb; cases eb
          rw [upd_ne this]; exact a2.h b o eb nb
        · have : b ≠ D := fun z => by subst z; rw [hD] at eb; cases eb
          rw [upd_ne this]; exact a2.d b o eb
      · exact Rps.append ((racc.mono (sel_same upF.f upF.g)).mono (sel_and R8.gf)) (.one (r8.mono (sel_and' R8.gf)))
  · have e : i = items.length := by omega
    subst e
    rw [List.drop_length] at p2
    refine .inl ⟨it.stop _ H2 (x2.f.trans R2.fh) (Nat.le_refl _), ?_⟩
    have Ro := R1.out x2.up off R2
    have nD : ¬ Own σ (outE e1 (wipeE e2 vs) vs) D := fun z => by
      obtain ⟨_, u, e⟩ := R1.own_at (x2.o D z)
      rw [hD] at e; cases e
    have h0 : Z.H0 D = none := R1.h0 hD
    refine q _ _ F2 G2 H2 (.ref D) p2 Ro (x1.trans x2) ⟨D, rfl, hF2, .inl ⟨acc, vacc, rfl, hD2, racc⟩, nD, h0⟩ ⟨D, rfl, ?_⟩
    cases eH : H D with
    | none => rfl
    | some o => obtain ⟨u, z⟩ := x1.d _ _ eH; rw [hD] at z; cases z
end
end DL

namespace DL
open PySem PySem.Spec L2
section
variable {X : Cx} {Z : Zx} {W : WX} {pos : Pos}
theorem pts_yes : PTs X [] (tDT X.K X.mg Z W0 dYes) := ⟨fun pins s σ H Q I h => by
  obtain ⟨F, G, env, P, E, R, w, q, qe⟩ := h
  exact pts_nil.run pins s σ H Q I (q true env F G H w R .refl)⟩
theorem d_lc {elt tg iter : Expr} {ifs : List Expr} {scope : Scope} {own : List (Str × Nat)} {w : DI} {g : DG} {tl : List Nat} {tt : DT} {te : DW} (hc : X.calm = true) (hN : X.N.Nodup) (hi : DIe X Z W tg iter w) (ok : BlkOk X.N X.env.scope scope own)
    (hg : ∀ (s : Shared) (H : Hp) (C : Addr) (cl : List (Str × Addr)) (fp : List Addr), DGt (X.blk s H scope (compEnvC scope cl C X.env) fp) Z tg g tl)
    (ht : ∀ (s : Shared) (H : Hp) (C : Addr) (cl : List (Str × Addr)) (fp : List Addr), PTs (X.blk s H scope (compEnvC scope cl C X.env) fp) ifs (tDT X.K X.mg Z W0 tt))
    (he : ∀ (s : Shared) (H : Hp) (C : Addr) (cl : List (Str × Addr)) (fp : List Addr), DE (X.blk s H scope (compEnvC scope cl C X.env) fp) Z W0 elt te)
    (htl : ∀ i ∈ tl, i ∈ own.map (·.2) := by decide) (hs : ∀ x, foldedSetIterable iter X.env x = pure x := by intro _; rfl) : DE X Z W (.ListComp elt [⟨tg, iter, ifs, 0⟩] scope pos) (dLc w g tt te (own.map (·.2))) :=
  PE.of (pe_lc hc hN hi ok hg ht he hs) fun σ H Q h => lc_imp htl (fun _ _ _ q => q) h
theorem s_setLc (i : Nat) {y : Str} {py spos : Pos} {elt tg iter : Expr} {ifs : List Expr} {scope : Scope} {own : List (Str × Nat)} {w : DI} {g : DG} {tl : List Nat} {tt : DT} {te : DW} (hc : X.calm = true) (hN : X.N.Nodup) (hi : DIe X Z W tg iter w) (ok : BlkOk X.N X.env.scope scope own)
    (hg : ∀ (s : Shared) (H : Hp) (C : Addr) (cl : List (Str × Addr)) (fp : List Addr), DGt (X.blk s H scope (compEnvC scope cl C X.env) fp) Z tg g tl)
    (ht : ∀ (s : Shared) (H : Hp) (C : Addr) (cl : List (Str × Addr)) (fp : List Addr), PTs (X.blk s H scope (compEnvC scope cl C X.env) fp) ifs (tDT X.K X.mg Z W0 tt))
    (he : ∀ (s : Shared) (H : Hp) (C : Addr) (cl : List (Str × Addr)) (fp : List Addr), DE (X.blk s H scope (compEnvC scope cl C X.env) fp) Z W0 elt te)
    (hsw : swapsWith (.ListComp elt [⟨tg, iter, ifs, 0⟩] scope pos) (some (.Name y py)) spos.line X.env = pure true)
    (hy : X.N[i]? = some y := by rfl) (hyl : X.env.scope.names.lookup y = some .local := by rfl)
    (htl : ∀ i ∈ tl, i ∈ own.map (·.2) := by decide) (hs : ∀ x, foldedSetIterable iter X.env x = pure x := by intro _; rfl) : DS X Z W (.Assign [.Name y py] (.ListComp elt [⟨tg, iter, ifs, 0⟩] scope pos) spos) (dSet i (dLc w g tt te (own.map (·.2)))) :=
  PS.of (ps_setLc hc hN hy hyl hsw hi ok hg ht he hs) fun D σ H h => set_imp (fun _ _ _ q => lc_imp htl (fun _ _ _ z => z) q) h
end
end DL

/-! DL12: an own list or dict is changed by a statement or a method; op=. -/
namespace DL
open PySem PySem.Spec L2

/-! ### methods of lists that change them -/
/-- the list's things, the arguments', their flags; what follows: the list's new things, their flag, what is told -/
abbrev FM := List D → List D → Bool → Bool → (List D → Bool → D → Prop) → Prop
def MutD (X : Cx) (id : String) (f : FM) : Prop := ∃ r, MtR X id r ∧ ∀ (B H : Hp) (a : Addr) (vs xs : List V) (ds es : List D) (n m : Bool) (k : List D → Bool → D → Prop) (Q : VK) (S : Bool → Hp), H a = some (.lst vs) → Rps X.K X.mg (S n) vs ds → Rps X.K X.mg (S m) xs es →
  (∀ p q, Same (S p) (S (p && q)) ∧ Same (S q) (S (p && q))) → (∀ p, Same (S p) H) → f ds es n m k → (∀ ds' n' d v ws, k ds' n' d → Rps X.K X.mg (S n') ws ds' → Rp X.K X.mg (S n') v d → Q v (upd H a (.lst ws))) → r (.ref a) xs H Q
def dMut (j : Nat) (f : FM) (wa : DA) : DW := fun env P E => (∃ ds n, ownS env j = some (.list ds, n)) ∧ wa env (fun ts e1 => ∃ x, frzL e1 ts = some x ∧ ∃ ds n, ownS x.2.2 j = some (.list ds, n) ∧
  f ds x.1 n x.2.1 fun ds' n' d => P (.fz d n') (mutS x.2.2 j (.list ds') n')) E
section
variable {X : Cx} {Z : Zx} {W : WX} {pos : Pos}
/-- the heart -/
theorem mut_imp {f : FM} {r : V → List V → Hp → VK → Prop} {wa : DA} {j : Nat}
    (hf : ∀ (B H : Hp) (a : Addr) (vs xs : List V) (ds es : List D) (n m : Bool) (k : List D → Bool → D → Prop) (Q : VK) (S : Bool → Hp), H a = some (.lst vs) → Rps X.K X.mg (S n) vs ds → Rps X.K X.mg (S m) xs es →
      (∀ p q, Same (S p) (S (p && q)) ∧ Same (S q) (S (p && q))) → (∀ p, Same (S p) H) → f ds es n m k → (∀ ds' n' d v ws, k ds' n' d → Rps X.K X.mg (S n') ws ds' → Rp X.K X.mg (S n') v d → Q v (upd H a (.lst ws))) → r (.ref a) xs H Q)
    {σ : Sg} {H : Hp} {Q : VK} {T : TA → TE} (hT : ∀ (t : TA) (Q : VK), (∃ a, σ[j]? = some (some (.ref a)) ∧ (∃ xs, SqL X.K H a xs) ∧ t σ H fun xs H2 => r (.ref a) xs H2 Q) → T t σ H Q)
    (h : tD X.K X.mg Z W (dMut j f wa) σ H Q) : T (tDA X.K X.mg Z W wa) σ H Q := by
  obtain ⟨F, G, env, P, E, R, ⟨⟨d0, n0, hs⟩, w⟩, q, qe⟩ := h
  obtain ⟨a, ea, own, hF, hc⟩ := R.own hs
  have lst : ∃ xs, SqL X.K H a xs := by
    rcases hc with ⟨es, vs, h1, h2, h3⟩ | ⟨es, vs, h1, h2, h3, h4⟩ | ⟨es, vs, h1, h2, h3, h4⟩ | ⟨cn, fs, C, dx, fvs, h1, h2, h3, h4, h5⟩
    · exact ⟨vs, SqL.of h2⟩
    · cases h1
    · cases h1
    · cases h1
  refine hT _ _ ⟨a, ea, lst, F, G, env, _, E, R, w, fun ts e1 F1 G1 H1 xs ⟨x, ex, ds, n, eo, p⟩ R1 x1 r1 => ?_, qe⟩
  obtain ⟨F2, G2, R2, x2, r2⟩ := RTs.frz R1 r1 ex
  obtain ⟨a', ea', own', hF', hc'⟩ := R2.own eo
  rw [ea] at ea'; cases ea'
  rcases hc' with ⟨es, vs, h1, h2, h3⟩ | ⟨es, vs, h1, h2, h3, h4⟩ | ⟨es, vs, h1, h2, h3, h4⟩ | ⟨cn, fs, C, dx, fvs, h1, h2, h3, h4, h5⟩
  · cases h1
    refine hf F2 H1 a vs xs ds x.1 n x.2.1 _ Q (fun b => sel b G2 F2) h2 h3 r2 (fun p q => ⟨sel_and R2.gf, sel_and' R2.gf⟩) (fun p => R2.selH) p fun ds' n' d v ws pk rw rv => ?_
    obtain ⟨R3, x3⟩ := R2.mut eo ea (o' := .lst ws) (d' := .list ds') (n' := n') (.inl ⟨ds', ws, rfl, upd_same, rw⟩)
    exact q _ _ F2 G2 _ v pk R3 ((x1.trans x2).trans x3) rv trivial
  · cases h1
  · cases h1
  · cases h1
theorem d_mut {id : String} {f : FM} {name : Str} {x : Str} {e : Expr} {es : List Expr} {wa : DA} {p apos cpos : Pos} (j : Nat) (hf : MutD X id f) (slot : PySem.Slot "list" name id) (hty : typeOf (.builtin id) = pure (.type "method_descriptor")) (ha : DAr X Z W (e :: es) wa)
    (hN : X.N[j]? = some x := by rfl) (hv : Vis X.env.scope x := by first | exact Or.inl rfl | exact Or.inr (Or.inl rfl) | exact Or.inr (Or.inr rfl)) (hd : (x == ("__debug__" : Str)) = false := by decide) (hcd : (x == ("__classdict__" : Str)) = false := by decide)
    (hbase : attributeBase (.Name x p) name X.env (eval (.Name x p) X.env) = eval (.Name x p) X.env := by rfl)
    (hfew : ((backTo cpos (starEach (e :: es) X.env)).all (fun x => !x.1) && (backToKw cpos (keywordEach [] X.env)).all (fun x => x.1.isSome) && decide ((e :: es).length + ([] : List Keyword).length + (if ([] : List Keyword).isEmpty then 0 else 1) < 30)) = true := by rfl)
    (hline : (apos.endLine == cpos.line) = true := by rfl) (hs : starEach (e :: es) X.env = (false, eval e X.env) :: starEach es X.env := by rfl) (hplain : (backTo cpos (starEach es X.env)).any (·.1) = false := by rfl) :
    DE X Z W (.Call (.Attribute (.Name x p) name apos) (e :: es) [] cpos) (dMut j f wa) := by
  obtain ⟨r, hr, hk⟩ := hf
  refine PE.of (pe_bm PySem.F.plainAttrs_list slot hty hr (pe_var hN hv hd hcd) ha hbase hfew hline hs hplain) fun σ H Q h => ?_
  exact mut_imp hk (T := fun t => tBM X.K "list" r (tVar j) t) (fun t Q ⟨a, ea, ⟨xs, hx⟩, q⟩ => ⟨.ref a, ea, .inl ⟨rfl, xs, hx⟩, q⟩) h
theorem d_mut0 {id : String} {f : FM} {name : Str} {x : Str} {p apos cpos : Pos} (j : Nat) (hf : MutD X id f) (slot : PySem.Slot "list" name id) (hty : typeOf (.builtin id) = pure (.type "method_descriptor"))
    (hN : X.N[j]? = some x := by rfl) (hv : Vis X.env.scope x := by first | exact Or.inl rfl | exact Or.inr (Or.inl rfl) | exact Or.inr (Or.inr rfl)) (hd : (x == ("__debug__" : Str)) = false := by decide) (hcd : (x == ("__classdict__" : Str)) = false := by decide)
    (hbase : attributeBase (.Name x p) name X.env (eval (.Name x p) X.env) = eval (.Name x p) X.env := by rfl) (hline : (apos.endLine == cpos.line) = true := by rfl) : DE X Z W (.Call (.Attribute (.Name x p) name apos) [] [] cpos) (dMut j f dNil) := by
  obtain ⟨r, hr, hk⟩ := hf
  refine PE.of (pe_bm0 PySem.F.plainAttrs_list slot hty hr (pe_var hN hv hd hcd) hbase hline) fun σ H Q h => ?_
  have z : tBM X.K "list" r (tVar j) (tDA X.K X.mg Z W dNil) σ H Q := mut_imp (r := r) (T := fun t => tBM X.K "list" r (tVar j) t) hk (fun t Q ⟨a, ea, ⟨xs, hx⟩, q⟩ => ⟨.ref a, ea, .inl ⟨rfl, xs, hx⟩, q⟩) h
  obtain ⟨v, ev, ty, w⟩ := z
  obtain ⟨F, G, env, P, E, R, w1, w2, w3⟩ := w
  exact ⟨v, ev, ty, w2 [] env F G H [] w1 R .refl trivial⟩

def fApp : FM := fun ds es n m k => ∃ d, es = [d] ∧ ds.length < sizeLine ∧ k (ds ++ [d]) (n && m) .none
theorem m_app : MutD X "list.append" fApp := by
  refine ⟨rAppend, fun pins s σ H x xs v us Q => mt_append pins s σ H x xs v us Q, fun B H a vs xs ds es n m k Q S h1 h2 h3 sm sh ⟨d, ed, hl, p⟩ q => ?_⟩
  subst ed
  cases h3 with
  | cons r rr =>
    cases rr
    exact ⟨a, vs, _, rfl, rfl, h1, by rw [h2.length]; exact hl, q _ _ _ _ _ p ((h2.mono (sm n m).1).append (.one (r.mono (sm n m).2))) .non⟩
def fExt : FM := fun ds es n m k => ∃ fs, es = [.list fs] ∧ ds.length + fs.length ≤ sizeLine ∧ k (ds ++ fs) (n && m) .none
theorem m_ext : MutD X "list.extend" fExt := by
  refine ⟨rExtend, fun pins s σ H x xs v us Q => mt_extend pins s σ H x xs v us Q, fun B H a vs xs ds es n m k Q S h1 h2 h3 sm sh ⟨d, ed, hl, p⟩ q => ?_⟩
  subst ed
  cases h3 with
  | cons r rr =>
    cases rr
    cases r with
    | lst hb rb =>
      exact ⟨a, _, vs, _, rfl, rfl, h1, sh _ _ _ hb, by rw [h2.length, rb.length]; exact hl, q _ _ _ _ _ p ((h2.mono (sm n m).1).append (rb.mono (sm n m).2)) .non⟩
def fPop : FM := fun ds es n _ k => es = [] ∧ ∃ d, ds[ds.length - 1]? = some d ∧ k ds.dropLast n d
theorem Rps.dropLast {K : PySem.W.Frag} {mg : Str → Option Value} {B : Hp} {vs : List V} {ds : List D} (r : Rps K mg B vs ds) : Rps K mg B vs.dropLast ds.dropLast := by
  rw [List.dropLast_eq_take, List.dropLast_eq_take, r.length]
  exact r.take _
theorem m_pop : MutD X "list.pop" fPop := by
  refine ⟨rPop, fun pins s σ H x xs v us Q => mt_pop pins s σ H x xs v us Q, fun B H a vs xs ds es n m k Q S h1 h2 h3 sm sh ⟨ed, d, el, p⟩ q => ?_⟩
  subst ed
  cases h3
  obtain ⟨v, ev, rv⟩ := h2.get el
  exact ⟨a, vs, v, rfl, rfl, h1, by rw [h2.length]; exact ev, q _ _ _ _ _ p h2.dropLast rv⟩
def fPopAt : FM := fun ds es n _ k => ∃ i, es = [.int i] ∧ 0 ≤ i ∧ i < 2 ^ 63 ∧ ∃ d, ds[i.toNat]? = some d ∧ k (ds.eraseIdx i.toNat) n d
theorem Rps.erase {K : PySem.W.Frag} {mg : Str → Option Value} {B : Hp} {vs : List V} {ds : List D} (r : Rps K mg B vs ds) (i : Nat) : Rps K mg B (vs.eraseIdx i) (ds.eraseIdx i) := by
  rw [List.eraseIdx_eq_take_drop_succ, List.eraseIdx_eq_take_drop_succ]
  exact (r.take _).append (r.drop _)
theorem m_popAt : MutD X "list.pop" fPopAt := by
  refine ⟨rPopAt, fun pins s σ H x xs v us Q => mt_popAt pins s σ H x xs v us Q, fun B H a vs xs ds es n m k Q S h1 h2 h3 sm sh ⟨i, ed, h0, hb, d, el, p⟩ q => ?_⟩
  subst ed
  cases h3 with
  | cons r rr =>
    cases rr
    cases r
    obtain ⟨v, ev, rv⟩ := h2.get el
    have hl := len_of ev
    refine ⟨a, vs, i, i.toNat, v, rfl, rfl, h1, by omega, hb, ?_, ev, q _ _ _ _ _ p (h2.erase _) rv⟩
    exact seqIndex_of h0 (by omega)
def fRev : FM := fun ds es n _ k => es = [] ∧ k ds.reverse n .none
theorem m_rev : MutD X "list.reverse" fRev := by
  refine ⟨rReverse, fun pins s σ H x xs v us Q => mt_reverse pins s σ H x xs v us Q, fun B H a vs xs ds es n m k Q S h1 h2 h3 sm sh ⟨ed, p⟩ q => ?_⟩
  subst ed
  cases h3
  exact ⟨a, vs, rfl, rfl, h1, q _ _ _ _ _ p h2.rev .non⟩
def fClr : FM := fun ds es n _ k => es = [] ∧ k [] true .none
theorem m_clr : MutD X "list.clear" fClr := by
  refine ⟨rClear, fun pins s σ H x xs v us Q => mt_clear pins s σ H x xs v us Q, fun B H a vs xs ds es n m k Q S h1 h2 h3 sm sh ⟨ed, p⟩ q => ?_⟩
  subst ed
  cases h3
  exact ⟨a, vs, rfl, rfl, h1, q _ _ _ _ _ p .nil .non⟩
end
end DL

/-! DL13: x[k] = e, x[k] op= e, x op= e. -/
namespace DL
open PySem PySem.Spec L2

theorem PSet.or {X : Cx} {t t' : TSet} (h : PSet X t) (h' : PSet X t') : PSet X (fun o i v H Q => t o i v H Q ∨ t' o i v H Q) := by
  intro pins s σ H o i v ov iv u Q I ro ri rv q
  rcases q with q | q
  · exact h pins s σ H o i v ov iv u Q I ro ri rv q
  · exact h' pins s σ H o i v ov iv u Q I ro ri rv q
/-- an item stored: the container, the key, the thing; what follows: the container, its flag -/
def fSetI (c k d : D) (n : Bool) (K : D → Bool → Prop) : Prop := match c with
  | .list ds => ∃ i idx, k = .int i ∧ ixN ds.length i = some idx ∧ K (.list (ds.set idx d)) n
  | .dict t kvs => fitK t k ∧ kvs.length < sizeLine ∧ K (.dict t (dput kvs k d)) n
  | _ => False
section
variable {X : Cx} {Z : Zx} {W : WX} {pos : Pos}
theorem rps_len_map {κ : Type} {kd : κ → D} {kvs : List (κ × V)} {ds : List (D × D)} (h : ds.map (·.1) = kvs.map (fun p => kd p.1)) : kvs.length = ds.length := by
  have := congrArg List.length h
  simpa using this.symm
/-- the heart of a store -/
theorem setI_imp {F G H : Hp} {σ : Sg} {e : DEnv} {j : Nat} {a : Addr} {c k d : D} {n nd m : Bool} {vk v : V} {P : DEnv → Prop} {Q : Hp → Prop} (R : EnvR X.K X.mg Z F G H σ e) (eo : ownS e j = some (c, n)) (ea : σ[j]? = some (some (.ref a)))
    (rk : Rv X.K X.mg (sel m G F) H vk k) (rv : Rp X.K X.mg (sel nd G F) v d) (p : fSetI c k d (n && nd) fun c' n' => P (mutS e j c' n'))
    (q : ∀ (e' : DEnv) (H' : Hp), P e' → EnvR X.K X.mg Z F G H' σ e' → Ext σ e e' F G H F G H' → Q H') : rSetL (.ref a) vk v H Q ∨ rSetD (.ref a) vk v H Q := by
  obtain ⟨a', ea', own, hF, hc⟩ := R.own eo
  rw [ea] at ea'; cases ea'
  have rv' := rv.mono (sel_and' (n := n) R.gf)
  unfold fSetI at p
  split at p
  · obtain ⟨i, idx, rfl, ei, p⟩ := p
    rcases hc with ⟨es, vs, h1, h2, h3⟩ | ⟨es, vs, h1, h2, h3, h4⟩ | ⟨es, vs, h1, h2, h3, h4⟩ | ⟨cn, fs, C, dx, fvs, h1, h2, h3, h4, h5⟩
    · cases h1
      refine .inl ⟨a, vs, i, idx, rfl, rk.int, h2, by rw [h3.length]; exact ei, ?_⟩
      obtain ⟨R', x'⟩ := R.mut eo ea (o' := .lst (vs.set idx v)) (d' := .list (List.set _ idx d)) (n' := n && nd) (.inl ⟨_, _, rfl, upd_same, (h3.mono (sel_and R.gf)).set rv' idx⟩)
      exact q _ _ p R' x'
    · cases h1
    · cases h1
    · cases h1
  · obtain ⟨ft, hl, p⟩ := p
    rename_i t kvs
    rcases hc with ⟨es, vs, h1, h2, h3⟩ | ⟨es, vs, h1, h2, h3, h4⟩ | ⟨es, vs, h1, h2, h3, h4⟩ | ⟨cn, fs, C, dx, fvs, h1, h2, h3, h4, h5⟩
    · cases h1
    · cases h1
      obtain ⟨kk, ek⟩ := ft
      have e2 := keyK_of ek
      subst e2
      obtain ⟨k1, k2⟩ := put_keys deq_key rv' h3 (h4.mono (sel_and R.gf))
      obtain ⟨R', x'⟩ := R.mut eo ea (o' := .dK (putK vs kk v)) (d' := .dict false (dput kvs (keyD kk) d)) (n' := n && nd) (.inr (.inl ⟨_, _, rfl, upd_same, k1, k2⟩))
      exact .inr ⟨a, _, rfl, .inl ⟨vs, kk, h2, keyV rk, by rw [rps_len_map h3]; exact hl, rfl⟩, q _ _ p R' x'⟩
    · cases h1
      obtain ⟨ks, ek⟩ := ft
      have e2 := keyT_of ek
      subst e2
      obtain ⟨b, ws, rfl, eb, rb⟩ := rk.tup
      have e3 := keysV rb
      subst e3
      obtain ⟨k1, k2⟩ := put_keys (kd := fun q : List Key => D.tuple (q.map keyD)) deq_keyT rv' h3 (h4.mono (sel_and R.gf))
      obtain ⟨R', x'⟩ := R.mut eo ea (o' := .dT (putK vs ks v)) (d' := .dict true (dput kvs (.tuple (ks.map keyD)) d)) (n' := n && nd) (.inr (.inr (.inl ⟨_, _, rfl, upd_same, k1, k2⟩)))
      exact .inr ⟨a, _, rfl, .inr ⟨vs, ks, b, h2, rfl, R.selH _ _ eb, by rw [rps_len_map (kd := fun q : List Key => D.tuple (q.map keyD)) h3]; exact hl, rfl⟩, q _ _ p R' x'⟩
    · cases h1
  · exact p.elim
def dSetI (j : Nat) (wk wv : DW) : DSt := fun env D => wv env (fun tv e1 => (∃ s, ownS e1 j = some s) ∧ wk e1 (fun tk e2 => ∃ x, frz1 e2 (hold tv) = some x ∧ ∃ c n k, ownS x.2.2 j = some (c, n) ∧ rd x.2.2 (hold tk) = some k ∧
  fSetI c k x.1 (n && x.2.1) fun c' n' => D.nx (mutS x.2.2 j c' n')) D.ex) D.ex
theorem s_setI {x : Str} {ek ev : Expr} {wk wv : DW} {p spos : Pos} (j : Nat) (hu : X.A.units + 1 < cLine) (hv : DE X Z W ev wv) (hk : DE X Z W ek wk)
    (hN : X.N[j]? = some x := by rfl) (hvis : Vis X.env.scope x := by first | exact Or.inl rfl | exact Or.inr (Or.inl rfl) | exact Or.inr (Or.inr rfl)) (hd : (x == ("__debug__" : Str)) = false := by decide) (hcd : (x == ("__classdict__" : Str)) = false := by decide)
    (ha : ∀ v, assign (.Subscript (.Name x p) ek spos) X.env v = (do
      let ov ← holding [v] (eval (.Name x p) X.env)
      let iv ← holding [v, ov] (eval ek X.env)
      standAt spos
      holding [v, ov, iv] (setItem ov iv v)
      release [v, ov, iv] []) := by intro _; rfl)
    (hs : swapsWithSole [.Subscript (.Name x p) ek spos] ev pos.line X.env = pure false := by rfl) (hw : swappedStores [.Subscript (.Name x p) ek spos] ev X.env = pure none := by rfl)
    (h1 : (assignEach [.Subscript (.Name x p) ek spos] X.env).map (·.2) = [assign (.Subscript (.Name x p) ek spos) X.env] := by rfl) : DS X Z W (.Assign [.Subscript (.Name x p) ek spos] ev pos) (dSetI j wk wv) := by
  refine PS.of (ps_asg hv (pg_sub (pe_var hN hvis hd hcd) hk (PSet.or set_list (set_dict hu)) ha) hs hw h1) fun D σ H ⟨F, G, env, Ds, R, w, k⟩ => ?_
  refine ⟨F, G, env, _, _, R, w, fun tv e1 F1 G1 H1 v ⟨⟨s, eo1⟩, pk⟩ R1 x1 r1 n1 => ?_, k.ex σ⟩
  obtain ⟨F2, G2, R2, x2, r2⟩ := RT.hold R1 x1 r1 n1
  obtain ⟨s1, s2⟩ := s
  obtain ⟨a, ea, _⟩ := R2.own eo1
  refine ⟨.ref a, ea, F2, G2, e1, _, _, R2, pk, fun tk e2 F3 G3 H3 vk ⟨y, ey, c, n, kk, eo, ek, p⟩ R3 x3 r3 n3 => ?_, k.ex σ⟩
  obtain ⟨F4, G4, R4, x4, r4⟩ := RT.hold R3 x3 r3 n3
  obtain ⟨F5, G5, R5, x5, r5⟩ := RT.frz R4 (RT.ext r2 hold_ow x4) hold_ow ey
  have rk := RT.rv R5 (RT.ext r4 hold_ow x5) ek
  refine setI_imp R5 eo ea rk r5 p fun e' H' pe R' x' => ?_
  exact k.nx e' F5 G5 H' σ pe R' ((x2.trans (x4.trans x5)).trans x').up

/-! ### op= -/
def dAugN (i : Nat) (f : F2) (we : DW) : DSt := fun env D => ∃ t, lookT env i = some t ∧ we env (fun te e1 => ∃ x y, rd e1 t = some x ∧ rd e1 (hold te) = some y ∧ f x y (rdn e1 t) (rdn e1 (hold te)) fun t' => ∃ e', setS e1 i t' = some e' ∧ D.nx e') D.ex
theorem lookT_not {env : DEnv} {i : Nat} {t : T} (h : lookT env i = some t) : ∀ d n, t ≠ .ow d n := by
  intro d n z
  subst z
  unfold lookT at h
  split at h <;> cases h
theorem lookT_rt {K : PySem.W.Frag} {mg : Str → Option Value} {F G H : Hp} {σ : Sg} {env : DEnv} {i : Nat} {t : T} (R : EnvR K mg Z F G H σ env) (e : lookT env i = some t) : ∃ v, σ[i]? = some (some v) ∧ RT K mg Z F G H σ env v t := by
  unfold lookT at e
  cases es : env[i]? with
  | none => rw [es] at e; cases e
  | some s =>
    rw [es] at e
    have ok := R.slot i s es
    cases s with
    | un => cases e
    | fz d n => cases e; obtain ⟨v, e1, r⟩ := ok; exact ⟨v, e1, r⟩
    | ow d n => cases e; obtain ⟨a, e1, _⟩ := ok; exact ⟨_, e1, e1, d, by simp [rd, es]⟩
    | io d => cases e; obtain ⟨a, e1, _⟩ := ok; exact ⟨_, e1, e1, d, by simp [rd, es]⟩
theorem s_augN (i : Nat) {x : Str} {e : Expr} {op : Operator} {f : F2} {we : DW} {pos' : Pos} (hf : OpD X (inplaceOp op) f) (he : DE X Z W e we) (hN : X.N.Nodup) (hi : X.N[i]? = some x := by rfl) (hx : Loc X.env.scope x := by first | exact Or.inl rfl | exact Or.inr rfl)
    (hfn : X.fn x = true ∨ X.env.scope.names.lookup x = some .local := by first | exact .inl rfl | exact .inr rfl | assumption) : DS X Z W (.AugAssign (.Name x pos') op e pos) (dAugN i f we) := by
  obtain ⟨r, hr, hk⟩ := hf
  refine PS.of (ps_aug hN hi hx he (ti := r) hr hfn) fun D σ H ⟨F, G, env, Ds, R, ⟨t, et, w⟩, k⟩ => ?_
  obtain ⟨v, ev, rv⟩ := lookT_rt R et
  refine ⟨v, ev, F, G, env, _, _, R, w, fun te e1 F1 G1 H1 u ⟨a, b, ea, eb, p⟩ R1 x1 r1 n1 => ?_, k.ex σ⟩
  obtain ⟨F2, G2, R2, x2, r2⟩ := RT.hold R1 x1 r1 n1
  have rv2 := RT.ext rv (lookT_not et) x2
  refine hk Z F2 G2 H1 σ e1 v u a b _ _ _ _ R2 (RT.rv R2 rv2 ea) (RT.rv R2 r2 eb) p fun t' F' G' H' z ⟨e', es, pt⟩ R' x' r' n' => ?_
  obtain ⟨F3, G3, R3, s3⟩ := R'.setS r' es
  exact k.nx e' F3 G3 H' _ pt R3 ((x2.trans x').up.trans ⟨s3.1, s3.2⟩)
def fAddA : F2 := fun x y _ _ P => match x, y with
  | .int i, .int j => P (dI (i + j))
  | .str a, .str b => a.length + b.length ≤ sizeLine ∧ P (dS (a ++ b))
  | _, _ => False
theorem o_iadd : OpD X (inplaceOp .Add) fAddA := by
  refine ⟨_, OpR.or iop_add iop_add_str, fun Z F G H σ env v1 v2 d1 d2 n1 n2 P Q R h1 h2 hf q => ?_⟩
  unfold fAddA at hf
  split at hf
  · exact .inl ⟨_, _, h1.int, h2.int, q _ F G H _ hf R .refl (.int _) trivial⟩
  · exact .inr ⟨_, _, h1.str, h2.str, hf.1, q _ F G H _ hf.2 R .refl (.str _) trivial⟩
  · exact hf.elim
theorem o_isub : OpD X (inplaceOp .Sub) (fI (fun _ _ => True) fun i j => dI (i - j)) := opD_I0 iop_sub
/-- an item of a list, by values -/
def tGetL : V → V → Hp → VK → Prop := fun o i H Q => ∃ p xs k v, o = .ref p ∧ i = .int k ∧ H p = some (.lst xs) ∧ atI xs k = some v ∧ Q v H
theorem get_list : PGet X tGetL := by
  intro pins s σ H o i ov iv Q I ro ri h
  obtain ⟨p, xs, k, z, rfl, rfl, hq, he, q⟩ := h
  cases ro
  obtain ⟨t, rfl⟩ := ri
  obtain ⟨its, r, pl, hz⟩ := I.list (SqL.of hq)
  obtain ⟨j, h1, h2, h3, h4, h5⟩ := atI_get he
  obtain ⟨w, ew, rw'⟩ := r.get h2
  have hl := r.length
  have hn := line63
  have fin : EP X pins σ Q w s := ⟨z, H, I, rw', q⟩
  by_cases h0 : 0 ≤ k
  · have hj : k.toNat = j := by
      rw [seqIndex_of h0 h5] at h1
      exact Option.some.inj h1
    exact wpAny_getItem_list pl.isList h0 (by omega) (by rw [hj]; simpa using ew) fin
  · have hj : (k + (its.toArray.size : Int)).toNat = j := by
      rw [seqIndex_neg (by omega) h4] at h1
      rw [List.size_toArray, ← hl]
      exact Option.some.inj h1
    exact wpAny_getItem_list_neg pl.isList (by omega) (by rw [List.size_toArray]; omega) (by omega) (by rw [hj]; simpa using ew) fin
/-- x[k] op= e of a list -/
def dAugI (j : Nat) (f : F2) (wk we : DW) : DSt := fun env D => (∃ s, ownS env j = some s) ∧ wk env (fun tk e1 => ∃ ds n i d, ownS e1 j = some (.list ds, n) ∧ rd e1 (hold tk) = some (.int i) ∧ atI ds i = some d ∧
  we e1 (fun te e2 => ∃ y, rd e2 (hold te) = some y ∧ f d y n (rdn e2 (hold te)) fun t => ∃ d' n', t = .fz d' n' ∧ ∃ c m, ownS e2 j = some (c, m) ∧ fSetI c (.int i) d' (m && n') fun c' m' => D.nx (mutS e2 j c' m')) D.ex) D.ex
theorem s_augI (j : Nat) {x : Str} {ek e : Expr} {op : Operator} {f : F2} {wk we : DW} {p tpos : Pos} (hu : X.A.units + 1 < cLine) (hf : OpD X (inplaceOp op) f) (hk : DE X Z W ek wk) (he : DE X Z W e we)
    (hN : X.N[j]? = some x := by rfl) (hvis : Vis X.env.scope x := by first | exact Or.inl rfl | exact Or.inr (Or.inl rfl) | exact Or.inr (Or.inr rfl)) (hd : (x == ("__debug__" : Str)) = false := by decide) (hcd : (x == ("__classdict__" : Str)) = false := by decide)
    (ha : ∀ ov iv new, augStore ek ov iv new = (do holding [new, ov, iv] (setItem ov iv new); release [new, ov, iv] []; pure .next) := by intros; rfl) : DS X Z W (.AugAssign (.Subscript (.Name x p) ek tpos) op e pos) (dAugI j f wk we) := by
  obtain ⟨r, hr, hf'⟩ := hf
  refine PS.of (ps_augS (pe_var hN hvis hd hcd) hk get_list he (tip := r) hr (PSet.or set_list (set_dict hu)) ha) fun D σ H ⟨F, G, env, Ds, R, ⟨⟨s, es⟩, w⟩, k⟩ => ?_
  obtain ⟨s1, s2⟩ := s
  obtain ⟨a, ea, _⟩ := R.own es
  refine ⟨.ref a, ea, F, G, env, _, _, R, w, fun tk e1 F1 G1 H1 vk ⟨ds, n, i, d, eo, ek, ed, w2⟩ R1 x1 r1 n1 => ?_, k.ex σ⟩
  obtain ⟨F2, G2, R2, x2, r2⟩ := RT.hold R1 x1 r1 n1
  have rk := RT.rv R2 r2 ek
  obtain ⟨a', ea', own, hF, hc⟩ := R2.own eo
  rw [ea] at ea'; cases ea'
  have hvk := rk.int
  subst hvk
  rcases hc with ⟨es', vs, h1, h2, h3⟩ | ⟨es', vs, h1, h2, h3, h4⟩ | ⟨es', vs, h1, h2, h3, h4⟩ | ⟨cn, fs, C, dx, fvs, h1, h2, h3, h4, h5⟩
  · cases h1
    obtain ⟨v, ev, rv⟩ := h3.atI ed
    refine ⟨a, vs, i, v, rfl, rfl, h2, ev, F2, G2, e1, _, _, R2, w2, fun te e2 F3 G3 H3 u ⟨y, ey, p⟩ R3 x3 r3 n3 => ?_, k.ex σ⟩
    obtain ⟨F4, G4, R4, x4, r4⟩ := RT.hold R3 x3 r3 n3
    have rv4 : Rp X.K X.mg (sel n G4 F4) v d := rv.mono (sel_same x4.f x4.g)
    refine hf' Z F4 G4 H3 σ e2 v u d y _ _ _ _ R4 (.inl rv4) (RT.rv R4 r4 ey) p fun t F' G' H' z ⟨d', n', et, c, m, eo', pt⟩ R' x' r' nn => ?_
    subst et
    refine setI_imp (m := true) R' eo' ea (.inl (.int i)) r' pt fun e' H'' pe R'' x'' => ?_
    exact k.nx e' F' G' H'' σ pe R'' ((x2.trans (x4.trans x')).trans x'').up
  · cases h1
  · cases h1
  · cases h1
end
end DL

/-! DL14: a def's promise where it is known that no repr is under way. -/
namespace DL
open PySem PySem.Spec PyProof.Rows L2

/-- room for calls, and nothing is being shown -/
structure RoomG (k : Nat) (A : Around) : Prop where
  r : Room k A
  g : A.guards = some []
theorem RoomG.mono {j k : Nat} {A : Around} (h : RoomG k A) (hk : j ≤ k) : RoomG j A := ⟨h.r.mono hk, h.g⟩
structure FnG (P : Program) (w : World) (K : PySem.W.Frag) (mg : Str → Option Value) (base : Heap) (k : Nat) (f : Addr) (fd : FuncData) (ps : List Str) (sp : Sp) : Prop where
  len : ∀ vs H Q E, sp vs H Q E → vs.length = ps.length
  run : ∀ (A : Around) (outer : List Env) (s : Shared) (H : Hp) (args : Args) (us : List Value) (vs : List V) (Q : VK) (E : XK), RoomG k A → Env0 P w K mg base A outer s H → BindsTo s fd args (ps.zip us) → Vals vs us → sp vs H Q E →
    codeAny (model P w) A (.call (.ref f) args) (CR (L2.CX P w) outer P w H s Q E) s
theorem FnG.mono {P : Program} {w : World} {K : PySem.W.Frag} {mg : Str → Option Value} {base : Heap} {j k : Nat} {f : Addr} {fd : FuncData} {ps : List Str} {sp : Sp} (F : FnG P w K mg base j f fd ps sp) (h : j ≤ k) : FnG P w K mg base k f fd ps sp :=
  ⟨F.len, fun A outer s H args us vs Q E hr => F.run A outer s H args us vs Q E (hr.mono h)⟩
theorem FnG.imp {P : Program} {w : World} {K : PySem.W.Frag} {mg : Str → Option Value} {base : Heap} {k : Nat} {f : Addr} {fd : FuncData} {ps : List Str} {sp sp' : Sp} (F : FnG P w K mg base k f fd ps sp) (h : ∀ vs H Q E, sp' vs H Q E → sp vs H Q E) : FnG P w K mg base k f fd ps sp' :=
  ⟨fun vs H Q E q => F.len vs H Q E (h _ _ _ _ q), fun A outer s H args us vs Q E hr he hb hv hs => F.run A outer s H args us vs Q E hr he hb hv (h _ _ _ _ hs)⟩
section
variable {P : Program} {w : World} {K : PySem.W.Frag} {mg : Str → Option Value} {base : Heap}
/-- a def by its body -/
theorem fnG_of {k : Nat} {f : Addr} {name qual : Str} {params : Arguments} {body : List Stmt} {scope : Scope} {dV kV doc pm cdv ct oc : Value} {an od : Option Addr}
    {osl : Array (Option Value)} {N ps : List Str} {sp : Sp} (lk : K.lookup f = some ⟨oc, od, .func (PySem.W.fnOf name qual params body scope dV kV doc pm an cdv ct), osl⟩) (hcd : PySem.W.codeIn K cdv qual = true) (S : FnScope N ps scope)
    (len : ∀ vs H Q E, sp vs H Q E → vs.length = ps.length)
    (hbody : ∀ (A : Around) (outer : List Env) (s : Shared) (H : Hp) (vs : List V) (Q : VK) (E : XK), RoomG k (A.deeper (envOfC qual scope s.heap.objs.size f cdv)) → sp vs H Q E →
      ∃ t, PSs (cxOf (L2.CX P w) P w K mg base N qual scope f cdv A outer s H E) body t ∧ t { nx := fun _ H' => Q .non H', rt := Q } (start N vs) H) :
    FnG P w K mg base (k + 1) f (PySem.W.fnOf name qual params body scope dV kV doc pm an cdv ct) ps sp := by
  refine ⟨len, fun A outer s H args us vs Q E hrg e0 hb r hsp => ?_⟩
  obtain ⟨hr, hgd⟩ := hrg
  have hl := len _ _ _ _ hsp
  have KX : K.In s.heap := e0.mod.kin.keeps fun b o e => (e0.bs b o e).1
  have lim : s.heap.NoLimit := e0.mod.nolimit.keeps fun b o e => (e0.bs b o e).1
  have kinds : ∀ y ∈ ps.zip us, scope.names.lookup y.1 = some .local ∨ (scope.names.lookup y.1 = some .cell ∧ ((cellsFrom (s.heap.objs.size + 1) scope.names []).lookup y.1).isSome = true) := fun ⟨n, v⟩ hy => by
    rcases S.par n (List.of_mem_zip hy).1 with q | q
    · exact .inl q
    · exact .inr ⟨q, PySem.W.cellsFrom_some _ _ _ (.inl q)⟩
  refine codeAny_call_function hr.depth (KX _ _ lk) rfl S.co S.gen rfl (PySem.W.codeRec_of KX hcd) (hb _ _ _ _ ?_)
  refine wpAny_newFunctionEnv_cells S.kind kinds fun env he s1 x => ?_
  subst he
  refine ⟨lim.keeps x.toInCall.keep, codeAny_func ?_⟩
  obtain ⟨t, ht, hq⟩ := hbody A outer s H vs Q E ⟨hr.deeper _, hgd⟩ hsp
  have I := inv_start (CX := L2.CX P w) (E := E) S hr.hd e0 hl r x
  have fin : ∀ {σ' : L2.St} {H' : Hp} {v : V} {u : Value} {s' : Shared}, Inv (cxOf (L2.CX P w) P w K mg base N qual scope f cdv A outer s H E) [] σ' H' s' → RelV v u → Q v H' → CE outer P w H s Q u s' :=
    fun {σ' H' v u s'} J rv q => ⟨v, H', J.os, J.bare, J.base, J.hok, rv, q⟩
  refine wpAny_mono (ht.run [] s1 (start N vs) H _ I hq) (fun fl s' hs => ?_) fun e s' hs => hs
  cases fl with
  | ret u =>
    obtain ⟨v, σ', H', J, rv, q⟩ := hs
    exact fin J rv q
  | next =>
    obtain ⟨σ', H', J, q⟩ := hs
    exact fin (v := V.non) (u := Value.none) J rfl q
  | brk =>
    obtain ⟨_, _, _, q⟩ := hs
    exact False.elim q
  | cont =>
    obtain ⟨_, _, _, q⟩ := hs
    exact False.elim q
theorem okG {x qual : Str} {st : Stmt} {f : Addr} {fd : FuncData} {N ps : List Str} {k : Nat} {sp : Sp} (F : Fun K x qual st f fd) (S : FnScope N ps (defScope st)) (len : ∀ vs H Q E, sp vs H Q E → vs.length = ps.length)
    (hbody : ∀ (cdv : Value) (A : Around) (outer : List Env) (s : Shared) (H : Hp) (vs : List V) (Q : VK) (E : XK), RoomG k (A.deeper (envOfC qual (defScope st) s.heap.objs.size f cdv)) → sp vs H Q E →
      ∃ t, PSs (cxOf (L2.CX P w) P w K mg base N qual (defScope st) f cdv A outer s H E) (defBody st) t ∧ t { nx := fun _ H' => Q .non H', rt := Q } (start N vs) H) : FnG P w K mg base (k + 1) f fd ps sp := by
  obtain ⟨oc, od, kV, doc, pm, an, cdv, ct, osl, rfl, lk, hcd⟩ := F.ex
  exact fnG_of lk hcd S len fun A outer s H vs Q E hr hsp => hbody cdv A outer s H vs Q E hr hsp
end

/-! ### calls -/
section
variable {X : Cx} {W : WX} {k : Nat} {f C : Addr} {fd : FuncData} {ps : List Str} {sp : Sp} {dvs : List V} {ds : List Value} {x m : Str} {p pos apos : Pos} {e o : Expr} {es : List Expr} {ta : TE} {t : TA}
theorem run_g {pins : List (Addr × Obj)} {σ : L2.St} {H : Hp} {s : Shared} {Q : VK} {us : List Value} {vs : List V} (F : FnG X.prog X.w X.K X.mg X.base k f fd ps sp) (hr : RoomG k X.A) (hb : Binds X.K fd ps ds) (hd : Vals dvs ds) (tk : Takes X W)
    (I : Inv X pins σ H s) (r : Vals vs us) (h : sp (vs ++ dvs) H Q (WE W σ)) : wpAny (model X.prog X.w) X.A (call (.ref f) us) (EP X pins σ Q) X.xe s := by
  have r2 : Vals (vs ++ dvs) (us ++ ds) := r.append hd
  have hl : (us ++ ds).length = ps.length := by rw [← r2.length]; exact F.len _ _ _ _ h
  refine wpAny_call (codeAny_mono (F.run X.A X.stack s H ⟨us, []⟩ (us ++ ds) (vs ++ dvs) Q _ hr I.env0 (hb s us I.kIn hl) r2 h) fun r s' hq => ?_)
  cases r with
  | error e => exact passAt tk σ pins H s e s' I hq
  | ok fl =>
    cases fl with
    | ret u => exact I.after hq
    | next => exact False.elim hq
    | brk => exact False.elim hq
    | cont => exact False.elim hq
def tCallG (sp : Sp) (dvs : List V) (W : WX) (t : TA) : TE := fun σ H Q => t σ H fun vs H1 => sp (vs ++ dvs) H1 Q (WE W σ)
theorem pe_callG (F : FnG X.prog X.w X.K X.mg X.base k f fd ps sp) (hr : RoomG k X.A) (hg : Gl X x) (hm : X.mg x = some (.ref f)) (hk : PySem.W.keepIn X.K (.ref f) = true) (hb : Binds X.K fd ps ds) (hd : Vals dvs ds) (tk : Takes X W)
    (ha : PA X (e :: es) t) (hdb : (x == ("__debug__" : Str)) = false := by decide) (he : starEach (e :: es) X.env = (false, eval e X.env) :: starEach es X.env := by rfl) (hpl : (backTo pos (starEach es X.env)).any (·.1) = false := by rfl) :
    PE X (.Call (.Name x p) (e :: es) [] pos) (tCallG sp dvs W t) := by
  refine ⟨fun pins s σ H Q I h => ?_⟩
  refine wpAny_Call_Name_kw (ld_glob I hg hm ?_ hdb)
  exact PySem.W.callWith_K (h₀ := X.base) I.ok.mod.kin hk (thn (ha.run pos pins s σ H _ I h) fun us s1 ⟨vs, H1, I1, r, q⟩ => ⟨I1.kIn, run_g F hr hb hd tk I1 r q⟩) he hpl
theorem pe_callG0 (F : FnG X.prog X.w X.K X.mg X.base k f fd ps sp) (hr : RoomG k X.A) (hg : Gl X x) (hm : X.mg x = some (.ref f)) (hk : PySem.W.keepIn X.K (.ref f) = true) (hb : Binds X.K fd ps ds) (hd : Vals dvs ds) (tk : Takes X W)
    (hdb : (x == ("__debug__" : Str)) = false := by decide) : PE X (.Call (.Name x p) [] [] pos) (tCallG sp dvs W tNil) := by
  refine ⟨fun pins s σ H Q I h => ?_⟩
  refine wpAny_Call_Name_kw (ld_glob I hg hm ?_ hdb)
  exact PySem.W.callWith_K0 I.kIn hk (run_g (us := []) F hr hb hd tk I .nil h)
def tMethG (C : Addr) (m : Str) (sp : Sp) (dvs : List V) (W : WX) (ta : TE) (t : TA) : TE := fun σ H Q => ta σ H fun x H1 => ∃ a dx fs, x = .ref a ∧ H1 a = some (.ins C dx fs) ∧ fs.lookup m = none ∧ t σ H1 fun vs H2 => sp (x :: (vs ++ dvs)) H2 Q (WE W σ)
theorem pe_methG {pl : Sem Bool} (he : PE X o ta) (c : Cls X.K C) (hm : Meth X.K C m f) (F : FnG X.prog X.w X.K X.mg X.base k f fd ps sp) (hr : RoomG k X.A) (hb : Binds X.K fd ps ds) (hd : Vals dvs ds) (tk : Takes X W) (ha : PA X (e :: es) t)
    (hst : starEach (e :: es) X.env = (false, eval e X.env) :: starEach es X.env := by rfl) (hpl : (backTo pos (starEach es X.env)).any (·.1) = false := by rfl)
    (ht : eval (.Call (.Attribute o m apos) (e :: es) [] pos) X.env = (do
      let ov ← eval o X.env
      standAt apos.atName
      let (f, first) ← holding [ov] (getMethod ov m pl)
      callWith pos f first (backTo pos (starEach (e :: es) X.env)) (backToKw pos (keywordEach [] X.env))) := by rfl) : PE X (.Call (.Attribute o m apos) (e :: es) [] pos) (tMethG C m sp dvs W ta t) := by
  refine ⟨fun pins s σ H Q I h => ?_⟩
  refine PySem.W.methodCall_KW (pl := pl) (thn (he.run pins s σ H _ I h) fun u s1 ⟨x, H1, I1, rx, a, dx, fs, ex, ea, l, q⟩ => ?_) ht
  subst ex
  obtain rfl : u = Value.ref a := rx
  refine getmeth_ok I1 ea c hm l ?_
  exact PySem.W.callWith_K (first := [.ref a]) (h₀ := X.base) I.ok.mod.kin hm.kp (thn (ha.run pos pins s1 σ H1 _ I1 q) fun us s2 ⟨vs, H2, I2, r, q2⟩ => ⟨I2.kIn, run_g (us := .ref a :: us) (vs := .ref a :: vs) F hr hb hd tk I2 (.cons rfl r) q2⟩) hst hpl
theorem pe_methG0 {pl : Sem Bool} (he : PE X o ta) (c : Cls X.K C) (hm : Meth X.K C m f) (F : FnG X.prog X.w X.K X.mg X.base k f fd ps sp) (hr : RoomG k X.A) (hb : Binds X.K fd ps ds) (hd : Vals dvs ds) (tk : Takes X W)
    (ht : eval (.Call (.Attribute o m apos) [] [] pos) X.env = (do
      let ov ← eval o X.env
      standAt apos.atName
      let (f, first) ← holding [ov] (getMethod ov m pl)
      callWith pos f first (backTo pos (starEach [] X.env)) (backToKw pos (keywordEach [] X.env))) := by rfl) : PE X (.Call (.Attribute o m apos) [] [] pos) (tMethG C m sp dvs W ta tNil) := by
  refine ⟨fun pins s σ H Q I h => ?_⟩
  refine PySem.W.methodCall_KW (pl := pl) (thn (he.run pins s σ H _ I h) fun u s1 ⟨x, H1, I1, rx, a, dx, fs, ex, ea, l, q⟩ => ?_) ht
  subst ex
  obtain rfl : u = Value.ref a := rx
  refine getmeth_ok I1 ea c hm l ?_
  exact PySem.W.callWith_K0 (first := [.ref a]) I1.kIn hm.kp (run_g (us := [.ref a]) (vs := [.ref a]) F hr hb hd tk I1 (.cons rfl .nil) q)
theorem make_guards {A : Around} {C : Addr} {us : List Value} {kw : List (Str × Value)} : (A.under (.builtin "type.__call__" ⟨.ref C :: us, kw⟩)).guards = A.guards := by
  first | rfl | simp [Around.under, Code.guards, Code.isGuard, pushGuards]
theorem run_makeG {pins : List (Addr × Obj)} {σ : L2.St} {H : Hp} {s : Shared} {Q : VK} {us : List Value} {vs : List V} (M : Mk X.K C f) (F : FnG X.prog X.w X.K X.mg X.base k f fd ps sp) (hr : RoomG (k + 1) X.A) (hb : Binds X.K fd ps ds) (hd : Vals dvs ds)
    (tk : Takes X W) (I : Inv X pins σ H s) (r : Vals vs us)
    (h : ∀ x dx, H x = none → H dx = none → dx ≠ x → sp (.ref x :: (vs ++ dvs)) (upd (upd H dx (.own x)) x (.ins C dx [])) (fun v H2 => v = .non ∧ Q (.ref x) H2) (WE W σ)) :
    wpAny (model X.prog X.w) X.A (call (.ref C) us) (EP X pins σ Q) X.xe s := by
  have hq := h (s.heap.objs.size + 1) s.heap.objs.size (I.hok.fresh (Nat.le_succ _)) (I.hok.fresh (Nat.le_refl _)) (Nat.ne_of_lt (Nat.lt_succ_self _))
  have I2 := Inv.made (C := C) I
  have r2 : Vals (V.ref (s.heap.objs.size + 1) :: (vs ++ dvs)) (Value.ref (s.heap.objs.size + 1) :: (us ++ ds)) := .cons rfl (r.append hd)
  have hl : (Value.ref (s.heap.objs.size + 1) :: us ++ ds).length = ps.length := by
    have e := r2.length
    rw [F.len _ _ _ _ hq] at e
    exact e.symm
  refine wpAny_call (make_map (f := f) I.kIn M.makes M.init (beq_iff_eq.mp M.fn) (codeAny_mono (F.run _ X.stack _ _ ⟨Value.ref (s.heap.objs.size + 1) :: us, []⟩ (Value.ref (s.heap.objs.size + 1) :: (us ++ ds)) _ _ _ ⟨hr.r.make C us [], by rw [make_guards]; exact hr.g⟩
    (I2.env0.make C us []) (hb _ (Value.ref (s.heap.objs.size + 1) :: us) I2.kIn hl) r2 hq) fun r s' hq' => ?_))
  cases r with
  | error e => exact passAt tk σ pins _ _ e s' I2 hq'
  | ok fl =>
    cases fl with
    | ret u =>
      obtain ⟨v, H', I3, rv, ev, q3⟩ := I2.after hq'
      subst ev
      exact ⟨rv, ⟨V.ref (s.heap.objs.size + 1), H', I3, rfl, q3⟩⟩
    | next => exact False.elim hq'
    | brk => exact False.elim hq'
    | cont => exact False.elim hq'
def tMakeG (C : Addr) (sp : Sp) (dvs : List V) (W : WX) (t : TA) : TE := fun σ H Q => t σ H fun vs H1 => ∀ x dx, H1 x = none → H1 dx = none → dx ≠ x →
  sp (.ref x :: (vs ++ dvs)) (upd (upd H1 dx (.own x)) x (.ins C dx [])) (fun v H2 => v = .non ∧ Q (.ref x) H2) (WE W σ)
theorem pe_makeG (M : Mk X.K C f) (F : FnG X.prog X.w X.K X.mg X.base k f fd ps sp) (hr : RoomG (k + 1) X.A) (hg : Gl X x) (hm : X.mg x = some (.ref C)) (hb : Binds X.K fd ps ds) (hd : Vals dvs ds) (tk : Takes X W)
    (ha : PA X (e :: es) t) (hdb : (x == ("__debug__" : Str)) = false := by decide) (he : starEach (e :: es) X.env = (false, eval e X.env) :: starEach es X.env := by rfl) (hpl : (backTo pos (starEach es X.env)).any (·.1) = false := by rfl) :
    PE X (.Call (.Name x p) (e :: es) [] pos) (tMakeG C sp dvs W t) := by
  refine ⟨fun pins s σ H Q I h => ?_⟩
  refine wpAny_Call_Name_kw (ld_glob I hg hm ?_ hdb)
  exact PySem.W.callWith_K (h₀ := X.base) I.ok.mod.kin M.kp (thn (ha.run pos pins s σ H _ I h) fun us s1 ⟨vs, H1, I1, r, q⟩ => ⟨I1.kIn, run_makeG M F hr hb hd tk I1 r q⟩) he hpl
/-- f(e, .., k = v, ..) -/
theorem run_gK {pins : List (Addr × Obj)} {σ : L2.St} {H : Hp} {s : Shared} {Q : VK} {us ws : List Value} {vs zs : List V} {ks : List Str} {g : List Value → List Value → List Value} {gV : List V → List V → List V} (F : FnG X.prog X.w X.K X.mg X.base k f fd ps sp) (hr : RoomG k X.A)
    (hb : KBinds X.K fd ps ks g gV) (tk : Takes X W) (I : Inv X pins σ H s) (r : Vals vs us) (rz : Vals zs ws) (h : sp (gV vs zs) H Q (WE W σ)) : wpAny (model X.prog X.w) X.A (call (.ref f) us (ks.zip ws)) (EP X pins σ Q) X.xe s := by
  have r2 := hb.rel r rz
  have hl : (g us ws).length = ps.length := by rw [← r2.length]; exact F.len _ _ _ _ h
  refine wpAny_call (codeAny_mono (F.run X.A X.stack s H ⟨us, ks.zip ws⟩ (g us ws) (gV vs zs) Q _ hr I.env0 (hb.to s us ws I.kIn hl) r2 h) fun r s' hq => ?_)
  cases r with
  | error e => exact passAt tk σ pins H s e s' I hq
  | ok fl =>
    cases fl with
    | ret u => exact I.after hq
    | next => exact False.elim hq
    | brk => exact False.elim hq
    | cont => exact False.elim hq
def tCallGK (sp : Sp) (gV : List V → List V → List V) (W : WX) (t tk : TA) : TE := fun σ H Q => t σ H fun vs H1 => tk σ H1 fun zs H2 => sp (gV vs zs) H2 Q (WE W σ)
theorem pe_callGK {kws : List Keyword} {ks : List Str} {tkw : TA} {g : List Value → List Value → List Value} {gV : List V → List V → List V} (F : FnG X.prog X.w X.K X.mg X.base k f fd ps sp) (hr : RoomG k X.A) (hg : Gl X x) (hm : X.mg x = some (.ref f)) (hk : PySem.W.keepIn X.K (.ref f) = true) (hb : KBinds X.K fd ps ks g gV) (tk : Takes X W)
    (ha : PA X (e :: es) t) (hkw : PK X kws tkw) (hall : (backToKw pos (keywordEach kws X.env)).all (·.1.isSome) = true := by rfl) (hks : (backToKw pos (keywordEach kws X.env)).filterMap (·.1) = ks := by rfl)
    (hdb : (x == ("__debug__" : Str)) = false := by decide) (he : starEach (e :: es) X.env = (false, eval e X.env) :: starEach es X.env := by rfl)
    (hpl : ((backTo pos (starEach (e :: es) X.env)).any (·.1) || (backToKw pos (keywordEach kws X.env)).any (·.1.isNone)) = false := by rfl) :
    PE X (.Call (.Name x p) (e :: es) kws pos) (tCallGK sp gV W t tkw) := by
  refine ⟨fun pins s σ H Q I h => ?_⟩
  refine wpAny_Call_Name_kw (ld_glob I hg hm ?_ hdb)
  refine PySem.W.callWith_KW (h₀ := X.base) I.ok.mod.kin hk hall (thn (ha.run pos pins s σ H _ I h) fun us s1 ⟨vs, H1, I1, r, q⟩ => ?_) hpl he
  refine thn (hkw.run pos pins s1 σ H1 _ I1 q) fun ws s2 ⟨zs, H2, I2, rz, q2⟩ => ⟨I2.kIn, ?_⟩
  rw [hks]
  exact run_gK F hr hb tk I2 r rz q2
end

/-! ### the law's own call -/
section
variable {P : Program} {w : World} {K : PySem.W.Frag} {mg mb : Str → Option Value} {k : Nat} {fa a : Addr} {fd : FuncData} {x : Str} {sp : Sp} {s₁ : Shared} {vs : List Value} {ns : List Int}
/-- from a heap of ours in which at most the script stands -/
theorem law_from {H : Hp} (KX : K.In s₁.heap) (hns : s₁.heap.Ns mainGlobals mg) (hb : s₁.heap.Ns builtinsNs mb) (hbb : ∀ x : Str, x ≠ "__name__" → mb x = bootBuiltins x) (hlim : s₁.heap.NoLimit) (hg : s₁.gens = #[])
    (ha : s₁.heap.get? a = some { cls := .type "list", data := .seq vs.toArray }) (hr : Room k callerA) (F : ∀ base : Heap, K.In base → base.Ns mainGlobals mg → FnG P w K mg base k fa fd [x] sp) (hbind : ∀ (s : Shared) (u : Value), BindsTo s fd ⟨[u], []⟩ [(x, u)])
    (one : ∀ b u, H b = some u → b = a ∧ K.lookup a = none ∧ ∃ o ys, u = .frz o (.lst ys)) (hok : HOk P w H s₁.heap) (hq : sp [.ref a] H (fun v _ => v = .bl true) fun _ _ _ => False) :
    codeAny (model P w) callerA (.call (.ref fa) ⟨[.ref a], []⟩) (fun r s' => r = .ok (.ret (.bool true)) ∧ OldK s₁.heap s'.heap ∧ s'.os = s₁.os ∧ AllBare s'.gens) s₁ := by
  have free : ∀ {b : Addr}, (∀ u, H b ≠ some u) → H b = none := fun {b} h => by
    cases q : H b with
    | none => rfl
    | some u => exact absurd q (h u)
  have kin : K.In (hidT s₁.heap H) := fun b o e => hidT_get (KX b o e) (free fun u q => by
    obtain ⟨rfl, z, _⟩ := one b u q
    rw [z] at e
    cases e)
  have spaces : ∀ {b : Addr} {m : Str → Option Value}, s₁.heap.Ns b m → (hidT s₁.heap H).Ns b m := fun {b m} ⟨o, es, ep, e, d, r⟩ => ⟨o, es, ep, hidT_get e (free fun u q => by
    obtain ⟨rfl, _⟩ := one b u q
    rw [ha] at e
    cases e
    have d' : Data.seq vs.toArray _ = Data.dict es ep := d
    cases d'), d, r⟩
  obtain ⟨ml, l1, l2⟩ := hlim
  have md : Mod K mg (hidT s₁.heap H) := ⟨kin, spaces hns, ⟨mb, spaces hb, hbb⟩, ml, spaces l1, l2⟩
  have en : Env0 P w K mg (hidT s₁.heap H) callerA [] s₁ H := ⟨rfl, md, fun _ _ e => of_hidT e, by rw [hidT_size]; exact Nat.le_refl _, trivial, fun b z => by simp [frs] at z, hok, .of_eq hg⟩
  have go := (F _ kin (spaces hns)).run callerA [] s₁ H ⟨[.ref a], []⟩ [.ref a] [.ref a] _ _ ⟨hr, rfl⟩ en (hbind s₁ (.ref a)) (.cons rfl .nil) hq
  refine codeAny_mono go fun r s' h => ?_
  match r, h with
  | .ok (.ret u), ⟨v, H', os, bare, un, hok', r', q⟩ =>
    have q' : v = .bl true := q
    subst q'
    have eu : u = Value.bool true := r'
    subst eu
    refine ⟨rfl, OldK.of_keep fun b o e => ?_, os, bare⟩
    cases q : H b with
    | none => exact un.keep b o e q (by simp [frs]) (by simp)
    | some u =>
      obtain ⟨_, _, ob, ys, rfl⟩ := one b u q
      have e1 := (hok b _ q).1
      have e2 := (hok' b _ (un.frzs b ob _ q)).1
      rw [e] at e1
      cases e1
      exact e2
  | .error e, h =>
    obtain ⟨_, _, _, _, _, _, _, _, _, _, _, _, z⟩ := (show L2.CX P w [] H s₁ (fun _ _ _ => False) e s' from h)
    exact z.elim
theorem law_callG (KX : K.In s₁.heap) (hns : s₁.heap.Ns mainGlobals mg) (hb : s₁.heap.Ns builtinsNs mb) (hbb : ∀ x : Str, x ≠ "__name__" → mb x = bootBuiltins x) (hlim : s₁.heap.NoLimit) (hg : s₁.gens = #[])
    (ha : s₁.heap.get? a = some { cls := .type "list", data := .seq vs.toArray }) (hi : IntsAre vs ns) (hl : ns.length ≤ sizeLine) (hr : Room k callerA)
    (F : ∀ base : Heap, K.In base → base.Ns mainGlobals mg → FnG P w K mg base k fa fd [x] sp) (hbind : ∀ (s : Shared) (u : Value), BindsTo s fd ⟨[u], []⟩ [(x, u)])
    (hsp : ∀ H : Hp, (∀ b, H b = none ∨ b = a) → SqL K H a (ns.map V.int) → sp [.ref a] H (fun v _ => v = .bl true) fun _ _ _ => False) :
    codeAny (model P w) callerA (.call (.ref fa) ⟨[.ref a], []⟩) (fun r s' => r = .ok (.ret (.bool true)) ∧ OldK s₁.heap s'.heap ∧ s'.os = s₁.os ∧ AllBare s'.gens) s₁ := by
  have rv := vals_ints hi
  have len := hi.length
  cases hk : K.lookup a with
  | some o =>
    have e := KX a o hk
    rw [ha] at e
    cases e
    refine law_from (H := fun _ => none) KX hns hb hbb hlim hg ha hr F hbind (fun b u z => nomatch (show (none : Option HO) = some u from z)) (fun b u z => nomatch (show (none : Option HO) = some u from z)) (hsp _ (fun _ => .inl rfl) ?_)
    exact .inr ⟨_, vs.toArray, _, hk, rfl, rfl, rfl, by rw [List.size_toArray, len]; exact hl, by simpa using rv⟩
  | none =>
    let o : Obj := { cls := .type "list", data := .seq vs.toArray }
    have at_ : ∀ b u, upd (fun _ => none) a (HO.frz o (.lst (ns.map V.int))) b = some u → b = a ∧ u = .frz o (.lst (ns.map V.int)) := fun b u z => by
      by_cases h : b = a
      · subst h
        rw [upd_same] at z
        cases z
        exact ⟨rfl, rfl⟩
      · rw [upd_ne h] at z
        cases z
    refine law_from (H := upd (fun _ => none) a (.frz o (.lst (ns.map V.int)))) KX hns hb hbb hlim hg ha hr F hbind (fun b u z => ?_) (fun b u z => ?_) (hsp _ (fun b => ?_) (.inl (.inr ⟨o, upd_same⟩)))
    · obtain ⟨rfl, rfl⟩ := at_ b u z
      exact ⟨rfl, hk, _, _, rfl⟩
    · obtain ⟨rfl, rfl⟩ := at_ b u z
      exact ⟨ha, by rw [List.length_map]; exact hl, vs, _, rv, ha⟩
    · by_cases h : b = a
      · exact .inr h
      · exact .inl (by rw [upd_ne h])
end
/-- the goal that k_head leaves, from the law's promise -/
theorem walk_G {l : PySem.W.OpenLaw} {n k : Nat} {q : Program} {loose : List Str} {XP : (Str → Option Value) → Heap → Prop} {YP : World → Heap → Prop} {d : DefRec} {K : Params → PySem.W.Frag} {sp : World → (Str → Option Value) → Sp} {x : Str}
    (hn : l.most = some n) (hn2 : n ≤ sizeLine) (hdf : d.params.defaults = []) (hr : Room k callerA) (hY : ∀ (w : World) (h : Heap), YP w h → (K w.params).In h)
    (F : ∀ (w : World) (mg : Str → Option Value) (fa : Addr) (h : Heap), (K w.params).In h → h.Ns mainGlobals mg → mg d.name = some (.ref fa) →
      ∃ fd : FuncData, (∀ (s : Shared) (u : Value), BindsTo s fd ⟨[u], []⟩ [(x, u)]) ∧ ∀ base : Heap, (K w.params).In base → base.Ns mainGlobals mg → FnG l.prog w (K w.params) mg base k fa fd [x] (sp w mg))
    (hsp : ∀ (w : World) (mg : Str → Option Value) (H : Hp) (a : Addr) (ns : List Int), ns.length ≤ n → (∀ b, H b = none ∨ b = a) → SqL (K w.params) H a (ns.map V.int) → sp w mg [.ref a] H (fun v _ => v = .bl true) fun _ _ _ => False) :
    PySem.W.WalkO q loose XP YP l.row.toRowW d [] (fun f vs => PySem.call f vs) := by
  refine Att.attach_call hn hdf fun w s₀ s₁ mg mb fa o pm cd doc a vs ns G Y ho hd hcd hmg hobj hints hlen hg => ?_
  have KX := hY w _ Y
  obtain ⟨fd, hb, hF⟩ := F w mg fa _ KX G.T.g hmg
  exact law_callG KX G.T.g G.T.b G.T.builtins G.T.nolimit hg hobj hints (Nat.le_trans hlen hn2) hr hF hb fun H hO hS => hsp w mg H a ns hlen hO hS
end DL

/-! DL15: what a def promises by trees; its body; its calls. -/
namespace DL
open PySem PySem.Spec L2
open PyProof.Rows (envOfC)

/-- a def by trees: its arguments; what it hands back, what its lent arguments hold then; the errors -/
abbrev DF := List D → (T → List D → Prop) → (Str → List D → Prop) → Prop

section
variable (K : PySem.W.Frag) (mg : Str → Option Value)
/-- arguments: data, or lent objects (true) -/
inductive ArgsR (F H : Hp) : List Bool → List V → List D → List Addr → Prop
  | nil : ArgsR F H [] [] [] []
  | fz {ms vs ds as v d} : Rp K mg F v d → ArgsR F H ms vs ds as → ArgsR F H (false :: ms) (v :: vs) (d :: ds) as
  | io {ms vs ds as a d} : F a = none → OwnC K mg F H a d → ArgsR F H ms vs ds as → ArgsR F H (true :: ms) (.ref a :: vs) (d :: ds) (a :: as)
inductive IosR (F H : Hp) : List Addr → List D → Prop
  | nil : IosR F H [] []
  | cons {a as d ds} : F a = none → OwnC K mg F H a d → IosR F H as ds → IosR F H (a :: as) (d :: ds)
/-- the heaps behind a call -/
structure Bhd (F H : Hp) (as : List Addr) (F' G' H' : Hp) : Prop where
  f : Same F F'
  fh : Same F' H'
  gf : Same G' F'
  gn : ∀ a o, G' a = some o → H a = none
  fn : ∀ a o, F' a = some o → F a = none → H a = none
  h : ∀ a o, H a = some o → a ∉ as → H' a = some o
  d : ∀ a o, H a = some o → ∃ u, H' a = some u
def RRs (F' G' H' H : Hp) (v : V) : T → Prop
  | .fz d n => Rp K mg (sel n G' F') v d
  | .ow d n => ∃ a, v = .ref a ∧ F' a = none ∧ OwnC K mg (sel n G' F') H' a d ∧ H a = none
  | .al _ => False
def spD (ms : List Bool) (Φ : DF) : Sp := fun vs H Q E => ∃ (F : Hp) (ds : List D) (as : List Addr) (P : T → List D → Prop) (PE : Str → List D → Prop), Same F H ∧ ArgsR K mg F H ms vs ds as ∧ as.Nodup ∧ Φ ds P PE ∧
  (∀ t dio F' G' H' v, P t dio → Bhd F H as F' G' H' → IosR K mg F' H' as dio → RRs K mg F' G' H' H v t → Q v H') ∧
  (∀ c dio F' G' H' C, PE c dio → Bhd F H as F' G' H' → IosR K mg F' H' as dio → mg c = some (.ref C) → E (.ref C) none H')
end

/-! ### the body -/
def ini : List Bool → List D → DEnv
  | true :: ms, d :: ds => .io d :: ini ms ds
  | false :: ms, d :: ds => .fz d false :: ini ms ds
  | _, _ => []
/-- the slots at the entry -/
def env0 (ms : List Bool) (ds : List D) (n : Nat) : DEnv := ini ms ds ++ List.replicate (n - ds.length) .un
def getIo : List Bool → DEnv → Option (List D)
  | true :: ms, .io d :: e => (getIo ms e).map (d :: ·)
  | false :: ms, _ :: e => getIo ms e
  | [], _ => some []
  | _, _ => none
def bodyEnds (ms : List Bool) (P : T → List D → Prop) (PE : Str → List D → Prop) : DEnds where
  nx := fun e => ∃ dio, getIo ms e = some dio ∧ P (.fz .none true) dio
  rt := fun t e => ∃ dio, getIo ms e = some dio ∧ P t dio
  bk := fun _ => False
  ct := fun _ => False
  ex := fun c e => ∃ dio, getIo ms e = some dio ∧ PE c dio
def iosAt : Nat → List Bool → List Addr → List (Nat × Addr)
  | i, true :: ms, a :: as => (i, a) :: iosAt (i + 1) ms as
  | i, false :: ms, as => iosAt (i + 1) ms as
  | _, _, _ => []
section
variable {K : PySem.W.Frag} {mg : Str → Option Value} {F H : Hp}
theorem iosAt_ge : ∀ {ms : List Bool} {as : List Addr} {i : Nat} {p : Nat × Addr}, p ∈ iosAt i ms as → i ≤ p.1
  | [], _, _, _, h => by simp [iosAt] at h
  | true :: ms, [], _, _, h => by simp [iosAt] at h
  | true :: ms, a :: as, i, p, h => by
    simp only [iosAt, List.mem_cons] at h
    rcases h with rfl | h
    · exact Nat.le_refl _
    · have := iosAt_ge h; omega
  | false :: ms, as, i, p, h => by
    simp only [iosAt] at h
    have := iosAt_ge h; omega
/-- what stands at a slot of the entry -/
theorem ini_at {ms : List Bool} {vs : List V} {ds : List D} {as : List Addr} (h : ArgsR K mg F H ms vs ds as) : ∀ (k i : Nat) (s : Slot), (ini ms ds)[i]? = some s →
    (∃ v d, s = .fz d false ∧ vs[i]? = some v ∧ Rp K mg F v d) ∨ ∃ a d, s = .io d ∧ vs[i]? = some (.ref a) ∧ F a = none ∧ OwnC K mg F H a d ∧ (k + i, a) ∈ iosAt k ms as := by
  induction h with
  | nil => intro k i s e; simp [ini] at e
  | fz r _ ih =>
    intro k i s e
    cases i with
    | zero => simp [ini] at e; subst e; exact .inl ⟨_, _, rfl, rfl, r⟩
    | succ i =>
      rcases ih (k + 1) i s (by simpa [ini] using e) with ⟨v, d, h1, h2, h3⟩ | ⟨a, d, h1, h2, h3, h4, h5⟩
      · exact .inl ⟨v, d, h1, by simpa using h2, h3⟩
      · refine .inr ⟨a, d, h1, by simpa using h2, h3, h4, ?_⟩
        have : k + 1 + i = k + (i + 1) := by omega
        rw [this] at h5
        exact h5
  | io n c _ ih =>
    intro k i s e
    cases i with
    | zero => simp [ini] at e; subst e; exact .inr ⟨_, _, rfl, rfl, n, c, List.mem_cons_self⟩
    | succ i =>
      rcases ih (k + 1) i s (by simpa [ini] using e) with ⟨v, d, h1, h2, h3⟩ | ⟨a, d, h1, h2, h3, h4, h5⟩
      · exact .inl ⟨v, d, h1, by simpa using h2, h3⟩
      · refine .inr ⟨a, d, h1, by simpa using h2, h3, h4, ?_⟩
        have : k + 1 + i = k + (i + 1) := by omega
        rw [this] at h5
        exact List.mem_cons_of_mem _ h5
theorem args_len {ms : List Bool} {vs : List V} {ds : List D} {as : List Addr} (h : ArgsR K mg F H ms vs ds as) : vs.length = ms.length ∧ ds.length = ms.length ∧ (ini ms ds).length = ms.length := by
  induction h with
  | nil => exact ⟨rfl, rfl, rfl⟩
  | fz _ _ ih => obtain ⟨h1, h2, h3⟩ := ih; simp [ini, h1, h2, h3]
  | io _ _ _ ih => obtain ⟨h1, h2, h3⟩ := ih; simp [ini, h1, h2, h3]
theorem ios_back {ms : List Bool} {vs : List V} {ds : List D} {as : List Addr} (h : ArgsR K mg F H ms vs ds as) : ∀ (k : Nat) (p : Nat × Addr), p ∈ iosAt k ms as → ∃ i d, p.1 = k + i ∧ (ini ms ds)[i]? = some (.io d) ∧ vs[i]? = some (.ref p.2) ∧ p.2 ∈ as ∧ F p.2 = none ∧ ∃ o, H p.2 = some o := by
  induction h with
  | nil => intro k p e; simp [iosAt] at e
  | fz r _ ih =>
    intro k p e
    obtain ⟨i, d, h1, h2, h3, h4⟩ := ih (k + 1) p (by simpa [iosAt] using e)
    exact ⟨i + 1, d, by omega, by simpa [ini] using h2, by simpa using h3, h4⟩
  | io n c _ ih =>
    intro k p e
    simp only [iosAt, List.mem_cons] at e
    rcases e with rfl | e
    · exact ⟨0, _, rfl, rfl, rfl, List.mem_cons_self, n, c.there⟩
    · obtain ⟨i, d, h1, h2, h3, h4, h5⟩ := ih (k + 1) p e
      exact ⟨i + 1, d, by omega, by simpa [ini] using h2, by simpa using h3, List.mem_cons_of_mem _ h4, h5⟩
theorem iosAt_mem : ∀ {ms : List Bool} {as : List Addr} {k : Nat} {p : Nat × Addr}, p ∈ iosAt k ms as → p.2 ∈ as
  | [], _, _, _, h => by simp [iosAt] at h
  | true :: ms, [], _, _, h => by simp [iosAt] at h
  | true :: ms, a :: as, i, p, h => by
    simp only [iosAt, List.mem_cons] at h
    rcases h with rfl | h
    · exact List.mem_cons_self
    · exact List.mem_cons_of_mem _ (iosAt_mem h)
  | false :: ms, as, i, p, h => iosAt_mem (ms := ms) (k := i + 1) (by simpa [iosAt] using h)
theorem iosAt_inj : ∀ {ms : List Bool} {as : List Addr} {k : Nat} {p q : Nat × Addr}, as.Nodup → p ∈ iosAt k ms as → q ∈ iosAt k ms as → p.2 = q.2 → p.1 = q.1
  | [], _, _, _, _, _, h, _, _ => by simp [iosAt] at h
  | true :: ms, [], _, _, _, _, h, _, _ => by simp [iosAt] at h
  | true :: ms, a :: as, i, p, q, nd, h, h', e => by
    simp only [iosAt, List.mem_cons] at h h'
    have nd' := List.nodup_cons.mp nd
    rcases h with rfl | h
    · rcases h' with rfl | h'
      · rfl
      · exact absurd (show a ∈ as from by have z := iosAt_mem h'; rw [← show a = q.2 from e] at z; exact z) nd'.1
    · rcases h' with rfl | h'
      · exact absurd (show a ∈ as from by have z := iosAt_mem h; rw [show p.2 = a from e] at z; exact z) nd'.1
      · exact iosAt_inj nd'.2 h h' e
  | false :: ms, as, i, p, q, nd, h, h', e => iosAt_inj (ms := ms) (k := i + 1) nd (by simpa [iosAt] using h) (by simpa [iosAt] using h') e
theorem as_all {ms : List Bool} {vs : List V} {ds : List D} {as : List Addr} (h : ArgsR K mg F H ms vs ds as) : ∀ (k : Nat) (a : Addr), a ∈ as → ∃ i, (i, a) ∈ iosAt k ms as := by
  induction h with
  | nil => intro k a e; simp at e
  | fz r _ ih => intro k a e; obtain ⟨i, z⟩ := ih (k + 1) a e; exact ⟨i, by simpa [iosAt] using z⟩
  | io n c _ ih =>
    intro k a e
    rcases List.mem_cons.mp e with rfl | e
    · exact ⟨k, List.mem_cons_self⟩
    · obtain ⟨i, z⟩ := ih (k + 1) a e
      exact ⟨i, List.mem_cons_of_mem _ z⟩
/-- the state at the entry -/
theorem start_env {ms : List Bool} {vs : List V} {ds : List D} {as : List Addr} {N : List Str} (h : ArgsR K mg F H ms vs ds as) (nd : as.Nodup) (s : Same F H) (hl : ms.length ≤ N.length) :
    EnvR K mg ⟨iosAt 0 ms as, H, F⟩ F (fun _ => none) H (L2.start N vs) (env0 ms ds N.length) := by
  obtain ⟨l1, l2, l3⟩ := args_len h
  have sv : ∀ {i : Nat} {v : V}, vs[i]? = some v → (L2.start N vs)[i]? = some (some v) := fun {i v} e => by
    unfold L2.start
    rw [List.getElem?_append_left (by rw [List.length_map]; exact len_of e), List.getElem?_map, e]
    rfl
  have sl : ∀ {i : Nat} {st : Slot}, (env0 ms ds N.length)[i]? = some st → (ini ms ds)[i]? = some st ∨ st = .un := fun {i st} e => by
    unfold env0 at e
    by_cases hi : i < (ini ms ds).length
    · rw [List.getElem?_append_left hi] at e; exact .inl e
    · rw [List.getElem?_append_right (by omega), List.getElem?_replicate] at e
      split at e
      · cases e; exact .inr rfl
      · cases e
  refine ⟨s, fun b o e => (by have e' : (none : Option HO) = some o := e; cases e'), .refl _, fun b o e => (by have e' : (none : Option HO) = some o := e; cases e'), fun b o e k => (by rw [show F b = none from k] at e; cases e), fun b o e k => e, fun b o e => ⟨o, e⟩, ?_, fun i st e => ?_, fun i j st t a e1 o1 e2 o2 a1 a2 => ?_, fun p hp => ?_, fun p hp => ?_⟩
  · unfold env0 L2.start
    rw [List.length_append, List.length_append, List.length_replicate, List.length_replicate, List.length_map, l3, l2, l1]
  · rcases sl e with e | rfl
    · rcases ini_at h 0 i st e with ⟨v, d, rfl, h2, h3⟩ | ⟨a, d, rfl, h2, h3, h4, h5⟩
      · exact ⟨v, sv h2, h3⟩
      · rw [Nat.zero_add] at h5
        exact ⟨a, sv h2, h3, h4, h5⟩
    · trivial
  · have own : ∀ {i : Nat} {st : Slot}, (env0 ms ds N.length)[i]? = some st → isOwn st = true → ∀ {a : Addr}, (L2.start N vs)[i]? = some (some (.ref a)) → (i, a) ∈ iosAt 0 ms as := fun {i st} e o {a} ea => by
      rcases sl e with e | rfl
      · rcases ini_at h 0 i st e with ⟨v, d, rfl, h2, h3⟩ | ⟨b, d, rfl, h2, h3, h4, h5⟩
        · cases o
        · rw [sv h2] at ea
          cases ea
          rw [Nat.zero_add] at h5
          exact h5
      · cases o
    exact iosAt_inj nd (own e1 o1 a1) (own e2 o2 a2) rfl
  · obtain ⟨i, d, h1, h2, h3, _⟩ := ios_back h 0 p hp
    rw [Nat.zero_add] at h1
    refine ⟨d, ?_, by rw [h1]; exact sv h3⟩
    rw [h1]
    unfold env0
    rw [List.getElem?_append_left (len_of h2)]
    exact h2
  · obtain ⟨i, d, h1, h2, h3, h4, h5, _⟩ := ios_back h 0 p hp
    exact h5
/-- what the lent objects hold at the end -/
theorem getIo_ok {Z : Zx} {F' G' H' : Hp} {σ : Sg} {env : DEnv} {ms : List Bool} {as : List Addr} (k : Nat) (R : EnvR K mg Z F' G' H' σ env) (hz : ∀ p ∈ iosAt k ms as, p ∈ Z.io) (hl : as.length = (ms.filter id).length) : ∀ {e : DEnv} {dio : List D}, e = env.drop k → getIo ms e = some dio → IosR K mg F' H' as dio := by
  induction ms generalizing k as with
  | nil =>
    intro e dio _ h
    cases h
    cases as with
    | nil => exact .nil
    | cons => simp at hl
  | cons m ms ih =>
    intro e dio ee h
    cases e with
    | nil => cases m <;> simp [getIo] at h
    | cons s e =>
      have e1 : env[k]? = some s := by
        have := congrArg (fun l : DEnv => l[0]?) ee
        simpa using this.symm
      have e2 : e = env.drop (k + 1) := by
        have := congrArg List.tail ee
        simpa using this
      cases m with
      | false =>
        simp only [getIo] at h
        exact ih (k + 1) (fun p hp => hz p (by simpa [iosAt] using hp)) (by simpa using hl) e2 h
      | true =>
        cases as with
        | nil => simp at hl
        | cons a as =>
          cases s with
          | io d =>
            simp only [getIo] at h
            cases e3 : getIo ms e with
            | none => rw [e3] at h; cases h
            | some dr =>
              rw [e3] at h
              cases h
              obtain ⟨b, h1, h2, h3, h4⟩ := R.slot k _ e1
              obtain ⟨d', _, q2⟩ := R.io (k, a) (hz _ (by simp [iosAt]))
              have q2' : σ[k]? = some (some (V.ref a)) := q2
              rw [h1] at q2'
              cases q2'
              exact .cons h2 h3 (ih (k + 1) (fun p hp => hz p (by simp [iosAt, hp])) (by simpa using hl) e2 e3)
          | un => simp [getIo] at h
          | fz => simp [getIo] at h
          | ow => simp [getIo] at h
theorem args_count {ms : List Bool} {vs : List V} {ds : List D} {as : List Addr} (h : ArgsR K mg F H ms vs ds as) : as.length = (ms.filter id).length := by
  induction h with
  | nil => rfl
  | fz _ _ ih => simpa using ih
  | io _ _ _ ih => simp [ih]
/-- behind the body -/
theorem env_bhd {Z : Zx} {F' G' H' : Hp} {σ : Sg} {env : DEnv} {as : List Addr} (R : EnvR K mg Z F' G' H' σ env) (hF : Z.F0 = F) (hH : Z.H0 = H) (hz : ∀ p ∈ Z.io, p.2 ∈ as) : Bhd F H as F' G' H' := by
  subst hF hH
  exact ⟨R.f0, R.fh, R.gf, R.gn, R.fn, fun a o e n => R.frame a o e fun p hp z => n (z ▸ hz p hp), R.dom⟩
end
section
variable {P : Program} {w : World} {K : PySem.W.Frag} {mg : Str → Option Value} {base : Heap}
/-- THE RULE for a def by trees -/
theorem def_ok {x qual : Str} {st : Stmt} {f : Addr} {fd : FuncData} {N ps : List Str} {k : Nat} {ms : List Bool} {Φ : DF} {b : DSt} (Fn : Fun K x qual st f fd) (S : FnScope N ps (defScope st)) (hm : ms.length = ps.length)
    (hbody : ∀ (cdv : Value) (A : Around) (outer : List Env) (s : Shared) (H : Hp) (E : XK) (Z : Zx), RoomG k (A.deeper (envOfC qual (defScope st) s.heap.objs.size f cdv)) →
      DSs (cxOf (L2.CX P w) P w K mg base N qual (defScope st) f cdv A outer s H E) Z (fun cls d _ H => E cls d H) (defBody st) b)
    (hw : ∀ ds Q E, Φ ds Q E → b (env0 ms ds N.length) (bodyEnds ms Q E)) : FnG P w K mg base (k + 1) f fd ps (spD K mg ms Φ) := by
  have hpl : ps.length ≤ N.length := by have := congrArg List.length S.pre; rw [List.length_take] at this; omega
  refine okG Fn S (fun vs H Q E h => ?_) fun cdv A outer s H vs Q E hr h => ?_
  · obtain ⟨F, ds, as, P', PE, _, ha, _⟩ := h
    rw [(args_len ha).1, hm]
  · obtain ⟨F, ds, as, P', PE, hs, ha, nd, hΦ, hQ, hE⟩ := h
    have hz : ∀ p ∈ (⟨iosAt 0 ms as, H, F⟩ : Zx).io, p.2 ∈ as := fun p hp => iosAt_mem hp
    have count := args_count ha
    refine ⟨_, hbody cdv A outer s H E ⟨iosAt 0 ms as, H, F⟩ hr, F, fun _ => none, env0 ms ds N.length, bodyEnds ms P' PE, start_env ha nd hs (by omega), hw _ _ _ hΦ, ?_, ?_, ?_, ?_, ?_⟩
    · rintro env' F' G' H' σ' ⟨dio, e, p⟩ R u
      exact hQ _ dio F' G' H' .non p (env_bhd R rfl rfl hz) (getIo_ok 0 R (fun _ h => h) count rfl e) .non
    · rintro t env' F' G' H' σ' v ⟨dio, e, p⟩ R r
      refine hQ _ dio F' G' H' v p (env_bhd R rfl rfl hz) (getIo_ok 0 R (fun _ h => h) count rfl e) ?_
      cases t with
      | fz d n => exact r
      | ow d n => exact r
      | al i => exact r
    · exact fun env' F' G' H' σ' z => z.elim
    · exact fun env' F' G' H' σ' z => z.elim
    · rintro σ c env' F' G' H' C ⟨dio, e, p⟩ R m
      exact hE c dio F' G' H' C p (env_bhd R rfl rfl hz) (getIo_ok 0 R (fun _ h => h) count rfl e) m
end
end DL

/-! DL16: calls of defs by trees. -/
namespace DL
open PySem PySem.Spec L2

/-- the data arguments are frozen -/
def frzM (env : DEnv) : List Bool → List T → Option DEnv
  | [], [] => some env
  | true :: ms, _ :: ts => frzM env ms ts
  | false :: ms, t :: ts => (frz1 env t).bind fun y => frzM y.2.2 ms ts
  | _, _ => none
def rdF (env : DEnv) : T → Option D
  | .fz d _ => some d
  | .ow _ _ => none
  | .al i => match env[i]? with
    | some (.fz d _) => some d
    | _ => none
/-- the arguments: data, the slots that are lent -/
def argM (env : DEnv) : List Bool → List T → Option (List D × List Nat)
  | [], [] => some ([], [])
  | true :: ms, .al j :: ts => (ownS env j).bind fun c => (argM env ms ts).map fun x => (c.1 :: x.1, j :: x.2)
  | false :: ms, t :: ts => (rdF env t).bind fun d => (argM env ms ts).map fun x => (d :: x.1, x.2)
  | _, _ => none
/-- a lent slot behind -/
def putD (s : Slot) (d : D) (n : Bool) : Slot := match s with
  | .io _ => .io d
  | _ => .ow d n
def setT (env : DEnv) : List Nat → List D → DEnv
  | j :: js, d :: ds => setT (mutS env j d false) js ds
  | _, _ => env
def uni (G G' : Hp) : Hp := fun a => match G' a with
  | some o => some o
  | none => G a
section
variable {K : PySem.W.Frag} {mg : Str → Option Value} {Z : Zx} {F G H F' G' H' : Hp} {σ : Sg} {env env' : DEnv}
theorem uni_r {G G' : Hp} : Same G' (uni G G') := fun b o e => by unfold uni; rw [e]
theorem uni_l {G G' : Hp} (h : ∀ a o, G' a = some o → G a = none) : Same G (uni G G') := fun b o e => by
  unfold uni
  cases q : G' b with
  | none => exact e
  | some u => rw [h b u q] at e; cases e
theorem mutS_at {j l : Nat} {d : D} {n : Bool} (h : j ≠ l) : (mutS env j d n)[l]? = env[l]? := by
  unfold mutS
  split <;> exact List.getElem?_set_ne h
theorem mutS_len {j : Nat} {d : D} {n : Bool} : (mutS env j d n).length = env.length := by
  unfold mutS
  split <;> exact List.length_set
theorem mutS_self {j : Nat} {d : D} {n : Bool} {s : Slot} (e : env[j]? = some s) : (mutS env j d n)[j]? = some (putD s d n) := by
  unfold mutS
  rw [e]
  cases s <;> exact List.getElem?_set_self (len_of e)
theorem setT_off {l : Nat} : ∀ {js : List Nat} {ds : List D} {env : DEnv}, l ∉ js → (setT env js ds)[l]? = env[l]?
  | [], _, _, _ => by unfold setT; rfl
  | j :: js, [], _, _ => by unfold setT; rfl
  | j :: js, d :: ds, env, h => by
    unfold setT
    rw [setT_off (fun z => h (List.mem_cons_of_mem _ z)), mutS_at fun z => h (by rw [z]; exact List.mem_cons_self)]
theorem setT_len : ∀ {js : List Nat} {ds : List D} {env : DEnv}, (setT env js ds).length = env.length
  | [], _, _ => by unfold setT; rfl
  | j :: js, [], _ => by unfold setT; rfl
  | j :: js, d :: ds, env => by unfold setT; rw [setT_len, mutS_len]
/-- what stands at a lent slot behind -/
theorem setT_on {σ : Sg} {F' H' : Hp} : ∀ {js : List Nat} {as : List Addr} {ds : List D} {env : DEnv} {l : Nat}, js.Nodup → js.length = as.length → IosR K mg F' H' as ds → (∀ j ∈ js, ∃ s, env[j]? = some s ∧ isOwn s = true) → (∀ p ∈ js.zip as, σ[p.1]? = some (some (.ref p.2))) → l ∈ js →
    ∃ a d s, (l, a) ∈ js.zip as ∧ env[l]? = some s ∧ isOwn s = true ∧ (setT env js ds)[l]? = some (putD s d false) ∧ F' a = none ∧ OwnC K mg F' H' a d
  | [], _, _, _, _, _, _, _, _, _, h => by simp at h
  | j :: js, [], _, _, _, _, hl, _, _, _, _ => by simp at hl
  | j :: js, a :: as, ds, env, l, nd, hl, r, ho, hs, h => by
    cases r with
    | cons r1 r2 r3 =>
      rename_i d ds
      have nd' := List.nodup_cons.mp nd
      unfold setT
      rcases List.mem_cons.mp h with rfl | h
      · obtain ⟨s, e, o⟩ := ho l List.mem_cons_self
        exact ⟨a, d, s, List.mem_cons_self, e, o, by rw [setT_off nd'.1]; exact mutS_self e, r1, r2⟩
      · have ne : j ≠ l := fun z => nd'.1 (z ▸ h)
        obtain ⟨b, d', s, h1, h2, h3, h4, h5, h6⟩ := setT_on (σ := σ) (env := mutS env j d false) nd'.2 (by simpa using hl) r3 (fun i hi => by
          have ni : j ≠ i := fun z => nd'.1 (z ▸ hi)
          rw [mutS_at ni]
          exact ho i (List.mem_cons_of_mem _ hi)) (fun p hp => hs p (by simp [hp])) h
        exact ⟨b, d', s, by simp [h1], by rw [mutS_at ne] at h2; exact h2, h3, h4, h5, h6⟩
/-- the slots behind a call -/
theorem EnvR.after {js : List Nat} {as : List Addr} {dio : List D} (R : EnvR K mg Z F G H σ env) (nd : js.Nodup) (hl : js.length = as.length) (ho : ∀ j ∈ js, ∃ s, env[j]? = some s ∧ isOwn s = true) (hs : ∀ p ∈ js.zip as, σ[p.1]? = some (some (.ref p.2)))
    (b : Bhd F H as F' G' H') (r : IosR K mg F' H' as dio) : EnvR K mg Z F' (uni G G') H' σ (setT env js dio) ∧ Ext σ env (setT env js dio) F G H F' (uni G G') H' := by
  have gH : ∀ a o, G' a = some o → H a = none := b.gn
  have gG : ∀ a o, G' a = some o → G a = none := fun a o e => snone R.gh (gH a o e)
  have ul : Same G (uni G G') := uni_l gG
  have isAs : ∀ {a : Addr}, a ∈ as → ∃ j, (j, a) ∈ js.zip as := fun {a} ha => by
    obtain ⟨i, hi⟩ := List.getElem?_of_mem ha
    have hi' : i < js.length := by rw [hl]; exact len_of hi
    refine ⟨js[i], List.mem_of_getElem? (i := i) ?_⟩
    rw [List.getElem?_zip_eq_some]
    exact ⟨List.getElem?_eq_getElem hi', hi⟩
  have ownAs : ∀ {a : Addr}, a ∈ as → Own σ env a := fun {a} ha => by
    obtain ⟨j, hj⟩ := isAs ha
    obtain ⟨s, e, o⟩ := ho j (List.of_mem_zip hj).1
    exact ⟨j, s, e, o, hs _ hj⟩
  have own' : ∀ {l : Nat} {s : Slot}, (setT env js dio)[l]? = some s → isOwn s = true → ∃ s', env[l]? = some s' ∧ isOwn s' = true := fun {l s} e o => by
    by_cases h : l ∈ js
    · obtain ⟨s', e', o'⟩ := ho l h; exact ⟨s', e', o'⟩
    · rw [setT_off h] at e; exact ⟨s, e, o⟩
  -- an owner that was not lent
  have notAs : ∀ {l : Nat} {s : Slot} {a : Addr}, l ∉ js → env[l]? = some s → isOwn s = true → σ[l]? = some (some (.ref a)) → a ∉ as := fun {l s a} h e o ea ha => by
    obtain ⟨j, hj⟩ := isAs ha
    have mj := (List.of_mem_zip hj).1
    obtain ⟨s', e', o'⟩ := ho j mj
    have := R.dist l j s s' a e o e' o' ea (hs _ hj)
    exact h (this ▸ mj)
  refine ⟨⟨b.fh, ?_, R.f0.trans b.f, ?_, ?_, ?_, ?_, by rw [setT_len]; exact R.len, ?_, ?_, ?_, R.iof⟩, ⟨b.f, ul, ?_, b.d, ?_, ?_, ?_, setT_len⟩⟩
  · intro c o e
    unfold uni at e
    cases q : G' c with
    | some u => rw [q] at e; cases e; exact b.gf _ _ q
    | none => rw [q] at e; exact b.f _ _ (R.gf _ _ e)
  · intro c o e
    unfold uni at e
    cases q : G' c with
    | some u => exact R.h0 (gH c u q)
    | none => rw [q] at e; exact R.gn _ _ e
  · intro c o e k
    cases q : F c with
    | some u => exact R.fn c u q k
    | none => exact R.h0 (b.fn c o e q)
  · intro c o e k
    refine b.h c o (R.frame c o e k) fun hc => ?_
    obtain ⟨j, s, ej, oj, hj⟩ := ownAs hc
    have q := R.slot j s ej
    cases s with
    | un => cases oj
    | fz => cases oj
    | ow d n => obtain ⟨c', h1, _, _, h4⟩ := q; rw [hj] at h1; cases h1; rw [h4] at e; cases e
    | io d => obtain ⟨c', h1, _, _, h4⟩ := q; rw [hj] at h1; cases h1; exact k _ h4 rfl
  · intro c o e
    obtain ⟨u, e'⟩ := R.dom c o e
    exact b.d c u e'
  · intro l s e
    by_cases h : l ∈ js
    · obtain ⟨a, d, s', h1, h2, h3, h4, h5, h6⟩ := setT_on nd hl r ho hs h
      rw [h4] at e
      have ea := hs _ h1
      have q := R.slot l s' h2
      cases s' with
      | un => cases h3
      | fz => cases h3
      | ow d0 n0 =>
        cases e
        obtain ⟨c', z1, _, _, z4⟩ := q
        rw [ea] at z1; cases z1
        exact ⟨a, ea, h5, h6, z4⟩
      | io d0 =>
        cases e
        obtain ⟨c', z1, _, _, z4⟩ := q
        rw [ea] at z1; cases z1
        exact ⟨a, ea, h5, h6, z4⟩
    · rw [setT_off h] at e
      have q := R.slot l s e
      cases s with
      | un => trivial
      | fz d n => obtain ⟨v, q1, q2⟩ := q; exact ⟨v, q1, q2.mono (sel_same b.f ul)⟩
      | ow d n =>
        obtain ⟨c, q1, q2, q3, q4⟩ := q
        obtain ⟨o, eo⟩ := q3.there
        have na := notAs h e rfl q1
        refine ⟨c, q1, ?_, (q3.mono (sel_same b.f ul)).at_ fun u eu => b.h c u eu na, q4⟩
        cases z : F' c with
        | none => rfl
        | some u => rw [b.fn c u z q2] at eo; cases eo
      | io d =>
        obtain ⟨c, q1, q2, q3, q4⟩ := q
        obtain ⟨o, eo⟩ := q3.there
        have na := notAs h e rfl q1
        refine ⟨c, q1, ?_, (q3.mono b.f).at_ fun u eu => b.h c u eu na, q4⟩
        cases z : F' c with
        | none => rfl
        | some u => rw [b.fn c u z q2] at eo; cases eo
  · intro i j s t a e1 o1 e2 o2 a1 a2
    obtain ⟨s1, k1, k2⟩ := own' e1 o1
    obtain ⟨s2, k3, k4⟩ := own' e2 o2
    exact R.dist i j s1 s2 a k1 k2 k3 k4 a1 a2
  · intro p hp
    obtain ⟨d, e1, e2⟩ := R.io p hp
    by_cases h : p.1 ∈ js
    · obtain ⟨a, d', s', h1, h2, h3, h4, _⟩ := setT_on nd hl r ho hs h
      rw [e1] at h2
      cases h2
      exact ⟨d', h4, e2⟩
    · exact ⟨d, by rw [setT_off h]; exact e1, e2⟩
  · intro c o e n
    exact b.h c o e fun hc => n (ownAs hc)
  · intro c o e k n
    cases z : F' c with
    | none => rfl
    | some u => rw [b.fn c u z k] at e; cases e
  · rintro c ⟨l, s, e, o, ec⟩
    obtain ⟨s', e', o'⟩ := own' e o
    exact ⟨l, s', e', o', ec⟩
  · intro i d e
    by_cases h : i ∈ js
    · obtain ⟨a, d', s', h1, h2, h3, h4, _⟩ := setT_on nd hl r ho hs h
      refine ⟨d', ?_⟩
      cases s' with
      | un => cases h3
      | fz => cases h3
      | ow d0 n0 => have h5 : (setT env js dio)[i]? = some (.ow d' false) := h4; simp [rd, h5]
      | io d0 => have h5 : (setT env js dio)[i]? = some (.io d') := h4; simp [rd, h5]
    · refine ⟨d, ?_⟩
      rw [← e]
      simp only [rd, setT_off h]
theorem RTs.frzM {ms : List Bool} {ts : List T} {vs : List V} {e : DEnv} (R : EnvR K mg Z F G H σ env) (h : RTs K mg Z F G H σ env vs ts) (ef : DL.frzM env ms ts = some e) :
    ∃ F' G', EnvR K mg Z F' G' H σ e ∧ Ext σ env e F G H F' G' H := by
  induction ts generalizing ms vs env F G with
  | nil => cases ms with
    | nil => cases ef; exact ⟨F, G, R, .refl⟩
    | cons m ms => cases m <;> cases ef
  | cons t ts ih =>
    cases vs with
    | nil => exact h.elim
    | cons v vs =>
      obtain ⟨h1, h2, h3⟩ := h
      cases ms with
      | nil => cases ef
      | cons m ms =>
        cases m with
        | true => exact ih R h3 ef
        | false =>
          unfold DL.frzM at ef
          cases e1 : frz1 env t with
          | none => rw [e1] at ef; cases ef
          | some y =>
            rw [e1] at ef
            obtain ⟨F1, G1, R1, x1, _⟩ := RT.frz R h2 h1 e1
            obtain ⟨F2, G2, R2, x2⟩ := ih R1 (h3.ext x1) ef
            exact ⟨F2, G2, R2, x1.trans x2⟩
theorem RTs.argM {ms : List Bool} {ts : List T} {vs : List V} {x : List D × List Nat} (R : EnvR K mg Z F G H σ env) (h : RTs K mg Z F G H σ env vs ts) (e : DL.argM env ms ts = some x) :
    ∃ as, ArgsR K mg F H ms vs x.1 as ∧ x.2.length = as.length ∧ (∀ j ∈ x.2, ∃ s, env[j]? = some s ∧ isOwn s = true) ∧ (∀ p ∈ x.2.zip as, σ[p.1]? = some (some (.ref p.2))) := by
  induction ts generalizing ms vs x with
  | nil => cases ms with
    | nil =>
      cases e
      cases vs with
      | nil => exact ⟨[], .nil, rfl, fun j hj => by simp at hj, fun p hp => by simp at hp⟩
      | cons => exact h.elim
    | cons m ms => cases m <;> cases e
  | cons t ts ih =>
    cases vs with
    | nil => exact h.elim
    | cons v vs =>
      obtain ⟨h1, h2, h3⟩ := h
      cases ms with
      | nil => cases e
      | cons m ms =>
        cases m with
        | true =>
          cases t with
          | fz => cases e
          | ow => cases e
          | al j =>
            unfold DL.argM at e
            cases e1 : ownS env j with
            | none => rw [e1] at e; cases e
            | some c =>
              rw [e1] at e
              simp only [Option.bind_some] at e
              cases e2 : DL.argM env ms ts with
              | none => rw [e2] at e; cases e
              | some y =>
                rw [e2] at e
                cases e
                obtain ⟨as, q1, q2, q3, q4⟩ := ih h3 e2
                obtain ⟨hv, _⟩ := h2
                obtain ⟨c1, c2⟩ := c
                obtain ⟨a, ea, ho, hF, hc⟩ := R.own e1
                rw [hv] at ea
                cases ea
                obtain ⟨s, es, os⟩ : ∃ s, env[j]? = some s ∧ isOwn s = true := by
                  unfold ownS at e1
                  cases es : env[j]? with
                  | none => rw [es] at e1; cases e1
                  | some s => cases s <;> first | (rw [es] at e1; cases e1; done) | exact ⟨_, rfl, rfl⟩
                refine ⟨a :: as, .io hF (hc.mono (sel_le R.gf)) q1, by simp [q2], fun i hi => ?_, fun p hp => ?_⟩
                · rcases List.mem_cons.mp hi with rfl | hi
                  · exact ⟨s, es, os⟩
                  · exact q3 i hi
                · rcases List.mem_cons.mp hp with rfl | hp
                  · exact hv
                  · exact q4 p hp
        | false =>
          unfold DL.argM at e
          cases e1 : rdF env t with
          | none => rw [e1] at e; cases e
          | some d =>
            rw [e1] at e
            simp only [Option.bind_some] at e
            cases e2 : DL.argM env ms ts with
            | none => rw [e2] at e; cases e
            | some y =>
              rw [e2] at e
              cases e
              obtain ⟨as, q1, q2, q3, q4⟩ := ih h3 e2
              refine ⟨as, .fz ?_ q1, q2, q3, q4⟩
              cases t with
              | ow => cases e1
              | fz d n => cases e1; exact h2.mono (sel_le R.gf)
              | al i =>
                obtain ⟨hv, _⟩ := h2
                unfold rdF at e1
                cases es : env[i]? with
                | none => simp only [es] at e1; cases e1
                | some s =>
                  simp only [es] at e1
                  cases s with
                  | fz d n =>
                    cases e1
                    obtain ⟨w, w1, w2⟩ := R.slot i _ es
                    rw [hv] at w1; cases w1
                    exact w2.mono (sel_le R.gf)
                  | _ => cases e1
theorem zip_nodup {js : List Nat} {as : List Addr} (R : EnvR K mg Z F G H σ env) (nd : js.Nodup) (hl : js.length = as.length) (ho : ∀ j ∈ js, ∃ s, env[j]? = some s ∧ isOwn s = true) (hs : ∀ p ∈ js.zip as, σ[p.1]? = some (some (.ref p.2))) : as.Nodup := by
  induction js generalizing as with
  | nil => cases as with
    | nil => exact List.nodup_nil
    | cons => simp at hl
  | cons j js ih =>
    cases as with
    | nil => exact List.nodup_nil
    | cons a as =>
      have nd' := List.nodup_cons.mp nd
      refine List.nodup_cons.mpr ⟨fun ha => ?_, ih nd'.2 (by simpa using hl) (fun i hi => ho i (List.mem_cons_of_mem _ hi)) fun p hp => hs p (by simp [hp])⟩
      obtain ⟨i, hi⟩ := List.getElem?_of_mem ha
      have hl' : js.length = as.length := by simpa using hl
      have hi' : i < js.length := by rw [hl']; exact len_of hi
      have hm : (js[i], a) ∈ js.zip as := List.mem_of_getElem? (i := i) (by rw [List.getElem?_zip_eq_some]; exact ⟨List.getElem?_eq_getElem hi', hi⟩)
      obtain ⟨s, es, os⟩ := ho j List.mem_cons_self
      obtain ⟨t, et, ot⟩ := ho js[i] (List.mem_cons_of_mem _ (List.getElem_mem hi'))
      have z := R.dist j js[i] s t a es os et ot (hs (j, a) (by simp)) (hs (js[i], a) (by simp [hm]))
      exact nd'.1 (z ▸ List.getElem_mem hi')
theorem RT.back {v : V} {t : T} {G' : Hp} {e : DEnv} (h : RRs K mg F' G' H' H v t) (gf : Same G' F') (no : ∀ {a : Addr}, Own σ e a → ∃ o, H a = some o) (h0 : ∀ {a : Addr}, H a = none → Z.H0 a = none) : RT K mg Z F' (uni G G') H' σ e v t ∧ NewT H v t := by
  cases t with
  | al i => exact h.elim
  | fz d n =>
    refine ⟨?_, trivial⟩
    cases n with
    | false => exact h
    | true => exact Rp.mono uni_r h
  | ow d n =>
    obtain ⟨a, rfl, h1, h2, h3⟩ := h
    refine ⟨⟨a, rfl, h1, ?_, fun z => ?_, h0 h3⟩, a, rfl, h3⟩
    · cases n with
      | false => exact h2
      | true => exact h2.mono uni_r
    · obtain ⟨o, e⟩ := no z
      rw [h3] at e; cases e
end

/-! ### the call -/
/-- a call by trees: arguments made ready, what the def promises, the slots behind -/
def callK (ms : List Bool) (Φ : DF) (ts : List T) (e : DEnv) (P : T → DEnv → Prop) (E : Str → DEnv → Prop) : Prop :=
  ∃ e1, frzM e ms ts = some e1 ∧ ∃ x, argM e1 ms ts = some x ∧ x.2.Nodup ∧ Φ x.1 (fun t dio => P t (setT e1 x.2 dio)) (fun c dio => E c (setT e1 x.2 dio))
def dCall (ms : List Bool) (Φ : DF) (wa : DA) : DW := fun env P E => wa env (fun ts e => callK ms Φ ts e P E) E
section
variable {X : Cx} {Z : Zx} {W : WX} {pos p : Pos} {k : Nat} {f C : Addr} {fd : FuncData} {ps : List Str} {ms : List Bool} {Φ : DF} {ds : List Value} {x : Str} {e : Expr} {es : List Expr} {wa : DA}
/-- the heart of a call -/
theorem callK_imp {F G H : Hp} {σ : Sg} {env : DEnv} {P : T → DEnv → Prop} {E : Str → DEnv → Prop} {Q : VK} {ts : List T} {vs : List V} (R : EnvR X.K X.mg Z F G H σ env) (r : RTs X.K X.mg Z F G H σ env vs ts) (h : callK ms Φ ts env P E)
    (q : ∀ (t : T) (env' : DEnv) (F' G' H' : Hp) (v : V), P t env' → EnvR X.K X.mg Z F' G' H' σ env' → Ext σ env env' F G H F' G' H' → RT X.K X.mg Z F' G' H' σ env' v t → NewT H v t → Q v H') (qe : Wx X.K X.mg Z W E σ) :
    spD X.K X.mg ms Φ vs H Q (WE W σ) := by
  obtain ⟨e1, ef, x, ea, nd, hΦ⟩ := h
  obtain ⟨F1, G1, R1, x1⟩ := RTs.frzM R r ef
  obtain ⟨as, a1, a2, a3, a4⟩ := RTs.argM R1 (r.ext x1) ea
  refine ⟨F1, x.1, as, _, _, R1.fh, a1, zip_nodup R1 nd a2 a3 a4, hΦ, fun t dio F' G' H' v p b io rr => ?_, fun c dio F' G' H' C p b io hm => ?_⟩
  · obtain ⟨R2, x2⟩ := R1.after nd a2 a3 a4 b io
    obtain ⟨r3, n3⟩ := RT.back (σ := σ) (Z := Z) (G := G1) (e := setT e1 x.2 dio) rr b.gf (fun z => (R1.own_at (x2.o _ z)).2) fun z => R1.h0 z
    exact q t _ _ _ _ v p R2 (x1.trans x2) r3 n3
  · obtain ⟨R2, x2⟩ := R1.after nd a2 a3 a4 b io
    exact qe c _ _ _ _ C p R2 hm
theorem d_call (Fn : FnG X.prog X.w X.K X.mg X.base k f fd ps (spD X.K X.mg ms Φ)) (hr : RoomG k X.A) (hg : Gl X x) (hm : X.mg x = some (.ref f)) (hk : PySem.W.keepIn X.K (.ref f) = true) (hb : Binds X.K fd ps []) (tk : Takes X W) (ha : DAr X Z W (e :: es) wa)
    (hdb : (x == ("__debug__" : Str)) = false := by decide) (he : starEach (e :: es) X.env = (false, eval e X.env) :: starEach es X.env := by rfl) (hpl : (backTo pos (starEach es X.env)).any (·.1) = false := by rfl) :
    DE X Z W (.Call (.Name x p) (e :: es) [] pos) (dCall ms Φ wa) := by
  refine PE.of (pe_callG Fn hr hg hm hk hb .nil tk ha hdb he hpl) fun σ H Q ⟨F, G, env, P, E, R, w, q, qe⟩ => ?_
  refine ⟨F, G, env, _, E, R, w, fun ts e1 F1 G1 H1 vs h R1 x1 r1 => ?_, qe⟩
  show spD X.K X.mg ms Φ (vs ++ []) H1 Q (WE W σ)
  rw [List.append_nil]
  exact callK_imp R1 r1 h (fun t e2 F2 G2 H2 v p R2 x2 r2 n2 => q t e2 F2 G2 H2 v p R2 (x1.trans x2) r2 (newT_back x1.d n2)) qe
theorem d_call0 (Fn : FnG X.prog X.w X.K X.mg X.base k f fd ps (spD X.K X.mg [] Φ)) (hr : RoomG k X.A) (hg : Gl X x) (hm : X.mg x = some (.ref f)) (hk : PySem.W.keepIn X.K (.ref f) = true) (hb : Binds X.K fd ps []) (tk : Takes X W)
    (hdb : (x == ("__debug__" : Str)) = false := by decide) : DE X Z W (.Call (.Name x p) [] [] pos) (fun env P E => callK [] Φ [] env P E) := by
  refine PE.of (pe_callG0 Fn hr hg hm hk hb .nil tk hdb) fun σ H Q ⟨F, G, env, P, E, R, w, q, qe⟩ => ?_
  exact callK_imp (vs := []) (ts := []) R trivial w q qe
/-- defaults of the def, as data -/
theorem d_callD {dvs : List V} {dds : List D} (Fn : FnG X.prog X.w X.K X.mg X.base k f fd ps (spD X.K X.mg ms Φ)) (hr : RoomG k X.A) (hg : Gl X x) (hm : X.mg x = some (.ref f)) (hk : PySem.W.keepIn X.K (.ref f) = true) (hb : Binds X.K fd ps ds) (hd : Vals dvs ds)
    (hdd : ∀ B : Hp, Rps X.K X.mg B dvs dds) (tk : Takes X W) (ha : DAr X Z W (e :: es) wa)
    (hdb : (x == ("__debug__" : Str)) = false := by decide) (he : starEach (e :: es) X.env = (false, eval e X.env) :: starEach es X.env := by rfl) (hpl : (backTo pos (starEach es X.env)).any (·.1) = false := by rfl) :
    DE X Z W (.Call (.Name x p) (e :: es) [] pos) (fun env P E => wa env (fun ts e => callK ms Φ (ts ++ dds.map fun d => .fz d true) e P E) E) := by
  refine PE.of (pe_callG Fn hr hg hm hk hb hd tk ha hdb he hpl) fun σ H Q ⟨F, G, env, P, E, R, w, q, qe⟩ => ?_
  refine ⟨F, G, env, _, E, R, w, fun ts e1 F1 G1 H1 vs h R1 x1 r1 => ?_, qe⟩
  refine callK_imp R1 ?_ h (fun t e2 F2 G2 H2 v p R2 x2 r2 n2 => q t e2 F2 G2 H2 v p R2 (x1.trans x2) r2 (newT_back x1.d n2)) qe
  have base : ∀ {dvs : List V} {dds : List D}, Rps X.K X.mg (sel true G1 F1) dvs dds → RTs X.K X.mg Z F1 G1 H1 σ e1 dvs (dds.map fun d => T.fz d true) := fun {dvs dds} h => by
    induction dds generalizing dvs with
    | nil => cases h; trivial
    | cons d dds ih => cases h with | cons a b => exact ⟨fun _ _ z => (nomatch z), a, ih b⟩
  have app : ∀ {vs : List V} {ts : List T}, RTs X.K X.mg Z F1 G1 H1 σ e1 vs ts → RTs X.K X.mg Z F1 G1 H1 σ e1 (vs ++ dvs) (ts ++ dds.map fun d => T.fz d true) := fun {vs ts} h => by
    induction ts generalizing vs with
    | nil => cases vs with
      | nil => exact base (hdd _)
      | cons => exact h.elim
    | cons t ts ih => cases vs with
      | nil => exact h.elim
      | cons v vs => exact ⟨h.1, h.2.1, ih h.2.2⟩
  exact app r1
end
end DL

/-! DL17: calls of built-in functions and types, methods of built-in types that change nothing. -/
namespace DL
open PySem PySem.Spec L2

/-! ### arguments that are read -/
def rdL (env : DEnv) : List T → Option (List (D × Bool))
  | [] => some []
  | t :: ts => (rd env t).bind fun d => (rdL env ts).map fun xs => (d, rdn env t) :: xs
def RvL (K : PySem.W.Frag) (mg : Str → Option Value) (F G H : Hp) : List V → List (D × Bool) → Prop
  | [], [] => True
  | v :: vs, x :: xs => Rv K mg (sel x.2 G F) H v x.1 ∧ RvL K mg F G H vs xs
  | _, _ => False
theorem RTs.rvL {K : PySem.W.Frag} {mg : Str → Option Value} {Z : Zx} {F G H : Hp} {σ : Sg} {env : DEnv} {vs : List V} {ts : List T} {xs : List (D × Bool)} (R : EnvR K mg Z F G H σ env) (h : RTs K mg Z F G H σ env vs ts) (e : rdL env ts = some xs) : RvL K mg F G H vs xs := by
  induction ts generalizing vs xs with
  | nil =>
    cases e
    cases vs with
    | nil => trivial
    | cons => exact h.elim
  | cons t ts ih =>
    cases vs with
    | nil => exact h.elim
    | cons v vs =>
      obtain ⟨h1, h2, h3⟩ := h
      unfold rdL at e
      cases e1 : rd env t with
      | none => rw [e1] at e; cases e
      | some d =>
        rw [e1] at e
        simp only [Option.bind_some] at e
        cases e2 : rdL env ts with
        | none => rw [e2] at e; cases e
        | some ys =>
          rw [e2] at e
          cases e
          exact ⟨RT.rv R h2 e1, ih h3 e2⟩
abbrev FC := List (D × Bool) → (T → Prop) → Prop
def CallD (X : Cx) (c : Value) (f : FC) : Prop := ∃ r : List V → Hp → VK → Prop, CallR X c r ∧
  ∀ (Z : Zx) (F G H : Hp) (σ : Sg) (env : DEnv) (vs : List V) (xs : List (D × Bool)) (P : T → Prop) (Q : VK),
    EnvR X.K X.mg Z F G H σ env → RvL X.K X.mg F G H vs xs → f xs P → After X Z F G H σ env P Q → r vs H Q
def dCB (f : FC) (wa : DA) : DW := fun env P E => wa env (fun ts e => ∃ xs, rdL e ts = some xs ∧ f xs fun t => P t e) E
section
variable {X : Cx} {Z : Zx} {W : WX} {pos p : Pos} {x : Str} {e : Expr} {es : List Expr} {wa : DA} {f : FC}
theorem callB_imp {r : List V → Hp → VK → Prop} (hf : ∀ (Z : Zx) (F G H : Hp) (σ : Sg) (env : DEnv) (vs : List V) (xs : List (D × Bool)) (P : T → Prop) (Q : VK),
    EnvR X.K X.mg Z F G H σ env → RvL X.K X.mg F G H vs xs → f xs P → After X Z F G H σ env P Q → r vs H Q) {σ : Sg} {H : Hp} {Q : VK} (h : tD X.K X.mg Z W (dCB f wa) σ H Q) : tCB r (tDA X.K X.mg Z W wa) σ H Q := by
  obtain ⟨F, G, env, P, E, R, w, q, qe⟩ := h
  refine ⟨F, G, env, _, E, R, w, fun ts e1 F1 G1 H1 vs ⟨xs, ex, p⟩ R1 x1 r1 => ?_, qe⟩
  exact hf Z F1 G1 H1 σ e1 vs xs _ _ R1 (RTs.rvL R1 r1 ex) p fun t F' G' H' v pt R' x' r' n' => q t e1 F' G' H' v pt R' (x1.trans x') r' (newT_back x1.d n')
theorem d_callB {id : String} (hc : CallD X (.builtin id) f) (hm : X.mg x = none) (ha : DAr X Z W (e :: es) wa) (hg : Gl X x := by rfl) (hv : bootBuiltins x = some (.builtin id) := by rfl) (hn : x ≠ "__name__" := by decide) (hdb : (x == ("__debug__" : Str)) = false := by decide)
    (he : starEach (e :: es) X.env = (false, eval e X.env) :: starEach es X.env := by rfl) (hpl : (backTo pos (starEach es X.env)).any (·.1) = false := by rfl) : DE X Z W (.Call (.Name x p) (e :: es) [] pos) (dCB f wa) := by
  obtain ⟨r, hr, hf⟩ := hc
  exact PE.of (pe_callB hr hg hm hv ha hn hdb he hpl) fun σ H Q h => callB_imp hf h
theorem d_callTy {id : String} (hc : CallD X (.type id) f) (hm : X.mg x = none) (ha : DAr X Z W (e :: es) wa) (hg : Gl X x := by rfl) (hv : bootBuiltins x = some (.type id) := by rfl) (hn : x ≠ "__name__" := by decide) (hdb : (x == ("__debug__" : Str)) = false := by decide)
    (he : starEach (e :: es) X.env = (false, eval e X.env) :: starEach es X.env := by rfl) (hpl : (backTo pos (starEach es X.env)).any (·.1) = false := by rfl) : DE X Z W (.Call (.Name x p) (e :: es) [] pos) (dCB f wa) := by
  obtain ⟨r, hr, hf⟩ := hc
  exact PE.of (pe_callTy hr hg hm hv ha hn hdb he hpl) fun σ H Q h => callB_imp hf h
end

/-! ### one value in, two values in -/
section
variable {X : Cx}
theorem rvL1 {K : PySem.W.Frag} {mg : Str → Option Value} {F G H : Hp} {vs : List V} {d : D} {n : Bool} (h : RvL K mg F G H vs [(d, n)]) : ∃ v, vs = [v] ∧ Rv K mg (sel n G F) H v d := by
  match vs, h with
  | [v], ⟨h, _⟩ => exact ⟨v, rfl, h⟩
theorem rvL2 {K : PySem.W.Frag} {mg : Str → Option Value} {F G H : Hp} {vs : List V} {d e : D} {n m : Bool} (h : RvL K mg F G H vs [(d, n), (e, m)]) : ∃ v u, vs = [v, u] ∧ Rv K mg (sel n G F) H v d ∧ Rv K mg (sel m G F) H u e := by
  match vs, h with
  | [v, u], ⟨h, h', _⟩ => exact ⟨v, u, rfl, h, h'⟩
def lenD : D → Option Nat
  | .dict _ kvs => some kvs.length
  | d => (seqOf d).map (·.length)
def fLen : FC := fun xs P => ∃ d n, xs = [(d, n)] ∧ ((∃ k, lenD d = some k ∧ P (dI (k : Nat))) ∨ ∃ z, d = .str z ∧ z.length ≤ sizeLine ∧ P (dI (z.length : Nat)))
theorem c_len : CallD X (.builtin "len") fLen := by
  refine ⟨_, CallR.or call_len_seq (CallR.or call_len_str (CallR.or call_lenD call_len_dT)), fun Z F G H σ env vs xs P Q R h ⟨d, n, ex, hf⟩ q => ?_⟩
  subst ex
  obtain ⟨v, rfl, rv⟩ := rvL1 h
  have fin : ∀ i : Int, P (dI i) → Q (.int i) H := fun i p => q _ F G H _ p R .refl (.int _) trivial
  rcases hf with ⟨k, ek, p⟩ | ⟨z, rfl, hz, p⟩
  · have seqs : ∀ ds : List D, seqOf d = some ds → k = ds.length → ∃ a ws, [v] = [V.ref a] ∧ (SqL X.K H a ws ∨ SqT X.K H a ws) ∧ Q (.int (ws.length : Nat)) H := fun ds es ek' => by
      obtain ⟨a, ws, rfl, hs, r⟩ := rv.seq R.selH es
      refine ⟨a, ws, rfl, hs, ?_⟩
      rw [r.length, ← ek']
      exact fin _ p
    cases d with
    | dict t kvs =>
      cases ek
      cases t with
      | false =>
        obtain ⟨a, ks, rfl, h1, h2, h3⟩ := rv.dictK R.selH
        have hl := congrArg List.length h2
        simp only [List.length_map] at hl
        rw [hl] at p
        exact .inr (.inr (.inl ⟨a, ks, rfl, h1, fin _ p⟩))
      | true =>
        obtain ⟨a, ks, rfl, h1, h2, h3⟩ := rv.dictT R.selH
        have hl := congrArg List.length h2
        simp only [List.length_map] at hl
        rw [hl] at p
        exact .inr (.inr (.inr ⟨a, ks, rfl, h1, fin _ p⟩))
    | list xs => cases ek; exact .inl (seqs _ rfl rfl)
    | scr xs => cases ek; exact .inl (seqs _ rfl rfl)
    | tuple xs => cases ek; exact .inl (seqs _ rfl rfl)
    | ktup xs => cases ek; exact .inl (seqs _ rfl rfl)
    | _ => cases ek
  · exact .inr (.inl ⟨z, by rw [rv.str], hz, fin _ p⟩)
/-- two ints -/
def fII (g : Int → Int → Int) : FC := fun xs P => ∃ i n j m, xs = [(.int i, n), (.int j, m)] ∧ P (dI (g i j))
theorem c_min (hc : X.calm = true) : CallD X (.builtin "min") (fII fun i j => if j < i then j else i) := by
  refine ⟨_, call_min2 hc, fun Z F G H σ env vs xs P Q R h ⟨i, n, j, m, ex, p⟩ q => ?_⟩
  subst ex
  obtain ⟨v, u, rfl, r1, r2⟩ := rvL2 h
  exact ⟨i, j, by rw [r1.int, r2.int], q _ F G H _ p R .refl (.int _) trivial⟩
theorem c_max (hc : X.calm = true) : CallD X (.builtin "max") (fII fun i j => if j > i then j else i) := by
  refine ⟨_, call_max2 hc, fun Z F G H σ env vs xs P Q R h ⟨i, n, j, m, ex, p⟩ q => ?_⟩
  subst ex
  obtain ⟨v, u, rfl, r1, r2⟩ := rvL2 h
  exact ⟨i, j, by rw [r1.int, r2.int], q _ F G H _ p R .refl (.int _) trivial⟩
def fAbs : FC := fun xs P => ∃ i n, xs = [(.int i, n)] ∧ P (dI (if i < 0 then -i else i))
theorem c_abs : CallD X (.builtin "abs") fAbs := by
  refine ⟨_, call_abs, fun Z F G H σ env vs xs P Q R h ⟨i, n, ex, p⟩ q => ?_⟩
  subst ex
  obtain ⟨v, rfl, r1⟩ := rvL1 h
  exact ⟨i, by rw [r1.int], q _ F G H _ p R .refl (.int _) trivial⟩
def fInt : FC := fun xs P => (∃ i n, xs = [(.int i, n)] ∧ P (dI i)) ∨ (∃ k n, xs = [(.bool k, n)] ∧ P (dI (if k then 1 else 0))) ∨ ∃ a n i, xs = [(.str a, n)] ∧ PySem.intText? a = some i ∧ a.length ≤ 640 ∧ P (dI i)
theorem c_int : CallD X (.type "int") fInt := by
  refine ⟨_, CallR.or call_int1 call_int_str, fun Z F G H σ env vs xs P Q R h hf q => ?_⟩
  have fin : ∀ i : Int, P (dI i) → Q (.int i) H := fun i p => q _ F G H _ p R .refl (.int _) trivial
  rcases hf with ⟨i, n, ex, p⟩ | ⟨k, n, ex, p⟩ | ⟨a, n, i, ex, hi, hl, p⟩
  · subst ex; obtain ⟨v, rfl, r1⟩ := rvL1 h; exact .inl (.inl ⟨i, by rw [r1.int], fin _ p⟩)
  · subst ex; obtain ⟨v, rfl, r1⟩ := rvL1 h; exact .inl (.inr ⟨k, by rw [r1.bl], fin _ p⟩)
  · subst ex; obtain ⟨v, rfl, r1⟩ := rvL1 h; exact .inr ⟨a, i, by rw [r1.str], hi, hl, fin _ p⟩
def fStrI : FC := fun xs P => ∃ i n, xs = [(.int i, n)] ∧ i.natAbs.log2 < 1920 ∧ P (dS (toString i))
theorem c_str : CallD X (.type "str") fStrI := by
  refine ⟨_, call_str_int, fun Z F G H σ env vs xs P Q R h ⟨i, n, ex, hl, p⟩ q => ?_⟩
  subst ex
  obtain ⟨v, rfl, r1⟩ := rvL1 h
  exact ⟨i, by rw [r1.int], hl, q _ F G H _ p R .refl (.str _) trivial⟩
/-- the items of a list -/
def listOf : D → Option (List D)
  | .list xs => some xs | .scr xs => some xs | _ => none
theorem Rv.listL {K : PySem.W.Frag} {mg : Str → Option Value} {B H : Hp} {v : V} {d : D} {ds : List D} (h : Rv K mg B H v d) (s : Same B H) (e : listOf d = some ds) : ∃ a vs, v = .ref a ∧ SqL K H a vs ∧ Rps K mg B vs ds := by
  cases d <;> first
    | (cases e; done)
    | (cases e
       first
         | (obtain ⟨a, vs, h1, h2, h3⟩ := h.list s; exact ⟨a, vs, h1, SqL.of h2, h3⟩)
         | (obtain ⟨a, vs, h1, h2, h3⟩ := h.scr; exact ⟨a, vs, h1, s.seq h2, h3⟩))
theorem rps_ints {K : PySem.W.Frag} {mg : Str → Option Value} {B : Hp} : ∀ {vs : List V} {ns : List Int}, Rps K mg B vs (ns.map D.int) → vs = ns.map V.int
  | _, [], .nil => rfl
  | _, n :: ns, .cons h r => by cases h; rw [rps_ints r]; rfl
theorem rps_bls {K : PySem.W.Frag} {mg : Str → Option Value} {B : Hp} : ∀ {vs : List V} {ns : List Bool}, Rps K mg B vs (ns.map D.bool) → vs = ns.map V.bl
  | _, [], .nil => rfl
  | _, n :: ns, .cons h r => by cases h; rw [rps_bls r]; rfl
theorem rps_strs {K : PySem.W.Frag} {mg : Str → Option Value} {B : Hp} : ∀ {vs : List V} {ns : List Str}, Rps K mg B vs (ns.map D.str) → vs = ns.map V.str
  | _, [], .nil => rfl
  | _, n :: ns, .cons h r => by cases h; rw [rps_strs r]; rfl
theorem ints_rps {K : PySem.W.Frag} {mg : Str → Option Value} {B : Hp} : ∀ {ns : List Int}, Rps K mg B (ns.map V.int) (ns.map D.int)
  | [] => .nil
  | n :: ns => .cons (.int n) ints_rps
theorem strs_rps {K : PySem.W.Frag} {mg : Str → Option Value} {B : Hp} : ∀ {ns : List Str}, Rps K mg B (ns.map V.str) (ns.map D.str)
  | [] => .nil
  | n :: ns => .cons (.str n) strs_rps
def fSum : FC := fun xs P => ∃ (d : D) (n : Bool) (ns : List Int), xs = [(d, n)] ∧ listOf d = some (ns.map D.int) ∧ P (dI ns.sum)
theorem c_sum (hc : X.calm = true) : CallD X (.builtin "sum") fSum := by
  refine ⟨_, cr_sum hc, fun Z F G H σ env vs xs P Q R h ⟨d, n, ns, ex, el, p⟩ q => ?_⟩
  subst ex
  obtain ⟨v, rfl, r1⟩ := rvL1 h
  obtain ⟨a, ws, rfl, h1, h2⟩ := r1.listL R.selH el
  rw [rps_ints h2] at h1
  exact ⟨a, ns, rfl, h1, q _ F G H _ p R .refl (.int _) trivial⟩
def fAll : FC := fun xs P => ∃ (d : D) (n : Bool) (bs : List Bool), xs = [(d, n)] ∧ listOf d = some (bs.map D.bool) ∧ P (dB (bs.all id))
def fAny : FC := fun xs P => ∃ (d : D) (n : Bool) (bs : List Bool), xs = [(d, n)] ∧ listOf d = some (bs.map D.bool) ∧ P (dB (bs.any id))
theorem c_all (hc : X.calm = true) : CallD X (.builtin "all") fAll := by
  refine ⟨_, cr_all hc, fun Z F G H σ env vs xs P Q R h ⟨d, n, ns, ex, el, p⟩ q => ?_⟩
  subst ex
  obtain ⟨v, rfl, r1⟩ := rvL1 h
  obtain ⟨a, ws, rfl, h1, h2⟩ := r1.listL R.selH el
  rw [rps_bls h2] at h1
  exact ⟨a, ns, rfl, h1, q _ F G H _ p R .refl (.bl _) trivial⟩
theorem c_any (hc : X.calm = true) : CallD X (.builtin "any") fAny := by
  refine ⟨_, cr_any hc, fun Z F G H σ env vs xs P Q R h ⟨d, n, ns, ex, el, p⟩ q => ?_⟩
  subst ex
  obtain ⟨v, rfl, r1⟩ := rvL1 h
  obtain ⟨a, ws, rfl, h1, h2⟩ := r1.listL R.selH el
  rw [rps_bls h2] at h1
  exact ⟨a, ns, rfl, h1, q _ F G H _ p R .refl (.bl _) trivial⟩
/-- sorted, ints or the int keys of a dict -/
def fSortI : FC := fun xs P => ∃ (d : D) (n : Bool) (ns : List Int), xs = [(d, n)] ∧ (listOf d = some (ns.map D.int) ∨ ∃ kvs, d = .dict false kvs ∧ kvs.map (·.1) = ns.map D.int ∧ ns.length < 64) ∧ ∀ ys : List Int, ys.Perm ns → ys.Pairwise (· ≤ ·) → P (.ow (.list (ys.map D.int)) true)
theorem keyD_int {k : Key} {i : Int} (h : keyD k = .int i) : k = .inl i := by
  cases k with
  | inl j => cases h; rfl
  | inr x => cases h
theorem keys_ints : ∀ {ns : List Int} {kvs : List (Key × V)}, ns.map D.int = kvs.map (fun p => keyD p.1) → kvs.map (·.1) = ns.map Sum.inl
  | [], [], _ => rfl
  | [], _ :: _, h => by simp at h
  | _ :: _, [], h => by simp at h
  | n :: ns, p :: kvs, h => by
    simp only [List.map_cons, List.cons.injEq] at h
    simp only [List.map_cons, keyD_int h.1.symm, keys_ints h.2]
theorem c_sortI (hc : X.calm = true) : CallD X (.builtin "sorted") fSortI := by
  refine ⟨_, CallR.or cr_sortedI (call_sortedDI hc), fun Z F G H σ env vs xs P Q R h ⟨d, n, ns, ex, hf, p⟩ q => ?_⟩
  subst ex
  obtain ⟨v, rfl, r1⟩ := rvL1 h
  have fin : ∀ (ys : List Int) (p' : Addr), ys.Perm ns → ys.Pairwise (· ≤ ·) → H p' = none → Q (.ref p') (upd H p' (.lst (ys.map V.int))) := fun ys p' h1 h2 hp => by
    obtain ⟨k1, k2, k3, k4⟩ := RT.newList (n := true) R hp (ints_rps (ns := ys))
    exact q _ _ _ _ _ (p ys h1 h2) k1 k2 k3 k4
  rcases hf with el | ⟨kvs, rfl, ek, hl⟩
  · obtain ⟨a, ws, rfl, h1, h2⟩ := r1.listL R.selH el
    rw [rps_ints h2] at h1
    exact .inl ⟨a, ns, rfl, h1, fin⟩
  · obtain ⟨a, ks, rfl, h1, h2, h3⟩ := r1.dictK R.selH
    exact .inr ⟨a, ks, ns, rfl, Rd.of h1, keys_ints (ek.symm.trans h2), hl, fin⟩
/-- list(x), tuple(x) -/
def fList : FC := fun xs P => ∃ (d : D) (n : Bool) (ds : List D), xs = [(d, n)] ∧ seqOf d = some ds ∧ P (.ow (.list ds) n)
theorem c_list : CallD X (.type "list") fList := by
  refine ⟨_, call_list_of, fun Z F G H σ env vs xs P Q R h ⟨d, n, ds, ex, el, p⟩ q => ?_⟩
  subst ex
  obtain ⟨v, rfl, r1⟩ := rvL1 h
  obtain ⟨a, ws, rfl, h1, h2⟩ := r1.seq R.selH el
  refine ⟨a, ws, rfl, h1, fun p' hp => ?_⟩
  obtain ⟨k1, k2, k3, k4⟩ := RT.newList (n := n) R hp h2
  exact q _ _ _ _ _ p k1 k2 k3 k4
def fTuple : FC := fun xs P => ∃ d n, xs = [(d, n)] ∧ ((∃ ds, listOf d = some ds ∧ P (.fz (.tuple ds) n)) ∨ ∃ ds, d = .tuple ds ∧ P (.fz (.tuple ds) n))
theorem c_tuple : CallD X (.type "tuple") fTuple := by
  refine ⟨_, call_tuple_of, fun Z F G H σ env vs xs P Q R h ⟨d, n, ex, hf⟩ q => ?_⟩
  subst ex
  obtain ⟨v, rfl, r1⟩ := rvL1 h
  rcases hf with ⟨ds, el, p⟩ | ⟨ds, rfl, p⟩
  · obtain ⟨a, ws, rfl, h1, h2⟩ := r1.listL R.selH el
    refine ⟨a, ws, rfl, .inl ⟨h1, fun p' hp => ?_⟩⟩
    obtain ⟨k1, k2, k3⟩ := RT.newTup (n := n) R hp h2
    exact q _ _ _ _ _ p k1 k2 k3 trivial
  · obtain ⟨a, ws, rfl, h1, h2⟩ := r1.tup
    exact ⟨a, ws, rfl, .inr ⟨SqT.of (R.selH _ _ h1), q _ F G H _ p R .refl (.tup h1 h2) trivial⟩⟩
end

/-! ### isinstance, built-in types -/
def tyN : D → Option String
  | .none => some "NoneType" | .bool _ => some "bool" | .int _ => some "int" | .str _ => some "str" | .list _ => some "list" | .scr _ => some "list" | .tuple _ => some "tuple" | .ktup _ => some "tuple" | .dict _ _ => some "dict" | _ => none
def isiN (t c : String) : Bool := t == c || (t == "bool" && c == "int")
def tyNs : List String := ["NoneType", "bool", "int", "str", "list", "tuple", "dict"]
def clNs : List String := ["bool", "int", "str", "list", "tuple", "dict"]
theorem kit_all : (tyNs.all fun t => clNs.all fun c => kitB t c == some (isiN t c)) = true := by decide +kernel
theorem kit_at {t c : String} (ht : t ∈ tyNs) (hc : c ∈ clNs) : kitB t c = some (isiN t c) := by
  have h := kit_all
  rw [List.all_eq_true] at h
  have h2 := h t ht
  rw [List.all_eq_true] at h2
  exact of_decide_eq_true (by simpa using h2 c hc)
theorem tyN_mem {d : D} {t : String} (h : tyN d = some t) : t ∈ tyNs := by
  cases d <;> first | (cases h; done) | (cases h; decide)
section
variable {X : Cx} {Z : Zx} {W : WX} {pos p p2 : Pos} {x c : Str} {e : Expr} {w : DW} {C : String}
theorem TyX.ofK {K : PySem.W.Frag} {H : Hp} {a : Addr} {xs : List V} (h : SqL K H a xs) : TyX K H (.ref a) (.type "list") := by
  rcases h with h | h
  · rcases h with h | ⟨o, h⟩
    · exact .base (.lst h)
    · exact .base (.frz h)
  · obtain ⟨o, its, n, h1, h2, _⟩ := h
    exact .kList h1 h2
theorem TyX.ofT {K : PySem.W.Frag} {H : Hp} {a : Addr} {xs : List V} (h : SqT K H a xs) : TyX K H (.ref a) (.type "tuple") := by
  rcases h with h | h
  · rcases h with h | ⟨o, h⟩
    · exact .base (.tup h)
    · exact .fTuple h
  · obtain ⟨o, its, n, h1, h2, _⟩ := h
    exact .kTuple h1 h2
theorem Rv.ty {K : PySem.W.Frag} {mg : Str → Option Value} {B H : Hp} {v : V} {d : D} {t : String} (h : Rv K mg B H v d) (s : Same B H) (e : tyN d = some t) : TyX K H v (.type t) := by
  cases d with
  | none => cases e; rw [h.non]; exact .base .non
  | bool b => cases e; rw [h.bl]; exact .base (.bl _)
  | int b => cases e; rw [h.int]; exact .base (.int _)
  | str b => cases e; rw [h.str]; exact .base (.str _)
  | list xs => cases e; obtain ⟨a, vs, rfl, h1, _⟩ := h.list s; exact .base (.lst h1)
  | scr xs => cases e; obtain ⟨a, vs, rfl, h1, _⟩ := h.scr; exact TyX.ofK (s.seq h1)
  | tuple xs => cases e; obtain ⟨a, vs, rfl, h1, _⟩ := h.tup; exact .base (.tup (s _ _ h1))
  | ktup xs => cases e; obtain ⟨a, vs, rfl, h1, _⟩ := h.ktup; exact TyX.ofT (Same.seqT s h1)
  | dict t kvs =>
    cases e
    cases t with
    | false => obtain ⟨a, vs, rfl, h1, _⟩ := h.dictK s; exact .base (.dK h1)
    | true => obtain ⟨a, vs, rfl, h1, _⟩ := h.dictT s; exact .base (.dT h1)
  | _ => cases e
/-- isinstance(e, C) -/
def dIsi (C : String) (w : DW) : DW := fun env P E => w env (fun t e => ∃ d, rd e (hold t) = some d ∧ ∃ k, tyN d = some k ∧ P (dB (isiN k C)) e) E
theorem d_isi {iz : Str} (hz : iz = ("isinstance" : Str)) (hC : C ∈ clNs) (hm : X.mg iz = none) (hmC : X.mg c = none) (he : DE X Z W e w) (hg : Gl X iz := by rfl) (hgC : Gl X c := by rfl) (hv : bootBuiltins iz = some (.builtin "isinstance") := by rfl) (hvC : bootBuiltins c = some (.type C) := by rfl)
    (hnC : c ≠ "__name__" := by decide) (hdC : (c == ("__debug__" : Str)) = false := by decide)
    (hs1 : starEach [e, .Name c p2] X.env = (false, eval e X.env) :: starEach [.Name c p2] X.env := by rfl) (hs2 : starEach [.Name c p2] X.env = (false, eval (.Name c p2) X.env) :: starEach [] X.env := by rfl)
    (hpl : (backTo pos (starEach [.Name c p2] X.env)).any (·.1) = false := by rfl) : DE X Z W (.Call (.Name iz p) [e, .Name c p2] [] pos) (dIsi C w) := by
  subst hz
  refine PE.of (pe_callB call_isi hg hm hv (pa_cons he (pa_cons (pe_bltn hgC hmC hvC (v := .ty C) rfl hnC hdC) pa_nil hs2) hs1) (by decide) (by decide) hs1 hpl) fun σ H Q ⟨F, G, env, P, E, R, w, q, qe⟩ => ?_
  refine ⟨F, G, env, _, E, R, w, fun t e1 F1 G1 H1 v ⟨d, ed, k, ek, p⟩ R1 x1 r1 n1 => ?_, qe⟩
  obtain ⟨F2, G2, R2, x2, r2⟩ := RT.hold R1 x1 r1 n1
  have rv := RT.rv R2 r2 ed
  exact ⟨v, .ty C, .type k, .type C, isiN k C, rfl, .ty C, Rv.ty rv R2.selH ek, kit_ty (kit_at (tyN_mem ek) hC), q _ _ _ _ _ _ p R2 x2 (.bl _) trivial⟩
end
end DL

/-! DL18: enumerate of a text. -/
namespace DL
open PySem PySem.Spec PyProof.Rows L2

def Ites (z : Str) : It :=
  ⟨fun i _ => i < z.cps.size, fun i H v H' => ∃ T c, v = .ref T ∧ H T = none ∧ z.cps[i]? = some c ∧ H' = upd H T (.tup [.int (i : Nat), .str ⟨#[c]⟩]), fun i _ => z.cps.size ≤ i⟩
theorem strTy (x : Str) : strIterType x = "str_ascii_iterator" ∨ strIterType x = "str_iterator" := by
  unfold strIterType
  split
  · exact .inl rfl
  · exact .inr rfl
theorem draws_str {prog : Program} {w : World} {A : Around} (hh : A.handled = none) (it : Addr) (x : Str) (t : Tok) :
    Draws prog w A it [it] x.cps.size (fun i v => ∃ c u, x.cps[i]? = some c ∧ v = .str ⟨#[c]⟩ u) (fun i h => h.IsStrIter it (strIterType x) x t i) := by
  rcases strTy x with e | e
  · rw [e]; exact Draws.strAscii hh it x t
  · rw [e]; exact Draws.strWide hh it x t
theorem enum_endS {prog : Program} {w : World} {A : Around} {E : Value → Shared → Prop} {s : Shared} {e it : Addr} {x : Str} {t : Tok} {i : Nat} {k : Int} {old : Value} {Q : Option Value → Shared → Prop} (hh : A.in1.handled = none)
    (he : IsEnum s.heap e it k old) (hit : s.heap.IsStrIter it (strIterType x) x t i) (hi : x.cps.size ≤ i) (hQ : ∀ h', Heap.ExtBut it s.heap h' → Q none { s with heap := h' }) : wpAny (model prog w) A (pyNext (.ref e)) Q E s := by
  have ty : s.TypeIs (.ref e) "enumerate" := ⟨_, he, rfl⟩
  have hx : x.cps[i]? = none := Array.getElem?_eq_none hi
  have run : ∀ (Q' : Value → Shared → Prop) (E' : Value → Shared → Prop), (∀ h' e, Heap.ExtBut it s.heap h' → (∃ o, h'.get? e = some o ∧ o.cls = .type "StopIteration") → E' (.ref e) { s with heap := h' }) → wpAny (model prog w) A.in1 (Builtin.SmallTypes.nextOf (.ref it)) Q' E' s := fun Q' E' hE => by
    rcases strTy x with ez | ez
    · rw [ez] at hit; exact wpAny_nextOf_ascii_end hh hit hx hE
    · rw [ez] at hit; exact wpAny_nextOf_wide_end hh hit hx hE
  unfold pyNext
  apply wpAny_bind
  apply wpAny_attempt
  refine wpAny_callSpecial?_slot (name := Str.ofString "__next__") ty F.slot_enumerate_next ?_
  refine wpAny_call_entry F.slot_enumerate_next ty F.entry_enumerate_next ?_ (F.args_enumerate_next_1 _)
  show wpAny _ _ (field (.ref e) 2 >>= _) _ _ _
  apply wpAny_bind
  refine wpAny_field he rfl (x := .ref it) rfl ?_
  apply wpAny_bind
  refine run _ _ fun h' b ext ⟨o, ho, hc⟩ => ?_
  apply wpAny_bind
  refine wpAny_isInstance (T := "StopIteration") (b := true) ⟨o, ho, hc⟩ isSubtype_stop ?_
  exact wpAny_pure (hQ _ ext)
theorem turn_enumS {P : Program} {w : World} {K : PySem.W.Frag} {elts : List Expr} {kk : Nat} {tpos : Pos} (e it : Addr) (x : Str) (t : Tok) :
    Turn P w K (.Tuple elts kk tpos) (Ites x) [e, it] e (fun i h => (∃ old, IsEnum h e it ((i : Nat) : Int) old) ∧ h.IsStrIter it (strIterType x) x t i ∧ e ≠ it) where
  mem := by simp
  obj := fun i h st b hb => by
    obtain ⟨⟨old, he⟩, ⟨o, ho, hc, hd⟩, _⟩ := st
    have e' : b = e ∨ b = it := by simpa using hb
    rcases e' with z | z
    · rw [z]; exact ⟨_, he, fun v q => nomatch q⟩
    · rw [z]; exact ⟨o, ho, fun v q => by rw [hd] at q; cases q⟩
  keep := fun i h h' st k => let ⟨⟨old, he⟩, ⟨o, ho, hc, hd⟩, hne⟩ := st; ⟨⟨old, k e (by simp) _ he⟩, ⟨o, k it (by simp) _ ho, hc, hd⟩, hne⟩
  item := by
    intro X hP hw hK hc i pins s σ H E I hf st hg
    subst hP hw hK
    obtain ⟨⟨old, he⟩, hit, hne⟩ := st
    have hel : e < s.heap.objs.size := Heap.lt_size he
    have hil : it < s.heap.objs.size := by obtain ⟨_, q, _⟩ := hit; exact Heap.lt_size q
    have D := draws_str (prog := X.prog) (w := X.w) (A := X.A.in1) (show X.A.in1.handled = none from I.ok.hd hc) it x t
    refine wpAny_pyNext_enum_itemD D he hit hg hne (by simpa using hne) fun y h' tk hy ho hit' hT hsz hk => ?_
    obtain ⟨c, u, hcx, rfl⟩ := hy
    refine ⟨_, rfl, wpAny_letOwnedTupleGo_enum (s := { s with heap := h', toks := tk + 1 }) ho fun h'' he' sb => ?_⟩
    have hT2 : h''.get? s.heap.objs.size = some { cls := .type "tuple", data := .seq #[.int i tk, .str ⟨#[c]⟩ u] } := (sb.2 _ (Nat.ne_of_gt hel)).trans hT
    have new : ObjOk X.prog X.w (upd H s.heap.objs.size (.tup [.int (i : Nat), .str ⟨#[c]⟩])) h'' s.heap.objs.size (.tup [.int (i : Nat), .str ⟨#[c]⟩]) :=
      ⟨by show 2 ≤ sizeLine; decide, [.int i tk, .str ⟨#[c]⟩ u], .cons ⟨_, rfl⟩ (.cons ⟨_, rfl⟩ .nil), ⟨_, hT2, rfl, _, rfl⟩⟩
    have I1 : Inv X pins σ (upd H s.heap.objs.size (.tup [.int (i : Nat), .str ⟨#[c]⟩])) { s with heap := h'', toks := tk + 1 } :=
      I.turnedNew (ch := [e, it]) (fun b ob hb q => (sb.2 b (fun z => hb (by simp [z]))).trans (hk b ob (fun z => hb (by simp [z])) (fun z => hb (by simp [z])) q)) hf (Nat.le_refl _) new
    refine ⟨.ref s.heap.objs.size, _, I1, rfl, ⟨_, c, rfl, I.hok.fresh (Nat.le_refl _), hcx, rfl⟩, ⟨⟨.str ⟨#[c]⟩ u, ?_⟩, ?_, hne⟩, fun b hb => ?_⟩
    · have e1 : ((i + 1 : Nat) : Int) = (i : Int) + 1 := by omega
      rw [e1]; exact he'
    · obtain ⟨o, ho2, hc2, hd2⟩ := hit'
      exact ⟨o, (sb.2 it (Ne.symm hne)).trans ho2, hc2, hd2⟩
    · have hb' : b < s.heap.objs.size := by
        have e' : b = e ∨ b = it := by simpa using hb
        rcases e' with z | z
        · rw [z]; exact hel
        · rw [z]; exact hil
      rw [upd_ne (Nat.ne_of_lt hb')]
      exact (hf b hb).1
  done := by
    intro X hP hw hK hc i pins s σ H E I hf st hg
    subst hP hw hK
    obtain ⟨⟨old, he⟩, hit, hne⟩ := st
    obtain ⟨f0, f1, f2, f3, f4, f5⟩ := hf it (by simp)
    exact enum_endS (show X.A.in1.handled = none from I.ok.hd hc) he hit hg fun h' eb => ⟨rfl, I.turned (t' := s.toks) (fun b o hb q => eb b o hb q) f0 f1 f3 f4 f5⟩
  self := fun A i s Q E st h => let ⟨⟨_, he⟩, _⟩ := st; wpAny_pyIter_enum he h
def iEnumS (ta : TA) : TI := fun σ H R => ta σ H fun vs H1 => ∃ z, vs = [.str z] ∧ R (Ites z) H1
theorem pi_enumS {X : Cx} {e : Expr} {ta : TA} {p pos tpos : Pos} {elts : List Expr} {kk : Nat} (hg : Gl X "enumerate") (hm : X.mg "enumerate" = none) (ha : PA X [e] ta) (hs : starEach [e] X.env = [(false, eval e X.env)] := by rfl) :
    PI X (.Tuple elts kk tpos) (.Call (.Name "enumerate" p) [e] [] pos) (iEnumS ta) := by
  refine ⟨fun pins s σ H R I h => ?_⟩
  refine Call_ (ld_blt I hg hm boot_enumerate (PyProof.Rows.callWith_type1 (thn (ha.run pos pins s σ H _ I h) fun us s1 ⟨vs, H1, I1, r1, z, ex, q⟩ => ?_) hs rfl))
  subst ex
  obtain ⟨u, rfl, t, rfl⟩ := vals1 r1
  refine call_enumerate_str fun h' he hit hsz hk => wpAny_pyIter_enum he ?_
  have I2 : Inv X pins σ H1 { s1 with heap := h' } := I1.kept (t' := s1.toks) hk
  refine ⟨s1.heap.objs.size + 1, [s1.heap.objs.size + 1, s1.heap.objs.size], _, _, H1, rfl, I2, turn_enumS (s1.heap.objs.size + 1) s1.heap.objs.size z t, ⟨⟨.none, he⟩, hit, Nat.succ_ne_self _⟩, fun b hb => ?_, q⟩
  have hle : s1.heap.objs.size ≤ b := by
    have e' : b = s1.heap.objs.size + 1 ∨ b = s1.heap.objs.size := by simpa using hb
    rcases e' with z | z
    · rw [z]; exact Nat.le_succ _
    · rw [z]; exact Nat.le_refl _
  exact I1.fpOk hle (I1.hok.fresh hle)
/-- enumerate of a text -/
def dEnumS (wa : DA) : DI := fun env P E => wa env (fun ts e => ∃ z n, ts = [.fz (.str z) n] ∧ P (enumD 0 (z.cps.toList.map fun c => .str ⟨#[c]⟩)) true e) E
theorem i_enumS {X : Cx} {Z : Zx} {W : WX} {a : Expr} {wa : DA} {p pos tpos : Pos} {elts : List Expr} {kk : Nat} (hm : X.mg "enumerate" = none) (ha : DAr X Z W [a] wa) (hg : Gl X "enumerate" := by rfl) (hs : starEach [a] X.env = [(false, eval a X.env)] := by rfl) :
    DIe X Z W (.Tuple elts kk tpos) (.Call (.Name "enumerate" p) [a] [] pos) (dEnumS wa) := by
  refine PI.of (pi_enumS hg hm ha hs) fun σ H R ⟨F, G, env, P, E, Rr, w, q, qe⟩ => ?_
  refine ⟨F, G, env, _, E, Rr, w, fun ts e1 F1 G1 H1 vs ⟨z, n, et, p⟩ R1 x1 r1 => ?_, qe⟩
  subst et
  match vs, r1 with
  | [v], ⟨_, r, _⟩ =>
    cases (show Rp X.K X.mg _ v (.str z) from r)
    refine ⟨z, rfl, q _ true e1 F1 G1 H1 _ p R1 x1 ⟨fun i H s h => ?_, fun i H d s h => ?_, fun i H d x H' F' G' env σ h yl R u => ?_⟩⟩
    · show z.cps.size ≤ i
      rw [enumD_len] at h
      simpa using h
    · obtain ⟨d1, h1, _⟩ := enumD_get h
      have := len_of h1
      show i < z.cps.size
      simpa using this
    · obtain ⟨t, c, rfl, ht, hcx, rfl⟩ := yl
      obtain ⟨d1, h1, rfl⟩ := enumD_get h
      rw [List.getElem?_map, Array.getElem?_toList, hcx] at h1
      cases h1
      have e0 : ((0 + i : Nat) : Int) = (i : Nat) := by rw [Nat.zero_add]
      rw [e0]
      exact lay_pair R ht (.int _) (.str _)
end DL

/-! DL19: dict comprehensions. -/
namespace DL
open PySem PySem.Spec L2
def dDcL (g : DG) (tt : DT) (tk tv : DW) (vs : List Nat) (n : Bool) (P : List (D × D) → Bool → DEnv → Prop) (E : Str → DEnv → Prop) : List D → List (D × D) → Bool → DEnv → Prop
  | [], acc, an, env => P acc an env
  | x :: xs, acc, an, env => ∃ e1, g x n (wipeE env vs) = some e1 ∧ tt e1 (fun b e2 => offE e2 vs ∧ (b = true → tk e2 (fun t e3 => ∃ k m, hold t = .fz k m ∧ (∃ kk, keyK k = some kk) ∧
      tv e3 (fun t' e4 => ∃ y, frz1 e4 (hold t') = some y ∧ acc.length < sizeLine ∧ offE y.2.2 vs ∧ dDcL g tt tk tv vs n P E xs (dput acc k y.1) (an && y.2.1) y.2.2) E) E) ∧
      (b = false → dDcL g tt tk tv vs n P E xs acc an e2)) E
def dDc (w : DI) (g : DG) (tt : DT) (tk tv : DW) (vs : List Nat) : DW := fun env P E => w env (fun items n e0 => offE e0 vs ∧ dDcL g tt tk tv vs n (fun ds an e => P (.ow (.dict false ds) an) (outE e0 (wipeE e vs) vs)) (fun _ _ => False) items [] true e0) E
section
variable {X : Cx} {Z : Zx} {W : WX}
theorem dc_imp {w : DI} {g : DG} {tl : List Nat} {tt : DT} {tk tv : DW} {vs : List Nat} {wi : TI} (htl : ∀ i ∈ tl, i ∈ vs) (hi : ∀ σ H R, tDI X.K X.mg Z W w σ H R → wi σ H R)
    {σ : Sg} {H : Hp} {Q : VK} (h : tD X.K X.mg Z W (dDc w g tt tk tv vs) σ H Q) : L2.tDc wi (tDG X.K X.mg Z g tl) (tDT X.K X.mg Z W0 tt) (tD X.K X.mg Z W0 tk) (tD X.K X.mg Z W0 tv) vs σ H Q := by
  obtain ⟨F, G, env, P, E, R, w, q, qe⟩ := h
  refine hi _ _ _ ⟨F, G, env, _, E, R, w, fun items n e1 F1 G1 H1 J ⟨off, p⟩ R1 x1 it D hD => ?_, qe⟩
  have l1 : e1.length = e1.length := rfl
  refine ⟨fun i m H2 => ∃ F2 G2 e2 acc an, ∃ vacc : List (Key × V), EnvR X.K X.mg Z F2 G2 H2 (L2.wipe σ vs) (wipeE e2 vs) ∧ Ext σ e1 (outE e1 (wipeE e2 vs) vs) F1 G1 H1 F2 G2 H2 ∧ offE e2 vs ∧ e1.length = e2.length ∧ m = items.length - i ∧ i ≤ items.length ∧
    H2 D = some (.dK vacc) ∧ F2 D = none ∧ ¬ Own (L2.wipe σ vs) (wipeE e2 vs) D ∧ (acc.map (·.1) = vacc.map (fun p => keyD p.1) ∧ Rps X.K X.mg (sel an G2 F2) (vacc.map (·.2)) (acc.map (·.2))) ∧
    dDcL g tt tk tv vs n (fun ds an e => P (.ow (.dict false ds) an) (outE e1 (wipeE e vs) vs)) (fun _ _ => False) (items.drop i) acc an e2, ⟨items.length, F1, G1, e1, [], true, [], ?_, ?_, off, rfl, by omega, Nat.zero_le _, upd_same, snone R1.fh hD, ?_, ⟨rfl, .nil⟩, by simpa using p⟩, ?_⟩
  · exact (R1.wipe off).grow (same_upd hD)
  · rw [outE_self]
    exact Ext.grow (same_upd hD)
  · exact (R1.wipe off).not_own hD
  rintro i m H2 ⟨F2, G2, e2, acc, an, vacc, R2, x2, off2, l2, rfl, hi', hD2, hF2, nO, racc, p2⟩
  by_cases hlt : i < items.length
  · have ed : items[i]? = some items[i] := List.getElem?_eq_getElem hlt
    have s2 : Same F1 H2 := x2.f.trans R2.fh
    refine .inr ⟨it.go i H2 _ s2 ed, fun H' => ∃ F2 G2 e2 acc an, ∃ vacc : List (Key × V), EnvR X.K X.mg Z F2 G2 H' (L2.wipe σ vs) (wipeE e2 vs) ∧ Ext σ e1 (outE e1 (wipeE e2 vs) vs) F1 G1 H1 F2 G2 H' ∧ offE e2 vs ∧ e1.length = e2.length ∧
      H' D = some (.dK vacc) ∧ F2 D = none ∧ ¬ Own (L2.wipe σ vs) (wipeE e2 vs) D ∧ (acc.map (·.1) = vacc.map (fun p => keyD p.1) ∧ Rps X.K X.mg (sel an G2 F2) (vacc.map (·.2)) (acc.map (·.2))) ∧
      dDcL g tt tk tv vs n (fun ds an e => P (.ow (.dict false ds) an) (outE e1 (wipeE e vs) vs)) (fun _ _ => False) (items.drop (i + 1)) acc an e2,
      fun H' ⟨F2, G2, e2, acc, an, vacc, a1, a2, a3, a4, a5, a6, a7, a8, a9⟩ => ⟨items.length - (i + 1), by omega, F2, G2, e2, acc, an, vacc, a1, a2, a3, a4, rfl, hlt, a5, a6, a7, a8, a9⟩, fun x H' y => ?_⟩
    obtain ⟨F3, G3, R3, x3, r3⟩ := it.yld i H2 _ x H' F2 G2 _ _ ed y R2 x2.up
    rw [List.drop_eq_getElem_cons hlt] at p2
    obtain ⟨e4, eg, pb⟩ := p2
    refine ⟨F3, G3, wipeE e2 vs, items[i], n, e4, R3, r3, eg, fun σ4 R4 only => ?_⟩
    have w4 : L2.wipe σ4 vs = L2.wipe σ vs := (only.w vs htl).trans (wipe_wipe fun _ h => h)
    refine ⟨w4, F3, G3, e4, _, _, R4, pb, fun b e5 F5 G5 H5 ⟨off5, pt, pf⟩ R5 x5 => ?_, fun c e' F' G' H' C z => z.elim⟩
    have hD3 : H' D = some (.dK vacc) := x3.h D _ hD2 nO
    have hF3 : F3 D = none := x3.n D _ hD2 hF2 nO
    -- behind any part of the turn
    have on : ∀ {e6 : DEnv} {F6 G6 H6 : Hp}, EnvR X.K X.mg Z F6 G6 H6 σ4 e6 → offE e6 vs → Ext σ4 e4 e6 F3 G3 H' F6 G6 H6 → EnvR X.K X.mg Z F6 G6 H6 (L2.wipe σ vs) (wipeE e6 vs) ∧ Ext σ e1 (outE e1 (wipeE e6 vs) vs) F1 G1 H1 F6 G6 H6 ∧ e1.length = e6.length ∧
        H6 D = some (.dK vacc) ∧ F6 D = none ∧ ¬ Own (L2.wipe σ vs) (wipeE e6 vs) D := fun {e6 F6 G6 H6} R6 off6 x6 => by
      have Rw := R6.wipe off6
      rw [w4] at Rw
      obtain ⟨y, own⟩ := Ext.blk htl only x6
      have n4 : ¬ Own σ4 e4 D := fun z => nO (own D z)
      have z := Ext.off l2 off x2 (x3.trans y) (fun v hv => ?_)
      · rw [wipeE_wipeE] at z
        refine ⟨Rw, z, ?_, x6.h D _ hD3 n4, x6.n D _ hD3 hF3 n4, fun o => nO (y.o D o)⟩
        rw [l2, x6.l, only.l, wipeE_len]
      · obtain ⟨s, es, _⟩ := off6 v hv
        rcases wipeE_at (env := e6) (j := v) vs with ⟨p, q, r⟩ | ⟨p, q⟩
        · exact ⟨.un, r, rfl⟩
        · have := len_of es
          rcases q with q | q
          · exact absurd hv q
          · omega
    cases b with
    | false =>
      dsimp only
      rw [if_neg Bool.false_ne_true]
      obtain ⟨a1, a2, a4, a5, a6, a7⟩ := on R5 off5 x5
      exact ⟨F5, G5, e5, acc, an, vacc, a1, a2, off5, a4, a5, a6, a7, ⟨racc.1, racc.2.mono (sel_same (x3.f.trans x5.f) (x3.g.trans x5.g))⟩, pf rfl⟩
    | true =>
      dsimp only
      rw [if_pos rfl]
      refine ⟨F5, G5, e5, _, _, R5, pt rfl, fun tk e6 F6 G6 H6 vk ⟨k, mk, ek, ⟨kk, hkk⟩, pv⟩ R6 x6 r6 n6 => ?_, fun c e' F' G' H' C z => z.elim⟩
      have e2k := keyK_of hkk
      subst e2k
      have rk : Rp X.K X.mg (sel mk G6 F6) vk (keyD kk) := by
        cases tk with
        | fz d n => cases ek; exact r6
        | ow d n =>
          cases ek
          obtain ⟨a, _, _, hc, _⟩ := r6
          rcases hc with ⟨_, _, z, _⟩ | ⟨_, _, z, _⟩ | ⟨_, _, z, _⟩ | ⟨_, _, _, _, _, z, _⟩ <;> (cases kk <;> cases z)
        | al i => cases ek
      have evk : vk = kV kk := keyV (H := H6) (.inl rk)
      subst evk
      refine ⟨F6, G6, e6, _, _, R6, pv, fun t e7 F7 G7 H7 vy ⟨y, ey, hl, off6, py⟩ R7 x7 r7 n7 => ?_, fun c e' F' G' H' C z => z.elim⟩
      obtain ⟨F8, G8, R8, x8, r8⟩ := RT.hold R7 x7 r7 n7
      obtain ⟨F9, G9, R9, x9, r9⟩ := RT.frz R8 r8 hold_ow ey
      have xx := x5.trans (x6.trans (x8.trans x9))
      obtain ⟨a1, a2, a4, a5, a6, a7⟩ := on R9 off6 xx
      have upF : Up F2 G2 F9 G9 := x3.up.trans xx.up
      obtain ⟨k1, k2⟩ := put_keys deq_key (k := kk) (r9.mono (sel_and' (n := an) R9.gf)) racc.1 ((racc.2.mono (sel_same upF.f upF.g)).mono (sel_and R9.gf))
      have hlen := congrArg List.length racc.1
      simp only [List.length_map] at hlen
      refine ⟨vacc, kk, rfl, a5, by rw [← hlen]; exact hl, F9, G9, y.2.2, _, an && y.2.1, _, ?_, ?_, off6, a4, upd_same, a6, a7, ⟨k1, k2⟩, py⟩
      · refine a1.next (.refl _) (.refl _) ?_ a1.gf a1.gn a1.fn (fun b ob => ⟨(a1.own_at ob).1, fun o eo => ?_⟩) (fun b o u h0 eo => ?_)
        · exact fun b o eb => by
            have : b ≠ D := fun z => by subst z; rw [a6] at eb; cases eb
            rw [upd_ne this]; exact a1.fh _ _ eb
        · have : b ≠ D := fun z => a7 (z ▸ ob)
          rw [upd_ne this]; exact eo
        · have : b ≠ D := fun z => by
            subst z
            rw [R1.h0 hD] at h0; cases h0
          rw [upd_ne this]; exact eo
      · refine ⟨a2.f, a2.g, fun b o eb nb => ?_, fun b o eb => ?_, a2.n, a2.o, a2.r, a2.l⟩
        · have : b ≠ D := fun z => by subst z; rw [hD] at eb; cases eb
          rw [upd_ne this]; exact a2.h b o eb nb
        · have : b ≠ D := fun z => by subst z; rw [hD] at eb; cases eb
          rw [upd_ne this]; exact a2.d b o eb
  · have e : i = items.length := by omega
    subst e
    rw [List.drop_length] at p2
    refine .inl ⟨it.stop _ H2 (x2.f.trans R2.fh) (Nat.le_refl _), ?_⟩
    have Ro := R1.out x2.up off R2
    have nD : ¬ Own σ (outE e1 (wipeE e2 vs) vs) D := fun z => by
      obtain ⟨_, u, e⟩ := R1.own_at (x2.o D z)
      rw [hD] at e; cases e
    have h0 : Z.H0 D = none := R1.h0 hD
    refine q _ _ F2 G2 H2 (.ref D) p2 Ro (x1.trans x2) ⟨D, rfl, hF2, .inr (.inl ⟨acc, vacc, rfl, hD2, racc.1, racc.2⟩), nD, h0⟩ ⟨D, rfl, ?_⟩
    cases eH : H D with
    | none => rfl
    | some o => obtain ⟨u, z⟩ := x1.d _ _ eH; rw [hD] at z; cases z
end
section
variable {X : Cx} {Z : Zx} {W : WX} {pos : Pos}
theorem d_dc {kx vx tg iter : Expr} {ifs : List Expr} {scope : Scope} {own : List (Str × Nat)} {w : DI} {g : DG} {tl : List Nat} {tt : DT} {tk tv : DW} (hc : X.calm = true) (hN : X.N.Nodup) (hi : DIe X Z W tg iter w) (ok : BlkOk X.N X.env.scope scope own)
    (hg : ∀ (s : Shared) (H : Hp) (C : Addr) (cl : List (Str × Addr)) (fp : List Addr), DGt (X.blk s H scope (compEnvC scope cl C X.env) fp) Z tg g tl)
    (ht : ∀ (s : Shared) (H : Hp) (C : Addr) (cl : List (Str × Addr)) (fp : List Addr), PTs (X.blk s H scope (compEnvC scope cl C X.env) fp) ifs (tDT X.K X.mg Z W0 tt))
    (hk : ∀ (s : Shared) (H : Hp) (C : Addr) (cl : List (Str × Addr)) (fp : List Addr), DE (X.blk s H scope (compEnvC scope cl C X.env) fp) Z W0 kx tk)
    (he : ∀ (s : Shared) (H : Hp) (C : Addr) (cl : List (Str × Addr)) (fp : List Addr), DE (X.blk s H scope (compEnvC scope cl C X.env) fp) Z W0 vx tv)
    (htl : ∀ i ∈ tl, i ∈ own.map (·.2) := by decide) (hs : ∀ x, foldedSetIterable iter X.env x = pure x := by intro _; rfl) : DE X Z W (.DictComp kx vx [⟨tg, iter, ifs, 0⟩] scope pos) (dDc w g tt tk tv (own.map (·.2))) :=
  PE.of (pe_dc hc hN hi ok hg ht hk he hs) fun σ H Q h => dc_imp htl (fun _ _ _ q => q) h
end
end DL

/-! DL20: code that is not reached; methods of texts; calls that only read their arguments. -/
namespace DL
open PySem PySem.Spec L2

/-! ### not reached -/
def dBad : DW := fun _ _ _ => False
def dBadT : DT := fun _ _ _ => False
def dBadS : DSt := fun _ _ => False
section
variable {X : Cx} {Z : Zx} {W : WX}
theorem d_bad {e : Expr} : DE X Z W e dBad := ⟨fun pins s σ H Q I ⟨_, _, _, _, _, _, z, _⟩ => z.elim⟩
theorem d_badT {e : Expr} : DTe X Z W e dBadT := ⟨fun pins s σ H Q I ⟨_, _, _, _, _, _, z, _⟩ => z.elim⟩
theorem s_bad {st : Stmt} : DS X Z W st dBadS := ⟨fun pins s σ H D I ⟨_, _, _, _, _, z, _⟩ => z.elim⟩
theorem s_bads {st : List Stmt} : DSs X Z W st dBadS := ⟨fun pins s σ H D I ⟨_, _, _, _, _, z, _⟩ => z.elim⟩
end

/-! ### methods that change nothing -/
def tyOk (T : String) (d : D) : Prop := match d with
  | .str _ => T = "str"
  | .list _ => T = "list"
  | .scr _ => T = "list"
  | .dict _ _ => T = "dict"
  | _ => False
theorem tyOk_v {K : PySem.W.Frag} {mg : Str → Option Value} {B H : Hp} {v : V} {d : D} {T : String} (h : Rv K mg B H v d) (s : Same B H) (e : tyOk T d) : tyV K T v H := by
  cases d with
  | str x => rw [h.str]; exact e
  | list xs => obtain ⟨a, vs, rfl, h1, _⟩ := h.list s; exact .inl ⟨e, vs, SqL.of h1⟩
  | scr xs => obtain ⟨a, vs, rfl, h1, _⟩ := h.scr; exact .inl ⟨e, vs, s.seq h1⟩
  | dict t kvs =>
    cases t with
    | false => obtain ⟨a, vs, rfl, h1, _⟩ := h.dictK s; exact .inr (.inr (.inl ⟨e, .inl ⟨vs, h1⟩⟩))
    | true => obtain ⟨a, vs, rfl, h1, _⟩ := h.dictT s; exact .inr (.inr (.inl ⟨e, .inr ⟨vs, h1⟩⟩))
  | _ => exact e.elim
abbrev FB := D × Bool → List (D × Bool) → (T → Prop) → Prop
def MtD (X : Cx) (id : String) (f : FB) : Prop := ∃ r : V → List V → Hp → VK → Prop, MtR X id r ∧
  ∀ (Z : Zx) (F G H : Hp) (σ : Sg) (env : DEnv) (v : V) (x : D × Bool) (vs : List V) (xs : List (D × Bool)) (P : T → Prop) (Q : VK),
    EnvR X.K X.mg Z F G H σ env → Rv X.K X.mg (sel x.2 G F) H v x.1 → RvL X.K X.mg F G H vs xs → f x xs P → After X Z F G H σ env P Q → r v vs H Q
def dBM (T : String) (f : FB) (w : DW) (wa : DA) : DW := fun env P E => w env (fun t e1 => (∃ d, rd e1 (hold t) = some d ∧ tyOk T d) ∧ wa e1 (fun ts e2 => ∃ x, rd e2 (hold t) = some x ∧ ∃ xs, rdL e2 ts = some xs ∧ f (x, rdn e2 (hold t)) xs fun t' => P t' e2) E) E
section
variable {X : Cx} {Z : Zx} {W : WX} {o e : Expr} {es : List Expr} {w : DW} {wa : DA} {f : FB} {T id : String} {name : Str} {apos cpos : Pos}
theorem d_bm (hf : MtD X id f) (pa : PlainAttrs T) (slot : PySem.Slot T name id) (hty : typeOf (.builtin id) = pure (.type "method_descriptor")) (ho : DE X Z W o w) (ha : DAr X Z W (e :: es) wa)
    (hbase : attributeBase o name X.env (eval o X.env) = eval o X.env := by rfl)
    (hfew : ((backTo cpos (starEach (e :: es) X.env)).all (fun x => !x.1) && (backToKw cpos (keywordEach [] X.env)).all (fun x => x.1.isSome) && decide ((e :: es).length + ([] : List Keyword).length + (if ([] : List Keyword).isEmpty then 0 else 1) < 30)) = true := by rfl)
    (hline : (apos.endLine == cpos.line) = true := by rfl) (hs : starEach (e :: es) X.env = (false, eval e X.env) :: starEach es X.env := by rfl) (hplain : (backTo cpos (starEach es X.env)).any (·.1) = false := by rfl) :
    DE X Z W (.Call (.Attribute o name apos) (e :: es) [] cpos) (dBM T f w wa) := by
  obtain ⟨r, hr, hk⟩ := hf
  refine PE.of (pe_bm pa slot hty hr ho ha hbase hfew hline hs hplain) fun σ H Q ⟨F, G, env, P, E, R, w, q, qe⟩ => ?_
  refine ⟨F, G, env, _, E, R, w, fun t e1 F1 G1 H1 v ⟨⟨d, ed, et⟩, p⟩ R1 x1 r1 n1 => ?_, qe⟩
  obtain ⟨F2, G2, R2, x2, r2⟩ := RT.hold R1 x1 r1 n1
  refine ⟨tyOk_v (RT.rv R2 r2 ed) R2.selH et, F2, G2, e1, _, E, R2, p, fun ts e3 F3 G3 H3 vs ⟨x, ex, xs, exs, p3⟩ R3 x3 r3 => ?_, qe⟩
  refine hk Z F3 G3 H3 σ e3 v (x, _) vs xs _ _ R3 (RT.rv R3 (RT.ext r2 hold_ow x3) ex) (RTs.rvL R3 r3 exs) p3 fun t F' G' H' v pt R' x' r' n' => ?_
  exact q t e3 F' G' H' v pt R' ((x2.trans x3).trans x') r' (newT_back (x2.trans x3).d n')
theorem d_bm0 (hf : MtD X id f) (pa : PlainAttrs T) (slot : PySem.Slot T name id) (hty : typeOf (.builtin id) = pure (.type "method_descriptor")) (ho : DE X Z W o w)
    (hbase : attributeBase o name X.env (eval o X.env) = eval o X.env := by rfl) (hline : (apos.endLine == cpos.line) = true := by rfl) : DE X Z W (.Call (.Attribute o name apos) [] [] cpos) (dBM T f w dNil) := by
  obtain ⟨r, hr, hk⟩ := hf
  refine PE.of (pe_bm0 pa slot hty hr ho hbase hline) fun σ H Q ⟨F, G, env, P, E, R, w, q, qe⟩ => ?_
  refine ⟨F, G, env, _, E, R, w, fun t e1 F1 G1 H1 v ⟨⟨d, ed, et⟩, x, ex, xs, exs, p3⟩ R1 x1 r1 n1 => ?_, qe⟩
  obtain ⟨F2, G2, R2, x2, r2⟩ := RT.hold R1 x1 r1 n1
  cases exs
  refine ⟨tyOk_v (RT.rv R2 r2 ed) R2.selH et, ?_⟩
  refine hk Z F2 G2 H1 σ e1 v (x, _) [] [] _ _ R2 (RT.rv R2 r2 ex) trivial p3 fun t F' G' H' v pt R' x' r' n' => ?_
  exact q t e1 F' G' H' v pt R' (x2.trans x') r' (newT_back x2.d n')
end
section
variable {X : Cx}
def fCount : FB := fun x xs P => ∃ a b n, x.1 = .str a ∧ xs = [(.str b, n)] ∧ P (dI (Txt.count a b))
theorem m_count : MtD X "str.count" fCount := by
  refine ⟨_, mt_count, fun Z F G H σ env v x vs xs P Q R h1 h2 ⟨a, b, n, e1, e2, p⟩ q => ?_⟩
  subst e2
  rw [e1] at h1
  obtain ⟨u, rfl, r⟩ := rvL1 h2
  exact ⟨a, b, h1.str, by rw [r.str], q _ F G H _ p R .refl (.int _) trivial⟩
def fIndex : FB := fun x xs P => ∃ a b n i rest, x.1 = .str a ∧ xs = [(.str b, n)] ∧ Builtin.Str.occurrences a b 0 a.length 1 = i :: rest ∧ P (dI (i : Nat))
theorem m_index : MtD X "str.index" fIndex := by
  refine ⟨_, mt_sindex, fun Z F G H σ env v x vs xs P Q R h1 h2 ⟨a, b, n, i, rest, e1, e2, e3, p⟩ q => ?_⟩
  subst e2
  rw [e1] at h1
  obtain ⟨u, rfl, r⟩ := rvL1 h2
  exact ⟨a, b, i, rest, h1.str, by rw [r.str], e3, q _ F G H _ p R .refl (.int _) trivial⟩
def fJoin : FB := fun x xs P => ∃ (a : Str) (d : D) (n : Bool) (ys : List Str), x.1 = .str a ∧ xs = [(d, n)] ∧ seqOf d = some (ys.map D.str) ∧ (ys.map (·.length)).sum + ys.length * a.length ≤ 16777216 ∧ P (dS (Txt.join a ys))
theorem m_join : MtD X "str.join" fJoin := by
  refine ⟨_, mt_join, fun Z F G H σ env v x vs xs P Q R h1 h2 ⟨a, d, n, ys, e1, e2, e3, hl, p⟩ q => ?_⟩
  subst e2
  rw [e1] at h1
  obtain ⟨u, rfl, r⟩ := rvL1 h2
  obtain ⟨b, ws, rfl, hs, rw'⟩ := r.seq R.selH e3
  rw [rps_strs rw'] at hs
  exact ⟨a, b, ys, h1.str, rfl, hs, hl, q _ F G H _ p R .refl (.str _) trivial⟩
end

/-! ### quiet: own objects are lent to be read -/
/-- own slots are hidden, those of js stand as data -/
def quiet (js : List Nat) : Nat → DEnv → DEnv
  | _, [] => []
  | i, .fz d _ :: e => .fz d false :: quiet js (i + 1) e
  | i, .un :: e => .un :: quiet js (i + 1) e
  | i, .ow d _ :: e => (if i ∈ js then .fz d false else .un) :: quiet js (i + 1) e
  | i, .io d :: e => (if i ∈ js then .fz d false else .un) :: quiet js (i + 1) e
/-- the result does not lean on what was lent -/
def quietT : T → Option T
  | .fz d n => if n || gnd d then some (.fz d true) else none
  | .ow d n => if n then some (.ow d true) else none
  | .al _ => none
def dQuiet (js : List Nat) (w : DW) : DW := fun env P E => w (quiet js 0 env) (fun t e => ∃ t', quietT t = some t' ∧ P t' env) (fun c _ => E c env)
theorem quiet_at {js : List Nat} : ∀ {e : DEnv} {k i : Nat} {s : Slot}, (quiet js k e)[i]? = some s → s = .un ∨ ∃ d, s = .fz d false ∧ ∃ s', e[i]? = some s' ∧ ((∃ n, s' = .fz d n) ∨ (k + i ∈ js ∧ ((∃ n, s' = .ow d n) ∨ s' = .io d)))
  | [], k, i, s, h => by simp [quiet] at h
  | c :: e, k, 0, s, h => by
    cases c with
    | un => simp [quiet] at h; exact .inl h.symm
    | fz d n => simp [quiet] at h; exact .inr ⟨d, h.symm, _, rfl, .inl ⟨n, rfl⟩⟩
    | ow d n =>
      simp [quiet] at h
      by_cases hk : k ∈ js
      · rw [if_pos hk] at h; exact .inr ⟨d, h.symm, _, rfl, .inr ⟨by simpa using hk, .inl ⟨n, rfl⟩⟩⟩
      · rw [if_neg hk] at h; exact .inl h.symm
    | io d =>
      simp [quiet] at h
      by_cases hk : k ∈ js
      · rw [if_pos hk] at h; exact .inr ⟨d, h.symm, _, rfl, .inr ⟨by simpa using hk, .inr rfl⟩⟩
      · rw [if_neg hk] at h; exact .inl h.symm
  | c :: e, k, i + 1, s, h => by
    have h' : (quiet js (k + 1) e)[i]? = some s := by cases c <;> simpa [quiet] using h
    have e1 : k + 1 + i = k + (i + 1) := by omega
    rcases quiet_at h' with z | ⟨d, z1, s', z2, z3⟩
    · exact .inl z
    · rw [e1] at z3
      exact .inr ⟨d, z1, s', by simpa using z2, z3⟩
theorem quiet_len {js : List Nat} : ∀ {e : DEnv} {k : Nat}, (quiet js k e).length = e.length
  | [], _ => rfl
  | c :: e, k => by cases c <;> simp [quiet, quiet_len (e := e)]
open Classical in
/-- the slots' own objects, laid over the frozen ones -/
noncomputable def overO (js : List Nat) (σ : Sg) (env : DEnv) (H F : Hp) : Hp := fun a => if (∃ i ∈ js, ∃ s, env[i]? = some s ∧ isOwn s = true ∧ σ[i]? = some (some (.ref a))) then H a else F a
section
variable {K : PySem.W.Frag} {mg : Str → Option Value} {Z : Zx} {F G H F1 G1 H1 : Hp} {σ : Sg} {env e1 : DEnv} {js : List Nat}
theorem EnvR.over (R : EnvR K mg Z F G H σ env) : Same F (overO js σ env H F) := fun a o e => by
  unfold overO
  split
  · rename_i h
    obtain ⟨i, _, s, h1, h2, h3⟩ := h
    exact R.fh _ _ e
  · exact e
theorem EnvR.quiet (R : EnvR K mg Z F G H σ env) : EnvR K mg ⟨[], H, overO js σ env H F⟩ (overO js σ env H F) (fun _ => none) H σ (DL.quiet js 0 env) := by
  have no : ∀ {i : Nat} {s : Slot}, (DL.quiet js 0 env)[i]? = some s → isOwn s = true → False := fun {i s} e o => by
    rcases quiet_at e with rfl | ⟨d, rfl, _⟩ <;> cases o
  refine ⟨fun a o e => ?_, fun b o e => (by have e' : (none : Option HO) = some o := e; cases e'), .refl _, fun b o e => (by have e' : (none : Option HO) = some o := e; cases e'), fun b o e k => ?_, fun b o e k => e, fun b o e => ⟨o, e⟩, ?_, fun i st e => ?_,
    fun i j st t a e1 o1 e2 o2 a1 a2 => (no e1 o1).elim, fun p hp => by simp at hp, fun p hp => by simp at hp⟩
  · unfold overO at e
    split at e
    · exact e
    · exact R.fh _ _ e
  · have k' : overO js σ env H F b = none := k
    rw [k'] at e; cases e
  · rw [quiet_len]; exact R.len
  · rcases quiet_at e with rfl | ⟨d, rfl, s', es, h⟩
    · trivial
    · have q := R.slot i s' es
      rw [Nat.zero_add] at h
      rcases h with ⟨n, rfl⟩ | ⟨hi, h⟩
      · obtain ⟨v, q1, q2⟩ := q
        exact ⟨v, q1, (q2.mono (sel_le R.gf)).mono R.over⟩
      · have go : ∀ {a : Addr} {B : Hp}, σ[i]? = some (some (.ref a)) → isOwn s' = true → Same B F → OwnC K mg B H a d → SlotOk K mg ⟨[], H, overO js σ env H F⟩ (overO js σ env H F) (fun _ => none) H σ i (.fz d false) := fun {a B} ea o s c => by
          obtain ⟨u, eu⟩ := c.there
          refine ⟨.ref a, ea, c.rp eu (s.trans R.over) ?_⟩
          show overO js σ env H F a = some u
          unfold overO
          rw [if_pos ⟨i, hi, s', es, o, ea⟩]
          exact eu
        rcases h with ⟨n, rfl⟩ | rfl
        · obtain ⟨a, q1, q2, q3, q4⟩ := q
          exact go q1 rfl (sel_le R.gf) q3
        · obtain ⟨a, q1, q2, q3, q4⟩ := q
          exact go q1 rfl (.refl _) q3
theorem EnvR.loud (R : EnvR K mg Z F G H σ env) (R1 : EnvR K mg ⟨[], H, overO js σ env H F⟩ F1 G1 H1 σ e1) : EnvR K mg Z (uni F G1) (uni G G1) H1 σ env ∧ Ext σ env env F G H (uni F G1) (uni G G1) H1 := by
  have gH : ∀ a o, G1 a = some o → H a = none := R1.gn
  have hH : ∀ a o, H a = some o → H1 a = some o := fun a o e => R1.frame a o e fun p hp => by simp at hp
  have fl : Same F (uni F G1) := uni_l fun a o e => snone R.fh (gH a o e)
  have gl : Same G (uni G G1) := uni_l fun a o e => snone R.gh (gH a o e)
  have fo : ∀ {a o}, uni F G1 a = some o → G1 a = some o ∨ F a = some o := fun {a o} e => by
    unfold uni at e
    cases q : G1 a with
    | some u => rw [q] at e; exact .inl e
    | none => rw [q] at e; exact .inr e
  refine ⟨R.next fl gl (fun a o e => ?_) (fun a o e => ?_) (fun a o e => ?_) (fun a o e k => ?_) (fun a ow => ⟨?_, hH a⟩) (fun a o u _ e => hH a o e), fl, gl, fun b o e _ => hH b o e, fun b o e => ⟨o, hH b o e⟩, fun b o e k _ => ?_, fun _ h => h, fun _ d h => ⟨d, h⟩, rfl⟩
  · rcases fo e with q | q
    · exact R1.gh _ _ q
    · exact hH _ _ (R.fh _ _ q)
  · unfold uni at e ⊢
    cases q : G1 a with
    | some u => rw [q] at e; exact e
    | none => rw [q] at e; exact R.gf _ _ e
  · unfold uni at e
    cases q : G1 a with
    | some u => exact R.h0 (gH a u q)
    | none => rw [q] at e; exact R.gn _ _ e
  · rcases fo e with q | q
    · exact R.h0 (gH a o q)
    · exact R.fn _ _ q k
  · obtain ⟨h1, u, h2⟩ := R.own_at ow
    cases q : uni F G1 a with
    | none => rfl
    | some o =>
      rcases fo q with q | q
      · rw [gH a o q] at h2; cases h2
      · rw [h1] at q; cases q
  · cases q : uni F G1 b with
    | none => rfl
    | some u =>
      rcases fo q with q | q
      · rw [gH b u q] at e; cases e
      · rw [k] at q; cases q
end
theorem quietT_new {t t' : T} {v : V} {H : Hp} (e : quietT t = some t') (n : NewT H v t) : NewT H v t' := by
  cases t' with
  | fz d m => trivial
  | al i => trivial
  | ow d m =>
    cases t with
    | al i => cases e
    | fz d m => by_cases hn : (m || gnd d) = true <;> simp [quietT, hn] at e
    | ow d' m' => exact n
section
variable {X : Cx} {Z : Zx} {W : WX} {e : Expr} {w : DW}
/-- own objects of the slots js are read as data, whatever e does; nothing of them stays -/
theorem d_quiet (js : List Nat) (h : ∀ Z', DE X Z' W e w) : DE X Z W e (dQuiet js w) := by
  refine ⟨fun pins s σ H Q I ⟨F, G, env, P, E, R, w, q, qe⟩ => ?_⟩
  refine (h ⟨[], H, overO js σ env H F⟩).run pins s σ H Q I ⟨overO js σ env H F, fun _ => none, DL.quiet js 0 env, _, _, R.quiet, w, fun t e1 F1 G1 H1 v ⟨t', et, p⟩ R1 x1 r1 n1 => ?_, fun c e1 F1 G1 H1 C p R1 hm => ?_⟩
  · obtain ⟨R2, x2⟩ := R.loud R1
    refine q t' env _ _ H1 v p R2 x2 ?_ ?_
    · cases t with
      | al i => cases et
      | fz d n =>
        unfold quietT at et
        have r : Rp X.K X.mg (sel n G1 F1) v d := r1
        by_cases hn : (n || gnd d) = true
        · simp only [hn, if_true, Option.some.injEq] at et
          subst et
          show Rp X.K X.mg (uni G G1) v d
          cases n with
          | true => exact Rp.mono uni_r r
          | false => exact r.gnd (by simpa using hn)
        · simp only [hn] at et
          cases et
      | ow d n =>
        unfold quietT at et
        cases n with
        | false => cases et
        | true =>
          cases et
          obtain ⟨a, rfl, h1, h2, h3, h4⟩ := r1
          have h4' : H a = none := h4
          refine ⟨a, rfl, ?_, h2.mono uni_r, fun z => ?_, R.h0 h4'⟩
          · cases z : uni F G1 a with
            | none => rfl
            | some u =>
              unfold uni at z
              cases y : G1 a with
              | some w => rw [R1.gf _ _ y] at h1; cases h1
              | none => rw [y] at z; rw [R.fh _ _ z] at h4'; cases h4'
          · obtain ⟨_, u, h5⟩ := R.own_at z
            rw [h4'] at h5; cases h5
    · exact quietT_new et n1
  · obtain ⟨R2, x2⟩ := R.loud R1
    exact qe c env _ _ H1 C p R2 hm
end
end DL

/-! DL21: what a law's printed text leans on. -/
namespace DL
open PySem PySem.Spec L2

theorem RoomG.u65 {k : Nat} {A : Around} (r : RoomG k A) : A.units + 65 < cLine := by have := r.r.un; omega
theorem RoomG.u64 {k : Nat} {A : Around} (r : RoomG k A) : A.units + 64 < cLine := by have := r.r.un; omega
theorem RoomG.u1 {k : Nat} {A : Around} (r : RoomG k A) : A.units + 1 < cLine := by have := r.r.un; omega
theorem RoomG.u0 {k : Nat} {A : Around} (r : RoomG k A) : A.units < cLine := by have := r.r.un; omega

abbrev fSub : F2 := fI (fun _ _ => True) fun i j => dI (i - j)
abbrev fFdv : F2 := fI CDivW fun i j => dI (i / j)
abbrev fMod : F2 := fI (fun _ j => 0 < j) fun i j => dI (i % j)
abbrev fPow : F2 := fI CPow fun i j => dI (i ^ j.toNat)
abbrev fShl : F2 := fI CPow fun i j => dI (i * 2 ^ j.toNat)
abbrev fShr : F2 := fI (fun _ j => 0 ≤ j) fun i j => dI (i / 2 ^ j.toNat)
abbrev fBan : F2 := fI (fun _ _ => True) fun i j => dI (Builtin.bitAnd i j)
abbrev fBor : F2 := fI (fun _ _ => True) fun i j => dI (Builtin.bitOr i j)
abbrev fLe : F2 := fOrd (fun i j => decide (i ≤ j)) fun i j => !decide (j.cps.toList < i.cps.toList)
abbrev fGt : F2 := fOrd (fun i j => decide (j < i)) fun i j => decide (j.cps.toList < i.cps.toList)
abbrev fGe : F2 := fOrd (fun i j => decide (j ≤ i)) fun i j => !decide (i.cps.toList < j.cps.toList)
abbrev fMin : FC := fII fun i j => if j < i then j else i
abbrev fMax : FC := fII fun i j => if j > i then j else i

/-- a def of the module that is called by its name -/
structure FD (P : Program) (w : World) (K : PySem.W.Frag) (mg : Str → Option Value) (base : Heap) (k : Nat) (x : Str) (n : Nat) (ms : List Bool) (Φ : DF) : Prop where
  ex : ∃ (f : Addr) (fd : FuncData) (ps : List Str), FnG P w K mg base k f fd ps (spD K mg ms Φ) ∧ mg x = some (.ref f) ∧ PySem.W.keepIn K (.ref f) = true ∧ Binds K fd ps [] ∧ ps.length = n
theorem FD.mono {P : Program} {w : World} {K : PySem.W.Frag} {mg : Str → Option Value} {base : Heap} {j k : Nat} {x : Str} {n : Nat} {ms : List Bool} {Φ : DF} (h : FD P w K mg base j x n ms Φ) (hk : j ≤ k) : FD P w K mg base k x n ms Φ := by
  obtain ⟨f, fd, ps, h1, h2⟩ := h.ex
  exact ⟨f, fd, ps, h1.mono hk, h2⟩
theorem FD.of {P : Program} {w : World} {K : PySem.W.Frag} {mg : Str → Option Value} {base : Heap} {k : Nat} {x : Str} {ms : List Bool} {Φ : DF} {f : Addr} {fd : FuncData} {ps : List Str} (F : FnG P w K mg base k f fd ps (spD K mg ms Φ)) (hm : mg x = some (.ref f)) (hk : PySem.W.keepIn K (.ref f) = true) (hb : Binds K fd ps []) : FD P w K mg base k x ps.length ms Φ :=
  ⟨f, fd, ps, F, hm, hk, hb, rfl⟩
section
variable {X : Cx} {Z : Zx} {W : WX} {pos p : Pos} {k n : Nat} {ms : List Bool} {Φ : DF} {x : Str} {e : Expr} {es : List Expr} {wa : DA}
theorem d_callF (C : FD X.prog X.w X.K X.mg X.base k x n ms Φ) (hr : RoomG k X.A) (tk : Takes X W) (ha : DAr X Z W (e :: es) wa) (hg : Gl X x := by rfl)
    (hdb : (x == ("__debug__" : Str)) = false := by decide) (he : starEach (e :: es) X.env = (false, eval e X.env) :: starEach es X.env := by rfl) (hpl : (backTo pos (starEach es X.env)).any (·.1) = false := by rfl) :
    DE X Z W (.Call (.Name x p) (e :: es) [] pos) (dCall ms Φ wa) := by
  obtain ⟨f, fd, ps, h1, h2, h3, h4, _⟩ := C.ex
  exact d_call h1 hr hg h2 h3 h4 tk ha hdb he hpl
/-- int and str constants of the module's top -/
def GInt (mg : Str → Option Value) (x : Str) (i : Int) : Prop := ∃ t, mg x = some (.int i t)
def GStr (mg : Str → Option Value) (x : Str) (z : Str) : Prop := ∃ t, mg x = some (.str z t)
theorem d_gint {i : Int} (h : GInt X.mg x i) (hg : Gl X x := by rfl) (hdb : (x == ("__debug__" : Str)) = false := by decide) : DE X Z W (.Name x pos) (dC (.int i)) := by
  obtain ⟨t, h⟩ := h
  exact d_glob (v := .int i) hg h ⟨t, rfl⟩ (fun _ => .int i) hdb
theorem d_gstr {z : Str} (h : GStr X.mg x z) (hg : Gl X x := by rfl) (hdb : (x == ("__debug__" : Str)) = false := by decide) : DE X Z W (.Name x pos) (dC (.str z)) := by
  obtain ⟨t, h⟩ := h
  exact d_glob (v := .str z) hg h ⟨t, rfl⟩ (fun _ => .str z) hdb
theorem pts_oneD {c : Expr} {tt : DT} (h : DTe X Z W0 c tt) : PTs X [c] (tDT X.K X.mg Z W0 tt) := pts_one h
end
/-- the law's promise -/
def Law (n : Nat) : DF := fun ds Q _ => ∃ ns : List Int, ns.length ≤ n ∧ ds = [.scr (ns.map .int)] ∧ Q (.fz (.bool true) true) []
theorem law_sp {K : PySem.W.Frag} {mg : Str → Option Value} {n : Nat} {H : Hp} {a : Addr} {ns : List Int} (hl : ns.length ≤ n) (hS : SqL K H a (ns.map V.int)) : spD K mg [false] (Law n) [.ref a] H (fun v _ => v = .bl true) fun _ _ _ => False := by
  refine ⟨H, [.scr (ns.map .int)], [], fun t _ => t = .fz (.bool true) true, fun _ _ => False, .refl _, .fz (.scr hS ints_rps) .nil, List.nodup_nil, ⟨ns, hl, rfl, rfl⟩, fun t dio F' G' H' v et b io r => ?_, fun _ _ _ _ _ _ z => z.elim⟩
  subst et
  exact Rp.bl' r
end DL

/-! DL22: texts backwards. -/
namespace DL
open PySem PySem.Spec PyProof.Rows L2
def revS (z : Str) : Str := ⟨z.cps.toList.reverse.toArray⟩
theorem picked_rev (z : Str) : (Builtin.Str.strSliceIndices none none (-1) z.length).filterMap (z.cps[·]?) = z.cps.toList.reverse := by
  unfold Builtin.Str.strSliceIndices
  show (sliceRange ((z.length : Int) - 1) (-1) (-1)).filterMap (z.cps[·]?) = _
  rw [PySem.W.krv_sliceRange, PySem.W.krv_range, List.filterMap_reverse]
  congr 1
  exact PySem.W.krv_all z.cps
section
variable {X : Cx} {Z : Zx} {W : WX} {pos p1 p2 p3 : Pos} {e : Expr} {w : DW} {k : Nat}
def tRevS (te : TE) : TE := fun σ H Q => te σ H fun x H1 => ∃ z, x = .str z ∧ z.length ≤ sizeLine ∧ Q (.str (revS z)) H1
theorem pe_revS {te : TE} (he : PE X e te) : PE X (.Subscript e (.Slice none none (some (.UnaryOp .USub (.Constant (.int 1) k p1) p2)) p3) pos) (tRevS te) := by
  refine ⟨fun pins s σ H Q I h => ?_⟩
  refine Subscript_ (thn (he.run pins s σ H _ I h) fun v s1 ⟨x, H1, I1, r1, z, ex, hz, q⟩ => ?_)
  subst ex
  obtain ⟨t, rfl⟩ := r1
  have one : PO X (some (.UnaryOp .USub (.Constant (.int 1) k p1) p2)) (tPart (tUn (rU fun i => .int (-i)) (tC (.int 1)))) := po_some (pe_un un_neg pe_int)
  refine wpAny_Slice (thn (po_none.run pins s1 σ H1 (fun o H2 => o = none ∧ H2 = H1) I1 ⟨rfl, rfl⟩) fun vl s2 ⟨l, H2, I2, pl, el, e2⟩ => ?_)
  subst el e2
  refine thn (po_none.run pins s2 σ H2 (fun o H3 => o = none ∧ H3 = H2) I2 ⟨rfl, rfl⟩) fun vu s3 ⟨u, H3, I3, pu, eu, e3⟩ => ?_
  subst eu e3
  refine thn (one.run pins s3 σ H3 (fun o H4 => o = some (-1) ∧ H4 = H3) I3 ⟨1, rfl, -1, rfl, rfl, rfl⟩) fun vs s4 ⟨o, H4, I4, ps, eo, e4⟩ => ?_
  subst eo e4
  have I5 : Inv X pins σ H4 { s4 with heap := s4.heap.push { cls := .type "slice", data := .fields #[vl, vu, vs] } } := I4.kept (t' := s4.toks) fun b ob q => Heap.get?_push_of_some _ q
  show wpAny (model X.prog X.w) X.A (subscriptTail e (.Slice none none (some (.UnaryOp .USub (.Constant (.int 1) k p1) p2)) p3) (.str z t) (.ref s4.heap.objs.size)) (EP X pins σ Q) X.xe { s4 with heap := s4.heap.push { cls := .type "slice", data := .fields #[vl, vu, vs] } }
  refine tail_any (ops := [.str z t, .ref s4.heap.objs.size]) (typeIs_str _ _ _) PySem.F.slot_str_getitem.lookup ?_ (by with_unfolding_all rfl)
  obtain ⟨l', rfl, el⟩ := IsPart.raw pl
  obtain ⟨u', rfl, eu⟩ := IsPart.raw pu
  obtain ⟨s', rfl, es⟩ := IsPart.raw ps
  obtain ⟨os, h1, h2, h3⟩ : ∃ os, _ := Heap.IsSliceOf.new s4.heap (partValue l') (partValue u') (partValue s')
  refine wpAny_getItem_str_slice (l := l') (u := u') (st := s') ⟨os, h1, h2, h3⟩ ?_ ?_
  · cases s' with
    | none => cases es
    | some p => obtain ⟨i, t'⟩ := p; cases es; rfl
  · have e1 : ((s'.map (·.1)).getD 1) = -1 := by rw [es]; rfl
    have e2 : slicePicked z l' u' s' = Builtin.Str.strSliceIndices none none (-1) z.length := by unfold slicePicked; rw [el, eu, e1]
    have e3 : sliceMade z t l' u' s' = Made.str (revS z) := by
      unfold sliceMade
      rw [e1, e2]
      rw [if_neg (by simp)]
      unfold revS
      rw [picked_rev]
    rw [e3]
    have hl : (revS z).length = z.length := by
      show z.cps.toList.reverse.toArray.size = z.cps.size
      simp
    exact ⟨by rw [hl]; exact hz, .str (revS z), H4, I5.tok _, ⟨_, rfl⟩, q⟩
def dRevS (w : DW) : DW := fun env P E => w env (fun t e => ∃ z n, t = .fz (.str z) n ∧ z.length ≤ sizeLine ∧ P (dS (revS z)) e) E
theorem d_revS (h : DE X Z W e w) : DE X Z W (.Subscript e (.Slice none none (some (.UnaryOp .USub (.Constant (.int 1) k p1) p2)) p3) pos) (dRevS w) := by
  refine PE.of (pe_revS h) fun σ H Q ⟨F, G, env, P, E, R, w, q, qe⟩ => ?_
  refine ⟨F, G, env, _, E, R, w, fun t e1 F1 G1 H1 v ⟨z, n, et, hz, p⟩ R1 x1 r1 n1 => ?_, qe⟩
  subst et
  cases (show Rp X.K X.mg _ v (.str z) from r1)
  exact ⟨z, rfl, hz, q _ _ _ _ _ _ p R1 x1 (.str _) trivial⟩
def dRevL (w : DW) : DW := fun env P E => w env (fun t e => ∃ x ds, rd e (hold t) = some x ∧ listOf x = some ds ∧ P (.ow (.list ds.reverse) (rdn e (hold t))) e) E
theorem d_revL (h : DE X Z W e w) : DE X Z W (.Subscript e (.Slice none none (some (.UnaryOp .USub (.Constant (.int 1) k p1) p2)) p3) pos) (dRevL w) := by
  refine PE.of (pe_revL h) fun σ H Q ⟨F, G, env, P, E, R, w, q, qe⟩ => ?_
  refine ⟨F, G, env, _, E, R, w, fun t e1 F1 G1 H1 v ⟨x, ds, ex, el, p⟩ R1 x1 r1 n1 => ?_, qe⟩
  obtain ⟨F2, G2, R2, x2, r2⟩ := RT.hold R1 x1 r1 n1
  obtain ⟨a, vs, rfl, h1, h2⟩ := (RT.rv R2 r2 ex).listL R2.selH el
  refine ⟨a, vs, rfl, h1, fun p' hp => ?_⟩
  obtain ⟨k1, k2, k3, k4⟩ := RT.newList R2 hp h2.rev
  exact q _ _ _ _ _ _ p k1 (x2.trans k2) k3 (newT_back x2.d k4)
end
end DL
namespace DL
open PySem PySem.Spec L2
/-! ### either of two readings -/
def dOrE (a b : DW) : DW := fun env P E => a env P E ∨ b env P E
def dOrI (a b : DI) : DI := fun env P E => a env P E ∨ b env P E
section
variable {X : Cx} {Z : Zx} {W : WX} {e tg : Expr}
theorem d_or {a b : DW} (ha : DE X Z W e a) (hb : DE X Z W e b) : DE X Z W e (dOrE a b) := ⟨fun pins s σ H Q I ⟨F, G, env, P, E, R, w, q⟩ => w.elim (fun w => ha.run pins s σ H Q I ⟨F, G, env, P, E, R, w, q⟩) fun w => hb.run pins s σ H Q I ⟨F, G, env, P, E, R, w, q⟩⟩
theorem i_or {a b : DI} (ha : DIe X Z W tg e a) (hb : DIe X Z W tg e b) : DIe X Z W tg e (dOrI a b) := ⟨fun pins s σ H Q I ⟨F, G, env, P, E, R, w, q⟩ => w.elim (fun w => ha.run pins s σ H Q I ⟨F, G, env, P, E, R, w, q⟩) fun w => hb.run pins s σ H Q I ⟨F, G, env, P, E, R, w, q⟩⟩
end
end DL
namespace DL
open PySem PySem.Spec L2
/-! ### text * int -/
def rMulS : R2 := fun x y H Q => ∃ z n, x = .str z ∧ y = .int n ∧ MulOk z n ∧ Q (.str (Txt.mul z n)) H
theorem op_mulS {X : Cx} : OpR X (binaryOp .Mult) rMulS := by
  intro pins s σ H x y v u Q I rx ry h
  obtain ⟨z, n, rfl, rfl, ok, q⟩ := h
  obtain ⟨t, rfl⟩ := rx
  obtain ⟨t', rfl⟩ := ry
  exact SB.mul ok fun t2 k => ⟨.str (Txt.mul z n), H, I.tok _, ⟨_, rfl⟩, q⟩
def fMulA : F2 := fun x y n m P => match x, y with
  | .str z, .int k => MulOk z k ∧ P (dS (Txt.mul z k))
  | x, y => fMul x y n m P
theorem o_mulA {X : Cx} : OpD X (binaryOp .Mult) fMulA := by
  obtain ⟨r, hr, hf⟩ := o_mul (X := X)
  refine ⟨_, OpR.or op_mulS hr, fun Z F G H σ env v1 v2 d1 d2 n1 n2 P Q R h1 h2 h q => ?_⟩
  unfold fMulA at h
  split at h
  · exact .inl ⟨_, _, h1.str, h2.int, h.1, q _ F G H _ h.2 R .refl (.str _) trivial⟩
  · exact .inr (hf Z F G H σ env v1 v2 _ _ n1 n2 P Q R h1 h2 h q)
end DL

/-! DL23: steps of a reading by trees. -/
namespace DL
open PySem PySem.Spec L2
/-- a comprehension over these items -/
def LcOk (g : DG) (tt : DT) (te : DW) (vs : List Nat) (n : Bool) (P : T → DEnv → Prop) (items : List D) (e0 : DEnv) : Prop :=
  offE e0 vs ∧ dLcL g tt te vs n (fun ds an e => P (.ow (.list ds) an) (outE e0 (wipeE e vs) vs)) (fun _ _ => False) items [] true e0
def DcOk (g : DG) (tt : DT) (tk tv : DW) (vs : List Nat) (n : Bool) (P : T → DEnv → Prop) (items : List D) (e0 : DEnv) : Prop :=
  offE e0 vs ∧ dDcL g tt tk tv vs n (fun ds an e => P (.ow (.dict false ds) an) (outE e0 (wipeE e vs) vs)) (fun _ _ => False) items [] true e0
section
variable {env e' : DEnv} {P : T → DEnv → Prop} {PB : Bool → DEnv → Prop} {PL : List T → DEnv → Prop} {PI : List D → Bool → DEnv → Prop} {PO : Option Int → DEnv → Prop} {E : Str → DEnv → Prop} {Ds : DEnds} {a b c : DSt} {w w2 w3 : DW} {ta tb : DT} {wa : DA} {i j : Nat} {t : T} {d : D} {f f' : F2} {fc : FC} {fb : FB} {wi : DI} {g : DG}
theorem x_seq (h : a env { Ds with nx := fun e => b e Ds }) : dSeq a b env Ds := h
theorem x_skip (h : Ds.nx env) : dSkip env Ds := h
theorem x_brk (h : Ds.bk env) : dBrk env Ds := h
theorem x_cnt (h : Ds.ct env) : dCnt env Ds := h
theorem x_exp (h : w env (fun _ e => Ds.nx e) Ds.ex) : dExp w env Ds := h
theorem x_ret (h : w env (fun t e => ∃ t', retT e t = some t' ∧ Ds.rt t' e) Ds.ex) : dRet w env Ds := h
theorem x_retN (h : Ds.rt (.fz .none true) env) : dRetN env Ds := h
theorem x_if (h : ta env (fun k e => (k = true → a e Ds) ∧ (k = false → b e Ds)) Ds.ex) : dIf ta a b env Ds := h
theorem x_set (h : w env (fun t e => ∃ e', setS e i t = some e' ∧ Ds.nx e') Ds.ex) : dSet i w env Ds := h
theorem x_setI (h : w2 env (fun tv e1 => (∃ s, ownS e1 j = some s) ∧ w e1 (fun tk e2 => ∃ x, frz1 e2 (hold tv) = some x ∧ ∃ c n k, ownS x.2.2 j = some (c, n) ∧ rd x.2.2 (hold tk) = some k ∧
  fSetI c k x.1 (n && x.2.1) fun c' n' => Ds.nx (mutS x.2.2 j c' n')) Ds.ex) Ds.ex) : dSetI j w w2 env Ds := h
theorem x_for (h : wi env (fun items n e => dForL g b n items e Ds) Ds.ex) : dFor wi g b env Ds := h
theorem x_unp (h : w env (fun t e => ∃ x, frz1 e (hold t) = some x ∧ ∃ e', g x.1 x.2.1 x.2.2 = some e' ∧ Ds.nx e') Ds.ex) : dUnp g w env Ds := h
theorem x_par (h : wa env (fun ts e => ∃ d n d' n', ts = [.fz d n, .fz d' n'] ∧ ∃ e1, setS e i (.fz d n) = some e1 ∧ ∃ e2, setS e1 j (.fz d' n') = some e2 ∧ Ds.nx e2) Ds.ex) : dPar i j wa env Ds := h
theorem x_augN (e1 : lookT env i = some t) (h : w env (fun te e1 => ∃ x y, rd e1 t = some x ∧ rd e1 (hold te) = some y ∧ f x y (rdn e1 t) (rdn e1 (hold te)) fun t' => ∃ e', setS e1 i t' = some e' ∧ Ds.nx e') Ds.ex) : dAugN i f w env Ds := ⟨t, e1, h⟩
theorem x_c (h : P (.fz d true) env) : dC d env P E := h
theorem x_var (e1 : lookT env i = some t) (h : P t env) : dVar i env P E := ⟨t, e1, h⟩
theorem x_op (h : w env (fun ta env1 => w2 env1 (fun tb env2 => ∃ x y, rd env2 (hold ta) = some x ∧ rd env2 (hold tb) = some y ∧ f x y (rdn env2 (hold ta)) (rdn env2 (hold tb)) fun t => P t env2) E) E) : dOp f w w2 env P E := h
theorem x_rd2 {x y : D} {ea eb : Option D} {R : D → D → Prop} (e1 : ea = some x) (e2 : eb = some y) (h : R x y) : ∃ x y, ea = some x ∧ eb = some y ∧ R x y := ⟨x, y, e1, e2, h⟩
theorem x_ex {α : Type} {x : α} {ea : Option α} {R : α → Prop} (e1 : ea = some x) (h : R x) : ∃ x, ea = some x ∧ R x := ⟨x, e1, h⟩
theorem x_tb (h : w env (fun t env1 => ∃ b n, t = .fz (.bool b) n ∧ PB b env1) E) : dTB w env PB E := h
theorem x_andT (h : ta env (fun c env1 => (c = true → tb env1 PB E) ∧ (c = false → PB false env1)) E) : dAndT ta tb env PB E := h
theorem x_orT (h : ta env (fun c env1 => (c = true → PB true env1) ∧ (c = false → tb env1 PB E)) E) : dOrT ta tb env PB E := h
theorem x_notT (h : ta env (fun c env1 => PB (!c) env1) E) : dNotT ta env PB E := h
theorem x_andV (h : w env (fun t env1 => ∃ c n, t = .fz (.bool c) n ∧ (c = true → w2 env1 P E) ∧ (c = false → P (dB false) env1)) E) : dAndV w w2 env P E := h
theorem x_orV (h : w env (fun t env1 => ∃ c n, t = .fz (.bool c) n ∧ (c = true → P (dB true) env1) ∧ (c = false → w2 env1 P E)) E) : dOrV w w2 env P E := h
theorem x_notV (h : w env (fun t env1 => ∃ c n, t = .fz (.bool c) n ∧ P (dB (!c)) env1) E) : dNotV w env P E := h
theorem x_ife (h : ta env (fun k env1 => (k = true → w env1 P E) ∧ (k = false → w2 env1 P E)) E) : dIfE ta w w2 env P E := h
theorem x_neg (h : w env (fun t env1 => ∃ i n, t = .fz (.int i) n ∧ P (dI (-i)) env1) E) : dNeg w env P E := h
theorem x_chain (h : w env (fun ta env1 => w2 env1 (fun tb env2 => ∃ x y, rd env2 (hold ta) = some x ∧ rd env2 (hold tb) = some y ∧
  f x y (rdn env2 (hold ta)) (rdn env2 (hold tb)) fun t => ∃ k n, t = .fz (.bool k) n ∧ (k = true → w3 env2 (fun tc env3 => ∃ y' z, rd env3 (hold tb) = some y' ∧ rd env3 (hold tc) = some z ∧
    f' y' z (rdn env3 (hold tb)) (rdn env3 (hold tc)) fun t' => P t' env3) E) ∧ (k = false → P (dB false) env2)) E) E) : dChain f f' w w2 w3 env P E := h
theorem x_nil (h : PL [] env) : dNil env PL E := h
theorem x_cons (h : w env (fun t env1 => wa env1 (fun ts env2 => PL (hold t :: ts) env2) E) E) : dCons w wa env PL E := h
theorem x_tup (h : wa env (fun ts env1 => ∃ x, frzL env1 ts = some x ∧ x.1.length ≤ sizeLine ∧ P (.fz (.tuple x.1) x.2.1) x.2.2) E) : dTup wa env P E := h
theorem x_lst (h : wa env (fun ts env1 => ∃ x, frzL env1 ts = some x ∧ x.1.length ≤ sizeLine ∧ P (.ow (.list x.1) x.2.1) x.2.2) E) : dLst wa env P E := h
theorem x_cb (h : wa env (fun ts e => ∃ xs, rdL e ts = some xs ∧ fc xs fun t => P t e) E) : dCB fc wa env P E := h
theorem x_call {ms : List Bool} {Φ : DF} (h : wa env (fun ts e => callK ms Φ ts e P E) E) : dCall ms Φ wa env P E := h
theorem x_callK {ms : List Bool} {Φ : DF} {ts : List T} {e1 : DEnv} {x : List D × List Nat} (h1 : frzM env ms ts = some e1) (h2 : argM e1 ms ts = some x) (h3 : x.2.Nodup) (h : Φ x.1 (fun t dio => P t (setT e1 x.2 dio)) (fun c dio => E c (setT e1 x.2 dio))) : callK ms Φ ts env P E := ⟨e1, h1, x, h2, h3, h⟩
theorem x_isi {C : String} (h : w env (fun t e => ∃ d, rd e (hold t) = some d ∧ ∃ k, tyN d = some k ∧ P (dB (isiN k C)) e) E) : dIsi C w env P E := h
theorem x_bm {T' : String} (h : w env (fun t e1 => (∃ d, rd e1 (hold t) = some d ∧ tyOk T' d) ∧ wa e1 (fun ts e2 => ∃ x, rd e2 (hold t) = some x ∧ ∃ xs, rdL e2 ts = some xs ∧ fb (x, rdn e2 (hold t)) xs fun t' => P t' e2) E) E) : dBM T' fb w wa env P E := h
theorem x_sl {lo hi : DO} (h : w env (fun t env1 => lo env1 (fun l env2 => hi env2 (fun u env3 => ∃ x, rd env3 (hold t) = some x ∧ fSl x l u (rdn env3 (hold t)) fun t' => P t' env3) E) E) E) : dSl w lo hi env P E := h
theorem x_no (h : PO none env) : dNo env PO E := h
theorem x_pt (h : w env (fun t env1 => ∃ i n, t = .fz (.int i) n ∧ PO (some i) env1) E) : dPt w env PO E := h
theorem x_it (h : w env (fun t e => ∃ x, frz1 e (hold t) = some x ∧ ∃ ds, itemsOf x.1 = some ds ∧ PI ds x.2.1 x.2.2) E) : dIt w env PI E := h
theorem x_range (h : wa env (fun ts e => (∃ j n, ts = [.fz (.int j) n] ∧ -(2 ^ 62) ≤ j ∧ j < 2 ^ 62 ∧ PI (rangeD 0 j.toNat) true e)) E) : dRange wa env PI E := h
theorem x_range2 (h : wa env (fun ts e => (∃ i n j m, ts = [.fz (.int i) n, .fz (.int j) m] ∧ (-(2 ^ 62) ≤ i ∧ i < 2 ^ 62 ∧ -(2 ^ 62) ≤ j ∧ j < 2 ^ 62) ∧ PI (rangeD i (j - i).toNat) true e)) E) : dRange2 wa env PI E := h
theorem x_lc {tt : DT} {te : DW} {vs : List Nat} (h : wi env (fun items n e0 => LcOk g tt te vs n P items e0) E) : dLc wi g tt te vs env P E := h
theorem x_dc {tt : DT} {tk tv : DW} {vs : List Nat} (h : wi env (fun items n e0 => DcOk g tt tk tv vs n P items e0) E) : dDc wi g tt tk tv vs env P E := h
theorem x_mut {f : FM} {ds : List D} {n : Bool} (h0 : ownS env j = some (.list ds, n)) (h : wa env (fun ts e1 => ∃ x, frzL e1 ts = some x ∧ ∃ ds n, ownS x.2.2 j = some (.list ds, n) ∧ f ds x.1 n x.2.1 fun ds' n' d => P (.fz d n') (mutS x.2.2 j (.list ds') n')) E) : dMut j f wa env P E := ⟨⟨ds, n, h0⟩, h⟩
theorem x_quiet {js : List Nat} (h : w (quiet js 0 env) (fun t e => ∃ t', quietT t = some t' ∧ P t' env) (fun c _ => E c env)) : dQuiet js w env P E := h
theorem x_revS (h : w env (fun t e => ∃ z n, t = .fz (.str z) n ∧ z.length ≤ sizeLine ∧ P (dS (revS z)) e) E) : dOrE (dRevS w) (dRevL w2) env P E := .inl h
theorem x_bool {k m : Bool} {R : Bool → Prop} (h : R k) : ∃ b n, T.fz (.bool k) m = T.fz (.bool b) n ∧ R b := ⟨k, m, rfl, h⟩
theorem x_t {p q : Prop} (h : p) : (true = true → p) ∧ (true = false → q) := ⟨fun _ => h, fun z => nomatch z⟩
theorem x_f {p q : Prop} (h : q) : (false = true → p) ∧ (false = false → q) := ⟨fun z => (nomatch z), fun _ => h⟩
theorem x_addI {i j : Int} {n m : Bool} {R : T → Prop} (h : R (dI (i + j))) : fAdd (.int i) (.int j) n m R := h
theorem x_addA {i j : Int} {n m : Bool} {R : T → Prop} (h : R (dI (i + j))) : fAddA (.int i) (.int j) n m R := h
theorem x_fI {C : Int → Int → Prop} {k : Int → Int → T} {i j : Int} {n m : Bool} {R : T → Prop} (hc : C i j) (h : R (k i j)) : fI C k (.int i) (.int j) n m R := ⟨i, j, rfl, rfl, hc, h⟩
theorem x_fI0 {k : Int → Int → T} {i j : Int} {n m : Bool} {R : T → Prop} (h : R (k i j)) : fI (fun _ _ => True) k (.int i) (.int j) n m R := ⟨i, j, rfl, rfl, trivial, h⟩
theorem x_mulI {i j : Int} {n m : Bool} {R : T → Prop} (hc : CMulW i j) (h : R (dI (i * j))) : fMulA (.int i) (.int j) n m R := ⟨hc, h⟩
theorem x_mulS {z : Str} {k : Int} {n m : Bool} {R : T → Prop} (hc : MulOk z k) (h : R (dS (Txt.mul z k))) : fMulA (.str z) (.int k) n m R := ⟨hc, h⟩
theorem x_ltI {i j : Int} {n m : Bool} {R : T → Prop} (h : R (dB (decide (i < j)))) : fLt (.int i) (.int j) n m R := h
theorem x_ordI {k : Int → Int → Bool} {ks : Str → Str → Bool} {i j : Int} {n m : Bool} {R : T → Prop} (h : R (dB (k i j))) : fOrd k ks (.int i) (.int j) n m R := h
theorem x_eqI {i j : Int} {n m : Bool} {R : T → Prop} (h : R (dB (decide (i = j)))) : fEq (.int i) (.int j) n m R := by
  refine ⟨rfl, rfl, ?_⟩
  have e : deq (.int i) (.int j) = decide (i = j) := by
    first | rfl | (unfold deq; simp [D.pd, PyData.eqv])
  rw [e]; exact h
theorem x_ixL {ds : List D} {i : Int} {d : D} {n m : Bool} {R : T → Prop} (e : atI ds i = some d) (h : R (.fz d n)) : fIx (.list ds) (.int i) n m R := ⟨ds, d, rfl, e, h⟩
theorem x_ixT {ds : List D} {i : Int} {d : D} {n m : Bool} {R : T → Prop} (e : atI ds i = some d) (h : R (.fz d n)) : fIx (.tuple ds) (.int i) n m R := ⟨ds, d, rfl, e, h⟩
theorem x_ixC {ds : List D} {i : Int} {d : D} {n m : Bool} {R : T → Prop} (e : atI ds i = some d) (h : R (.fz d n)) : fIx (.scr ds) (.int i) n m R := ⟨ds, d, rfl, e, h⟩
theorem x_ixS {z : Str} {i : Int} {c : Nat} {n m : Bool} {R : T → Prop} (hl : z.length ≤ sizeLine) (e : atI z.cps.toList i = some c) (h : R (dS ⟨#[c]⟩)) : fIx (.str z) (.int i) n m R := ⟨c, hl, e, h⟩
theorem x_ixD {t : Bool} {ds : List (D × D)} {k d : D} {n m : Bool} {R : T → Prop} (hf : fitK t k) (e : dget ds k = some d) (h : R (.fz d n)) : fIx (.dict t ds) k n m R := ⟨hf, d, e, h⟩
theorem x_lenL {ds : List D} {n : Bool} {R : T → Prop} (h : R (dI (ds.length : Nat))) : fLen [(.list ds, n)] R := ⟨_, _, rfl, .inl ⟨_, rfl, h⟩⟩
theorem x_lenC {ds : List D} {n : Bool} {R : T → Prop} (h : R (dI (ds.length : Nat))) : fLen [(.scr ds, n)] R := ⟨_, _, rfl, .inl ⟨_, rfl, h⟩⟩
theorem x_lenT {ds : List D} {n : Bool} {R : T → Prop} (h : R (dI (ds.length : Nat))) : fLen [(.tuple ds, n)] R := ⟨_, _, rfl, .inl ⟨_, rfl, h⟩⟩
theorem x_lenS {z : Str} {n : Bool} {R : T → Prop} (hl : z.length ≤ sizeLine) (h : R (dI (z.length : Nat))) : fLen [(.str z, n)] R := ⟨_, _, rfl, .inr ⟨z, rfl, hl, h⟩⟩
theorem x_II {k : Int → Int → Int} {i j : Int} {n m : Bool} {R : T → Prop} (h : R (dI (k i j))) : fII k [(.int i, n), (.int j, m)] R := ⟨i, n, j, m, rfl, h⟩
theorem x_setL {ds : List D} {i : Int} {d : D} {n : Bool} {R : D → Bool → Prop} {idx : Nat} (e : ixN ds.length i = some idx) (h : R (.list (ds.set idx d)) n) : fSetI (.list ds) (.int i) d n R := ⟨i, idx, rfl, e, h⟩
end
end DL
namespace DL
open PySem PySem.Spec L2
theorem log2_le {n k : Nat} (h : n < 2 ^ (k + 1)) : n.log2 ≤ k := by
  rcases Nat.eq_zero_or_pos n with rfl | hp
  · simp
  · have := (Nat.log2_lt (by omega : n ≠ 0) (k := k + 1)).mpr h
    omega
/-- * of factors of at most 200 bits -/
theorem cmul {i j : Int} (h1 : -(2 ^ 200) < i) (h2 : i < 2 ^ 200) (h3 : -(2 ^ 200) < j) (h4 : j < 2 ^ 200) : CMulW i j := by
  unfold CMulW
  have e1 : i.natAbs < 2 ^ (199 + 1) := by omega
  have e2 : j.natAbs < 2 ^ (199 + 1) := by omega
  have := log2_le e1
  have := log2_le e2
  omega
end DL
namespace DL
open PySem PySem.Spec L2
theorem cdiv {i j : Int} (h1 : 0 < j) (h2 : j < 2 ^ 200) : CDivW i j := by
  refine ⟨h1, ?_⟩
  have e : j.natAbs < 2 ^ (199 + 1) := by omega
  have := log2_le e
  omega
end DL
namespace DL
open PySem PySem.Spec L2
theorem x_boolB {k : Bool} {R : Bool → Prop} (h : R k) : ∃ b n, dB k = T.fz (.bool b) n ∧ R b := ⟨k, true, rfl, h⟩
theorem x_int {i : Int} {m : Bool} {R : Int → Prop} (h : R i) : ∃ j n, T.fz (.int i) m = T.fz (.int j) n ∧ R j := ⟨i, m, rfl, h⟩
theorem x_intI {i : Int} {R : Int → Prop} (h : R i) : ∃ j n, dI i = T.fz (.int j) n ∧ R j := ⟨i, true, rfl, h⟩
theorem x_strS {z : Str} {m : Bool} {R : Str → Prop} (h : R z) : ∃ y n, T.fz (.str z) m = T.fz (.str y) n ∧ R y := ⟨z, m, rfl, h⟩
theorem x_strD {z : Str} {R : Str → Prop} (h : R z) : ∃ y n, dS z = T.fz (.str y) n ∧ R y := ⟨z, true, rfl, h⟩
theorem x_some {α : Type} {x y : α} {ea : Option α} {R : α → Prop} (e : ea = some x) (h : R x) : ∃ x, ea = some x ∧ R x := ⟨x, e, h⟩
/-- a test whose answer is not known -/
theorem x_dec {c : Prop} [Decidable c] {p q : Prop} (h1 : c → p) (h2 : ¬ c → q) : (decide c = true → p) ∧ (decide c = false → q) := ⟨fun z => h1 (of_decide_eq_true z), fun z => h2 (of_decide_eq_false z)⟩
theorem x_decN {c : Prop} [Decidable c] {p q : Prop} (h1 : ¬ c → p) (h2 : c → q) : ((!decide c) = true → p) ∧ ((!decide c) = false → q) := ⟨fun z => h1 (by simpa using z), fun z => h2 (by simpa using z)⟩
end DL
namespace DL
open PySem PySem.Spec L2
theorem x_own {α : Type} {s : α} {ea : Option α} {p : Prop} (e : ea = some s) (h : p) : (∃ s, ea = some s) ∧ p := ⟨⟨s, e⟩, h⟩
theorem x_set3 {c k : D} {n : Bool} {ea : Option (D × Bool)} {eb : Option D} {R : D → Bool → D → Prop} (e1 : ea = some (c, n)) (e2 : eb = some k) (h : R c n k) : ∃ c n k, ea = some (c, n) ∧ eb = some k ∧ R c n k := ⟨c, n, k, e1, e2, h⟩
theorem x_own2 {ds : List D} {n : Bool} {ea : Option (D × Bool)} {R : List D → Bool → Prop} (e1 : ea = some (.list ds, n)) (h : R ds n) : ∃ ds n, ea = some (.list ds, n) ∧ R ds n := ⟨ds, n, e1, h⟩
theorem x_ty {p q : Prop} (h1 : p) (h : q) : p ∧ q := ⟨h1, h⟩
end DL
namespace DL
open PySem PySem.Spec L2
theorem x_nd {l : List Nat} {p : Prop} (h1 : l.Nodup) (h : p) : l.Nodup ∧ p := ⟨h1, h⟩
end DL
namespace DL
open PySem PySem.Spec L2
theorem x_p18 {n m : Bool} {R : T → Prop} (h : R (dI 1000000000000000000)) : fPow (.int 10) (.int 18) n m R :=
  ⟨10, 18, rfl, rfl, ⟨by decide, by decide, by decide⟩, by
    have e : (10 : Int) ^ (18 : Int).toNat = 1000000000000000000 := by decide
    show R (dI ((10 : Int) ^ (18 : Int).toNat))
    rw [e]; exact h⟩
end DL
namespace DL
open PySem PySem.Spec L2
theorem x_tt {k : Bool} {p q : Prop} (e : k = true) (h : p) : (k = true → p) ∧ (k = false → q) := ⟨fun _ => h, fun z => by rw [e] at z; cases z⟩
theorem x_ff {k : Bool} {p q : Prop} (e : k = false) (h : q) : (k = true → p) ∧ (k = false → q) := ⟨fun z => (by rw [e] at z; cases z), fun _ => h⟩
end DL
namespace DL
open PySem PySem.Spec L2
theorem x_while {c : DT} {b : DSt} {env : DEnv} {Ds : DEnds} (I : Nat → DEnv → Prop) (m0 : Nat) (h0 : I m0 env) (h : ∀ m e, I m e → c e (fun k e1 => (k = true → b e1 { Ds with nx := fun e' => ∃ m', m' < m ∧ I m' e', ct := fun e' => ∃ m', m' < m ∧ I m' e', bk := Ds.nx }) ∧ (k = false → Ds.nx e1)) Ds.ex) : dWhile c b env Ds := ⟨I, m0, h0, h⟩
theorem x_enumS {wa : DA} {w2 : DI} {env : DEnv} {P : List D → Bool → DEnv → Prop} {E : Str → DEnv → Prop} (h : wa env (fun ts e => ∃ z n, ts = [.fz (.str z) n] ∧ P (enumD 0 (z.cps.toList.map fun c => .str ⟨#[c]⟩)) true e) E) : dOrI w2 (dEnumS wa) env P E := .inr h
theorem x_enumL {wa : DA} {w2 : DI} {env : DEnv} {P : List D → Bool → DEnv → Prop} {E : Str → DEnv → Prop} (h : wa env (fun ts e => ∃ x n e', frzL e ts = some ([x], n, e') ∧ ∃ xs, kindSeq x = some (false, xs) ∧ P (enumD 0 xs) n e') E) : dOrI (dEnum wa) w2 env P E := .inl h
theorem x_chr {z : Str} {c : Nat} {neg n m : Bool} {R : T → Prop} (h : R (dB (neg != decide (c ∈ z.cps.toList)))) : fIn neg (.str ⟨#[c]⟩) (.str z) n m R := ⟨c, rfl, h⟩
theorem x_cnt1 {z y : Str} {n m : Bool} {R : T → Prop} (h : R (dI (Txt.count z y))) : fCount (.str z, n) [(.str y, m)] R := ⟨z, y, m, rfl, rfl, h⟩
end DL
namespace DL
open PySem PySem.Spec L2
theorem setT0 (env : DEnv) : setT env [] [] = env := rfl
end DL

/-! DL24: loops and comprehensions by an invariant. -/
namespace DL
open PySem PySem.Spec L2
theorem for_ind {g : DG} {b : DSt} {n : Bool} {D' : DEnds} (I : List D → DEnv → Prop) (step : ∀ x xs e (K : DEnv → Prop), I (x :: xs) e → (∀ e', I xs e' → K e') → ∃ e1, g x n e = some e1 ∧ b e1 { D' with nx := K, ct := K, bk := D'.nx }) (done : ∀ e, I [] e → D'.nx e) :
    ∀ {items : List D} {env : DEnv}, I items env → dForL g b n items env D'
  | [], env, h => done env h
  | x :: xs, env, h => step x xs env _ h fun e' h' => for_ind I step done h'
theorem lc_ind {g : DG} {tt : DT} {te : DW} {vs : List Nat} {n : Bool} {P : List D → Bool → DEnv → Prop} {E : Str → DEnv → Prop} (I : List D → List D → Bool → DEnv → Prop)
    (step : ∀ x xs acc an e (K : D → Bool → DEnv → Prop) (K2 : DEnv → Prop), I (x :: xs) acc an e → (∀ d m e', acc.length < sizeLine → offE e' vs → I xs (acc ++ [d]) (an && m) e' → K d m e') → (∀ e', I xs acc an e' → K2 e') →
      ∃ e1, g x n (wipeE e vs) = some e1 ∧ tt e1 (fun b e2 => offE e2 vs ∧ (b = true → te e2 (fun t e3 => ∃ y, frz1 e3 (hold t) = some y ∧ K y.1 y.2.1 y.2.2) E) ∧ (b = false → K2 e2)) E)
    (done : ∀ acc an e, I [] acc an e → P acc an e) : ∀ {items acc : List D} {an : Bool} {env : DEnv}, I items acc an env → dLcL g tt te vs n P E items acc an env
  | [], acc, an, env, h => done acc an env h
  | x :: xs, acc, an, env, h => step x xs acc an env (fun d m e' => acc.length < sizeLine ∧ offE e' vs ∧ dLcL g tt te vs n P E xs (acc ++ [d]) (an && m) e') (fun e' => dLcL g tt te vs n P E xs acc an e') h
    (fun d m e' h1 h2 h3 => ⟨h1, h2, lc_ind I step done h3⟩) fun e' h' => lc_ind I step done h'
theorem dc_ind {g : DG} {tt : DT} {tk tv : DW} {vs : List Nat} {n : Bool} {P : List (D × D) → Bool → DEnv → Prop} {E : Str → DEnv → Prop} (I : List D → List (D × D) → Bool → DEnv → Prop)
    (step : ∀ x xs acc an e (K : D → D → Bool → DEnv → Prop) (K2 : DEnv → Prop), I (x :: xs) acc an e → (∀ k d m e', acc.length < sizeLine → offE e' vs → I xs (dput acc k d) (an && m) e' → K k d m e') → (∀ e', I xs acc an e' → K2 e') →
      ∃ e1, g x n (wipeE e vs) = some e1 ∧ tt e1 (fun b e2 => offE e2 vs ∧ (b = true → tk e2 (fun t e3 => ∃ k m, hold t = .fz k m ∧ (∃ kk, keyK k = some kk) ∧ tv e3 (fun t' e4 => ∃ y, frz1 e4 (hold t') = some y ∧ K k y.1 y.2.1 y.2.2) E) E) ∧ (b = false → K2 e2)) E)
    (done : ∀ acc an e, I [] acc an e → P acc an e) : ∀ {items : List D} {acc : List (D × D)} {an : Bool} {env : DEnv}, I items acc an env → dDcL g tt tk tv vs n P E items acc an env
  | [], acc, an, env, h => done acc an env h
  | x :: xs, acc, an, env, h => step x xs acc an env (fun k d m e' => acc.length < sizeLine ∧ offE e' vs ∧ dDcL g tt tk tv vs n P E xs (dput acc k d) (an && m) e') (fun e' => dDcL g tt tk tv vs n P E xs acc an e') h
    (fun k d m e' h1 h2 h3 => ⟨h1, h2, dc_ind I step done h3⟩) fun e' h' => dc_ind I step done h'

theorem off1 {e : DEnv} {v : Nat} {s : Slot} (h : e[v]? = some s) (o : isOwn s = false) : offE e [v] := fun w hw => by
  rw [List.mem_singleton.mp hw]
  exact ⟨s, h, o⟩
theorem off2 {e : DEnv} {v w : Nat} {s t : Slot} (h : e[v]? = some s) (o : isOwn s = false) (h' : e[w]? = some t) (o' : isOwn t = false) : offE e [v, w] := fun x hx => by
  rcases List.mem_cons.mp hx with rfl | hx
  · exact ⟨s, h, o⟩
  · rw [List.mem_singleton.mp hx]; exact ⟨t, h', o'⟩
/-- a comprehension that changes nothing: map and filter -/
theorem x_lcfm {α : Type} {g : DG} {tt : DT} {te : DW} {vs : List Nat} {n : Bool} {P : T → DEnv → Prop} {items : List D} {e0 : DEnv} (src : List α) (em : α → D) (fm : α → Option D) (hi : items = src.map em) (h0 : offE e0 vs) (hl : src.length ≤ sizeLine)
    (hs : ∀ a ∈ src, ∀ (K : D → Bool → DEnv → Prop) (K2 : DEnv → Prop), (∀ d e, fm a = some d → offE e vs → wipeE e vs = wipeE e0 vs → K d true e) → (∀ e, fm a = none → offE e vs → wipeE e vs = wipeE e0 vs → K2 e) →
      ∃ e1, g (em a) n (wipeE e0 vs) = some e1 ∧ tt e1 (fun b e2 => offE e2 vs ∧ (b = true → te e2 (fun t e3 => ∃ y, frz1 e3 (hold t) = some y ∧ K y.1 y.2.1 y.2.2) (fun _ _ => False)) ∧ (b = false → K2 e2)) (fun _ _ => False))
    (hP : P (.ow (.list (src.filterMap fm)) true) e0) : LcOk g tt te vs n P items e0 := by
  refine ⟨h0, ?_⟩
  subst hi
  refine lc_ind (fun rest acc an e => ∃ d r, src = d ++ r ∧ rest = r.map em ∧ acc = d.filterMap fm ∧ an = true ∧ wipeE e vs = wipeE e0 vs ∧ offE e vs) ?_ ?_ ⟨[], src, rfl, rfl, rfl, rfl, rfl, h0⟩
  · rintro x xs acc an e K K2 ⟨d, r, e1, e2, e3, e4, e5, e6⟩ h1 h2
    cases r with
    | nil => cases e2
    | cons a r =>
      cases e2
      subst e3 e4
      rw [e5]
      have hsr : src = (d ++ [a]) ++ r := by rw [e1]; simp
      refine hs a (by rw [e1]; simp) K K2 (fun y e' hf ho hw => h1 y true e' ?_ ho ⟨d ++ [a], r, hsr, rfl, by simp [List.filterMap_append, hf], rfl, hw, ho⟩) fun e' hf ho hw => h2 e' ⟨d ++ [a], r, hsr, rfl, by simp [List.filterMap_append, hf], rfl, hw, ho⟩
      have hd := List.length_filterMap_le fm d
      have hl' : d.length + (r.length + 1) ≤ sizeLine := by rw [e1] at hl; simpa using hl
      omega
  · rintro acc an e ⟨d, r, e1, e2, e3, e4, e5, e6⟩
    have : r = [] := by simpa using e2.symm
    subst this
    rw [List.append_nil] at e1
    subst e1 e3 e4
    rw [e5, outE_self]
    exact hP
/-- any comprehension, by an invariant -/
theorem x_lcI {g : DG} {tt : DT} {te : DW} {vs : List Nat} {n : Bool} {P : T → DEnv → Prop} {items : List D} {e0 : DEnv} (I : List D → List D → Bool → DEnv → Prop) (h0 : offE e0 vs) (hI : I items [] true e0)
    (step : ∀ x xs acc an e (K : D → Bool → DEnv → Prop) (K2 : DEnv → Prop), I (x :: xs) acc an e → (∀ d m e', acc.length < sizeLine → offE e' vs → I xs (acc ++ [d]) (an && m) e' → K d m e') → (∀ e', I xs acc an e' → K2 e') →
      ∃ e1, g x n (wipeE e vs) = some e1 ∧ tt e1 (fun b e2 => offE e2 vs ∧ (b = true → te e2 (fun t e3 => ∃ y, frz1 e3 (hold t) = some y ∧ K y.1 y.2.1 y.2.2) (fun _ _ => False)) ∧ (b = false → K2 e2)) (fun _ _ => False))
    (done : ∀ acc an e, I [] acc an e → P (.ow (.list acc) an) (outE e0 (wipeE e vs) vs)) : LcOk g tt te vs n P items e0 := ⟨h0, lc_ind I step done hI⟩
theorem x_dcI {g : DG} {tt : DT} {tk tv : DW} {vs : List Nat} {n : Bool} {P : T → DEnv → Prop} {items : List D} {e0 : DEnv} (I : List D → List (D × D) → Bool → DEnv → Prop) (h0 : offE e0 vs) (hI : I items [] true e0)
    (step : ∀ x xs acc an e (K : D → D → Bool → DEnv → Prop) (K2 : DEnv → Prop), I (x :: xs) acc an e → (∀ k d m e', acc.length < sizeLine → offE e' vs → I xs (dput acc k d) (an && m) e' → K k d m e') → (∀ e', I xs acc an e' → K2 e') →
      ∃ e1, g x n (wipeE e vs) = some e1 ∧ tt e1 (fun b e2 => offE e2 vs ∧ (b = true → tk e2 (fun t e3 => ∃ k m, hold t = .fz k m ∧ (∃ kk, keyK k = some kk) ∧ tv e3 (fun t' e4 => ∃ y, frz1 e4 (hold t') = some y ∧ K k y.1 y.2.1 y.2.2) (fun _ _ => False)) (fun _ _ => False)) ∧ (b = false → K2 e2)) (fun _ _ => False))
    (done : ∀ acc an e, I [] acc an e → P (.ow (.dict false acc) an) (outE e0 (wipeE e vs) vs)) : DcOk g tt tk tv vs n P items e0 := ⟨h0, dc_ind I step done hI⟩
end DL

/-! DL25: texts as lists of code points; equality of data. -/
namespace DL
open PySem PySem.Spec L2
def tx (l : List Nat) : Str := ⟨l.toArray⟩
theorem tx_list (l : List Nat) : (tx l).cps.toList = l := rfl
theorem tx_len (l : List Nat) : (tx l).length = l.length := by show l.toArray.size = _; simp
theorem tx_of (z : Str) : tx z.cps.toList = z := by cases z; rfl
theorem tx_app (a b : List Nat) : tx a ++ tx b = tx (a ++ b) := by
  show Str.append (tx a) (tx b) = _
  unfold Str.append tx
  simp
theorem deq_int (i j : Int) : deq (.int i) (.int j) = decide (i = j) := by
  show PyData.eqv (.int i) (.int j) = _
  unfold PyData.eqv
  by_cases h : i = j <;> simp [h]
theorem deq_str (a b : Str) : deq (.str a) (.str b) = decide (a = b) := by
  show PyData.eqv (.str a) (.str b) = _
  unfold PyData.eqv
  by_cases h : a = b <;> simp [h]
theorem eqvAll_ints : ∀ a b : List Int, PyData.eqvAll (D.pds (a.map D.int)) (D.pds (b.map D.int)) = decide (a = b)
  | [], [] => rfl
  | [], _ :: _ => rfl
  | _ :: _, [] => rfl
  | x :: a, y :: b => by
    show (PyData.eqv (.int x) (.int y) && PyData.eqvAll (D.pds (a.map D.int)) (D.pds (b.map D.int))) = _
    rw [eqvAll_ints a b]
    have := deq_int x y
    unfold deq at this
    simp only [D.pd] at this
    rw [this]
    by_cases h : x = y <;> by_cases h' : a = b <;> simp [h, h']
theorem deq_ints (a b : List Int) : deq (.list (a.map .int)) (.list (b.map .int)) = decide (a = b) := by
  show PyData.eqv (.list _) (.list _) = _
  unfold PyData.eqv
  exact eqvAll_ints a b
theorem okD_int (i : Int) : okD (.int i) = true := rfl
theorem okD_bool (b : Bool) : okD (.bool b) = true := rfl
theorem okD_str {l : List Nat} (h : ∀ c ∈ l, c < 0x110000) : okD (.str (tx l)) = true := by
  unfold okD pln SeqAt.shaped
  have : PyData.canLay0 (D.pd (.str (tx l))) = true := by
    show PyData.strOk (tx l) = true
    unfold PyData.strOk tx
    simp only [List.all_toArray]
    rw [List.all_eq_true]
    intro c hc
    exact decide_eq_true (h c hc)
  simp [D.pd] at this
  simp [this, PyData.depth, D.pd]
theorem ok_ints : ∀ a : List Int, plns (a.map .int) = true ∧ PyData.canLayAll0 (D.pds (a.map .int)) = true ∧ PyData.depthAll (D.pds (a.map .int)) = 0
  | [] => ⟨rfl, rfl, rfl⟩
  | x :: a => by
    obtain ⟨h1, h2, h3⟩ := ok_ints a
    refine ⟨by simpa [plns, pln] using h1, by simpa [D.pds, D.pd, PyData.canLayAll0, PyData.canLay0] using h2, by simp [D.pds, D.pd, PyData.depthAll, PyData.depth, h3]⟩
theorem okD_ints (a : List Int) : okD (.list (a.map .int)) = true := by
  obtain ⟨h1, h2, h3⟩ := ok_ints a
  unfold okD SeqAt.shaped
  simp [pln, h1, D.pd, PyData.canLay0, h2, PyData.depth, h3]
section
variable {n m : Bool} {R : T → Prop}
theorem x_eqS {a b : List Nat} (ha : ∀ c ∈ a, c < 0x110000) (hb : ∀ c ∈ b, c < 0x110000) (h : R (dB (decide (tx a = tx b)))) : fEq (.str (tx a)) (.str (tx b)) n m R := ⟨okD_str ha, okD_str hb, by rw [deq_str]; exact h⟩
theorem x_neS {a b : List Nat} (ha : ∀ c ∈ a, c < 0x110000) (hb : ∀ c ∈ b, c < 0x110000) (h : R (dB (!decide (tx a = tx b)))) : fNe (.str (tx a)) (.str (tx b)) n m R := ⟨okD_str ha, okD_str hb, by rw [deq_str]; exact h⟩
theorem x_neL {a b : List Int} (h : R (dB (!decide (a = b)))) : fNe (.list (a.map .int)) (.list (b.map .int)) n m R := ⟨okD_ints a, okD_ints b, by rw [deq_ints]; exact h⟩
theorem x_eqL {a b : List Int} (h : R (dB (decide (a = b)))) : fEq (.list (a.map .int)) (.list (b.map .int)) n m R := ⟨okD_ints a, okD_ints b, by rw [deq_ints]; exact h⟩
theorem x_ixSt {l : List Nat} {i : Int} {c : Nat} (hl : l.length ≤ sizeLine) (e : atI l i = some c) (h : R (dS (tx [c]))) : fIx (.str (tx l)) (.int i) n m R := ⟨c, by rw [tx_len]; exact hl, e, h⟩
theorem x_lenSt {l : List Nat} (hl : l.length ≤ sizeLine) (h : R (dI (l.length : Nat))) : fLen [(.str (tx l), n)] R := x_lenS (by rw [tx_len]; exact hl) (by rw [tx_len]; exact h)
theorem x_addS {a b : List Nat} (hl : a.length + b.length ≤ sizeLine) (h : R (dS (tx (a ++ b)))) : fAdd (.str (tx a)) (.str (tx b)) n m R := ⟨by rw [tx_len, tx_len]; exact hl, by rw [tx_app]; exact h⟩
end
theorem atI_get {α : Type} {l : List α} {i : Nat} {c : α} (h : l[i]? = some c) : atI l (i : Int) = some c := atI_nat h
theorem setS_ok {env : DEnv} {i : Nat} {s : Slot} {d : D} {n : Bool} (e : env[i]? = some s) (o : okS s = true) : setS env i (.fz d n) = some (env.set i (.fz d n)) := by
  unfold setS
  rw [e]
  simp [o]
theorem setS_ow {env : DEnv} {i : Nat} {s : Slot} {d : D} {n : Bool} (e : env[i]? = some s) (o : okS s = true) : setS env i (.ow d n) = some (env.set i (.ow d n)) := by
  unfold setS
  rw [e]
  simp [o]
end DL
namespace DL
open PySem PySem.Spec L2
theorem rangeD_zero {lo : Int} : rangeD lo 0 = [] := rfl
theorem rangeD_succ {lo : Int} {n : Nat} : rangeD lo (n + 1) = .int lo :: rangeD (lo + 1) n := by
  unfold rangeD
  rw [List.range_succ_eq_map, List.map_cons, List.map_map]
  congr 1
  · simp
  · apply List.map_congr_left
    intro k _
    show D.int (lo + ((k + 1 : Nat) : Int)) = D.int (lo + 1 + (k : Nat))
    congr 1
    omega
theorem rangeD_map {lo : Nat} {n : Nat} : rangeD (lo : Int) n = (List.range' lo n).map fun k : Nat => D.int (k : Int) := by
  induction n generalizing lo with
  | zero => rfl
  | succ n ih =>
    rw [rangeD_succ, List.range'_succ, List.map_cons, ← ih (lo := lo + 1)]
    rfl
section
variable {a b : Int} {n m : Bool} {ts : List T}
theorem x_rng {R : Int → Prop} (e : ts = [.fz (.int a) n]) (h1 : -(2 ^ 62) ≤ a) (h2 : a < 2 ^ 62) (h : R a) : ∃ j n, ts = [.fz (.int j) n] ∧ -(2 ^ 62) ≤ j ∧ j < 2 ^ 62 ∧ R j := ⟨a, n, e, h1, h2, h⟩
theorem x_rng2 {R : Int → Int → Prop} (e : ts = [.fz (.int a) n, .fz (.int b) m]) (hb : -(2 ^ 62) ≤ a ∧ a < 2 ^ 62 ∧ -(2 ^ 62) ≤ b ∧ b < 2 ^ 62) (h : R a b) : ∃ i n j m, ts = [.fz (.int i) n, .fz (.int j) m] ∧ (-(2 ^ 62) ≤ i ∧ i < 2 ^ 62 ∧ -(2 ^ 62) ≤ j ∧ j < 2 ^ 62) ∧ R i j := ⟨a, n, b, m, e, hb, h⟩
end
end DL
namespace DL
open PySem PySem.Spec L2
theorem cnt_count (c : Nat) : ∀ l : List Nat, PyProof.Rows.cnt c l = (l.count c : Int)
  | [] => rfl
  | x :: l => by
    rw [PyProof.Rows.cnt_cons, cnt_count c l, List.count_cons]
    by_cases h : x = c
    · subst h; simp; omega
    · have : (x == c) = false := by simpa using h
      simp [h, this]
theorem count_tx (l : List Nat) (c : Nat) : Txt.count (tx l) (tx [c]) = (l.count c : Int) := by
  have := PyProof.Rows.count_cnt (tx l) c
  rw [cnt_count] at this
  exact this
theorem fmap_some {α β : Type} (f : α → β) : ∀ l : List α, l.filterMap (fun a => some (f a)) = l.map f
  | [] => rfl
  | x :: l => by rw [List.filterMap_cons, List.map_cons, fmap_some f l]
theorem fmap_if {α β : Type} (p : α → Bool) (f : α → β) : ∀ l : List α, l.filterMap (fun a => if p a = true then some (f a) else none) = (l.filter p).map f
  | [] => rfl
  | x :: l => by
    rw [List.filterMap_cons, List.filter_cons, fmap_if p f l]
    cases p x <;> simp
theorem sorted_eq : ∀ {a b : List Int}, a.Perm b → a.Pairwise (· ≤ ·) → b.Pairwise (· ≤ ·) → a = b
  | [], b, h, _, _ => by have := h.length_eq; cases b with
    | nil => rfl
    | cons => simp at this
  | x :: a, [], h, _, _ => by have := h.length_eq; simp at this
  | x :: a, y :: b, h, h1, h2 => by
    have hx : x ∈ y :: b := h.mem_iff.mp List.mem_cons_self
    have hy : y ∈ x :: a := h.mem_iff.mpr List.mem_cons_self
    have q1 := List.pairwise_cons.mp h1
    have q2 := List.pairwise_cons.mp h2
    have e : x = y := by
      have l1 : y ≤ x := by
        rcases List.mem_cons.mp hx with z | z
        · omega
        · exact q2.1 x z
      have l2 : x ≤ y := by
        rcases List.mem_cons.mp hy with z | z
        · omega
        · exact q1.1 y z
      omega
    subst e
    rw [sorted_eq (List.Perm.cons_inv h) q1.2 q2.2]
end DL
namespace DL
open PySem PySem.Spec L2
theorem dput_new {acc : List (D × D)} {k v : D} (h : ∀ p ∈ acc, deq p.1 k = false) : dput acc k v = acc ++ [(k, v)] := by
  unfold dput
  have : (acc.any fun p => deq p.1 k) = false := by
    rw [List.any_eq_false]
    intro p hp
    rw [h p hp]
    exact Bool.false_ne_true
  rw [this]
  simp
theorem x_unit {α : Type} {R : α → Prop} {x : α} (h : R x) : ∃ x, R x := ⟨x, h⟩
theorem getD_map (l : List Nat) : (List.range l.length).map (fun b => l.getD b 0) = l := by
  apply List.ext_getElem?
  intro i
  rw [List.getElem?_map]
  rcases Nat.lt_or_ge i l.length with h | h
  · rw [List.getElem?_range h]
    simp [List.getD_eq_getElem?_getD, List.getElem?_eq_getElem h]
  · rw [List.getElem?_eq_none (by simpa using h), List.getElem?_eq_none h]; rfl
end DL
namespace DL
open PySem PySem.Spec L2
theorem x_str1 {ts : List T} {z : Str} {n : Bool} {R : Str → Prop} (e : ts = [.fz (.str z) n]) (h : R z) : ∃ z n, ts = [T.fz (.str z) n] ∧ R z := ⟨z, n, e, h⟩
theorem fitK_int (i : Int) : fitK false (.int i) := by
  show ∃ kk, keyK (.int i) = some kk
  exact ⟨_, rfl⟩
end DL

/-! foldvat_k37_beginnings_told: the defs by trees (printed by gen.py) -/
namespace K37
open PySem PySem.Spec L2 DL
open PyProof.Rows (envOfC)
def topS (i : Nat) : Stmt := PySem.Challenge.pw_foldvat_k37_beginnings_told.main.body.getD i (.Pass ⟨0, 0, 0, 0⟩)
structure Mg (mg : Str → Option Value) : Prop where
  all : mg "all" = none
  bool : mg "bool" = none
  enumerate : mg "enumerate" = none
  isinstance : mg "isinstance" = none
  len : mg "len" = none
  list : mg "list" = none
  min : mg "min" = none
  range : mg "range" = none
  sorted : mg "sorted" = none
  str : mg "str" = none
  FLAT : GStr mg "FLAT" "-"
  MOST_BENDS : GInt mg "MOST_BENDS" 40
  MOST_SIGNS : GInt mg "MOST_SIGNS" 299
/-! ### _law_bag : 0 script, 1 total, 2 cell -/
abbrev s_law_bag : Stmt := topS 18
theorem sc_law_bag : FnScope ["script", "total", "cell"] ["script"] (defScope s_law_bag) := ⟨rfl, rfl, rfl, by decide +kernel, rfl, by decide +kernel, by decide +kernel⟩
def b_law_bag : DSt :=
  (dSeq (dSet 1 (dC (.int 1)))
  (dSeq (dFor (dIt (dVar 0)) (gN 2)
  (dSet 1 (dOp fMod (dOp fAdd (dOp fAdd (dOp fMulA (dVar 1) (dC (.int 1000003))) (dOp fMod (dVar 2) (dC (.int 2305843009213693951)))) (dC (.int 1))) (dC (.int 2305843009213693951)))))
  (dRet (dLst (dCons (dCB fList (dCons (dVar 0) dNil)) (dCons (dC (.int 0)) (dCons (dC (.int 0)) (dCons (dC (.int 0)) (dCons (dVar 1) dNil)))))))))
theorem ok_law_bag {P : Program} {w : World} {K : PySem.W.Frag} {mg : Str → Option Value} {base : Heap} {f : Addr} {fd : FuncData} {Φ : DF} (F : Fun K "_law_bag" "_law_bag" s_law_bag f fd) (M : Mg mg)
    (hw : ∀ ds Q E, Φ ds Q E → b_law_bag (env0 [false] ds 3) (bodyEnds [false] Q E)) : FnG P w K mg base 1 f fd ["script"] (spD K mg [false] Φ) :=
  def_ok F sc_law_bag rfl (fun cdv A outer s H E Z hr =>
    (s_cons (s_set 1 d_int sc_law_bag.nd)
    (s_cons (s_for (passes_of rfl) rfl (i_any (d_var 0)) (g_name 2 sc_law_bag.nd)
    (s_one (s_set 1 (d_op o_mod (d_op o_add (d_op o_add (d_op o_mulA (d_var 1) d_int) (d_op o_mod (d_var 2) d_int)) d_int) d_int) sc_law_bag.nd)))
    (s_one (s_ret (d_lst (d_cons (d_callTy c_list M.list (d_cons (d_var 0) d_nil)) (d_cons d_int (d_cons d_int (d_cons d_int (d_cons (d_var 1) d_nil))))))))))) hw
/-! ### _law_stir : 0 number, 1 place, 2 one, 3 two -/
abbrev s_law_stir : Stmt := topS 19
theorem sc_law_stir : FnScope ["number", "place", "one", "two"] ["number", "place"] (defScope s_law_stir) := ⟨rfl, rfl, rfl, by decide +kernel, rfl, by decide +kernel, by decide +kernel⟩
def b_law_stir : DSt :=
  (dSeq (dSet 2 (dOp fMod (dOp fAdd (dOp fAdd (dOp fMulA (dVar 0) (dC (.int 998244353))) (dOp fMulA (dVar 1) (dC (.int 1000000007)))) (dC (.int 5))) (dC (.int 2305843009213693951))))
  (dSeq (dSet 3 (dOp fMod (dOp fMulA (dVar 2) (dVar 2)) (dC (.int 2305843009213693951))))
  (dRet (dOp fFdv (dOp fMod (dOp fAdd (dOp fAdd (dOp fMulA (dVar 3) (dC (.int 2860486313))) (dOp fMulA (dOp fMulA (dVar 1) (dVar 1)) (dC (.int 48271)))) (dOp fFdv (dVar 2) (dC (.int 3)))) (dC (.int 2305843009213693921))) (dC (.int 1024))))))
theorem ok_law_stir {P : Program} {w : World} {K : PySem.W.Frag} {mg : Str → Option Value} {base : Heap} {f : Addr} {fd : FuncData} {Φ : DF} (F : Fun K "_law_stir" "_law_stir" s_law_stir f fd) (M : Mg mg)
    (hw : ∀ ds Q E, Φ ds Q E → b_law_stir (env0 [false, false] ds 4) (bodyEnds [false, false] Q E)) : FnG P w K mg base 1 f fd ["number", "place"] (spD K mg [false, false] Φ) :=
  def_ok F sc_law_stir rfl (fun cdv A outer s H E Z hr =>
    (s_cons (s_set 2 (d_op o_mod (d_op o_add (d_op o_add (d_op o_mulA (d_var 0) d_int) (d_op o_mulA (d_var 1) d_int)) d_int) d_int) sc_law_stir.nd)
    (s_cons (s_set 3 (d_op o_mod (d_op o_mulA (d_var 2) (d_var 2)) d_int) sc_law_stir.nd)
    (s_one (s_ret (d_op o_fdiv (d_op o_mod (d_op o_add (d_op o_add (d_op o_mulA (d_var 3) d_int) (d_op o_mulA (d_op o_mulA (d_var 1) (d_var 1)) d_int)) (d_op o_fdiv (d_var 2) d_int)) d_int) d_int)))))) hw
/-! ### _law_draw : 0 bag, 1 many, 2 cell, 3 found -/
abbrev s_law_draw : Stmt := topS 20
theorem sc_law_draw : FnScope ["bag", "many", "cell", "found"] ["bag", "many"] (defScope s_law_draw) := ⟨rfl, rfl, rfl, by decide +kernel, rfl, by decide +kernel, by decide +kernel⟩
def b_law_draw (Φ_law_stir : DF) : DSt :=
  (dSeq (dIf (dTB (dOp fEq (dVar 1) (dC (.int 1))))
  (dRet (dC (.int 0)))
  dSkip)
  (dSeq (dSetI 0 (dC (.int 3)) (dOp fAdd (dOp fIx (dVar 0) (dC (.int 3))) (dC (.int 1))))
  (dSeq (dIf (dAndT (dTB (dOp fLt (dOp fIx (dVar 0) (dC (.int 2))) (dC (.int 2)))) (dTB (dOp fEq (dOp fIx (dVar 0) (dC (.int 1))) (dCB fLen (dCons (dOp fIx (dVar 0) (dC (.int 0))) dNil)))))
  (dRet (dOp fMod (dCall [false, false] Φ_law_stir (dCons (dOp fIx (dVar 0) (dC (.int 4))) (dCons (dOp fIx (dVar 0) (dC (.int 3))) dNil))) (dVar 1)))
  dSkip)
  (dSeq (dIf (dTB (dOp fLt (dOp fIx (dVar 0) (dC (.int 2))) (dC (.int 2))))
  (dSeq (dSet 2 (dOp fIx (dOp fIx (dVar 0) (dC (.int 0))) (dOp fIx (dVar 0) (dC (.int 1)))))
  (dSeq (dSetI 0 (dC (.int 1)) (dOp fAdd (dOp fIx (dVar 0) (dC (.int 1))) (dC (.int 1))))
  (dSeq (dIf (dTB (dOp fLt (dVar 2) (dOp fPow (dC (.int 10)) (dC (.int 18)))))
  (dRet (dOp fMod (dCall [false, false] Φ_law_stir (dCons (dOp fMod (dVar 2) (dC (.int 2305843009213693951))) (dCons (dOp fIx (dVar 0) (dC (.int 3))) dNil))) (dVar 1)))
  dSkip)
  (dSetI 0 (dC (.int 2)) (dOp fSub (dVar 2) (dOp fPow (dC (.int 10)) (dC (.int 18))))))))
  dSkip)
  (dSeq (dSet 3 (dOp fMod (dOp fIx (dVar 0) (dC (.int 2))) (dVar 1)))
  (dSeq (dSetI 0 (dC (.int 2)) (dOp fFdv (dOp fIx (dVar 0) (dC (.int 2))) (dVar 1)))
  (dRet (dVar 3))))))))
theorem ok_law_draw {P : Program} {w : World} {K : PySem.W.Frag} {mg : Str → Option Value} {base : Heap} {f : Addr} {fd : FuncData} {Φ Φ_law_stir : DF} (F : Fun K "_law_draw" "_law_draw" s_law_draw f fd) (M : Mg mg) (C_law_stir : FD P w K mg base 1 "_law_stir" 2 [false, false] Φ_law_stir)
    (hw : ∀ ds Q E, Φ ds Q E → b_law_draw Φ_law_stir (env0 [true, false] ds 4) (bodyEnds [true, false] Q E)) : FnG P w K mg base 2 f fd ["bag", "many"] (spD K mg [true, false] Φ) :=
  def_ok F sc_law_draw rfl (fun cdv A outer s H E Z hr =>
    (s_cons (s_if (d_tcmp (o_eq hr.u64) (nomark _) (d_var 1) d_int)
    (s_one (s_ret d_int))
    s_nil)
    (s_cons (s_setI 0 hr.u1 (d_op o_add (d_ix hr.u1 (d_var 0) d_int (fun _ _ => rfl)) d_int) d_int)
    (s_cons (s_if (d_pt' (d_andT (d_tcmp (o_lt hr.u0) (nomark _) (d_ix hr.u1 (d_var 0) d_int (fun _ _ => rfl)) d_int) (d_and1 (d_tcmp (o_eq hr.u64) (nomark _) (d_ix hr.u1 (d_var 0) d_int (fun _ _ => rfl)) (d_callB c_len M.len (d_cons (d_ix hr.u1 (d_var 0) d_int (fun _ _ => rfl)) d_nil))))))
    (s_one (s_ret (d_op o_mod (d_callF C_law_stir hr (takes_of rfl rfl rfl rfl) (d_cons (d_ix hr.u1 (d_var 0) d_int (fun _ _ => rfl)) (d_cons (d_ix hr.u1 (d_var 0) d_int (fun _ _ => rfl)) d_nil))) (d_var 1))))
    s_nil)
    (s_cons (s_if (d_tcmp (o_lt hr.u0) (nomark _) (d_ix hr.u1 (d_var 0) d_int (fun _ _ => rfl)) d_int)
    (s_cons (s_set 2 (d_ix hr.u1 (d_ix hr.u1 (d_var 0) d_int (fun _ _ => rfl)) (d_ix hr.u1 (d_var 0) d_int (fun _ _ => rfl)) (fun _ _ => rfl)) sc_law_draw.nd)
    (s_cons (s_setI 0 hr.u1 (d_op o_add (d_ix hr.u1 (d_var 0) d_int (fun _ _ => rfl)) d_int) d_int)
    (s_cons (s_if (d_tcmp (o_lt hr.u0) (nomark _) (d_var 2) (d_op o_pow d_int d_int))
    (s_one (s_ret (d_op o_mod (d_callF C_law_stir hr (takes_of rfl rfl rfl rfl) (d_cons (d_op o_mod (d_var 2) d_int) (d_cons (d_ix hr.u1 (d_var 0) d_int (fun _ _ => rfl)) d_nil))) (d_var 1))))
    s_nil)
    (s_one (s_setI 0 hr.u1 (d_op o_sub (d_var 2) (d_op o_pow d_int d_int)) d_int)))))
    s_nil)
    (s_cons (s_set 3 (d_op o_mod (d_ix hr.u1 (d_var 0) d_int (fun _ _ => rfl)) (d_var 1)) sc_law_draw.nd)
    (s_cons (s_setI 0 hr.u1 (d_op o_fdiv (d_ix hr.u1 (d_var 0) d_int (fun _ _ => rfl)) (d_var 1)) d_int)
    (s_one (s_ret (d_var 3)))))))))) hw
/-! ### _law_begins : 0 signs, 1 first, 2 behind, 3 at, 4 t -/
abbrev s_law_begins : Stmt := topS 22
theorem sc_law_begins : FnScope ["signs", "first", "behind", "at", "t"] ["signs", "first", "behind", "at"] (defScope s_law_begins) := ⟨rfl, rfl, rfl, by decide +kernel, rfl, by decide +kernel, by decide +kernel⟩
def b_law_begins : DSt :=
  (dSeq (dIf (dTB (dOp fEq (dOp fIx (dVar 0) (dVar 3)) (dC (.str ("-" : Str)))))
  (dRet (dC (.bool false)))
  dSkip)
  (dSeq (dFor (dRange2 (dCons (dC (.int 1)) (dCons (dCB fLen (dCons (dVar 0) dNil)) dNil))) (gN 4)
  (dSeq (dIf (dOrT (dTB (dOp fLt (dOp fSub (dVar 3) (dVar 4)) (dVar 1))) (dTB (dOp fGt (dOp fAdd (dVar 3) (dVar 4)) (dOp fSub (dVar 2) (dC (.int 2))))))
  (dRet (dC (.bool true)))
  dSkip)
  (dIf (dTB (dOp (fIn true) (dOp fAdd (dOp fIx (dVar 0) (dOp fSub (dVar 3) (dVar 4))) (dOp fIx (dVar 0) (dOp fAdd (dVar 3) (dVar 4)))) (dLst (dCons (dC (.str ("hd" : Str))) (dCons (dC (.str ("dh" : Str))) (dCons (dC (.str ("--" : Str))) dNil))))))
  (dRet (dC (.bool false)))
  dSkip)))
  (dRet (dC (.bool true)))))
theorem ok_law_begins {P : Program} {w : World} {K : PySem.W.Frag} {mg : Str → Option Value} {base : Heap} {f : Addr} {fd : FuncData} {Φ : DF} (F : Fun K "_law_begins" "_law_begins" s_law_begins f fd) (M : Mg mg)
    (hw : ∀ ds Q E, Φ ds Q E → b_law_begins (env0 [false, false, false, false] ds 5) (bodyEnds [false, false, false, false] Q E)) : FnG P w K mg base 1 f fd ["signs", "first", "behind", "at"] (spD K mg [false, false, false, false] Φ) :=
  def_ok F sc_law_begins rfl (fun cdv A outer s H E Z hr =>
    (s_cons (s_if (d_tcmp (o_eq hr.u64) (nomark _) (d_ix hr.u1 (d_var 0) (d_var 3) (fun _ _ => rfl)) d_str)
    (s_one (s_ret d_bl))
    s_nil)
    (s_cons (s_for (passes_of rfl) rfl (i_range2 M.range (d_cons d_int (d_cons (d_callB c_len M.len (d_cons (d_var 0) d_nil)) d_nil))) (g_name 4 sc_law_begins.nd)
    (s_cons (s_if (d_pt' (d_orT (d_tcmp (o_lt hr.u0) (nomark _) (d_op o_sub (d_var 3) (d_var 4)) (d_var 1)) (d_or1 (d_tcmp o_gt (nomark _) (d_op o_add (d_var 3) (d_var 4)) (d_op o_sub (d_var 2) d_int)))))
    (s_one (s_ret d_bl))
    s_nil)
    (s_one (s_if (d_tcmp (o_notin hr.u65) rfl (d_op o_add (d_ix hr.u1 (d_var 0) (d_op o_sub (d_var 3) (d_var 4)) (fun _ _ => rfl)) (d_ix hr.u1 (d_var 0) (d_op o_add (d_var 3) (d_var 4)) (fun _ _ => rfl))) (d_lst (d_cons d_str (d_cons d_str (d_cons d_str d_nil)))))
    (s_one (s_ret d_bl))
    s_nil))))
    (s_one (s_ret d_bl))))) hw
/-! ### _law_folds : 0 signs, 1 first, 2 behind, 3 at -/
abbrev s_law_folds : Stmt := topS 24
theorem sc_law_folds : FnScope ["signs", "first", "behind", "at"] ["signs", "first", "behind"] (defScope s_law_folds) := ⟨rfl, rfl, rfl, by decide +kernel, rfl, by decide +kernel, by decide +kernel⟩
def b_law_folds (Φ_law_begins : DF) : DSt :=
  (dRet (dLc (dRange2 (dCons (dVar 1) (dCons (dOp fSub (dVar 2) (dC (.int 1))) dNil))) (gN 3) (dTB (dCall [false, false, false, false] Φ_law_begins (dCons (dVar 0) (dCons (dVar 1) (dCons (dVar 2) (dCons (dVar 3) dNil)))))) (dVar 3) [3]))
theorem ok_law_folds {P : Program} {w : World} {K : PySem.W.Frag} {mg : Str → Option Value} {base : Heap} {f : Addr} {fd : FuncData} {Φ Φ_law_begins : DF} (F : Fun K "_law_folds" "_law_folds" s_law_folds f fd) (M : Mg mg) (C_law_begins : FD P w K mg base 1 "_law_begins" 4 [false, false, false, false] Φ_law_begins)
    (hw : ∀ ds Q E, Φ ds Q E → b_law_folds Φ_law_begins (env0 [false, false, false] ds 4) (bodyEnds [false, false, false] Q E)) : FnG P w K mg base 2 f fd ["signs", "first", "behind"] (spD K mg [false, false, false] Φ) :=
  def_ok F sc_law_folds rfl (fun cdv A outer s H E Z hr =>
    (s_one (s_ret (d_lc (own := [("at", 3)]) rfl sc_law_folds.nd (i_range2 M.range (d_cons (d_var 1) (d_cons (d_op o_sub (d_var 2) d_int) d_nil))) (blkOk_by (N := ["signs", "first", "behind", "at"]) (sc := defScope s_law_folds) (by decide +kernel)) (fun _ _ _ _ _ => (g_name 3 sc_law_folds.nd)) (fun _ _ _ _ _ => (pts_oneD (d_tv (d_callF C_law_begins hr takes0 (d_cons (d_var 0) (d_cons (d_var 1) (d_cons (d_var 2) (d_cons (d_var 3) d_nil)))))))) (fun _ _ _ _ _ => (d_var 3)))))) hw
/-! ### _law_signs_drawn : 0 bag, 1 most, 2 kind, 3 many, 4 found, 5 k, 6 mirrored, 7 sign -/
abbrev s_law_signs_drawn : Stmt := topS 25
theorem sc_law_signs_drawn : FnScope ["bag", "most", "kind", "many", "found", "k", "mirrored", "sign"] ["bag", "most"] (defScope s_law_signs_drawn) := ⟨rfl, rfl, rfl, by decide +kernel, rfl, by decide +kernel, by decide +kernel⟩
def b_law_signs_drawn (Φ_law_draw : DF) : DSt :=
  (dSeq (dSet 2 (dCall [true, false] Φ_law_draw (dCons (dVar 0) (dCons (dC (.int 5)) dNil))))
  (dSeq (dSet 3 (dCall [true, false] Φ_law_draw (dCons (dVar 0) (dCons (dOp fAdd (dVar 1) (dC (.int 1))) dNil))))
  (dSeq (dIf (dTB (dOp fEq (dVar 2) (dC (.int 0))))
  (dSet 4 (dBM "str" fJoin (dC (.str ("" : Str))) (dCons (dLc (dRange (dCons (dCB fMin (dCons (dVar 3) (dCons (dC (.int 12)) dNil))) dNil)) (gN 5) dYes (dOp fIx (dC (.str ("hd-" : Str))) (dCall [true, false] Φ_law_draw (dCons (dVar 0) (dCons (dC (.int 3)) dNil)))) [5]) dNil)))
  (dIf (dTB (dOp fEq (dVar 2) (dC (.int 1))))
  (dSet 4 (dBM "str" fJoin (dC (.str ("" : Str))) (dCons (dLc (dRange (dCons (dCB fMin (dCons (dVar 3) (dCons (dC (.int 9)) dNil))) dNil)) (gN 5) dYes (dOp fIx (dC (.str ("hd" : Str))) (dCall [true, false] Φ_law_draw (dCons (dVar 0) (dCons (dC (.int 2)) dNil)))) [5]) dNil)))
  (dIf (dTB (dOp fEq (dVar 2) (dC (.int 2))))
  (dSet 4 (dBM "str" fJoin (dC (.str ("" : Str))) (dCons (dLc (dRange (dCons (dVar 3) dNil)) (gN 5) dYes (dOp fIx (dC (.str ("hd----------" : Str))) (dCall [true, false] Φ_law_draw (dCons (dVar 0) (dCons (dC (.int 12)) dNil)))) [5]) dNil)))
  (dSeq (dSet 4 (dOp fMulA (dC (.str ("-" : Str))) (dCall [true, false] Φ_law_draw (dCons (dVar 0) (dCons (dC (.int 4)) dNil)))))
  (dWhile (dAndT (dTB (dOp fLt (dOp fMulA (dCB fLen (dCons (dVar 4) dNil)) (dC (.int 2))) (dVar 3))) (dTB (dOp fGt (dOp fAdd (dBM "str" fCount (dVar 4) (dCons (dC (.str ("-" : Str))) dNil)) (dC (.int 21))) (dCB fLen (dCons (dVar 4) dNil)))))
  (dSeq (dSet 6 (dBM "str" fJoin (dC (.str ("" : Str))) (dCons (dLc (dIt (dOrE (dRevS (dVar 4)) (dRevL (dVar 4)))) (gN 7) dYes (dOp fIx (dC (.str ("dh-" : Str))) (dBM "str" fIndex (dC (.str ("hd-" : Str))) (dCons (dVar 7) dNil))) [7]) dNil)))
  (dSeq (dSet 4 (dOp fAdd (dOp fAdd (dVar 4) (dOp fIx (dC (.str ("hd" : Str))) (dCall [true, false] Φ_law_draw (dCons (dVar 0) (dCons (dC (.int 2)) dNil))))) (dSl (dVar 6) dNo (dPt (dOp fSub (dCB fLen (dCons (dVar 6) dNil)) (dOp fMulA (dCall [true, false] Φ_law_draw (dCons (dVar 0) (dCons (dC (.int 2)) dNil))) (dCall [true, false] Φ_law_draw (dCons (dVar 0) (dCons (dC (.int 3)) dNil)))))))))
  (dSet 4 (dIfE (dTB (dOp fEq (dVar 2) (dC (.int 3)))) (dOp fAdd (dOp fMulA (dC (.str ("-" : Str))) (dCall [true, false] Φ_law_draw (dCons (dVar 0) (dCons (dC (.int 2)) dNil)))) (dVar 4)) (dVar 4))))))))))
  (dSeq (dSet 4 (dSl (dVar 4) dNo (dPt (dVar 1))))
  (dSeq (dWhile (dTB (dOp fGt (dOp fSub (dCB fLen (dCons (dVar 4) dNil)) (dBM "str" fCount (dVar 4) (dCons (dC (.str ("-" : Str))) dNil))) (dC (.int 40))))
  (dSet 4 (dSl (dVar 4) dNo (dPt (dOp fFdv (dCB fLen (dCons (dVar 4) dNil)) (dC (.int 2)))))))
  (dRet (dVar 4)))))))
theorem ok_law_signs_drawn {P : Program} {w : World} {K : PySem.W.Frag} {mg : Str → Option Value} {base : Heap} {f : Addr} {fd : FuncData} {Φ Φ_law_draw : DF} (F : Fun K "_law_signs_drawn" "_law_signs_drawn" s_law_signs_drawn f fd) (M : Mg mg) (C_law_draw : FD P w K mg base 2 "_law_draw" 2 [true, false] Φ_law_draw)
    (hw : ∀ ds Q E, Φ ds Q E → b_law_signs_drawn Φ_law_draw (env0 [true, false] ds 8) (bodyEnds [true, false] Q E)) : FnG P w K mg base 3 f fd ["bag", "most"] (spD K mg [true, false] Φ) :=
  def_ok F sc_law_signs_drawn rfl (fun cdv A outer s H E Z hr =>
    (s_cons (s_set 2 (d_callF C_law_draw hr (takes_of rfl rfl rfl rfl) (d_cons (d_var 0) (d_cons d_int d_nil))) sc_law_signs_drawn.nd)
    (s_cons (s_set 3 (d_callF C_law_draw hr (takes_of rfl rfl rfl rfl) (d_cons (d_var 0) (d_cons (d_op o_add (d_var 1) d_int) d_nil))) sc_law_signs_drawn.nd)
    (s_cons (s_if (d_tcmp (o_eq hr.u64) (nomark _) (d_var 2) d_int)
    (s_one (s_set 4 (d_bm m_join PySem.F.plainAttrs_str PySem.F.slot_str_join PySem.F.type_str_join d_str (d_cons (d_lc (own := [("k", 5)]) rfl sc_law_signs_drawn.nd (i_range M.range (d_cons (d_callB (c_min rfl) M.min (d_cons (d_var 3) (d_cons d_int d_nil))) d_nil)) (blkOk_by (N := ["bag", "most", "kind", "many", "found", "k", "mirrored", "sign"]) (sc := defScope s_law_signs_drawn) (by decide +kernel)) (fun _ _ _ _ _ => (g_name 5 sc_law_signs_drawn.nd)) (fun _ _ _ _ _ => pts_yes) (fun _ _ _ _ _ => (d_ix hr.u1 d_str (d_callF C_law_draw hr takes0 (d_cons (d_var 0) (d_cons d_int d_nil))) (fun _ _ => rfl)))) d_nil)) sc_law_signs_drawn.nd))
    (s_one (s_if (d_tcmp (o_eq hr.u64) (nomark _) (d_var 2) d_int)
    (s_one (s_set 4 (d_bm m_join PySem.F.plainAttrs_str PySem.F.slot_str_join PySem.F.type_str_join d_str (d_cons (d_lc (own := [("k", 5)]) rfl sc_law_signs_drawn.nd (i_range M.range (d_cons (d_callB (c_min rfl) M.min (d_cons (d_var 3) (d_cons d_int d_nil))) d_nil)) (blkOk_by (N := ["bag", "most", "kind", "many", "found", "k", "mirrored", "sign"]) (sc := defScope s_law_signs_drawn) (by decide +kernel)) (fun _ _ _ _ _ => (g_name 5 sc_law_signs_drawn.nd)) (fun _ _ _ _ _ => pts_yes) (fun _ _ _ _ _ => (d_ix hr.u1 d_str (d_callF C_law_draw hr takes0 (d_cons (d_var 0) (d_cons d_int d_nil))) (fun _ _ => rfl)))) d_nil)) sc_law_signs_drawn.nd))
    (s_one (s_if (d_tcmp (o_eq hr.u64) (nomark _) (d_var 2) d_int)
    (s_one (s_set 4 (d_bm m_join PySem.F.plainAttrs_str PySem.F.slot_str_join PySem.F.type_str_join d_str (d_cons (d_lc (own := [("k", 5)]) rfl sc_law_signs_drawn.nd (i_range M.range (d_cons (d_var 3) d_nil)) (blkOk_by (N := ["bag", "most", "kind", "many", "found", "k", "mirrored", "sign"]) (sc := defScope s_law_signs_drawn) (by decide +kernel)) (fun _ _ _ _ _ => (g_name 5 sc_law_signs_drawn.nd)) (fun _ _ _ _ _ => pts_yes) (fun _ _ _ _ _ => (d_ix hr.u1 d_str (d_callF C_law_draw hr takes0 (d_cons (d_var 0) (d_cons d_int d_nil))) (fun _ _ => rfl)))) d_nil)) sc_law_signs_drawn.nd))
    (s_cons (s_set 4 (d_op o_mulA d_str (d_callF C_law_draw hr (takes_of rfl rfl rfl rfl) (d_cons (d_var 0) (d_cons d_int d_nil)))) sc_law_signs_drawn.nd)
    (s_one (s_while (passes_of rfl) (d_pt' (d_andT (d_tcmp (o_lt hr.u0) (nomark _) (d_op o_mulA (d_callB c_len M.len (d_cons (d_var 4) d_nil)) d_int) (d_var 3)) (d_and1 (d_tcmp o_gt (nomark _) (d_op o_add (d_bm m_count PySem.F.plainAttrs_str PySem.F.slot_str_count PySem.F.type_str_count (d_var 4) (d_cons d_str d_nil)) d_int) (d_callB c_len M.len (d_cons (d_var 4) d_nil))))))
    (s_cons (s_set 6 (d_bm m_join PySem.F.plainAttrs_str PySem.F.slot_str_join PySem.F.type_str_join d_str (d_cons (d_lc (own := [("sign", 7)]) rfl sc_law_signs_drawn.nd (i_any (d_or (d_revS (d_var 4)) (d_revL (d_var 4)))) (blkOk_by (N := ["bag", "most", "kind", "many", "found", "k", "mirrored", "sign"]) (sc := defScope s_law_signs_drawn) (by decide +kernel)) (fun _ _ _ _ _ => (g_name 7 sc_law_signs_drawn.nd)) (fun _ _ _ _ _ => pts_yes) (fun _ _ _ _ _ => (d_ix hr.u1 d_str (d_bm m_index PySem.F.plainAttrs_str PySem.F.slot_str_index PySem.F.type_str_index d_str (d_cons (d_var 7) d_nil)) (fun _ _ => rfl)))) d_nil)) sc_law_signs_drawn.nd)
    (s_cons (s_set 4 (d_op o_add (d_op o_add (d_var 4) (d_ix hr.u1 d_str (d_callF C_law_draw hr (takes_of rfl rfl rfl rfl) (d_cons (d_var 0) (d_cons d_int d_nil))) (fun _ _ => rfl))) (d_sl (d_var 6) d_no (d_pt (d_op o_sub (d_callB c_len M.len (d_cons (d_var 6) d_nil)) (d_op o_mulA (d_callF C_law_draw hr (takes_of rfl rfl rfl rfl) (d_cons (d_var 0) (d_cons d_int d_nil))) (d_callF C_law_draw hr (takes_of rfl rfl rfl rfl) (d_cons (d_var 0) (d_cons d_int d_nil)))))))) sc_law_signs_drawn.nd)
    (s_one (s_set 4 (d_ife (d_tcmp (o_eq hr.u64) (nomark _) (d_var 2) d_int) (d_op o_add (d_op o_mulA d_str (d_callF C_law_draw hr (takes_of rfl rfl rfl rfl) (d_cons (d_var 0) (d_cons d_int d_nil)))) (d_var 4)) (d_var 4)) sc_law_signs_drawn.nd))))))))))))
    (s_cons (s_set 4 (d_sl (d_var 4) d_no (d_pt (d_var 1))) sc_law_signs_drawn.nd)
    (s_cons (s_while (passes_of rfl) (d_tcmp o_gt (nomark _) (d_op o_sub (d_callB c_len M.len (d_cons (d_var 4) d_nil)) (d_bm m_count PySem.F.plainAttrs_str PySem.F.slot_str_count PySem.F.type_str_count (d_var 4) (d_cons d_str d_nil))) d_int)
    (s_one (s_set 4 (d_sl (d_var 4) d_no (d_pt (d_op o_fdiv (d_callB c_len M.len (d_cons (d_var 4) d_nil)) d_int))) sc_law_signs_drawn.nd)))
    (s_one (s_ret (d_var 4))))))))) hw
/-! ### bends_in : 0 reaches, 1 stretch, 2 bend -/
abbrev s_bends_in : Stmt := topS 14
theorem sc_bends_in : FnScope ["reaches", "stretch", "bend"] ["reaches", "stretch"] (defScope s_bends_in) := ⟨rfl, rfl, rfl, by decide +kernel, rfl, by decide +kernel, by decide +kernel⟩
def b_bends_in : DSt :=
  (dRet (dLc (dIt (dCB fSortI (dCons (dVar 0) dNil))) (gN 2) (dTB (dChain fLe fLt (dOp fIx (dVar 1) (dC (.int 0))) (dVar 2) (dOp fSub (dOp fIx (dVar 1) (dC (.int 1))) (dC (.int 1))))) (dVar 2) [2]))
theorem ok_bends_in {P : Program} {w : World} {K : PySem.W.Frag} {mg : Str → Option Value} {base : Heap} {f : Addr} {fd : FuncData} {Φ : DF} (F : Fun K "bends_in" "bends_in" s_bends_in f fd) (M : Mg mg)
    (hw : ∀ ds Q E, Φ ds Q E → b_bends_in (env0 [false, false] ds 3) (bodyEnds [false, false] Q E)) : FnG P w K mg base 1 f fd ["reaches", "stretch"] (spD K mg [false, false] Φ) :=
  def_ok F sc_bends_in rfl (fun cdv A outer s H E Z hr =>
    (s_one (s_ret (d_lc (own := [("bend", 2)]) rfl sc_bends_in.nd (i_any (d_callB (c_sortI rfl) M.sorted (d_cons (d_var 0) d_nil))) (blkOk_by (N := ["reaches", "stretch", "bend"]) (sc := defScope s_bends_in) (by decide +kernel)) (fun _ _ _ _ _ => (g_name 2 sc_bends_in.nd)) (fun _ _ _ _ _ => (pts_oneD (d_tchain o_le (o_lt hr.u0) (d_ix hr.u1 (d_var 1) d_int (fun _ _ => rfl)) (d_var 2) (d_op o_sub (d_ix hr.u1 (d_var 1) d_int (fun _ _ => rfl)) d_int)))) (fun _ _ _ _ _ => (d_var 2)))))) hw
/-! ### folds_of : 0 reaches, 1 stretch, 2 first, 3 behind, 4 bend -/
abbrev s_folds_of : Stmt := topS 15
theorem sc_folds_of : FnScope ["reaches", "stretch", "first", "behind", "bend"] ["reaches", "stretch"] (defScope s_folds_of) := ⟨rfl, rfl, rfl, by decide +kernel, rfl, by decide +kernel, by decide +kernel⟩
def b_folds_of (Φ_bends_in : DF) : DSt :=
  (dSeq (dUnp (gTp [(gN 2), (gN 3)]) (dVar 1))
  (dRet (dLc (dIt (dCall [false, false] Φ_bends_in (dCons (dVar 0) (dCons (dVar 1) dNil)))) (gN 4) (dTB (dOp fLe (dCB fMin (dCons (dOp fSub (dVar 4) (dVar 2)) (dCons (dOp fSub (dOp fSub (dVar 3) (dC (.int 2))) (dVar 4)) dNil))) (dOp fIx (dVar 0) (dVar 4)))) (dVar 4) [4])))
theorem ok_folds_of {P : Program} {w : World} {K : PySem.W.Frag} {mg : Str → Option Value} {base : Heap} {f : Addr} {fd : FuncData} {Φ Φ_bends_in : DF} (F : Fun K "folds_of" "folds_of" s_folds_of f fd) (M : Mg mg) (C_bends_in : FD P w K mg base 1 "bends_in" 2 [false, false] Φ_bends_in)
    (hw : ∀ ds Q E, Φ ds Q E → b_folds_of Φ_bends_in (env0 [false, false] ds 5) (bodyEnds [false, false] Q E)) : FnG P w K mg base 2 f fd ["reaches", "stretch"] (spD K mg [false, false] Φ) :=
  def_ok F sc_folds_of rfl (fun cdv A outer s H E Z hr =>
    (s_cons (s_unp (d_var 1) (g_tup rfl (g_cons (g_name 2 sc_folds_of.nd) (g_cons (g_name 3 sc_folds_of.nd) g_nil))))
    (s_one (s_ret (d_lc (own := [("bend", 4)]) rfl sc_folds_of.nd (i_any (d_callF C_bends_in hr (takes_of rfl rfl rfl rfl) (d_cons (d_var 0) (d_cons (d_var 1) d_nil)))) (blkOk_by (N := ["reaches", "stretch", "first", "behind", "bend"]) (sc := defScope s_folds_of) (by decide +kernel)) (fun _ _ _ _ _ => (g_name 4 sc_folds_of.nd)) (fun _ _ _ _ _ => (pts_oneD (d_tcmp o_le (nomark _) (d_callB (c_min rfl) M.min (d_cons (d_op o_sub (d_var 4) (d_var 2)) (d_cons (d_op o_sub (d_op o_sub (d_var 3) d_int) (d_var 4)) d_nil))) (d_ix hr.u1 (d_var 0) (d_var 4) (fun _ _ => rfl))))) (fun _ _ _ _ _ => (d_var 4))))))) hw
/-! ### is_pattern : 0 thing, 1 sign -/
abbrev s_is_pattern : Stmt := topS 8
theorem sc_is_pattern : FnScope ["thing", "sign"] ["thing"] (defScope s_is_pattern) := ⟨rfl, rfl, rfl, by decide +kernel, rfl, by decide +kernel, by decide +kernel⟩
def b_is_pattern : DSt :=
  (dRet (dAndV (dIsi "str" (dVar 0)) (dAndV (dOp fLe (dCB fLen (dCons (dVar 0) dNil)) (dC (.int 299))) (dCB fAll (dCons (dLc (dIt (dVar 0)) (gN 1) dYes (dOp (fIn false) (dVar 1) (dC (.str ("hd-" : Str)))) [1]) dNil)))))
theorem ok_is_pattern {P : Program} {w : World} {K : PySem.W.Frag} {mg : Str → Option Value} {base : Heap} {f : Addr} {fd : FuncData} {Φ : DF} (F : Fun K "is_pattern" "is_pattern" s_is_pattern f fd) (M : Mg mg)
    (hw : ∀ ds Q E, Φ ds Q E → b_is_pattern (env0 [false] ds 2) (bodyEnds [false] Q E)) : FnG P w K mg base 1 f fd ["thing"] (spD K mg [false] Φ) :=
  def_ok F sc_is_pattern rfl (fun cdv A outer s H E Z hr =>
    (s_one (s_ret (d_andV (d_isi rfl (C := "str") (by decide) M.isinstance M.str (d_var 0)) (d_andV (d_cmp o_le (nomark _) (d_callB c_len M.len (d_cons (d_var 0) d_nil)) (d_gint M.MOST_SIGNS)) (d_one (d_callB (c_all rfl) M.all (d_cons (d_lc (own := [("sign", 1)]) rfl sc_is_pattern.nd (i_any (d_var 0)) (blkOk_by (N := ["thing", "sign"]) (sc := defScope s_is_pattern) (by decide +kernel)) (fun _ _ _ _ _ => (g_name 1 sc_is_pattern.nd)) (fun _ _ _ _ _ => pts_yes) (fun _ _ _ _ _ => (d_cmp (o_in hr.u65) rfl (d_var 1) d_str))) d_nil)))))))) hw
/-! ### need_pattern : 0 pattern -/
abbrev s_need_pattern : Stmt := topS 9
theorem sc_need_pattern : FnScope ["pattern"] ["pattern"] (defScope s_need_pattern) := ⟨rfl, rfl, rfl, by decide +kernel, rfl, by decide +kernel, by decide +kernel⟩
def b_need_pattern (Φ_is_pattern : DF) : DSt :=
  (dSeq (dIf (dNotT (dTB (dCall [false] Φ_is_pattern (dCons (dVar 0) dNil))))
  dBadS
  dSkip)
  (dIf (dTB (dOp fGt (dOp fSub (dCB fLen (dCons (dVar 0) dNil)) (dBM "str" fCount (dVar 0) (dCons (dC (.str ("-" : Str))) dNil))) (dC (.int 40))))
  dBadS
  dSkip))
theorem ok_need_pattern {P : Program} {w : World} {K : PySem.W.Frag} {mg : Str → Option Value} {base : Heap} {f : Addr} {fd : FuncData} {Φ Φ_is_pattern : DF} (F : Fun K "need_pattern" "need_pattern" s_need_pattern f fd) (M : Mg mg) (C_is_pattern : FD P w K mg base 1 "is_pattern" 1 [false] Φ_is_pattern)
    (hw : ∀ ds Q E, Φ ds Q E → b_need_pattern Φ_is_pattern (env0 [false] ds 1) (bodyEnds [false] Q E)) : FnG P w K mg base 2 f fd ["pattern"] (spD K mg [false] Φ) :=
  def_ok F sc_need_pattern rfl (fun cdv A outer s H E Z hr =>
    (s_cons (s_if (d_notT (d_tv (d_callF C_is_pattern hr (takes_of rfl rfl rfl rfl) (d_cons (d_var 0) d_nil))))
    (s_one s_bad)
    s_nil)
    (s_one (s_if (d_tcmp o_gt (nomark _) (d_op o_sub (d_callB c_len M.len (d_cons (d_var 0) d_nil)) (d_bm m_count PySem.F.plainAttrs_str PySem.F.slot_str_count PySem.F.type_str_count (d_var 0) (d_cons (d_gstr M.FLAT) d_nil))) (d_gint M.MOST_BENDS))
    (s_one s_bad)
    s_nil)))) hw
/-! ### are_mirrored : 0 one, 1 other -/
abbrev s_are_mirrored : Stmt := topS 10
theorem sc_are_mirrored : FnScope ["one", "other"] ["one", "other"] (defScope s_are_mirrored) := ⟨rfl, rfl, rfl, by decide +kernel, rfl, by decide +kernel, by decide +kernel⟩
def b_are_mirrored : DSt :=
  (dRet (dOp (fIn false) (dOp fAdd (dVar 0) (dVar 1)) (dTup (dCons (dC (.str ("hd" : Str))) (dCons (dC (.str ("dh" : Str))) (dCons (dC (.str ("--" : Str))) dNil))))))
theorem ok_are_mirrored {P : Program} {w : World} {K : PySem.W.Frag} {mg : Str → Option Value} {base : Heap} {f : Addr} {fd : FuncData} {Φ : DF} (F : Fun K "are_mirrored" "are_mirrored" s_are_mirrored f fd) (M : Mg mg)
    (hw : ∀ ds Q E, Φ ds Q E → b_are_mirrored (env0 [false, false] ds 2) (bodyEnds [false, false] Q E)) : FnG P w K mg base 1 f fd ["one", "other"] (spD K mg [false, false] Φ) :=
  def_ok F sc_are_mirrored rfl (fun cdv A outer s H E Z hr =>
    (s_one (s_ret (d_cmp (o_in hr.u65) rfl (d_op o_add (d_var 0) (d_var 1)) (d_tup (d_cons d_str (d_cons d_str (d_cons d_str d_nil)))))))) hw
/-! ### reach_of : 0 pattern, 1 bend, 2 found -/
abbrev s_reach_of : Stmt := topS 11
theorem sc_reach_of : FnScope ["pattern", "bend", "found"] ["pattern", "bend"] (defScope s_reach_of) := ⟨rfl, rfl, rfl, by decide +kernel, rfl, by decide +kernel, by decide +kernel⟩
def b_reach_of (Φ_are_mirrored : DF) : DSt :=
  (dSeq (dSet 2 (dC (.int 0)))
  (dSeq (dWhile (dAndT (dTB (dOp fLt (dVar 2) (dVar 1))) (dTB (dOp fLt (dOp fAdd (dOp fAdd (dVar 1) (dVar 2)) (dC (.int 1))) (dCB fLen (dCons (dVar 0) dNil)))))
  (dSeq (dIf (dNotT (dTB (dCall [false, false] Φ_are_mirrored (dCons (dOp fIx (dVar 0) (dOp fSub (dOp fSub (dVar 1) (dVar 2)) (dC (.int 1)))) (dCons (dOp fIx (dVar 0) (dOp fAdd (dOp fAdd (dVar 1) (dVar 2)) (dC (.int 1)))) dNil)))))
  (dRet (dVar 2))
  dSkip)
  (dAugN 2 fAddA (dC (.int 1)))))
  (dRet (dVar 2))))
theorem ok_reach_of {P : Program} {w : World} {K : PySem.W.Frag} {mg : Str → Option Value} {base : Heap} {f : Addr} {fd : FuncData} {Φ Φ_are_mirrored : DF} (F : Fun K "reach_of" "reach_of" s_reach_of f fd) (M : Mg mg) (C_are_mirrored : FD P w K mg base 1 "are_mirrored" 2 [false, false] Φ_are_mirrored)
    (hw : ∀ ds Q E, Φ ds Q E → b_reach_of Φ_are_mirrored (env0 [false, false] ds 3) (bodyEnds [false, false] Q E)) : FnG P w K mg base 2 f fd ["pattern", "bend"] (spD K mg [false, false] Φ) :=
  def_ok F sc_reach_of rfl (fun cdv A outer s H E Z hr =>
    (s_cons (s_set 2 d_int sc_reach_of.nd)
    (s_cons (s_while (passes_of rfl) (d_pt' (d_andT (d_tcmp (o_lt hr.u0) (nomark _) (d_var 2) (d_var 1)) (d_and1 (d_tcmp (o_lt hr.u0) (nomark _) (d_op o_add (d_op o_add (d_var 1) (d_var 2)) d_int) (d_callB c_len M.len (d_cons (d_var 0) d_nil))))))
    (s_cons (s_if (d_notT (d_tv (d_callF C_are_mirrored hr (takes_of rfl rfl rfl rfl) (d_cons (d_ix hr.u1 (d_var 0) (d_op o_sub (d_op o_sub (d_var 1) (d_var 2)) d_int) (fun _ _ => rfl)) (d_cons (d_ix hr.u1 (d_var 0) (d_op o_add (d_op o_add (d_var 1) (d_var 2)) d_int) (fun _ _ => rfl)) d_nil)))))
    (s_one (s_ret (d_var 2)))
    s_nil)
    (s_one (s_augN 2 o_iadd d_int sc_reach_of.nd))))
    (s_one (s_ret (d_var 2)))))) hw
/-! ### reaches_of : 0 pattern, 1 bend, 2 sign -/
abbrev s_reaches_of : Stmt := topS 12
theorem sc_reaches_of : FnScope ["pattern", "bend", "sign"] ["pattern"] (defScope s_reaches_of) := ⟨rfl, rfl, rfl, by decide +kernel, rfl, by decide +kernel, by decide +kernel⟩
def b_reaches_of (Φ_reach_of : DF) : DSt :=
  (dRet (dDc (dOrI (dEnum (dCons (dVar 0) dNil)) (dEnumS (dCons (dVar 0) dNil))) (gTp [(gN 1), (gN 2)]) (dTB (dOp fNe (dVar 2) (dC (.str ("-" : Str))))) (dVar 1) (dCall [false, false] Φ_reach_of (dCons (dVar 0) (dCons (dVar 1) dNil))) [1, 2]))
theorem ok_reaches_of {P : Program} {w : World} {K : PySem.W.Frag} {mg : Str → Option Value} {base : Heap} {f : Addr} {fd : FuncData} {Φ Φ_reach_of : DF} (F : Fun K "reaches_of" "reaches_of" s_reaches_of f fd) (M : Mg mg) (C_reach_of : FD P w K mg base 2 "reach_of" 2 [false, false] Φ_reach_of)
    (hw : ∀ ds Q E, Φ ds Q E → b_reaches_of Φ_reach_of (env0 [false] ds 3) (bodyEnds [false] Q E)) : FnG P w K mg base 3 f fd ["pattern"] (spD K mg [false] Φ) :=
  def_ok F sc_reaches_of rfl (fun cdv A outer s H E Z hr =>
    (s_one (s_ret (d_dc (own := [("bend", 1), ("sign", 2)]) rfl sc_reaches_of.nd (i_or (i_enum M.enumerate (d_cons (d_var 0) d_nil)) (i_enumS M.enumerate (d_cons (d_var 0) d_nil))) (blkOk_by (N := ["pattern", "bend", "sign"]) (sc := defScope s_reaches_of) (by decide +kernel)) (fun _ _ _ _ _ => (g_tup rfl (g_cons (g_name 1 sc_reaches_of.nd) (g_cons (g_name 2 sc_reaches_of.nd) g_nil)))) (fun _ _ _ _ _ => (pts_oneD (d_tcmp (o_ne hr.u64) (nomark _) (d_var 2) (d_gstr M.FLAT)))) (fun _ _ _ _ _ => (d_var 1)) (fun _ _ _ _ _ => (d_callF C_reach_of hr takes0 (d_cons (d_var 0) (d_cons (d_var 1) d_nil)))))))) hw
/-! ### whole_of : 0 pattern -/
abbrev s_whole_of : Stmt := topS 13
theorem sc_whole_of : FnScope ["pattern"] ["pattern"] (defScope s_whole_of) := ⟨rfl, rfl, rfl, by decide +kernel, rfl, by decide +kernel, by decide +kernel⟩
def b_whole_of : DSt :=
  (dRet (dTup (dCons (dC (.int 0)) (dCons (dOp fAdd (dCB fLen (dCons (dVar 0) dNil)) (dC (.int 1))) dNil))))
theorem ok_whole_of {P : Program} {w : World} {K : PySem.W.Frag} {mg : Str → Option Value} {base : Heap} {f : Addr} {fd : FuncData} {Φ : DF} (F : Fun K "whole_of" "whole_of" s_whole_of f fd) (M : Mg mg)
    (hw : ∀ ds Q E, Φ ds Q E → b_whole_of (env0 [false] ds 1) (bodyEnds [false] Q E)) : FnG P w K mg base 1 f fd ["pattern"] (spD K mg [false] Φ) :=
  def_ok F sc_whole_of rfl (fun cdv A outer s H E Z hr =>
    (s_one (s_ret (d_tup (d_cons d_int (d_cons (d_op o_add (d_callB c_len M.len (d_cons (d_var 0) d_nil)) d_int) d_nil)))))) hw
/-! ### beginnings : 0 pattern -/
abbrev s_beginnings : Stmt := topS 16
theorem sc_beginnings : FnScope ["pattern"] ["pattern"] (defScope s_beginnings) := ⟨rfl, rfl, rfl, by decide +kernel, rfl, by decide +kernel, by decide +kernel⟩
def b_beginnings (Φ_folds_of : DF) (Φ_whole_of : DF) (Φ_reaches_of : DF) (Φ_need_pattern : DF) : DSt :=
  (dSeq (dExp (dCall [false] Φ_need_pattern (dCons (dVar 0) dNil)))
  (dRet (dCall [false, false] Φ_folds_of (dCons (dCall [false] Φ_reaches_of (dCons (dVar 0) dNil)) (dCons (dCall [false] Φ_whole_of (dCons (dVar 0) dNil)) dNil)))))
theorem ok_beginnings {P : Program} {w : World} {K : PySem.W.Frag} {mg : Str → Option Value} {base : Heap} {f : Addr} {fd : FuncData} {Φ Φ_folds_of Φ_whole_of Φ_reaches_of Φ_need_pattern : DF} (F : Fun K "beginnings" "beginnings" s_beginnings f fd) (M : Mg mg) (C_folds_of : FD P w K mg base 3 "folds_of" 2 [false, false] Φ_folds_of) (C_whole_of : FD P w K mg base 3 "whole_of" 1 [false] Φ_whole_of) (C_reaches_of : FD P w K mg base 3 "reaches_of" 1 [false] Φ_reaches_of) (C_need_pattern : FD P w K mg base 3 "need_pattern" 1 [false] Φ_need_pattern)
    (hw : ∀ ds Q E, Φ ds Q E → b_beginnings Φ_folds_of Φ_whole_of Φ_reaches_of Φ_need_pattern (env0 [false] ds 1) (bodyEnds [false] Q E)) : FnG P w K mg base 4 f fd ["pattern"] (spD K mg [false] Φ) :=
  def_ok F sc_beginnings rfl (fun cdv A outer s H E Z hr =>
    (s_cons (s_expr (d_callF C_need_pattern hr (takes_of rfl rfl rfl rfl) (d_cons (d_var 0) d_nil)))
    (s_one (s_ret (d_callF C_folds_of hr (takes_of rfl rfl rfl rfl) (d_cons (d_callF C_reaches_of hr (takes_of rfl rfl rfl rfl) (d_cons (d_var 0) d_nil)) (d_cons (d_callF C_whole_of hr (takes_of rfl rfl rfl rfl) (d_cons (d_var 0) d_nil)) d_nil))))))) hw
/-! ### law : 0 script, 1 bag, 2 turn, 3 signs, 4 due, 5 again, 6 told, 7 number -/
abbrev s_law : Stmt := topS 26
theorem sc_law : FnScope ["script", "bag", "turn", "signs", "due", "again", "told", "number"] ["script"] (defScope s_law) := ⟨rfl, rfl, rfl, by decide +kernel, rfl, by decide +kernel, by decide +kernel⟩
def b_law (Φ_beginnings : DF) (Φ_law_folds : DF) (Φ_law_signs_drawn : DF) (Φ_law_draw : DF) (Φ_law_bag : DF) : DSt :=
  (dSeq (dSet 1 (dCall [false] Φ_law_bag (dCons (dVar 0) dNil)))
  (dSeq (dFor (dRange (dCons (dOp fAdd (dC (.int 6)) (dCB fMin (dCons (dC (.int 10)) (dCons (dCB fLen (dCons (dVar 0) dNil)) dNil)))) dNil)) (gN 2)
  (dSeq (dSet 3 (dCall [true, false] Φ_law_signs_drawn (dCons (dVar 1) (dCons (dOp fIx (dLst (dCons (dC (.int 12)) (dCons (dC (.int 60)) (dCons (dC (.int 299)) dNil)))) (dCall [true, false] Φ_law_draw (dCons (dVar 1) (dCons (dC (.int 3)) dNil)))) dNil))))
  (dSeq (dSet 4 (dCall [false, false, false] Φ_law_folds (dCons (dVar 3) (dCons (dC (.int 0)) (dCons (dOp fAdd (dCB fLen (dCons (dVar 3) dNil)) (dC (.int 1))) dNil)))))
  (dFor (dRange (dCons (dC (.int 2)) dNil)) (gN 5)
  (dSeq (dSet 6 (dCall [false] Φ_beginnings (dCons (dVar 3) dNil)))
  (dSeq (dIf (dOrT (dTB (dOp fNe (dVar 6) (dVar 4))) (dTB (dOp fNe (dQuiet [6] (dLc (dIt (dVar 6)) (gN 7) (dTB (dIsi "bool" (dVar 7))) (dVar 7) [7])) (dLst dNil))))
  (dRet (dC (.bool false)))
  dSkip)
  (dExp (dMut 6 fApp (dCons (dC (.int 7)) dNil)))))))))
  (dRet (dC (.bool true)))))
theorem ok_law {P : Program} {w : World} {K : PySem.W.Frag} {mg : Str → Option Value} {base : Heap} {f : Addr} {fd : FuncData} {Φ Φ_beginnings Φ_law_folds Φ_law_signs_drawn Φ_law_draw Φ_law_bag : DF} (F : Fun K "law" "law" s_law f fd) (M : Mg mg) (C_beginnings : FD P w K mg base 4 "beginnings" 1 [false] Φ_beginnings) (C_law_folds : FD P w K mg base 4 "_law_folds" 3 [false, false, false] Φ_law_folds) (C_law_signs_drawn : FD P w K mg base 4 "_law_signs_drawn" 2 [true, false] Φ_law_signs_drawn) (C_law_draw : FD P w K mg base 4 "_law_draw" 2 [true, false] Φ_law_draw) (C_law_bag : FD P w K mg base 4 "_law_bag" 1 [false] Φ_law_bag)
    (hw : ∀ ds Q E, Φ ds Q E → b_law Φ_beginnings Φ_law_folds Φ_law_signs_drawn Φ_law_draw Φ_law_bag (env0 [false] ds 8) (bodyEnds [false] Q E)) : FnG P w K mg base 5 f fd ["script"] (spD K mg [false] Φ) :=
  def_ok F sc_law rfl (fun cdv A outer s H E Z hr =>
    (s_cons (s_set 1 (d_callF C_law_bag hr (takes_of rfl rfl rfl rfl) (d_cons (d_var 0) d_nil)) sc_law.nd)
    (s_cons (s_for (passes_of rfl) rfl (i_range M.range (d_cons (d_op o_add d_int (d_callB (c_min rfl) M.min (d_cons d_int (d_cons (d_callB c_len M.len (d_cons (d_var 0) d_nil)) d_nil)))) d_nil)) (g_name 2 sc_law.nd)
    (s_cons (s_set 3 (d_callF C_law_signs_drawn hr (takes_of rfl rfl rfl rfl) (d_cons (d_var 1) (d_cons (d_ix hr.u1 (d_lst (d_cons d_int (d_cons d_int (d_cons d_int d_nil)))) (d_callF C_law_draw hr (takes_of rfl rfl rfl rfl) (d_cons (d_var 1) (d_cons d_int d_nil))) (fun _ _ => rfl)) d_nil))) sc_law.nd)
    (s_cons (s_set 4 (d_callF C_law_folds hr (takes_of rfl rfl rfl rfl) (d_cons (d_var 3) (d_cons d_int (d_cons (d_op o_add (d_callB c_len M.len (d_cons (d_var 3) d_nil)) d_int) d_nil)))) sc_law.nd)
    (s_one (s_for (passes_of rfl) rfl (i_range M.range (d_cons d_int d_nil)) (g_name 5 sc_law.nd)
    (s_cons (s_set 6 (d_callF C_beginnings hr (takes_of rfl rfl rfl rfl) (d_cons (d_var 3) d_nil)) sc_law.nd)
    (s_cons (s_if (d_pt' (d_orT (d_tcmp (o_ne hr.u64) (nomark _) (d_var 6) (d_var 4)) (d_or1 (d_tcmp (o_ne hr.u64) (nomark _) (d_quiet [6] fun Z => (d_lc (own := [("number", 7)]) rfl sc_law.nd (i_any (d_var 6)) (blkOk_by (N := ["script", "bag", "turn", "signs", "due", "again", "told", "number"]) (sc := defScope s_law) (by decide +kernel)) (fun _ _ _ _ _ => (g_name 7 sc_law.nd)) (fun _ _ _ _ _ => (pts_oneD (d_tv (d_isi rfl (C := "bool") (by decide) M.isinstance M.bool (d_var 7))))) (fun _ _ _ _ _ => (d_var 7)))) (d_lst d_nil)))))
    (s_one (s_ret d_bl))
    s_nil)
    (s_one (s_expr (d_mut 6 m_app PySem.F.slot_list_append PySem.F.type_list_append (d_cons d_int d_nil)))))))))))
    (s_one (s_ret d_bl))))) hw
end K37

open PySem PySem.Spec L2 DL
local macro_rules | `(tactic| walk_at "d1") => `(tactic| first
  | with_reducible first | refine x_seq ?_ | refine x_skip ?_ | refine x_brk ?_ | refine x_cnt ?_ | refine x_exp ?_ | refine x_ret ?_ | refine x_retN ?_ | refine x_if ?_ | refine x_set ?_ | refine x_setI ?_ | refine x_for ?_ | refine x_unp ?_ | refine x_par ?_ | refine x_c ?_ | refine x_op ?_ | refine x_tb ?_ | refine x_andT ?_ | refine x_orT ?_ | refine x_notT ?_ | refine x_andV ?_ | refine x_orV ?_ | refine x_notV ?_ | refine x_ife ?_ | refine x_neg ?_ | refine x_chain ?_ | refine x_nil ?_ | refine x_cons ?_ | refine x_tup ?_ | refine x_lst ?_ | refine x_cb ?_ | refine x_call ?_ | refine x_isi ?_ | refine x_bm ?_ | refine x_sl ?_ | refine x_no ?_ | refine x_pt ?_ | refine x_it ?_ | refine x_range ?_ | refine x_range2 ?_ | refine x_lc ?_ | refine x_dc ?_ | refine x_quiet ?_ | refine x_chr ?_ | refine x_cnt1 ?_ | refine x_revS ?_ | refine x_addI ?_ | refine x_addA ?_ | refine x_fI0 ?_ | refine x_ltI ?_ | refine x_ordI ?_ | refine x_eqI ?_ | refine x_lenL ?_ | refine x_lenC ?_ | refine x_lenT ?_ | refine x_II ?_ | refine x_t ?_ | refine x_f ?_
  | refine x_var rfl ?_
  | refine x_tt rfl ?_
  | refine x_ff rfl ?_
  | with_reducible refine x_p18 ?_
  | refine x_fI (by first | decide | exact cdiv (by omega) (by omega) | omega) ?_
  | refine x_augN rfl ?_
  | refine x_mut rfl ?_
  | refine x_nd (by decide) ?_
  | with_reducible first | refine x_bool ?_ | refine x_boolB ?_ | refine x_int ?_ | refine x_intI ?_ | refine x_strS ?_ | refine x_strD ?_
  | refine x_ixL rfl ?_
  | refine x_ixT rfl ?_
  | (refine x_setL rfl ?_; try dsimp only [mutS, Int.reduceToNat, List.getElem?_cons_zero, List.getElem?_cons_succ, List.set_cons_zero, List.set_cons_succ])
  | refine x_rd2 rfl rfl ?_
  | refine x_own rfl ?_
  | refine x_set3 rfl rfl ?_
  | refine x_own2 rfl ?_
  | (refine x_ex rfl ?_; try dsimp only [List.set_cons_zero, List.set_cons_succ])
  | (refine x_ex (setS_ok rfl (by assumption)) ?_; try dsimp only [List.set_cons_zero, List.set_cons_succ])
  | (refine x_ex (setS_ow rfl (by assumption)) ?_; try dsimp only [List.set_cons_zero, List.set_cons_succ])
  | refine x_ty ⟨_, rfl, rfl⟩ ?_
  | dsimp only [setT0])
local macro_rules | `(tactic| walk_at "d") => `(tactic| repeat walk_at "d1")
local macro_rules | `(tactic| walk_at "n") => `(tactic| dsimp only [setT, mutS, List.getElem?_cons_zero, List.getElem?_cons_succ, List.set_cons_zero, List.set_cons_succ])

namespace K37
def F_law_stir : DF := fun ds Q _ => ∃ a b : Int, ds = [.int a, .int b] ∧ (0 ≤ a ∧ a < 2 ^ 64 ∧ 0 ≤ b ∧ b < 2 ^ 64) ∧ ∀ r : Int, 0 ≤ r → r < 2 ^ 61 → Q (dI r) []
theorem W_law_stir : ∀ ds Q E, F_law_stir ds Q E → b_law_stir (env0 [false, false] ds 4) (bodyEnds [false, false] Q E) := by
  rintro ds Q E ⟨a, b, rfl, ⟨h1, h2, h3, h4⟩, h⟩
  show b_law_stir [.fz (.int a) false, .fz (.int b) false, .un, .un] (bodyEnds [false, false] Q E)
  unfold b_law_stir
  walk_at "d"
  refine x_mulI (cmul (by omega) (by omega) (by omega) (by omega)) ?_
  walk_at "d"
  refine x_mulI (cmul (by omega) (by omega) (by omega) (by omega)) ?_
  walk_at "d"
  generalize h5 : (a * 998244353 + b * 1000000007 + 5) % 2305843009213693951 = x
  have h6 : 0 ≤ x ∧ x < 2305843009213693951 := by omega
  refine x_mulI (cmul (by omega) (by omega) (by omega) (by omega)) ?_
  walk_at "d"
  generalize h7 : x * x % 2305843009213693951 = y
  have h8 : 0 ≤ y ∧ y < 2305843009213693951 := by omega
  refine x_mulI (cmul (by omega) (by omega) (by omega) (by omega)) ?_
  walk_at "d"
  refine x_mulI (cmul (by omega) (by omega) (by omega) (by omega)) ?_
  walk_at "d"
  have h9 : 0 ≤ b * b := Int.mul_nonneg h3 h3
  have h10 : b * b ≤ 2 ^ 64 * 2 ^ 64 := Int.mul_le_mul (by omega) (by omega) h3 (by decide)
  refine x_mulI (cmul (by omega) (by omega) (by omega) (by omega)) ?_
  walk_at "d"
  exact h _ (by omega) (by omega)
/-- the reel a law draws from: the script, the place in it, what is left of a huge number, the turn, the sum; at most m turns -/
def Reel (m : Nat) (d : D) : Prop := ∃ (ns : List Int) (p : Nat) (left turn total : Int), d = .list [.list (ns.map D.int), .int p, .int left, .int turn, .int total] ∧ p ≤ ns.length ∧ 0 ≤ left ∧ 0 ≤ turn ∧ turn ≤ m ∧ 0 ≤ total ∧ total < 2 ^ 64
theorem Reel.mono {m n : Nat} {d : D} (h : Reel m d) (hn : m ≤ n) : Reel n d := by
  obtain ⟨ns, p, left, turn, total, h0, h1, h2, h3, h4, h5⟩ := h
  exact ⟨ns, p, left, turn, total, h0, h1, h2, h3, by omega, h5⟩
def F_law_draw : DF := fun ds Q _ => ∃ (m : Nat) (r : D) (k : Int), ds = [r, .int k] ∧ Reel m r ∧ m < 2 ^ 60 ∧ 1 ≤ k ∧ k < 2 ^ 60 ∧ ∀ (i : Int) (r' : D), 0 ≤ i → i < k → Reel (m + 1) r' → Q (dI i) [r']
theorem W_law_draw : ∀ ds Q E, F_law_draw ds Q E → b_law_draw F_law_stir (env0 [true, false] ds 4) (bodyEnds [true, false] Q E) := by
  rintro ds Q E ⟨m, r, k, rfl, ⟨ns, p, left, turn, total, rfl, h1, h3, h4, h5, h6, h7⟩, h0, h8, h9, h⟩
  show b_law_draw _ [.io _, .fz (.int k) false, .un, .un] (bodyEnds [true, false] Q E)
  unfold b_law_draw
  walk_at "d"
  refine x_dec (fun hk => ?_) fun hk => ?_
  · walk_at "d"
    exact h _ _ (by omega) (by omega) ⟨ns, p, left, turn, total, rfl, h1, h3, h4, by omega, h6, h7⟩
  have hmod : ∀ x : Int, 0 ≤ x % k ∧ x % k < k := fun x => ⟨Int.emod_nonneg _ (by omega), Int.emod_lt_of_pos _ (by omega)⟩
  walk_at "d"
  refine x_dec (fun h10 => ?_) fun h10 => ?_
  · walk_at "d"
    refine x_dec (fun h11 => ?_) fun h11 => ?_
    · walk_at "d"
      refine ⟨total, turn + 1, rfl, ⟨h6, h7, by omega, by omega⟩, fun r hr _ => ?_⟩
      walk_at "d"
      exact h _ _ (hmod _).1 (hmod _).2 ⟨ns, p, left, turn + 1, total, rfl, h1, h3, by omega, by omega, h6, h7⟩
    · walk_at "d"
      refine x_dec (fun h12 => ?_) fun h12 => absurd h10 h12
      walk_at "d"
      have hp : p < ns.length := by
        rw [List.length_map] at h11
        omega
      refine x_ixL (atI_nat (j := p) (by rw [List.getElem?_map, List.getElem?_eq_getElem hp]; rfl)) ?_
      walk_at "d"
      refine x_dec (fun h13 => ?_) fun h13 => ?_
      · walk_at "d"
        refine ⟨ns[p] % 2305843009213693951, turn + 1, rfl, ⟨by omega, by omega, by omega, by omega⟩, fun r hr _ => ?_⟩
        walk_at "d"
        exact h _ _ (hmod _).1 (hmod _).2 ⟨ns, p + 1, left, turn + 1, total, rfl, by omega, h3, by omega, by omega, h6, h7⟩
      · walk_at "d"
        exact h _ _ (hmod _).1 (hmod _).2 ⟨ns, p + 1, _, turn + 1, total, rfl, by omega, Int.ediv_nonneg (by omega) (by omega), by omega, by omega, h6, h7⟩
  · walk_at "d"

    refine x_dec (fun h12 => ?_) fun h12 => ?_
    · exact absurd h12 h10
    walk_at "d"
    exact h _ _ (hmod _).1 (hmod _).2 ⟨ns, p, _, turn + 1, total, rfl, h1, Int.ediv_nonneg h3 (by omega), by omega, by omega, h6, h7⟩
end K37

open PySem PySem.Spec L2 DL
namespace K37
theorem c_h : ("-" : Str) = tx [45] := by decide +kernel
theorem c_hd : ("hd" : Str) = tx [104, 100] := by decide +kernel
theorem c_dh : ("dh" : Str) = tx [100, 104] := by decide +kernel
theorem c_ff : ("--" : Str) = tx [45, 45] := by decide +kernel
theorem c_hdf : ("hd-" : Str) = tx [104, 100, 45] := by decide +kernel
theorem c_dhf : ("dh-" : Str) = tx [100, 104, 45] := by decide +kernel
theorem c_nil : ("" : Str) = tx [] := by decide +kernel
theorem c_12 : ("hd----------" : Str) = tx [104, 100, 45, 45, 45, 45, 45, 45, 45, 45, 45, 45] := by decide +kernel
/-- a pattern's signs -/
def Chr (l : List Nat) : Prop := ∀ c ∈ l, c = 104 ∨ c = 100 ∨ c = 45
theorem Chr.lt {l : List Nat} (h : Chr l) : ∀ c ∈ l, c < 0x110000 := fun c hc => by
  rcases h c hc with rfl | rfl | rfl <;> decide
theorem chr1 {c : Nat} (h : c = 104 ∨ c = 100 ∨ c = 45) : ∀ x ∈ [c], x < 0x110000 := fun x hx => by
  rw [List.mem_singleton.mp hx]
  rcases h with rfl | rfl | rfl <;> decide
def mir (a b : Nat) : Bool := (a == 104 && b == 100) || (a == 100 && b == 104) || (a == 45 && b == 45)
theorem small {n : Nat} (h : n ≤ 10000) : n ≤ sizeLine := Nat.le_trans h (by decide)
def mirs (l : List Nat) (b t : Nat) : Bool := mir (l.getD (b - t) 0) (l.getD (b + t) 0)
/-- the bend at b may be done first -/
def beg (l : List Nat) (b : Nat) : Bool := l.getD b 0 != 45 && (List.range (min b (l.length - 1 - b))).all fun t => mirs l b (t + 1)
/-- x + y in the three pairs -/
theorem in_pairs {neg : Bool} {c d : Nat} {n m : Bool} {R : T → Prop} (hc : c = 104 ∨ c = 100 ∨ c = 45) (hd : d = 104 ∨ d = 100 ∨ d = 45) (h : R (dB (neg != mir c d))) : fIn neg (.str (tx ([c] ++ [d]))) (.list [.str (tx [104, 100]), .str (tx [100, 104]), .str (tx [45, 45])]) n m R := by
  refine ⟨?_, ?_, ?_⟩
  · rcases hc with rfl | rfl | rfl <;> rcases hd with rfl | rfl | rfl <;> decide +kernel
  · decide +kernel
  · have e : ([D.str (tx [104, 100]), .str (tx [100, 104]), .str (tx [45, 45])].any fun z => deq z (.str (tx ([c] ++ [d])))) = mir c d := by
      rcases hc with rfl | rfl | rfl <;> rcases hd with rfl | rfl | rfl <;> decide +kernel
    rw [e]; exact h
theorem in_pairsT {neg : Bool} {c d : Nat} {n m : Bool} {R : T → Prop} (hc : c = 104 ∨ c = 100 ∨ c = 45) (hd : d = 104 ∨ d = 100 ∨ d = 45) (h : R (dB (neg != mir c d))) : fIn neg (.str (tx ([c] ++ [d]))) (.tuple [.str (tx [104, 100]), .str (tx [100, 104]), .str (tx [45, 45])]) n m R := by
  refine ⟨?_, ?_, ?_⟩
  · rcases hc with rfl | rfl | rfl <;> rcases hd with rfl | rfl | rfl <;> decide +kernel
  · decide +kernel
  · have e : ([D.str (tx [104, 100]), .str (tx [100, 104]), .str (tx [45, 45])].any fun z => deq z (.str (tx ([c] ++ [d])))) = mir c d := by
      rcases hc with rfl | rfl | rfl <;> rcases hd with rfl | rfl | rfl <;> decide +kernel
    rw [e]; exact h
theorem getD_at {l : List Nat} {i : Nat} (h : i < l.length) : l[i]? = some (l.getD i 0) := by
  rw [List.getElem?_eq_getElem h, List.getD_eq_getElem?_getD, List.getElem?_eq_getElem h]; rfl
theorem chr_at {l : List Nat} (hc : Chr l) {i : Nat} (h : i < l.length) : l.getD i 0 = 104 ∨ l.getD i 0 = 100 ∨ l.getD i 0 = 45 := hc _ (List.mem_of_getElem? (getD_at h))
theorem eq_dash {c : Nat} : (tx [c] = tx [45]) ↔ c = 45 := by
  constructor
  · intro h
    have := congrArg (fun z : Str => z.cps.toList) h
    simpa [tx] using this
  · rintro rfl; rfl
def F_law_begins : DF := fun ds Q _ => ∃ (l : List Nat) (b : Nat), ds = [.str (tx l), .int 0, .int (l.length + 1), .int b] ∧ Chr l ∧ l.length ≤ 299 ∧ b < l.length ∧ Q (dB (beg l b)) []
theorem W_law_begins : ∀ ds Q E, F_law_begins ds Q E → b_law_begins (env0 [false, false, false, false] ds 5) (bodyEnds [false, false, false, false] Q E) := by
  rintro ds Q E ⟨l, b, rfl, hc, hl, hb, h⟩
  show b_law_begins [.fz (.str (tx l)) false, .fz (.int 0) false, .fz (.int (l.length + 1)) false, .fz (.int b) false, .un] (bodyEnds [false, false, false, false] Q E)
  unfold b_law_begins
  simp only [c_h, c_hd, c_dh, c_ff]
  walk_at "d"
  refine x_ixSt (small (by omega)) (atI_get (getD_at hb)) ?_
  walk_at "d"
  refine x_eqS (chr1 (chr_at hc hb)) (by decide) ?_
  walk_at "d"
  refine x_dec (fun h1 => ?_) fun h1 => ?_
  · walk_at "d"
    have : beg l b = false := by unfold beg; rw [eq_dash] at h1; rw [h1]; rfl
    rw [this] at h
    exact h
  walk_at "d"
  rw [eq_dash] at h1
  refine x_lenSt (small (by omega)) ?_
  walk_at "d"
  refine x_rng2 rfl ⟨by omega, by omega, by omega, by omega⟩ ?_
  have e1 : ((l.length : Int) - 1).toNat = l.length - 1 := by omega
  rw [e1]
  have hall : beg l b = true ↔ ∀ t, 1 ≤ t → t ≤ b → b + t < l.length → mirs l b t = true := by
    unfold beg
    rw [Bool.and_eq_true, List.all_eq_true]
    constructor
    · rintro ⟨_, q⟩ t h2 h3 h4
      have := q (t - 1) (List.mem_range.mpr (by omega))
      rwa [show t - 1 + 1 = t by omega] at this
    · intro q
      refine ⟨bne_iff_ne.mpr h1, fun t ht => ?_⟩
      have := List.mem_range.mp ht
      exact q (t + 1) (by omega) (by omega) (by omega)
  refine for_ind (fun rest e => ∃ (k n : Nat) (s4 : Slot), rest = rangeD (k : Int) n ∧ k + n = l.length ∧ 1 ≤ k ∧ (∀ t, 1 ≤ t → t < k → t ≤ b → b + t < l.length → mirs l b t = true) ∧ okS s4 = true ∧
    e = [.fz (.str (tx l)) false, .fz (.int 0) false, .fz (.int (l.length + 1)) false, .fz (.int b) false, s4]) ?_ ?_ ⟨1, l.length - 1, .un, rfl, by omega, by omega, fun t _ _ _ _ => by omega, rfl, rfl⟩
  · rintro x xs e K ⟨k, n, s4, e2, hk, hk1, hm, ho, rfl⟩ hK
    cases n with
    | zero => cases e2
    | succ n =>
      rw [rangeD_succ] at e2
      cases e2
      refine ⟨_, setS_ok rfl ho, ?_⟩
      dsimp only [List.set_cons_zero, List.set_cons_succ]
      walk_at "d"
      have yes : ¬ (k ≤ b ∧ b + k < l.length) → Q (dB true) [] := fun ho => by
        have : beg l b = true := hall.mpr fun t h2 h3 h4 => hm t h2 (by omega) h3 h4
        rw [this] at h
        exact h
      refine x_dec (fun h2 => ?_) fun h2 => ?_
      · walk_at "d"
        exact yes (by omega)
      walk_at "d"
      refine x_dec (fun h3 => ?_) fun h3 => ?_
      · walk_at "d"
        exact yes (by omega)
      walk_at "d"
      have hk2 : k ≤ b := by omega
      have hk3 : b + k < l.length := by omega
      refine x_ixSt (small (by omega)) (c := l.getD (b - k) 0) (by rw [show (b : Int) - (k : Int) = ((b - k : Nat) : Int) by omega]; exact atI_get (getD_at (by omega))) ?_
      walk_at "d"
      refine x_ixSt (small (by omega)) (c := l.getD (b + k) 0) (by rw [show (b : Int) + (k : Int) = ((b + k : Nat) : Int) by omega]; exact atI_get (getD_at hk3)) ?_
      walk_at "d"
      refine x_addS (small (show 2 ≤ 10000 by decide)) ?_
      walk_at "d"
      refine ⟨small (by decide), ?_⟩
      walk_at "d"
      refine in_pairs (chr_at hc (by omega)) (chr_at hc hk3) ?_
      walk_at "d"
      cases hmir : mir (l.getD (b - k) 0) (l.getD (b + k) 0) with
      | false =>
        walk_at "d"
        have : beg l b = false := by
          cases hb' : beg l b with
          | false => rfl
          | true =>
            have := hall.mp hb' k hk1 hk2 hk3
            unfold mirs at this
            rw [hmir] at this
            cases this
        rw [this] at h
        exact h
      | true =>
        walk_at "d"
        refine hK _ ⟨k + 1, n, .fz (.int k) true, rfl, by omega, by omega, fun t h4 h5 h6 h7 => ?_, rfl, rfl⟩
        by_cases ht : t = k
        · subst ht
          exact hmir
        · exact hm t h4 (by omega) h6 h7
  · rintro e ⟨k, n, s4, e2, hk, hk1, hm, ho, rfl⟩
    cases n with
    | succ n => rw [rangeD_succ] at e2; cases e2
    | zero =>
      walk_at "d"
      have : beg l b = true := hall.mpr fun t h2 h3 h4 => hm t h2 (by omega) h3 h4
      rw [this] at h
      exact h
end K37

open PySem PySem.Spec L2 DL
namespace K37
/-- the bends of l that may be done first -/
def fl (l : List Nat) : List Int := ((List.range l.length).filter (beg l)).map fun k : Nat => (k : Int)
def F_law_folds : DF := fun ds Q _ => ∃ l : List Nat, ds = [.str (tx l), .int 0, .int (l.length + 1)] ∧ Chr l ∧ l.length ≤ 299 ∧ Q (.ow (.list ((fl l).map .int)) true) []
theorem W_law_folds : ∀ ds Q E, F_law_folds ds Q E → b_law_folds F_law_begins (env0 [false, false, false] ds 4) (bodyEnds [false, false, false] Q E) := by
  rintro ds Q E ⟨l, rfl, hc, hl, h⟩
  show b_law_folds _ [.fz (.str (tx l)) false, .fz (.int 0) false, .fz (.int (l.length + 1)) false, .un] (bodyEnds [false, false, false] Q E)
  unfold b_law_folds
  walk_at "d"
  refine x_rng2 rfl ⟨by omega, by omega, by omega, by omega⟩ ?_
  have e1 : ((l.length : Int) + 1 - 1 - 0).toNat = l.length := by omega
  rw [e1]
  refine x_lcfm (List.range l.length) (fun k : Nat => D.int (k : Int)) (fun k => if beg l k = true then some (D.int (k : Int)) else none) (by rw [List.range_eq_range']; exact rangeD_map (lo := 0)) ?_ (by rw [List.length_range]; exact small (by omega)) ?_ ?_
  · exact off1 rfl rfl
  · intro k hk K K2 h1 h2
    have hk' := List.mem_range.mp hk
    refine ⟨_, rfl, ?_⟩
    walk_at "d"
    refine ⟨l, k, rfl, hc, hl, hk', ?_⟩
    walk_at "d"
    refine ⟨by exact off1 rfl rfl, fun hb => ?_, fun hb => h2 _ (by simp [hb]) (by exact off1 rfl rfl) rfl⟩
    walk_at "d"
    exact h1 _ _ (by simp [hb]) (by exact off1 rfl rfl) rfl
  · rw [fmap_if]
    walk_at "d"
    have e2 : ((List.range l.length).filter (beg l)).map (fun k : Nat => D.int (k : Int)) = (fl l).map .int := by unfold fl; rw [List.map_map]; rfl
    rw [e2]
    exact h
def F_is_pattern : DF := fun ds Q _ => ∃ l : List Nat, ds = [.str (tx l)] ∧ Chr l ∧ l.length ≤ 299 ∧ Q (dB true) []
theorem W_is_pattern : ∀ ds Q E, F_is_pattern ds Q E → b_is_pattern (env0 [false] ds 2) (bodyEnds [false] Q E) := by
  rintro ds Q E ⟨l, rfl, hc, hl, h⟩
  show b_is_pattern [.fz (.str (tx l)) false, .un] (bodyEnds [false] Q E)
  unfold b_is_pattern
  simp only [c_hdf]
  walk_at "d"
  refine x_lenSt (small (by omega)) ?_
  walk_at "d"
  refine x_dec (fun _ => ?_) fun h1 => absurd (by omega) h1
  walk_at "d"
  refine x_lcfm l (fun c => D.str ⟨#[c]⟩) (fun c => some (D.bool true)) rfl ?_ (small (by omega)) ?_ ?_
  · exact off1 rfl rfl
  · intro c hcm K K2 h1 h2
    refine ⟨_, rfl, ?_⟩
    refine ⟨by exact off1 rfl rfl, fun _ => ?_, fun z => nomatch z⟩
    walk_at "d"
    have e : (false != decide (c ∈ (tx [104, 100, 45]).cps.toList)) = true := by
      rcases hc c hcm with rfl | rfl | rfl <;> decide
    rw [e]
    exact h1 _ _ rfl (by exact off1 rfl rfl) rfl
  · rw [fmap_some]
    walk_at "d"
    refine ⟨_, _, l.map fun _ => true, rfl, by show some _ = some _; rw [List.map_map]; rfl, ?_⟩
    have e : (l.map fun _ => true).all id = true := by simp
    rw [e]
    walk_at "d"
    exact h
def F_need_pattern : DF := fun ds Q _ => ∃ l : List Nat, ds = [.str (tx l)] ∧ Chr l ∧ l.length ≤ 299 ∧ l.length ≤ l.count 45 + 40 ∧ Q (.fz .none true) []
theorem W_need_pattern : ∀ ds Q E, F_need_pattern ds Q E → b_need_pattern F_is_pattern (env0 [false] ds 1) (bodyEnds [false] Q E) := by
  rintro ds Q E ⟨l, rfl, hc, hl, hn, h⟩
  show b_need_pattern _ [.fz (.str (tx l)) false] (bodyEnds [false] Q E)
  unfold b_need_pattern
  simp only [c_h]
  walk_at "d"
  refine ⟨l, rfl, hc, hl, ?_⟩
  walk_at "d"
  refine x_lenSt (small (by omega)) ?_
  walk_at "d"
  rw [count_tx]
  refine x_dec (fun h1 => ?_) fun h1 => ?_
  · exfalso; omega
  walk_at "d"
  exact h
def F_are_mirrored : DF := fun ds Q _ => ∃ c d : Nat, ds = [.str (tx [c]), .str (tx [d])] ∧ (c = 104 ∨ c = 100 ∨ c = 45) ∧ (d = 104 ∨ d = 100 ∨ d = 45) ∧ Q (dB (mir c d)) []
theorem W_are_mirrored : ∀ ds Q E, F_are_mirrored ds Q E → b_are_mirrored (env0 [false, false] ds 2) (bodyEnds [false, false] Q E) := by
  rintro ds Q E ⟨c, d, rfl, hc, hd, h⟩
  show b_are_mirrored [.fz (.str (tx [c])) false, .fz (.str (tx [d])) false] (bodyEnds [false, false] Q E)
  unfold b_are_mirrored
  simp only [c_hd, c_dh, c_ff]
  walk_at "d"
  refine x_addS (small (show 2 ≤ 10000 by decide)) ?_
  walk_at "d"
  refine ⟨small (show 3 ≤ 10000 by decide), ?_⟩
  walk_at "d"
  refine in_pairsT hc hd ?_
  walk_at "d"
  have e : (false != mir c d) = mir c d := by cases mir c d <;> rfl
  rw [e]
  exact h
def F_whole_of : DF := fun ds Q _ => ∃ l : List Nat, ds = [.str (tx l)] ∧ l.length ≤ 299 ∧ Q (.fz (.tuple [.int 0, .int (l.length + 1)]) true) []
theorem W_whole_of : ∀ ds Q E, F_whole_of ds Q E → b_whole_of (env0 [false] ds 1) (bodyEnds [false] Q E) := by
  rintro ds Q E ⟨l, rfl, hl, h⟩
  show b_whole_of [.fz (.str (tx l)) false] (bodyEnds [false] Q E)
  unfold b_whole_of
  walk_at "d"
  refine x_lenSt (small (by omega)) ?_
  walk_at "d"
  refine ⟨small (show 2 ≤ 10000 by decide), ?_⟩
  walk_at "d"
  exact h
end K37

open PySem PySem.Spec L2 DL
namespace K37
def lim (l : List Nat) (b : Nat) : Nat := min b (l.length - 1 - b)
/-- how far the signs beside b are mirrored -/
def rea (l : List Nat) (b : Nat) : Nat := ((List.range (lim l b)).takeWhile fun t => mirs l b (t + 1)).length
theorem tw_len (p : Nat → Bool) (m r : Nat) (h1 : r ≤ m) (h2 : ∀ t, t < r → p t = true) (h3 : r = m ∨ p r = false) : ((List.range m).takeWhile p).length = r := by
  have e : List.range m = List.range r ++ (List.range' r (m - r)) := by
    have q := List.range'_append_1 (s := 0) (m := r) (n := m - r)
    rw [Nat.zero_add, show r + (m - r) = m by omega] at q
    rw [List.range_eq_range', List.range_eq_range', ← q]
  rw [e, List.takeWhile_append_of_pos fun a ha => h2 a (List.mem_range.mp ha), List.length_append, List.length_range]
  rcases h3 with rfl | h3
  · simp
  · cases q : m - r with
    | zero => simp
    | succ k =>
      rw [List.range'_succ, List.takeWhile_cons, h3]
      simp
theorem rea_eq {l : List Nat} {b r : Nat} (h1 : r ≤ lim l b) (h2 : ∀ t, t < r → mirs l b (t + 1) = true) (h3 : r = lim l b ∨ mirs l b (r + 1) = false) : rea l b = r := tw_len _ _ _ h1 h2 h3
theorem rea_beg {l : List Nat} {b : Nat} (h : l.getD b 0 ≠ 45) : decide (lim l b ≤ rea l b) = beg l b := by
  unfold beg rea lim
  rw [bne_iff_ne.mpr h, Bool.true_and]
  generalize (min b (l.length - 1 - b)) = m
  cases hall : (List.range m).all fun t => mirs l b (t + 1) with
  | true =>
    rw [List.all_eq_true] at hall
    rw [tw_len _ m m (Nat.le_refl _) (fun t ht => hall t (List.mem_range.mpr ht)) (.inl rfl)]
    simp
  | false =>
    rw [List.all_eq_false] at hall
    obtain ⟨t, ht, hf⟩ := hall
    have ht' := List.mem_range.mp ht
    apply decide_eq_false
    intro hle
    have h4 : ((List.range m).takeWhile fun t => mirs l b (t + 1)).length = m := Nat.le_antisymm (by have := (List.takeWhile_prefix (fun t => mirs l b (t + 1)) (l := List.range m)).length_le; simpa using this) hle
    have h5 : ((List.range m).takeWhile fun t => mirs l b (t + 1)) = List.range m := (List.takeWhile_prefix _).eq_of_length (by rw [h4]; simp)
    have h6 := List.all_takeWhile (p := fun t => mirs l b (t + 1)) (l := List.range m)
    rw [h5, List.all_eq_true] at h6
    exact hf (h6 t ht)
def F_reach_of : DF := fun ds Q _ => ∃ (l : List Nat) (b : Nat), ds = [.str (tx l), .int b] ∧ Chr l ∧ l.length ≤ 299 ∧ b < l.length ∧ Q (dI (rea l b)) []
theorem W_reach_of : ∀ ds Q E, F_reach_of ds Q E → b_reach_of F_are_mirrored (env0 [false, false] ds 3) (bodyEnds [false, false] Q E) := by
  rintro ds Q E ⟨l, b, rfl, hc, hl, hb, h⟩
  show b_reach_of _ [.fz (.str (tx l)) false, .fz (.int b) false, .un] (bodyEnds [false, false] Q E)
  unfold b_reach_of
  walk_at "d"
  refine x_while (fun m e => ∃ r : Nat, m + r = l.length ∧ r ≤ lim l b ∧ (∀ t, t < r → mirs l b (t + 1) = true) ∧ e = [.fz (.str (tx l)) false, .fz (.int b) false, .fz (.int r) true]) l.length ⟨0, by omega, Nat.zero_le _, fun t z => absurd z (Nat.not_lt_zero _), rfl⟩ ?_
  rintro m e ⟨r, hm, hr, hmir, rfl⟩
  have hlim : lim l b = min b (l.length - 1 - b) := rfl
  walk_at "d"
  refine x_dec (fun h1 => ?_) fun h1 => ?_
  · walk_at "d"
    refine x_lenSt (small (by omega)) ?_
    walk_at "d"
    refine x_dec (fun h2 => ?_) fun h2 => ?_
    · walk_at "d"
      refine x_ixSt (small (by omega)) (c := l.getD (b - (r + 1)) 0) (by rw [show (b : Int) - (r : Int) - 1 = ((b - (r + 1) : Nat) : Int) by omega]; exact atI_get (getD_at (by omega))) ?_
      walk_at "d"
      refine x_ixSt (small (by omega)) (c := l.getD (b + (r + 1)) 0) (by rw [show (b : Int) + (r : Int) + 1 = ((b + (r + 1) : Nat) : Int) by omega]; exact atI_get (getD_at (by omega))) ?_
      walk_at "d"
      refine ⟨_, _, rfl, chr_at hc (by omega), chr_at hc (by omega), ?_⟩
      walk_at "d"
      cases hmm : mir (l.getD (b - (r + 1)) 0) (l.getD (b + (r + 1)) 0) with
      | false =>
        walk_at "d"
        rw [rea_eq hr hmir (.inr hmm)] at h
        exact h
      | true =>
        walk_at "d"
        refine ⟨m - 1, by omega, r + 1, by omega, by omega, fun t ht => ?_, rfl⟩
        by_cases htr : t = r
        · subst htr; exact hmm
        · exact hmir t (by omega)
    · walk_at "d"
      rw [rea_eq hr hmir (.inl (by omega))] at h
      exact h
  · walk_at "d"
    rw [rea_eq hr hmir (.inl (by omega))] at h
    exact h
/-- the places of the bends -/
def nd (l : List Nat) : List Nat := (List.range l.length).filter fun b => l.getD b 0 != 45
def kv (l : List Nat) (b : Nat) : D × D := (.int b, .int (rea l b))
def F_bends_in : DF := fun ds Q _ => ∃ (l : List Nat), ds = [.dict false ((nd l).map (kv l)), .tuple [.int 0, .int (l.length + 1)]] ∧ l.length ≤ 299 ∧ (nd l).length ≤ 40 ∧ Q (.ow (.list ((nd l).map fun b : Nat => D.int (b : Int))) true) []
theorem nd_sorted (l : List Nat) : ((nd l).map fun b : Nat => (b : Int)).Pairwise (· ≤ ·) := by
  have h : (nd l).Pairwise (· < ·) := List.Pairwise.filter _ List.pairwise_lt_range
  exact List.Pairwise.map _ (fun a b hab => by omega) h
theorem nd_lt {l : List Nat} {b : Nat} (h : b ∈ nd l) : b < l.length ∧ l.getD b 0 ≠ 45 := by
  have h' := List.mem_filter.mp h
  exact ⟨List.mem_range.mp h'.1, by simpa using h'.2⟩
theorem W_bends_in : ∀ ds Q E, F_bends_in ds Q E → b_bends_in (env0 [false, false] ds 3) (bodyEnds [false, false] Q E) := by
  rintro ds Q E ⟨l, rfl, hl, hn, h⟩
  show b_bends_in [.fz (.dict false ((nd l).map (kv l))) false, .fz (.tuple [.int 0, .int (l.length + 1)]) false, .un] (bodyEnds [false, false] Q E)
  unfold b_bends_in
  walk_at "d"
  refine ⟨_, _, (nd l).map fun b : Nat => (b : Int), rfl, .inr ⟨_, rfl, by rw [List.map_map, List.map_map]; rfl, by rw [List.length_map]; omega⟩, fun ys hp hs => ?_⟩
  have e := sorted_eq hp hs (nd_sorted l)
  subst e
  walk_at "d"
  refine x_lcfm (nd l) (fun b : Nat => D.int (b : Int)) (fun b => some (D.int (b : Int))) (by rw [List.map_map]; rfl) (by exact off1 rfl rfl) (small (by omega)) ?_ ?_
  · intro b hb K K2 h1 h2
    obtain ⟨hb1, hb2⟩ := nd_lt hb
    refine ⟨_, rfl, ?_⟩
    walk_at "d"
    refine ⟨by exact off1 rfl rfl, fun _ => ?_, fun z => ?_⟩
    · walk_at "d"
      exact h1 _ _ rfl (by exact off1 rfl rfl) rfl
    · exfalso
      have := of_decide_eq_false z
      omega
  · rw [fmap_some]
    walk_at "d"
    exact h
end K37

open PySem PySem.Spec L2 DL
namespace K37
def ndk (l : List Nat) (k : Nat) : List Nat := (List.range k).filter fun b => l.getD b 0 != 45
theorem ndk_lt {l : List Nat} {k b : Nat} (h : b ∈ ndk l k) : b < k := List.mem_range.mp (List.mem_filter.mp h).1
theorem ndk_len (l : List Nat) (k : Nat) : (ndk l k).length ≤ k := by
  have := List.length_filter_le (fun b => l.getD b 0 != 45) (List.range k)
  rwa [List.length_range] at this
theorem nd_len (l : List Nat) : (nd l).length + l.count 45 = l.length := by
  have h1 : (nd l).length = l.countP (fun c => c != 45) := by
    unfold nd
    rw [← List.countP_eq_length_filter]
    conv => rhs; rw [← getD_map l]
    rw [List.countP_map]
    rfl
  have h2 : l.count 45 = l.countP (fun c => c == 45) := rfl
  have h3 := List.length_eq_countP_add_countP (fun c => c == 45) (l := l)
  have h4 : (l.countP fun c => decide ¬(c == 45) = true) = l.countP (fun c => c != 45) := by
    apply List.countP_congr
    intro c _
    simp
  omega
def F_reaches_of : DF := fun ds Q _ => ∃ l : List Nat, ds = [.str (tx l)] ∧ Chr l ∧ l.length ≤ 299 ∧ Q (.ow (.dict false ((nd l).map (kv l))) true) []
theorem W_reaches_of : ∀ ds Q E, F_reaches_of ds Q E → b_reaches_of F_reach_of (env0 [false] ds 3) (bodyEnds [false] Q E) := by
  rintro ds Q E ⟨l, rfl, hc, hl, h⟩
  show b_reaches_of _ [.fz (.str (tx l)) false, .un, .un] (bodyEnds [false] Q E)
  unfold b_reaches_of
  simp only [c_h]
  walk_at "d"
  refine x_enumS ?_
  walk_at "d"
  refine x_str1 rfl ?_
  refine x_dcI (fun rest acc an e => ∃ k, k ≤ l.length ∧ rest = enumD k ((l.drop k).map fun c => D.str ⟨#[c]⟩) ∧ acc = (ndk l k).map (kv l) ∧ an = true ∧ wipeE e [1, 2] = [.fz (.str (tx l)) false, .un, .un]) ?_ ?_ ?_ ?_
  · exact off2 rfl rfl rfl rfl
  · exact ⟨0, Nat.zero_le _, rfl, rfl, rfl, rfl⟩
  · rintro x xs acc an e K K2 ⟨k, hk, e1, rfl, rfl, ew⟩ h1 h2
    rcases Nat.lt_or_ge k l.length with hlt | hge
    · rw [List.drop_eq_getElem_cons hlt, List.map_cons] at e1
      cases e1
      rw [ew]
      refine ⟨_, rfl, ?_⟩
      walk_at "d"
      have hg : l[k] = l.getD k 0 := by simp [List.getD_eq_getElem?_getD, List.getElem?_eq_getElem hlt]
      have hcc := chr_at hc hlt
      rw [← hg] at hcc
      refine x_neS (a := [l[k]]) (chr1 hcc) (by decide) ?_
      walk_at "d"
      have hr : ndk l (k + 1) = if l[k] = 45 then ndk l k else ndk l k ++ [k] := by
        unfold ndk
        rw [List.range_succ, List.filter_append, List.filter_cons, ← hg]
        by_cases h45 : l[k] = 45 <;> simp [h45]
      refine ⟨by exact off2 rfl rfl rfl rfl, fun z => ?_, fun z => ?_⟩
      · have h45 : l[k] ≠ 45 := fun q => by
          rw [eq_dash.mpr q] at z
          simp at z
        rw [if_neg h45] at hr
        walk_at "d"
        refine ⟨_, _, rfl, ⟨_, rfl⟩, ?_⟩
        walk_at "d"
        have e0 : ((0 + k : Nat) : Int) = (k : Int) := by omega
        refine ⟨l, k, rfl, hc, hl, hlt, ?_⟩
        walk_at "d"
        have hd : dput ((ndk l k).map (kv l)) (.int (k : Int)) (.int (rea l k)) = (ndk l (k + 1)).map (kv l) := by
          rw [dput_new, hr, List.map_append]
          · rfl
          · intro p hp
            obtain ⟨b, hb, rfl⟩ := List.mem_map.mp hp
            have := ndk_lt hb
            show deq (.int (b : Int)) (.int (k : Int)) = false
            rw [deq_int]
            apply decide_eq_false
            omega
        refine h1 _ _ _ _ ?_ (by exact off2 rfl rfl rfl rfl) ⟨k + 1, hlt, rfl, hd, rfl, rfl⟩
        rw [List.length_map]
        exact Nat.lt_of_le_of_lt (ndk_len l k) (Nat.lt_of_lt_of_le hlt (small (by omega)))
      · have h45 : l[k] = 45 := by
          apply Decidable.byContradiction
          intro q
          rw [← eq_dash] at q
          simp [q] at z
        rw [if_pos h45] at hr
        exact h2 _ ⟨k + 1, hlt, rfl, by rw [hr], rfl, rfl⟩
    · rw [List.drop_eq_nil_of_le hge] at e1
      cases e1
  · rintro acc an e ⟨k, hk, e1, rfl, rfl, ew⟩
    have hkl : k = l.length := by
      rcases Nat.lt_or_ge k l.length with hlt | hge
      · rw [List.drop_eq_getElem_cons hlt, List.map_cons] at e1
        cases e1
      · omega
    subst hkl
    rw [ew]
    walk_at "d"
    exact h
theorem dget_kv {l : List Nat} : ∀ {bs : List Nat} {b : Nat}, b ∈ bs → dget (bs.map (kv l)) (.int b) = some (.int (rea l b))
  | [], b, h => by simp at h
  | x :: bs, b, h => by
    unfold dget
    rw [List.map_cons, List.find?_cons]
    show Option.map _ (match deq (.int (x : Int)) (.int (b : Int)) with | true => _ | false => _) = _
    rw [deq_int]
    by_cases hx : x = b
    · subst hx
      simp [kv]
    · have : decide ((x : Int) = (b : Int)) = false := decide_eq_false (by omega)
      rw [this]
      have hb : b ∈ bs := by
        rcases List.mem_cons.mp h with q | q
        · exact absurd q.symm hx
        · exact q
      exact dget_kv hb
def F_folds_of : DF := fun ds Q _ => ∃ (l : List Nat), ds = [.dict false ((nd l).map (kv l)), .tuple [.int 0, .int (l.length + 1)]] ∧ l.length ≤ 299 ∧ (nd l).length ≤ 40 ∧ Q (.ow (.list ((fl l).map .int)) true) []
theorem W_folds_of : ∀ ds Q E, F_folds_of ds Q E → b_folds_of F_bends_in (env0 [false, false] ds 5) (bodyEnds [false, false] Q E) := by
  rintro ds Q E ⟨l, rfl, hl, hn, h⟩
  show b_folds_of _ [.fz (.dict false ((nd l).map (kv l))) false, .fz (.tuple [.int 0, .int (l.length + 1)]) false, .un, .un, .un] (bodyEnds [false, false] Q E)
  unfold b_folds_of
  walk_at "d"
  refine ⟨l, rfl, hl, hn, ?_⟩
  walk_at "d"
  refine x_lcfm (nd l) (fun b : Nat => D.int (b : Int)) (fun b => if beg l b = true then some (D.int (b : Int)) else none) rfl (by exact off1 rfl rfl) (small (by omega)) ?_ ?_
  · intro b hb K K2 h1 h2
    obtain ⟨hb1, hb2⟩ := nd_lt hb
    refine ⟨_, rfl, ?_⟩
    walk_at "d"
    refine x_ex (dget_kv hb) ?_
    walk_at "d"
    have hr := rea_beg hb2
    have hlim : lim l b = min b (l.length - 1 - b) := rfl
    refine ⟨by exact off1 rfl rfl, fun z => ?_, fun z => ?_⟩
    · have hbeg : beg l b = true := by
        rw [← hr]
        have := of_decide_eq_true z
        apply decide_eq_true
        split at this <;> omega
      walk_at "d"
      exact h1 _ _ (by simp [hbeg]) (by exact off1 rfl rfl) rfl
    · have hbeg : beg l b = false := by
        rw [← hr]
        have := of_decide_eq_false z
        apply decide_eq_false
        split at this <;> omega
      exact h2 _ (by simp [hbeg]) (by exact off1 rfl rfl) rfl
  · rw [fmap_if]
    walk_at "d"
    have e2 : ((nd l).filter (beg l)).map (fun k : Nat => D.int (k : Int)) = (fl l).map .int := by
      unfold fl nd
      rw [List.map_map, List.filter_filter]
      congr 1
      apply List.filter_congr
      intro b _
      cases hq : beg l b with
      | false => simp
      | true =>
        unfold beg at hq
        rw [Bool.and_eq_true] at hq
        rw [hq.1]; rfl
    rw [e2]
    exact h
def F_beginnings : DF := fun ds Q _ => ∃ (l : List Nat), ds = [.str (tx l)] ∧ Chr l ∧ l.length ≤ 299 ∧ l.length ≤ l.count 45 + 40 ∧ Q (.ow (.list ((fl l).map .int)) true) []
theorem W_beginnings : ∀ ds Q E, F_beginnings ds Q E → b_beginnings F_folds_of F_whole_of F_reaches_of F_need_pattern (env0 [false] ds 1) (bodyEnds [false] Q E) := by
  rintro ds Q E ⟨l, rfl, hc, hl, hn, h⟩
  show b_beginnings _ _ _ _ [.fz (.str (tx l)) false] (bodyEnds [false] Q E)
  unfold b_beginnings
  have hnd := nd_len l
  walk_at "d"
  refine ⟨l, rfl, hc, hl, hn, ?_⟩
  walk_at "d"
  refine ⟨l, rfl, hc, hl, ?_⟩
  walk_at "d"
  refine ⟨l, rfl, hl, ?_⟩
  walk_at "d"
  refine ⟨l, rfl, hl, by omega, ?_⟩
  walk_at "d"
  exact h
end K37

open PySem PySem.Spec L2 DL
namespace K37
def F_law_bag : DF := fun ds Q _ => ∃ ns : List Int, ds = [.scr (ns.map .int)] ∧ ∀ r, Reel 0 r → Q (.ow r false) []
theorem W_law_bag : ∀ ds Q E, F_law_bag ds Q E → b_law_bag (env0 [false] ds 3) (bodyEnds [false] Q E) := by
  rintro ds Q E ⟨ns, rfl, h⟩
  show b_law_bag [.fz (.scr (ns.map .int)) false, .un, .un] (bodyEnds [false] Q E)
  unfold b_law_bag
  walk_at "d"
  refine for_ind (fun rest e => ∃ (ms : List Int) (tot : Int) (s2 : Slot), rest = ms.map .int ∧ 0 ≤ tot ∧ tot < 2 ^ 62 ∧ okS s2 = true ∧ e = [.fz (.scr (ns.map .int)) false, .fz (.int tot) true, s2]) ?_ ?_ ⟨ns, 1, .un, rfl, by omega, by omega, rfl, rfl⟩
  · rintro x xs e K ⟨ms, tot, s2, e1, h1, h2, ho, rfl⟩ hK
    cases ms with
    | nil => cases e1
    | cons y ms =>
      cases e1
      refine ⟨_, setS_ok rfl ho, ?_⟩
      dsimp only [List.set_cons_zero, List.set_cons_succ]
      walk_at "d"
      refine x_mulI (cmul (by omega) (by omega) (by omega) (by omega)) ?_
      walk_at "d"
      exact hK _ ⟨ms, _, _, rfl, by omega, by omega, rfl, rfl⟩
  · rintro e ⟨ms, tot, s2, e1, h1, h2, ho, rfl⟩
    walk_at "d"
    refine ⟨_, _, _, rfl, rfl, ?_⟩
    walk_at "d"
    refine ⟨small (show 5 ≤ 10000 by decide), ?_⟩
    walk_at "d"
    exact h _ ⟨ns, 0, 0, 0, tot, rfl, Nat.zero_le _, by omega, by omega, by omega, h1, by omega⟩
def F_law_signs_drawn : DF := fun ds Q _ => ∃ (m : Nat) (r : D) (most : Int), ds = [r, .int most] ∧ Reel m r ∧ m < 2 ^ 50 ∧ 1 ≤ most ∧ most ≤ 299 ∧ ∀ (l : List Nat) (r' : D), Chr l → (l.length : Int) ≤ most → l.length ≤ l.count 45 + 40 → Reel (m + 3000) r' → Q (dS (tx l)) [r']
theorem W_law : ∀ ds Q E, (Law 63) ds Q E → b_law F_beginnings F_law_folds F_law_signs_drawn F_law_draw F_law_bag (env0 [false] ds 8) (bodyEnds [false] Q E) := by
  rintro ds Q E ⟨ns, hn, rfl, h⟩
  show b_law _ _ _ _ _ [.fz (.scr (ns.map .int)) false, .un, .un, .un, .un, .un, .un, .un] (bodyEnds [false] Q E)
  unfold b_law
  walk_at "d"
  refine ⟨ns, rfl, fun r hr => ?_⟩
  walk_at "d"
  have hlen : (((ns.map D.int).length : Nat) : Int) = (ns.length : Int) := by rw [List.length_map]
  refine x_rng rfl (by rw [hlen]; split <;> omega) (by rw [hlen]; split <;> omega) ?_
  rw [hlen]
  generalize hN : (6 + if (ns.length : Int) < 10 then (ns.length : Int) else 10).toNat = N
  have hN16 : N ≤ 16 := by rw [← hN]; split <;> omega
  refine for_ind (fun rest e => ∃ (j : Int) (n : Nat) (r : D) (s2 s3 s4 s5 s6 : Slot), rest = rangeD j n ∧ n ≤ N ∧ Reel ((N - n) * 4000) r ∧ okS s2 = true ∧ okS s3 = true ∧ okS s4 = true ∧ okS s5 = true ∧ okS s6 = true ∧
    e = [.fz (.scr (ns.map .int)) false, .ow r false, s2, s3, s4, s5, s6, .un]) ?_ ?_ ⟨0, N, r, .un, .un, .un, .un, .un, rfl, Nat.le_refl _, by rw [Nat.sub_self, Nat.zero_mul]; exact hr, rfl, rfl, rfl, rfl, rfl, rfl⟩
  · rintro x xs e K ⟨j, n, r, s2, s3, s4, s5, s6, e1, hn1, hr, o2, o3, o4, o5, o6, rfl⟩ hK
    cases n with
    | zero => cases e1
    | succ n =>
      rw [rangeD_succ] at e1
      cases e1
      refine ⟨_, setS_ok rfl o2, ?_⟩
      dsimp only [List.set_cons_zero, List.set_cons_succ]
      walk_at "d"
      have hm1 : (N - (n + 1)) * 4000 ≤ 64000 := by omega
      refine ⟨small (show 3 ≤ 10000 by decide), ?_⟩
      walk_at "d"
      refine ⟨_, r, 3, rfl, hr, by omega, by omega, by omega, fun i r1 hi0 hi3 hr1 => ?_⟩
      walk_at "n"
      walk_at "d"
      obtain ⟨v, hv, hv1, hv2⟩ : ∃ v : Int, atI [D.int 12, D.int 60, D.int 299] i = some (.int v) ∧ 1 ≤ v ∧ v ≤ 299 := by
        obtain rfl | rfl | rfl : i = 0 ∨ i = 1 ∨ i = 2 := by omega
        · exact ⟨12, rfl, by omega, by omega⟩
        · exact ⟨60, rfl, by omega, by omega⟩
        · exact ⟨299, rfl, by omega, by omega⟩
      refine x_ixL hv ?_
      walk_at "d"
      refine ⟨_, r1, v, rfl, hr1, by omega, hv1, hv2, fun l r2 hc hlm hcnt hr2 => ?_⟩
      have hl : l.length ≤ 299 := by omega
      walk_at "n"
      walk_at "d"
      refine x_lenSt (small (by omega)) ?_
      walk_at "d"
      refine ⟨l, rfl, hc, hl, ?_⟩
      walk_at "d"
      refine x_rng rfl (by omega) (by omega) ?_
      refine for_ind (fun rest e => ∃ (j' : Int) (n' : Nat) (s5 s6 : Slot), rest = rangeD j' n' ∧ okS s5 = true ∧ okS s6 = true ∧
        e = [.fz (.scr (ns.map .int)) false, .ow r2 false, .fz (.int j) true, .fz (.str (tx l)) true, .ow (.list ((fl l).map .int)) true, s5, s6, .un]) ?_ ?_ ⟨0, _, s5, s6, rfl, o5, o6, rfl⟩
      · rintro x xs e K1 ⟨j', n', s5, s6, e1, o5, o6, rfl⟩ hK1
        cases n' with
        | zero => cases e1
        | succ n' =>
          rw [rangeD_succ] at e1
          cases e1
          refine ⟨_, setS_ok rfl o5, ?_⟩
          dsimp only [List.set_cons_zero, List.set_cons_succ]
          walk_at "d"
          refine ⟨l, rfl, hc, hl, hcnt, ?_⟩
          walk_at "d"
          refine x_neL ?_
          walk_at "d"
          refine x_ff (by simp) ?_
          walk_at "d"
          refine x_lcfm (fl l) D.int (fun _ => none) rfl (by exact off1 rfl rfl) ?_ ?_ ?_
          · unfold fl
            rw [List.length_map]
            exact small (by have := List.length_filter_le (beg l) (List.range l.length); rw [List.length_range] at this; omega)
          · intro a _ K3 K4 h1 h2
            refine ⟨_, rfl, ?_⟩
            walk_at "d"
            refine ⟨by exact off1 rfl rfl, fun z => (nomatch z), fun _ => ?_⟩
            exact h2 _ rfl (by exact off1 rfl rfl) rfl
          · have hnone : (fl l).filterMap (fun _ => (none : Option D)) = [] := by
              induction fl l with
              | nil => rfl
              | cons a as ih => rw [List.filterMap_cons, ih]
            rw [hnone]
            walk_at "d"
            refine ⟨Nat.zero_le _, ?_⟩
            walk_at "d"
            refine x_neL (a := []) (b := []) ?_
            walk_at "d"
            have hfl : (fl l).length ≤ 299 := by
              unfold fl
              rw [List.length_map]
              have := List.length_filter_le (beg l) (List.range l.length)
              rw [List.length_range] at this
              omega
            refine ⟨_, rfl, by rw [List.length_map]; exact Nat.lt_of_le_of_lt hfl (by decide), ?_⟩
            walk_at "d"
            exact hK1 _ ⟨j' + 1, n', .fz (.int j') true, _, rfl, rfl, by rfl, rfl⟩
      · rintro e ⟨j', n', s5, s6, e1, o5, o6, rfl⟩
        refine hK _ ⟨j + 1, n, r2, .fz (.int j) true, .fz (.str (tx l)) true, .ow (.list ((fl l).map .int)) true, s5, s6, rfl, by omega, hr2.mono (by omega), rfl, rfl, rfl, o5, o6, rfl⟩
  · rintro e ⟨j, n, r, s2, s3, s4, s5, s6, e1, hn1, hr, o2, o3, o4, o5, o6, rfl⟩
    walk_at "d"
    exact h
end K37

open PySem PySem.Spec L2 DL
namespace K37
theorem join_tx : ∀ l : List Nat, Txt.join (tx []) (l.map fun c => tx [c]) = tx l := by
  intro l
  unfold Txt.join
  rw [StrLaws.glued_eq_join]
  induction l with
  | nil => rfl
  | cons c l ih =>
    cases l with
    | nil => rfl
    | cons d l =>
      show tx [c] ++ tx [] ++ Str.join (tx []) ((d :: l).map fun c => tx [c]) = _
      rw [ih, tx_app, tx_app]
      rfl
theorem lens_tx (l : List Nat) : ((l.map fun c => tx [c]).map (·.length)).sum + (l.map fun c => tx [c]).length * (tx []).length = l.length := by
  have e : ((l.map fun c => tx [c]).map (·.length)).sum = l.length := by
    induction l with
    | nil => rfl
    | cons c l ih => simp only [List.map_cons, List.sum_cons, ih, tx_len, List.length_cons, List.length_nil]; omega
  rw [e, tx_len]
  simp
theorem x_joinT {l : List Nat} {n m : Bool} {R : T → Prop} (hl : l.length ≤ 10000) (h : R (dS (tx l))) : fJoin (.str (tx []), n) [(.list (l.map fun c => D.str (tx [c])), m)] R := by
  refine ⟨tx [], _, m, l.map fun c => tx [c], rfl, rfl, ?_, ?_, ?_⟩
  · show some _ = some _
    rw [List.map_map]
    rfl
  · rw [lens_tx]; omega
  · rw [join_tx]; exact h
/-- a text of signs drawn from a table -/
theorem pick {tbl : List Nat} {n0 : Nat} (ht : Chr tbl) (hn0 : tbl.length = n0) (hl0 : 2 ≤ n0) (hl1 : n0 ≤ 100) {N m : Nat} {r : D} {s1 s2 s3 s4 s6 s7 : Slot} {P : T → DEnv → Prop} {fl : Bool} (hr : Reel m r) (hm : m + N < 2 ^ 59) (hN : N ≤ 299)
    (h : ∀ (l : List Nat) (r' : D), Chr l → l.length = N → Reel (m + N) r' → P (.ow (.list (l.map fun c => D.str (tx [c]))) true) [.io r', s1, s2, s3, s4, .un, s6, s7]) :
    LcOk (gN 5) dYes (dOp fIx (dC (.str (tx tbl))) (dCall [true, false] F_law_draw (dCons (dVar 0) (dCons (dC (.int n0)) dNil)))) [5] fl P (rangeD 0 N) [.io r, s1, s2, s3, s4, .un, s6, s7] := by
  refine x_lcI (fun rest acc an e => ∃ (j : Int) (n : Nat) (l : List Nat) (r' : D) (s5 : Slot), rest = rangeD j n ∧ l.length + n = N ∧ acc = l.map (fun c => D.str (tx [c])) ∧ an = true ∧ Chr l ∧ Reel (m + l.length) r' ∧ e = [.io r', s1, s2, s3, s4, s5, s6, s7]) ?_ ?_ ?_ ?_
  · exact off1 rfl rfl
  · exact ⟨0, N, [], r, .un, rfl, by simp, rfl, rfl, fun c hc => absurd hc (List.not_mem_nil), hr, rfl⟩
  · rintro x xs acc an e K K2 ⟨j, n, l, r', s5, e1, hn, rfl, rfl, hc, hr', rfl⟩ h1 h2
    cases n with
    | zero => cases e1
    | succ n =>
      rw [rangeD_succ] at e1
      cases e1
      refine ⟨_, rfl, ?_⟩
      refine ⟨off1 rfl rfl, fun _ => ?_, fun z => (nomatch z)⟩
      walk_at "d"
      refine ⟨_, r', n0, rfl, hr', by omega, by omega, by omega, fun i r2 hi0 hi3 hr2 => ?_⟩
      walk_at "n"
      walk_at "d"
      have hi : i.toNat < tbl.length := by omega
      refine x_ixSt (small (by omega)) (c := tbl.getD i.toNat 0) (by rw [show i = ((i.toNat : Nat) : Int) by omega]; exact atI_get (getD_at hi)) ?_
      walk_at "d"
      refine h1 _ _ _ ?_ ?_ ⟨j + 1, n, l ++ [tbl.getD i.toNat 0], r2, .fz (.int j) fl, rfl, ?_, ?_, rfl, ?_, ?_, rfl⟩
      · rw [List.length_map]; exact Nat.lt_of_le_of_lt (show l.length ≤ 299 by omega) (by decide)
      · exact off1 rfl rfl
      · rw [List.length_append]; simp only [List.length_cons, List.length_nil]; omega
      · rw [List.map_append]; rfl
      · intro c hcc
        rcases List.mem_append.mp hcc with q | q
        · exact hc c q
        · rw [List.mem_singleton.mp q]; exact chr_at ht hi
      · rw [List.length_append]; exact hr2
  · rintro acc an e ⟨j, n, l, r', s5, e1, hn, rfl, rfl, hc, hr', rfl⟩
    cases n with
    | succ n => rw [rangeD_succ] at e1; cases e1
    | zero =>
      have hl : l.length = N := by omega
      rw [hl] at hr'
      exact h l r' hc hl hr'
/-- the slice up to k -/
theorem cut_tx (l : List Nat) (k : Int) : ∃ l', cutS (tx l) none (some k) = tx l' ∧ (∀ c ∈ l', c ∈ l) ∧ l'.length ≤ l.length ∧ (0 ≤ k → (l'.length : Int) ≤ k) := by
  refine ⟨(l.drop 0).take (HT.sIx l.length l.length (some k) - 0), ?_, fun c hc => ?_, ?_, fun h0 => ?_⟩
  · unfold cutS
    rw [tx_len, tx_list]
    rfl
  · exact List.mem_of_mem_drop (List.mem_of_mem_take hc)
  · rw [List.length_take, List.drop_zero]; exact Nat.min_le_right _ _
  · have e : HT.sIx l.length l.length (some k) = min k.toNat l.length := by
      show (if k < 0 then _ else _) = _
      rw [if_neg (by omega)]
    rw [List.length_take, e]
    omega
def sd_tail : DSt :=
  (dSeq (dSet 4 (dSl (dVar 4) dNo (dPt (dVar 1))))
  (dSeq (dWhile (dTB (dOp fGt (dOp fSub (dCB fLen (dCons (dVar 4) dNil)) (dBM "str" fCount (dVar 4) (dCons (dC (.str ("-" : Str))) dNil))) (dC (.int 40))))
  (dSet 4 (dSl (dVar 4) dNo (dPt (dOp fFdv (dCB fLen (dCons (dVar 4) dNil)) (dC (.int 2)))))))
  (dRet (dVar 4))))
theorem sd_end {m : Nat} {most : Int} {Q : T → List D → Prop} {E : Str → List D → Prop} {r : D} {l : List Nat} {s2 s3 s5 s6 s7 : Slot} (hm1 : 1 ≤ most) (hm2 : most ≤ 299) (hr : Reel (m + 3000) r) (hc : Chr l) (hl : l.length ≤ 1000)
    (h : ∀ (l : List Nat) (r' : D), Chr l → (l.length : Int) ≤ most → l.length ≤ l.count 45 + 40 → Reel (m + 3000) r' → Q (dS (tx l)) [r']) :
    sd_tail [.io r, .fz (.int most) false, s2, s3, .fz (.str (tx l)) true, s5, s6, s7] (bodyEnds [true, false] Q E) := by
  unfold sd_tail
  simp only [c_h]
  walk_at "d"
  refine ⟨by rw [tx_len]; exact small (by omega), ?_⟩
  obtain ⟨l', e, hsub, hle, hk⟩ := cut_tx l most
  rw [e]
  have hc' : Chr l' := fun c hcc => hc c (hsub c hcc)
  have hk' := hk (by omega)
  clear e hsub hle hk hl hc
  walk_at "d"
  refine x_while (fun k e => ∃ l : List Nat, Chr l ∧ (l.length : Int) ≤ most ∧ k = l.length ∧ e = [.io r, .fz (.int most) false, s2, s3, .fz (.str (tx l)) true, s5, s6, s7]) l'.length ⟨l', hc', hk', rfl, rfl⟩ ?_
  rintro k e ⟨l, hc, hlm, rfl, rfl⟩
  walk_at "d"
  refine x_lenSt (small (by omega)) ?_
  walk_at "d"
  rw [count_tx]
  refine x_dec (fun h1 => ?_) fun h1 => ?_
  · walk_at "d"
    refine x_lenSt (small (by omega)) ?_
    walk_at "d"
    refine ⟨by rw [tx_len]; exact small (by omega), ?_⟩
    obtain ⟨l2, e2, hsub, hle, hk⟩ := cut_tx l ((l.length : Int) / 2)
    rw [e2]
    have hk2 := hk (by omega)
    walk_at "d"
    exact ⟨l2.length, by omega, l2, fun c hcc => hc c (hsub c hcc), by omega, rfl, rfl⟩
  · walk_at "d"
    exact h l r hc hlm (by omega) hr
end K37

open PySem PySem.Spec L2 DL
namespace K37
theorem dash_tx (n : Int) : Txt.mul (tx [45]) n = tx (List.replicate n.toNat 45) := by
  have h := PyProof.Rows.mul_one_list 45 n
  rw [← tx_of (Txt.mul (tx [45]) n)]
  exact congrArg tx h
theorem dash_ok {n : Int} (h0 : 0 ≤ n) (h1 : n ≤ 100) : MulOk (tx [45]) n := PyProof.Rows.mulOk_of 1 100 (by rw [tx_len]; exact Nat.le_refl _) (by omega) (by omega) (by omega) (by omega)
theorem chr_dash (n : Nat) : Chr (List.replicate n 45) := fun c hc => .inr (.inr (List.eq_of_mem_replicate hc))
theorem Chr.app {a b : List Nat} (h1 : Chr a) (h2 : Chr b) : Chr (a ++ b) := fun c hc => (List.mem_append.mp hc).elim (h1 c) (h2 c)
/-- a sign's mirror -/
def sw (c : Nat) : Nat := if c = 104 then 100 else if c = 100 then 104 else 45
theorem sw_chr (c : Nat) : sw c = 104 ∨ sw c = 100 ∨ sw c = 45 := by
  unfold sw
  split
  · exact .inr (.inl rfl)
  · split
    · exact .inl rfl
    · exact .inr (.inr rfl)
theorem sw_at {c : Nat} (h : c = 104 ∨ c = 100 ∨ c = 45) : ∃ i rest, Builtin.Str.occurrences (tx [104, 100, 45]) (tx [c]) 0 (tx [104, 100, 45]).length 1 = i :: rest ∧ atI [100, 104, 45] (i : Int) = some (sw c) := by
  rcases h with rfl | rfl | rfl
  · exact ⟨0, [], by decide +kernel, by decide +kernel⟩
  · exact ⟨1, [], by decide +kernel, by decide +kernel⟩
  · exact ⟨2, [], by decide +kernel, by decide +kernel⟩
theorem W_law_signs_drawn : ∀ ds Q E, F_law_signs_drawn ds Q E → b_law_signs_drawn F_law_draw (env0 [true, false] ds 8) (bodyEnds [true, false] Q E) := by
  rintro ds Q E ⟨m, r, most, rfl, hr, hm, hm1, hm2, h⟩
  show (dSeq _ (dSeq _ (dSeq _ sd_tail))) [.io r, .fz (.int most) false, .un, .un, .un, .un, .un, .un] (bodyEnds [true, false] Q E)
  simp only [c_h, c_hd, c_hdf, c_dhf, c_nil, c_12]
  have tail : ∀ {r : D} {l : List Nat} {s2 s3 s5 s6 s7 : Slot}, Reel (m + 3000) r → Chr l → l.length ≤ 1000 → sd_tail [.io r, .fz (.int most) false, s2, s3, .fz (.str (tx l)) true, s5, s6, s7] (bodyEnds [true, false] Q E) := fun a b c => sd_end hm1 hm2 a b c h
  generalize sd_tail = tl at tail ⊢
  walk_at "d"
  refine ⟨m, r, 5, rfl, hr, by omega, by omega, by omega, fun kind r1 hk0 hk5 hr1 => ?_⟩
  walk_at "n"
  walk_at "d"
  refine ⟨_, r1, most + 1, rfl, hr1, by omega, by omega, by omega, fun many r2 hy0 hy1 hr2 => ?_⟩
  walk_at "n"
  walk_at "d"
  refine x_dec (fun hk => ?_) fun hk => ?_
  · walk_at "d"
    refine x_rng rfl (by split <;> omega) (by split <;> omega) ?_
    generalize hN : (if 12 < many then 12 else many).toNat = N
    have hN2 : N ≤ 12 := by rw [← hN]; split <;> omega
    refine pick (m := m + 1 + 1) (n0 := 3) (tbl := [104, 100, 45]) (fun c hc => by simpa using hc) rfl (by omega) (by omega) hr2 (by omega) (by omega) fun l r3 hc hl hr3 => ?_
    walk_at "d"
    refine x_joinT (by omega) ?_
    walk_at "d"
    exact tail (hr3.mono (by omega)) hc (by omega)
  walk_at "d"
  refine x_dec (fun hk1 => ?_) fun hk1 => ?_
  · walk_at "d"
    refine x_rng rfl (by split <;> omega) (by split <;> omega) ?_
    generalize hN : (if 9 < many then 9 else many).toNat = N
    have hN2 : N ≤ 9 := by rw [← hN]; split <;> omega
    refine pick (m := m + 1 + 1) (n0 := 2) (tbl := [104, 100]) (fun c hc => by rcases (by simpa using hc : c = 104 ∨ c = 100) with q | q; exact .inl q; exact .inr (.inl q)) rfl (by omega) (by omega) hr2 (by omega) (by omega) fun l r3 hc hl hr3 => ?_
    walk_at "d"
    refine x_joinT (by omega) ?_
    walk_at "d"
    exact tail (hr3.mono (by omega)) hc (by omega)
  walk_at "d"
  refine x_dec (fun hk2 => ?_) fun hk2 => ?_
  · walk_at "d"
    refine x_rng rfl (by omega) (by omega) ?_
    refine pick (m := m + 1 + 1) (n0 := 12) (tbl := [104, 100, 45, 45, 45, 45, 45, 45, 45, 45, 45, 45]) (fun c hc => by simpa using hc) rfl (by omega) (by omega) hr2 (by omega) (by omega) fun l r3 hc hl hr3 => ?_
    walk_at "d"
    refine x_joinT (by omega) ?_
    walk_at "d"
    exact tail (hr3.mono (by omega)) hc (by omega)
  walk_at "d"
  refine ⟨_, r2, 4, rfl, hr2, by omega, by omega, by omega, fun d0 r3 hd0 hd4 hr3 => ?_⟩
  walk_at "n"
  walk_at "d"
  refine x_mulS (dash_ok hd0 (by omega)) ?_
  rw [dash_tx]
  walk_at "d"
  refine x_while (fun k e => ∃ (l : List Nat) (r' : D) (s6 : Slot), Chr l ∧ l.length ≤ 400 ∧ k = 500 - l.length ∧ okS s6 = true ∧ Reel (m + 3 + 5 * l.length) r' ∧
    e = [.io r', .fz (.int most) false, .fz (.int kind) true, .fz (.int many) true, .fz (.str (tx l)) true, .un, s6, .un]) (500 - d0.toNat) ⟨List.replicate d0.toNat 45, r3, .un, chr_dash _, by rw [List.length_replicate]; omega, by rw [List.length_replicate], rfl, hr3.mono (by omega), rfl⟩ ?_
  rintro k e ⟨l, r4, s6, hc, hl, rfl, o6, hr4, rfl⟩
  walk_at "d"
  refine x_lenSt (small (by omega)) ?_
  walk_at "d"
  refine x_mulI (cmul (by omega) (by omega) (by omega) (by omega)) ?_
  walk_at "d"
  refine x_dec (fun hw => ?_) fun hw => ?_
  · walk_at "d"
    rw [count_tx]
    refine x_lenSt (small (by omega)) ?_
    walk_at "d"
    refine x_dec (fun hw2 => ?_) fun hw2 => ?_
    · walk_at "d"
      refine ⟨by rw [tx_len]; exact small (by omega), ?_⟩
      walk_at "d"
      refine x_lcfm l.reverse (fun c => D.str (tx [c])) (fun c => some (D.str (tx [sw c]))) rfl (by exact off1 rfl rfl) (by rw [List.length_reverse]; exact small (by omega)) ?_ ?_
      · intro c hcm K K2 h1 h2
        have hcc := hc c (List.mem_reverse.mp hcm)
        obtain ⟨i, rest, ho, hat⟩ := sw_at hcc
        refine ⟨_, rfl, ?_⟩
        refine ⟨by exact off1 rfl rfl, fun _ => ?_, fun z => (nomatch z)⟩
        walk_at "d"
        refine ⟨_, _, _, i, rest, rfl, rfl, ho, ?_⟩
        walk_at "d"
        refine x_ixSt (small (show 3 ≤ 10000 by decide)) hat ?_
        walk_at "d"
        exact h1 _ _ rfl (by exact off1 rfl rfl) rfl
      rw [fmap_some]
      have hsw : (l.reverse.map fun c => D.str (tx [sw c])) = (l.reverse.map sw).map fun c => D.str (tx [c]) := by rw [List.map_map]; rfl
      rw [hsw]
      have hms : Chr (l.reverse.map sw) := fun c hcc => by
        obtain ⟨a, _, rfl⟩ := List.mem_map.mp hcc
        exact sw_chr a
      have hml : (l.reverse.map sw).length = l.length := by rw [List.length_map, List.length_reverse]
      generalize l.reverse.map sw = ms at hms hml
      walk_at "d"
      refine x_joinT (by omega) ?_
      walk_at "d"
      refine ⟨_, r4, 2, rfl, hr4, by omega, by omega, by omega, fun d1 r5 hd0' hd1' hr5 => ?_⟩
      walk_at "n"
      walk_at "d"
      have hd1l : d1.toNat < [104, 100].length := by show d1.toNat < 2; omega
      refine x_ixSt (small (show 2 ≤ 10000 by decide)) (c := [104, 100].getD d1.toNat 0) (by rw [show d1 = ((d1.toNat : Nat) : Int) by omega]; exact atI_get (getD_at hd1l)) ?_
      have hcd : [104, 100].getD d1.toNat 0 = 104 ∨ [104, 100].getD d1.toNat 0 = 100 ∨ [104, 100].getD d1.toNat 0 = 45 := chr_at (fun c hc => by rcases (by simpa using hc : c = 104 ∨ c = 100) with q | q; exact .inl q; exact .inr (.inl q)) hd1l
      generalize [104, 100].getD d1.toNat 0 = cd at hcd ⊢
      walk_at "d"
      refine x_addS (small (show l.length + 1 ≤ 10000 by omega)) ?_
      walk_at "d"
      refine x_lenSt (small (by omega)) ?_
      walk_at "d"
      refine ⟨_, r5, 2, rfl, hr5, by omega, by omega, by omega, fun d2 r6 hd20 hd21 hr6 => ?_⟩
      walk_at "n"
      walk_at "d"
      refine ⟨_, r6, 3, rfl, hr6, by omega, by omega, by omega, fun d3 r7 hd30 hd31 hr7 => ?_⟩
      walk_at "n"
      walk_at "d"
      refine x_mulI (cmul (by omega) (by omega) (by omega) (by omega)) ?_
      walk_at "d"
      refine ⟨by rw [tx_len]; exact small (by omega), ?_⟩
      obtain ⟨l2, e2, hsub, hle, _⟩ := cut_tx ms ((ms.length : Int) - d2 * d3)
      rw [e2]
      have hc2 : Chr l2 := fun c hcc => hms c (hsub c hcc)
      have hca : Chr ((l ++ [cd]) ++ l2) := (hc.app fun c hcc => by rw [List.mem_singleton.mp hcc]; exact hcd).app hc2
      have hla : ((l ++ [cd]) ++ l2).length = l.length + 1 + l2.length := by rw [List.length_append, List.length_append]; rfl
      walk_at "d"
      refine x_addS (small (show (l ++ [cd]).length + l2.length ≤ 10000 by rw [List.length_append]; show l.length + 1 + l2.length ≤ _; omega)) ?_
      generalize (l ++ [cd]) ++ l2 = la at hca hla
      walk_at "d"
      refine x_dec (fun hk3 => ?_) fun hk3 => ?_
      · walk_at "d"
        refine ⟨_, r7, 2, rfl, hr7, by omega, by omega, by omega, fun d4 r8 hd40 hd41 hr8 => ?_⟩
        walk_at "n"
        walk_at "d"
        refine x_mulS (dash_ok hd40 (by omega)) ?_
        rw [dash_tx]
        walk_at "d"
        refine x_addS (small (by rw [List.length_replicate]; omega)) ?_
        walk_at "d"
        have hlb : (List.replicate d4.toNat 45 ++ la).length = d4.toNat + la.length := by rw [List.length_append, List.length_replicate]
        exact ⟨500 - (List.replicate d4.toNat 45 ++ la).length, by omega, _, r8, .fz (.str (tx ms)) true, (chr_dash _).app hca, by omega, rfl, rfl, hr8.mono (by omega), rfl⟩
      · walk_at "d"
        exact ⟨500 - la.length, by omega, la, r7, .fz (.str (tx ms)) true, hca, by omega, rfl, rfl, hr7.mono (by omega), rfl⟩
    · walk_at "d"
      exact tail (hr4.mono (by omega)) hc (by omega)
  · walk_at "d"
    exact tail (hr4.mono (by omega)) hc (by omega)
end K37

open PySem PySem.Spec L2 DL
namespace K37
theorem all_mk {l : PySem.W.OpenLaw} {w : World} {K : PySem.W.Frag} {h : Heap} {mg : Str → Option Value} {fa f1 f2 f3 f4 f5 f6 f7 f8 f9 f10 f11 f12 f13 f14 f15 f16 : Addr} (X : K.In h) (G : h.Ns mainGlobals mg) (hfa : mg "law" = some (.ref fa))
    {od1 an1 od2 an2 od3 an3 od4 an4 od5 an5 od6 an6 od7 an7 od8 an8 od9 an9 od10 an10 od11 an11 od12 an12 od13 an13 od14 an14 od15 an15 od16 an16 : Option Addr} {sl1 sl2 sl3 sl4 sl5 sl6 sl7 sl8 sl9 sl10 sl11 sl12 sl13 sl14 sl15 sl16 : Array (Option Value)} {oc1 kV1 dc1 pm1 cd1 ct1 oc2 kV2 dc2 pm2 cd2 ct2 oc3 kV3 dc3 pm3 cd3 ct3 oc4 kV4 dc4 pm4 cd4 ct4 oc5 kV5 dc5 pm5 cd5 ct5 oc6 kV6 dc6 pm6 cd6 ct6 oc7 kV7 dc7 pm7 cd7 ct7 oc8 kV8 dc8 pm8 cd8 ct8 oc9 kV9 dc9 pm9 cd9 ct9 oc10 kV10 dc10 pm10 cd10 ct10 oc11 kV11 dc11 pm11 cd11 ct11 oc12 kV12 dc12 pm12 cd12 ct12 oc13 kV13 dc13 pm13 cd13 ct13 oc14 kV14 dc14 pm14 cd14 ct14 oc15 kV15 dc15 pm15 cd15 ct15 oc16 kV16 dc16 pm16 cd16 ct16 : Value}
    {t_FLAT t_MOST_BENDS t_MOST_SIGNS : Tok}
    (a1 : PySem.W.nsIn K mainGlobals "_law_bag" = some (some (.ref f1))) (l1 : K.lookup f1 = some ⟨oc1, od1, .func (PySem.W.fnOf "_law_bag" "_law_bag" (defArgs s_law_bag) (defBody s_law_bag) (defScope s_law_bag) .none kV1 dc1 pm1 an1 cd1 ct1), sl1⟩) (c1 : PySem.W.codeIn K cd1 "_law_bag" = true) (k1 : PySem.W.keepIn K (.ref f1) = true)
    (a2 : PySem.W.nsIn K mainGlobals "_law_stir" = some (some (.ref f2))) (l2 : K.lookup f2 = some ⟨oc2, od2, .func (PySem.W.fnOf "_law_stir" "_law_stir" (defArgs s_law_stir) (defBody s_law_stir) (defScope s_law_stir) .none kV2 dc2 pm2 an2 cd2 ct2), sl2⟩) (c2 : PySem.W.codeIn K cd2 "_law_stir" = true) (k2 : PySem.W.keepIn K (.ref f2) = true)
    (a3 : PySem.W.nsIn K mainGlobals "_law_draw" = some (some (.ref f3))) (l3 : K.lookup f3 = some ⟨oc3, od3, .func (PySem.W.fnOf "_law_draw" "_law_draw" (defArgs s_law_draw) (defBody s_law_draw) (defScope s_law_draw) .none kV3 dc3 pm3 an3 cd3 ct3), sl3⟩) (c3 : PySem.W.codeIn K cd3 "_law_draw" = true) (k3 : PySem.W.keepIn K (.ref f3) = true)
    (a4 : PySem.W.nsIn K mainGlobals "_law_begins" = some (some (.ref f4))) (l4 : K.lookup f4 = some ⟨oc4, od4, .func (PySem.W.fnOf "_law_begins" "_law_begins" (defArgs s_law_begins) (defBody s_law_begins) (defScope s_law_begins) .none kV4 dc4 pm4 an4 cd4 ct4), sl4⟩) (c4 : PySem.W.codeIn K cd4 "_law_begins" = true) (k4 : PySem.W.keepIn K (.ref f4) = true)
    (a5 : PySem.W.nsIn K mainGlobals "_law_folds" = some (some (.ref f5))) (l5 : K.lookup f5 = some ⟨oc5, od5, .func (PySem.W.fnOf "_law_folds" "_law_folds" (defArgs s_law_folds) (defBody s_law_folds) (defScope s_law_folds) .none kV5 dc5 pm5 an5 cd5 ct5), sl5⟩) (c5 : PySem.W.codeIn K cd5 "_law_folds" = true) (k5 : PySem.W.keepIn K (.ref f5) = true)
    (a6 : PySem.W.nsIn K mainGlobals "_law_signs_drawn" = some (some (.ref f6))) (l6 : K.lookup f6 = some ⟨oc6, od6, .func (PySem.W.fnOf "_law_signs_drawn" "_law_signs_drawn" (defArgs s_law_signs_drawn) (defBody s_law_signs_drawn) (defScope s_law_signs_drawn) .none kV6 dc6 pm6 an6 cd6 ct6), sl6⟩) (c6 : PySem.W.codeIn K cd6 "_law_signs_drawn" = true) (k6 : PySem.W.keepIn K (.ref f6) = true)
    (a7 : PySem.W.nsIn K mainGlobals "bends_in" = some (some (.ref f7))) (l7 : K.lookup f7 = some ⟨oc7, od7, .func (PySem.W.fnOf "bends_in" "bends_in" (defArgs s_bends_in) (defBody s_bends_in) (defScope s_bends_in) .none kV7 dc7 pm7 an7 cd7 ct7), sl7⟩) (c7 : PySem.W.codeIn K cd7 "bends_in" = true) (k7 : PySem.W.keepIn K (.ref f7) = true)
    (a8 : PySem.W.nsIn K mainGlobals "folds_of" = some (some (.ref f8))) (l8 : K.lookup f8 = some ⟨oc8, od8, .func (PySem.W.fnOf "folds_of" "folds_of" (defArgs s_folds_of) (defBody s_folds_of) (defScope s_folds_of) .none kV8 dc8 pm8 an8 cd8 ct8), sl8⟩) (c8 : PySem.W.codeIn K cd8 "folds_of" = true) (k8 : PySem.W.keepIn K (.ref f8) = true)
    (a9 : PySem.W.nsIn K mainGlobals "is_pattern" = some (some (.ref f9))) (l9 : K.lookup f9 = some ⟨oc9, od9, .func (PySem.W.fnOf "is_pattern" "is_pattern" (defArgs s_is_pattern) (defBody s_is_pattern) (defScope s_is_pattern) .none kV9 dc9 pm9 an9 cd9 ct9), sl9⟩) (c9 : PySem.W.codeIn K cd9 "is_pattern" = true) (k9 : PySem.W.keepIn K (.ref f9) = true)
    (a10 : PySem.W.nsIn K mainGlobals "need_pattern" = some (some (.ref f10))) (l10 : K.lookup f10 = some ⟨oc10, od10, .func (PySem.W.fnOf "need_pattern" "need_pattern" (defArgs s_need_pattern) (defBody s_need_pattern) (defScope s_need_pattern) .none kV10 dc10 pm10 an10 cd10 ct10), sl10⟩) (c10 : PySem.W.codeIn K cd10 "need_pattern" = true) (k10 : PySem.W.keepIn K (.ref f10) = true)
    (a11 : PySem.W.nsIn K mainGlobals "are_mirrored" = some (some (.ref f11))) (l11 : K.lookup f11 = some ⟨oc11, od11, .func (PySem.W.fnOf "are_mirrored" "are_mirrored" (defArgs s_are_mirrored) (defBody s_are_mirrored) (defScope s_are_mirrored) .none kV11 dc11 pm11 an11 cd11 ct11), sl11⟩) (c11 : PySem.W.codeIn K cd11 "are_mirrored" = true) (k11 : PySem.W.keepIn K (.ref f11) = true)
    (a12 : PySem.W.nsIn K mainGlobals "reach_of" = some (some (.ref f12))) (l12 : K.lookup f12 = some ⟨oc12, od12, .func (PySem.W.fnOf "reach_of" "reach_of" (defArgs s_reach_of) (defBody s_reach_of) (defScope s_reach_of) .none kV12 dc12 pm12 an12 cd12 ct12), sl12⟩) (c12 : PySem.W.codeIn K cd12 "reach_of" = true) (k12 : PySem.W.keepIn K (.ref f12) = true)
    (a13 : PySem.W.nsIn K mainGlobals "reaches_of" = some (some (.ref f13))) (l13 : K.lookup f13 = some ⟨oc13, od13, .func (PySem.W.fnOf "reaches_of" "reaches_of" (defArgs s_reaches_of) (defBody s_reaches_of) (defScope s_reaches_of) .none kV13 dc13 pm13 an13 cd13 ct13), sl13⟩) (c13 : PySem.W.codeIn K cd13 "reaches_of" = true) (k13 : PySem.W.keepIn K (.ref f13) = true)
    (a14 : PySem.W.nsIn K mainGlobals "whole_of" = some (some (.ref f14))) (l14 : K.lookup f14 = some ⟨oc14, od14, .func (PySem.W.fnOf "whole_of" "whole_of" (defArgs s_whole_of) (defBody s_whole_of) (defScope s_whole_of) .none kV14 dc14 pm14 an14 cd14 ct14), sl14⟩) (c14 : PySem.W.codeIn K cd14 "whole_of" = true) (k14 : PySem.W.keepIn K (.ref f14) = true)
    (a15 : PySem.W.nsIn K mainGlobals "beginnings" = some (some (.ref f15))) (l15 : K.lookup f15 = some ⟨oc15, od15, .func (PySem.W.fnOf "beginnings" "beginnings" (defArgs s_beginnings) (defBody s_beginnings) (defScope s_beginnings) .none kV15 dc15 pm15 an15 cd15 ct15), sl15⟩) (c15 : PySem.W.codeIn K cd15 "beginnings" = true) (k15 : PySem.W.keepIn K (.ref f15) = true)
    (a16 : PySem.W.nsIn K mainGlobals "law" = some (some (.ref f16))) (l16 : K.lookup f16 = some ⟨oc16, od16, .func (PySem.W.fnOf "law" "law" (defArgs s_law) (defBody s_law) (defScope s_law) .none kV16 dc16 pm16 an16 cd16 ct16), sl16⟩) (c16 : PySem.W.codeIn K cd16 "law" = true) (k16 : PySem.W.keepIn K (.ref f16) = true)
    (z_all : PySem.W.nsIn K mainGlobals "all" = some none)
    (z_bool : PySem.W.nsIn K mainGlobals "bool" = some none)
    (z_enumerate : PySem.W.nsIn K mainGlobals "enumerate" = some none)
    (z_isinstance : PySem.W.nsIn K mainGlobals "isinstance" = some none)
    (z_len : PySem.W.nsIn K mainGlobals "len" = some none)
    (z_list : PySem.W.nsIn K mainGlobals "list" = some none)
    (z_min : PySem.W.nsIn K mainGlobals "min" = some none)
    (z_range : PySem.W.nsIn K mainGlobals "range" = some none)
    (z_sorted : PySem.W.nsIn K mainGlobals "sorted" = some none)
    (z_str : PySem.W.nsIn K mainGlobals "str" = some none)
    (g_FLAT : PySem.W.nsIn K mainGlobals "FLAT" = some (some (.str "-" t_FLAT)))
    (g_MOST_BENDS : PySem.W.nsIn K mainGlobals "MOST_BENDS" = some (some (.int 40 t_MOST_BENDS)))
    (g_MOST_SIGNS : PySem.W.nsIn K mainGlobals "MOST_SIGNS" = some (some (.int 299 t_MOST_SIGNS)))
    : ∃ fd : FuncData, (∀ (s : Shared) (v : Value), BindsTo s fd ⟨[v], []⟩ [("script", v)]) ∧ ∀ base : Heap, K.In base → base.Ns mainGlobals mg → FnG l.prog w K mg base 5 fa fd ["script"] (spD K mg [false] (Law 63)) := by
  have e := hfa.symm.trans (PySem.W.mg_of X G a16)
  cases e
  have M : Mg mg := ⟨PySem.W.mg_none_of X G z_all, PySem.W.mg_none_of X G z_bool, PySem.W.mg_none_of X G z_enumerate, PySem.W.mg_none_of X G z_isinstance, PySem.W.mg_none_of X G z_len, PySem.W.mg_none_of X G z_list, PySem.W.mg_none_of X G z_min, PySem.W.mg_none_of X G z_range, PySem.W.mg_none_of X G z_sorted, PySem.W.mg_none_of X G z_str, ⟨_, PySem.W.mg_of X G g_FLAT⟩, ⟨_, PySem.W.mg_of X G g_MOST_BENDS⟩, ⟨_, PySem.W.mg_of X G g_MOST_SIGNS⟩⟩
  have F1 := fun_mk (st := s_law_bag) l1 c1 k1
  have F2 := fun_mk (st := s_law_stir) l2 c2 k2
  have F3 := fun_mk (st := s_law_draw) l3 c3 k3
  have F4 := fun_mk (st := s_law_begins) l4 c4 k4
  have F5 := fun_mk (st := s_law_folds) l5 c5 k5
  have F6 := fun_mk (st := s_law_signs_drawn) l6 c6 k6
  have F7 := fun_mk (st := s_bends_in) l7 c7 k7
  have F8 := fun_mk (st := s_folds_of) l8 c8 k8
  have F9 := fun_mk (st := s_is_pattern) l9 c9 k9
  have F10 := fun_mk (st := s_need_pattern) l10 c10 k10
  have F11 := fun_mk (st := s_are_mirrored) l11 c11 k11
  have F12 := fun_mk (st := s_reach_of) l12 c12 k12
  have F13 := fun_mk (st := s_reaches_of) l13 c13 k13
  have F14 := fun_mk (st := s_whole_of) l14 c14 k14
  have F15 := fun_mk (st := s_beginnings) l15 c15 k15
  have F16 := fun_mk (st := s_law) l16 c16 k16
  refine ⟨PySem.W.fnOf "law" "law" (defArgs s_law) (defBody s_law) (defScope s_law) .none kV16 dc16 pm16 an16 cd16 ct16, fun s v => .of_eq rfl, fun base _ _ => ?_⟩
  have C_law_bag : FD l.prog w K mg base 1 "_law_bag" 1 [false] F_law_bag := FD.of (ok_law_bag F1 M  W_law_bag) (PySem.W.mg_of X G a1) F1.kp (F1.binds fun _ _ _ _ _ _ us hl => match us, hl with | [_], _ => rfl)
  have C_law_stir : FD l.prog w K mg base 1 "_law_stir" 2 [false, false] F_law_stir := FD.of (ok_law_stir F2 M  W_law_stir) (PySem.W.mg_of X G a2) F2.kp (F2.binds fun _ _ _ _ _ _ us hl => match us, hl with | [_, _], _ => rfl)
  have C_law_draw : FD l.prog w K mg base 2 "_law_draw" 2 [true, false] F_law_draw := FD.of (ok_law_draw F3 M (C_law_stir.mono (by decide)) W_law_draw) (PySem.W.mg_of X G a3) F3.kp (F3.binds fun _ _ _ _ _ _ us hl => match us, hl with | [_, _], _ => rfl)
  have C_law_begins : FD l.prog w K mg base 1 "_law_begins" 4 [false, false, false, false] F_law_begins := FD.of (ok_law_begins F4 M  W_law_begins) (PySem.W.mg_of X G a4) F4.kp (F4.binds fun _ _ _ _ _ _ us hl => match us, hl with | [_, _, _, _], _ => rfl)
  have C_law_folds : FD l.prog w K mg base 2 "_law_folds" 3 [false, false, false] F_law_folds := FD.of (ok_law_folds F5 M (C_law_begins.mono (by decide)) W_law_folds) (PySem.W.mg_of X G a5) F5.kp (F5.binds fun _ _ _ _ _ _ us hl => match us, hl with | [_, _, _], _ => rfl)
  have C_law_signs_drawn : FD l.prog w K mg base 3 "_law_signs_drawn" 2 [true, false] F_law_signs_drawn := FD.of (ok_law_signs_drawn F6 M (C_law_draw.mono (by decide)) W_law_signs_drawn) (PySem.W.mg_of X G a6) F6.kp (F6.binds fun _ _ _ _ _ _ us hl => match us, hl with | [_, _], _ => rfl)
  have C_bends_in : FD l.prog w K mg base 1 "bends_in" 2 [false, false] F_bends_in := FD.of (ok_bends_in F7 M  W_bends_in) (PySem.W.mg_of X G a7) F7.kp (F7.binds fun _ _ _ _ _ _ us hl => match us, hl with | [_, _], _ => rfl)
  have C_folds_of : FD l.prog w K mg base 2 "folds_of" 2 [false, false] F_folds_of := FD.of (ok_folds_of F8 M (C_bends_in.mono (by decide)) W_folds_of) (PySem.W.mg_of X G a8) F8.kp (F8.binds fun _ _ _ _ _ _ us hl => match us, hl with | [_, _], _ => rfl)
  have C_is_pattern : FD l.prog w K mg base 1 "is_pattern" 1 [false] F_is_pattern := FD.of (ok_is_pattern F9 M  W_is_pattern) (PySem.W.mg_of X G a9) F9.kp (F9.binds fun _ _ _ _ _ _ us hl => match us, hl with | [_], _ => rfl)
  have C_need_pattern : FD l.prog w K mg base 2 "need_pattern" 1 [false] F_need_pattern := FD.of (ok_need_pattern F10 M (C_is_pattern.mono (by decide)) W_need_pattern) (PySem.W.mg_of X G a10) F10.kp (F10.binds fun _ _ _ _ _ _ us hl => match us, hl with | [_], _ => rfl)
  have C_are_mirrored : FD l.prog w K mg base 1 "are_mirrored" 2 [false, false] F_are_mirrored := FD.of (ok_are_mirrored F11 M  W_are_mirrored) (PySem.W.mg_of X G a11) F11.kp (F11.binds fun _ _ _ _ _ _ us hl => match us, hl with | [_, _], _ => rfl)
  have C_reach_of : FD l.prog w K mg base 2 "reach_of" 2 [false, false] F_reach_of := FD.of (ok_reach_of F12 M (C_are_mirrored.mono (by decide)) W_reach_of) (PySem.W.mg_of X G a12) F12.kp (F12.binds fun _ _ _ _ _ _ us hl => match us, hl with | [_, _], _ => rfl)
  have C_reaches_of : FD l.prog w K mg base 3 "reaches_of" 1 [false] F_reaches_of := FD.of (ok_reaches_of F13 M (C_reach_of.mono (by decide)) W_reaches_of) (PySem.W.mg_of X G a13) F13.kp (F13.binds fun _ _ _ _ _ _ us hl => match us, hl with | [_], _ => rfl)
  have C_whole_of : FD l.prog w K mg base 1 "whole_of" 1 [false] F_whole_of := FD.of (ok_whole_of F14 M  W_whole_of) (PySem.W.mg_of X G a14) F14.kp (F14.binds fun _ _ _ _ _ _ us hl => match us, hl with | [_], _ => rfl)
  have C_beginnings : FD l.prog w K mg base 4 "beginnings" 1 [false] F_beginnings := FD.of (ok_beginnings F15 M (C_folds_of.mono (by decide)) (C_whole_of.mono (by decide)) (C_reaches_of.mono (by decide)) (C_need_pattern.mono (by decide)) W_beginnings) (PySem.W.mg_of X G a15) F15.kp (F15.binds fun _ _ _ _ _ _ us hl => match us, hl with | [_], _ => rfl)
  exact ok_law F16 M (C_beginnings.mono (by decide)) (C_law_folds.mono (by decide)) (C_law_signs_drawn.mono (by decide)) (C_law_draw.mono (by decide)) (C_law_bag.mono (by decide)) W_law
end K37
open PySem PySem.W PyProof.Rows
set_option maxHeartbeats 0 in
theorem PySem.Challenge.cw_foldvat_k37_beginnings_told_holds : PySem.Challenge.rw_foldvat_k37_beginnings_told.Holds := by
  w_on; o_law; k_head; (case hw => w_witness2)
  k_fill
  refine DL.walk_G (l := PySem.Challenge.rw_foldvat_k37_beginnings_told) (n := 63) (k := 5) (x := "script") (sp := fun w mg => DL.spD _ mg [false] (DL.Law 63)) rfl (by decide) rfl ⟨rfl, by decide, by decide⟩ (fun w h Y => PySem.W.kIn_of Y) ?F (fun _ _ H a ns hl _ hS => DL.law_sp hl hS)
  case F =>
    intro w mg fa h KX G hmg
    refine' K37.all_mk KX G hmg ?a1 ?l1 ?c1 ?k1 ?a2 ?l2 ?c2 ?k2 ?a3 ?l3 ?c3 ?k3 ?a4 ?l4 ?c4 ?k4 ?a5 ?l5 ?c5 ?k5 ?a6 ?l6 ?c6 ?k6 ?a7 ?l7 ?c7 ?k7 ?a8 ?l8 ?c8 ?k8 ?a9 ?l9 ?c9 ?k9 ?a10 ?l10 ?c10 ?k10 ?a11 ?l11 ?c11 ?k11 ?a12 ?l12 ?c12 ?k12 ?a13 ?l13 ?c13 ?k13 ?a14 ?l14 ?c14 ?k14 ?a15 ?l15 ?c15 ?k15 ?a16 ?l16 ?c16 ?k16 ?z_all ?z_bool ?z_enumerate ?z_isinstance ?z_len ?z_list ?z_min ?z_range ?z_sorted ?z_str ?g_FLAT ?g_MOST_BENDS ?g_MOST_SIGNS
    (case a1 => k_is)
    (case l1 => k_is)
    (case c1 => k_is)
    (case k1 => k_is)
    (case a2 => k_is)
    (case l2 => k_is)
    (case c2 => k_is)
    (case k2 => k_is)
    (case a3 => k_is)
    (case l3 => k_is)
    (case c3 => k_is)
    (case k3 => k_is)
    (case a4 => k_is)
    (case l4 => k_is)
    (case c4 => k_is)
    (case k4 => k_is)
    (case a5 => k_is)
    (case l5 => k_is)
    (case c5 => k_is)
    (case k5 => k_is)
    (case a6 => k_is)
    (case l6 => k_is)
    (case c6 => k_is)
    (case k6 => k_is)
    (case a7 => k_is)
    (case l7 => k_is)
    (case c7 => k_is)
    (case k7 => k_is)
    (case a8 => k_is)
    (case l8 => k_is)
    (case c8 => k_is)
    (case k8 => k_is)
    (case a9 => k_is)
    (case l9 => k_is)
    (case c9 => k_is)
    (case k9 => k_is)
    (case a10 => k_is)
    (case l10 => k_is)
    (case c10 => k_is)
    (case k10 => k_is)
    (case a11 => k_is)
    (case l11 => k_is)
    (case c11 => k_is)
    (case k11 => k_is)
    (case a12 => k_is)
    (case l12 => k_is)
    (case c12 => k_is)
    (case k12 => k_is)
    (case a13 => k_is)
    (case l13 => k_is)
    (case c13 => k_is)
    (case k13 => k_is)
    (case a14 => k_is)
    (case l14 => k_is)
    (case c14 => k_is)
    (case k14 => k_is)
    (case a15 => k_is)
    (case l15 => k_is)
    (case c15 => k_is)
    (case k15 => k_is)
    (case a16 => k_is)
    (case l16 => k_is)
    (case c16 => k_is)
    (case k16 => k_is)
    (case z_all => k_is)
    (case z_bool => k_is)
    (case z_enumerate => k_is)
    (case z_isinstance => k_is)
    (case z_len => k_is)
    (case z_list => k_is)
    (case z_min => k_is)
    (case z_range => k_is)
    (case z_sorted => k_is)
    (case z_str => k_is)
    (case g_FLAT => k_is)
    (case g_MOST_BENDS => k_is)
    (case g_MOST_SIGNS => k_is)
