import PyProof.Rows.All
import Wide.All
import OpenK.AllK
import Wide.FinOn
import HandS.Base
import HandS.Call
import HandS.List
import HandS.Comp
import HandS.Dict
import HandS.Words
import HandS.Exc
import HandS.ExcInit
import HandS.Deep
import HandS.TupAny
import HandS.Wide
import HandS.Text
import HandS.Flow
import HandS.Iter
import HandS.TryOnly
import HandS.WordsExc
import HandS.IsInst
import HandS.Conv
import HandS.TupLen
import HandS.More
import PyProof.InstEq
import KE.KExcIs
import HandS.Small
import HandS.Style
import HandS.ExcBuiltin
import KE.KExcSuper
import HandS.Nested
import PyProof.ReprRoads
import HandS.Spec
import HandS.TryMany
import HandS.ExcField
import HandS.DictComp
import HandS.RaiseMore
import HandS.Ends
import HandS.Head0
import HandS.Head1
import HandS.Head2
import HandS.HeadHook1
import HandS.HeadHook2
import PyProof.StrLawsRepr
import PySem.Challenge.RW_pairlaws_k22_frames
set_option Elab.async false
set_option linter.all false
set_option maxRecDepth 100000
set_option maxHeartbeats 4000000
set_option autoImplicit false
namespace Mi
open PySem PySem.Spec L2

/-! data -/
inductive D where
  | non | bl (b : Bool) | int (i : Int) | str (x : Str)
  | tup (ds : List D) | lst (ds : List D) | rol (ds : List D) | rot (ds : List D) | dic (t : Bool) (kvs : List (D × D))
  | obj (c : Nat) (fs : List (Str × D))
  | exc (c : Nat) (fs : List (Str × D))
  | box (n : Nat)
  | fn (j : Nat) | cls (c : Nat) | ty (n : String) | thk
  deriving Inhabited

/-- boxes: the mutable cells -/
abbrev Bx := Nat → Option D
def upb (b : Bx) (n : Nat) (d : D) : Bx := fun m => if m = n then some d else b m
def delb (b : Bx) (n : Nat) : Bx := fun m => if m = n then none else b m
def LeB (b c : Bx) : Prop := ∀ n d, b n = some d → c n = some d
abbrev Sl := List (Option D)
/-- an exception: its class, its fields -/
structure XD where
  c : Nat
  fs : List (Str × D)
abbrev VQ := D → Bx → Prop
abbrev XQ := XD → Bx → Prop
/-- an expression's meaning -/
abbrev WE := Sl → Bx → VQ → XQ → Prop
abbrev WA := Sl → Bx → (List D → Bx → Prop) → XQ → Prop
abbrev WT := Sl → Bx → (Bool → Bx → Prop) → XQ → Prop
structure En where
  nx : Sl → Bx → Prop
  rt : VQ
  bk : Sl → Bx → Prop := fun _ _ => False
  ct : Sl → Bx → Prop := fun _ _ => False
abbrev WXQ := XD → Sl → Bx → Prop
abbrev WS := En → WXQ → Sl → Bx → Prop

/-! what stands behind the data -/
structure Rt where
  K : PySem.W.Frag
  cls : Nat → Option Addr
  fns : Nat → Option Addr
structure Gh where
  F : Hp
  G : Hp
  b : Nat → Option Addr
  top : Nat

def keyD : L2.Key → D
  | .inl i => .int i
  | .inr x => .str x
def keysD (ks : List L2.Key) : D := .tup (ks.map keyD)

mutual
inductive Rep (R : Rt) (F : Hp) (b : Nat → Option Addr) : V → D → Prop
  | non : Rep R F b .non .non
  | bl (x : Bool) : Rep R F b (.bl x) (.bl x)
  | int (i : Int) : Rep R F b (.int i) (.int i)
  | str (x : Str) : Rep R F b (.str x) (.str x)
  | ty (n : String) : Rep R F b (.ty n) (.ty n)
  | tup {a : Addr} {vs : List V} {ds : List D} (h : F a = some (.tup vs)) (r : Reps R F b vs ds) : Rep R F b (.ref a) (.tup ds)
  | rot {a : Addr} {vs : List V} {ds : List D} (h : SqT R.K F a vs) (r : Reps R F b vs ds) : Rep R F b (.ref a) (.rot ds)
  | lst {a : Addr} {vs : List V} {ds : List D} (h : F a = some (.lst vs)) (r : Reps R F b vs ds) : Rep R F b (.ref a) (.lst ds)
  | rol {a : Addr} {vs : List V} {ds : List D} (h : SqL R.K F a vs) (r : Reps R F b vs ds) : Rep R F b (.ref a) (.rol ds)
  | dicK {a : Addr} {kvs : List (L2.Key × V)} {ds : List D} (h : Rd F a (.dK kvs)) (r : Reps R F b (kvs.map (·.2)) ds) : Rep R F b (.ref a) (.dic false ((kvs.map fun p => keyD p.1).zip ds))
  | dicT {a : Addr} {kvs : List (List L2.Key × V)} {ds : List D} (h : Rd F a (.dT kvs)) (r : Reps R F b (kvs.map (·.2)) ds) : Rep R F b (.ref a) (.dic true ((kvs.map fun p => keysD p.1).zip ds))
  | obj {a C dx : Addr} {c : Nat} {fs : List (Str × V)} {ds : List D} (hc : R.cls c = some C) (h : F a = some (.ins C dx fs)) (r : Reps R F b (fs.map (·.2)) ds) : Rep R F b (.ref a) (.obj c ((fs.map (·.1)).zip ds))
  | box {a : Addr} {n : Nat} (h : b n = some a) : Rep R F b (.ref a) (.box n)
  | exc0 {a C : Addr} {c : Nat} (hc : R.cls c = some C) (h : F a = some (L2.exo a C none)) : Rep R F b (.ref a) (.exc c [])
  | excD {a C dx : Addr} {c : Nat} {fs : List (Str × V)} {ds : List D} (hc : R.cls c = some C) (h : F a = some (L2.exo a C (some dx))) (h2 : F dx = some (L2.exd dx fs)) (r : Reps R F b (fs.map (·.2)) ds) : Rep R F b (.ref a) (.exc c ((fs.map (·.1)).zip ds))
  | fn {a : Addr} {j : Nat} (h : R.fns j = some a) : Rep R F b (.ref a) (.fn j)
  | cls {a : Addr} {j : Nat} (h : R.cls j = some a) : Rep R F b (.ref a) (.cls j)
inductive Reps (R : Rt) (F : Hp) (b : Nat → Option Addr) : List V → List D → Prop
  | nil : Reps R F b [] []
  | cons {v : V} {d : D} {vs : List V} {ds : List D} (h : Rep R F b v d) (t : Reps R F b vs ds) : Reps R F b (v :: vs) (d :: ds)
end

def isDic : HO → Bool
  | .dK _ => true
  | .dT _ => true
  | _ => false
/-- what stands as it is -/
def isSeq : HO → Bool
  | .dK _ => false
  | .dT _ => false
  | .tbl _ => false
  | _ => true
structure SubH (F F' : Hp) : Prop where
  dm : ∀ a, F a ≠ none → F' a ≠ none
  rd : ∀ a u, isDic u = true → Rd F a u → Rd F' a u
  ls : ∀ a o, isSeq o = true → F a = some o → F' a = some o
  tb : ∀ a ps, F a = some (.tbl ps) → ∃ more, F' a = some (.tbl (ps ++ more))
def SubB (b b' : Nat → Option Addr) : Prop := ∀ n a, b n = some a → b' n = some a
theorem SubH.refl (F : Hp) : SubH F F := ⟨fun _ h => h, fun _ _ _ h => h, fun _ _ _ h => h, fun _ ps h => ⟨#[], by rw [h]; simp⟩⟩
theorem SubH.trans {F1 F2 F3 : Hp} (a : SubH F1 F2) (c : SubH F2 F3) : SubH F1 F3 := ⟨fun x h => c.dm x (a.dm x h), fun x u i h => c.rd x u i (a.rd x u i h), fun x u i h => c.ls x u i (a.ls x u i h), fun x ps h => by
  obtain ⟨m1, e1⟩ := a.tb x ps h
  obtain ⟨m2, e2⟩ := c.tb x _ e1
  exact ⟨m1 ++ m2, by rw [e2, Array.append_assoc]⟩⟩
theorem SubB.refl (b : Nat → Option Addr) : SubB b b := fun _ _ h => h
theorem SubB.trans {b1 b2 b3 : Nat → Option Addr} (a : SubB b1 b2) (c : SubB b2 b3) : SubB b1 b3 := fun x u h => c x u (a x u h)
theorem SubH.fix {F F' : Hp} {a : Addr} {u : HO} (s : SubH F F') (i : isSeq u = true) (h : Rd F a u) : Rd F' a u := by
  rcases h with h | ⟨o, h⟩
  · exact .inl (s.ls _ _ i h)
  · exact .inr ⟨o, s.ls _ _ rfl h⟩
theorem SubH.sqL {K : PySem.W.Frag} {F F' : Hp} {a : Addr} {xs : List V} (s : SubH F F') (h : SqL K F a xs) : SqL K F' a xs := by
  rcases h with h | h
  · exact .inl (s.fix rfl h)
  · exact .inr h
theorem SubH.sqT {K : PySem.W.Frag} {F F' : Hp} {a : Addr} {xs : List V} (s : SubH F F') (h : SqT K F a xs) : SqT K F' a xs := by
  rcases h with h | h
  · exact .inl (s.fix rfl h)
  · exact .inr h

mutual
theorem Rep.mono {R : Rt} {F F' : Hp} {b b' : Nat → Option Addr} {v : V} {d : D} (s : SubH F F') (t : SubB b b') (h : Rep R F b v d) : Rep R F' b' v d :=
  match h with
  | .non => .non
  | .bl x => .bl x
  | .int x => .int x
  | .str x => .str x
  | .ty x => .ty x
  | .tup h r => .tup (s.ls _ _ rfl h) (Reps.mono s t r)
  | .rot h r => .rot (s.sqT h) (Reps.mono s t r)
  | .lst h r => .lst (s.ls _ _ rfl h) (Reps.mono s t r)
  | .rol h r => .rol (s.sqL h) (Reps.mono s t r)
  | .dicK h r => .dicK (s.rd _ _ rfl h) (Reps.mono s t r)
  | .dicT h r => .dicT (s.rd _ _ rfl h) (Reps.mono s t r)
  | .obj hc h r => .obj hc (s.ls _ _ rfl h) (Reps.mono s t r)
  | .box h => .box (t _ _ h)
  | .exc0 hc h => .exc0 hc (s.ls _ _ rfl h)
  | .excD hc h h2 r => .excD hc (s.ls _ _ rfl h) (s.ls _ _ rfl h2) (Reps.mono s t r)
  | .fn h => .fn h
  | .cls h => .cls h
theorem Reps.mono {R : Rt} {F F' : Hp} {b b' : Nat → Option Addr} {v : List V} {d : List D} (s : SubH F F') (t : SubB b b') (h : Reps R F b v d) : Reps R F' b' v d :=
  match h with
  | .nil => .nil
  | .cons h r => .cons (Rep.mono s t h) (Reps.mono s t r)
end
theorem Reps.length {R : Rt} {F : Hp} {b : Nat → Option Addr} : ∀ {vs : List V} {ds : List D}, Reps R F b vs ds → vs.length = ds.length
  | _, _, .nil => rfl
  | _, _, .cons _ t => by simp [Reps.length t]
theorem Reps.get {R : Rt} {F : Hp} {b : Nat → Option Addr} : ∀ {vs : List V} {ds : List D} {i : Nat} {d : D}, Reps R F b vs ds → ds[i]? = some d → ∃ v, vs[i]? = some v ∧ Rep R F b v d
  | _, _, _, _, .nil, e => by simp at e
  | _, _, 0, _, .cons h _, e => by simp at e; subst e; exact ⟨_, rfl, h⟩
  | _, _, i + 1, _, .cons _ t, e => by simpa using Reps.get (i := i) t (by simpa using e)
theorem Reps.append {R : Rt} {F : Hp} {b : Nat → Option Addr} : ∀ {vs ws : List V} {ds es : List D}, Reps R F b vs ds → Reps R F b ws es → Reps R F b (vs ++ ws) (ds ++ es)
  | _, _, _, _, .nil, s => s
  | _, _, _, _, .cons h t, s => .cons h (Reps.append t s)
theorem Reps.take {R : Rt} {F : Hp} {b : Nat → Option Addr} : ∀ {vs : List V} {ds : List D} (n : Nat), Reps R F b vs ds → Reps R F b (vs.take n) (ds.take n)
  | _, _, 0, _ => .nil
  | _, _, _ + 1, .nil => .nil
  | _, _, n + 1, .cons h t => .cons h (Reps.take n t)
theorem Reps.drop {R : Rt} {F : Hp} {b : Nat → Option Addr} : ∀ {vs : List V} {ds : List D} (n : Nat), Reps R F b vs ds → Reps R F b (vs.drop n) (ds.drop n)
  | _, _, 0, r => r
  | _, _, _ + 1, .nil => .nil
  | _, _, n + 1, .cons _ t => Reps.drop n t
theorem Reps.set {R : Rt} {F : Hp} {b : Nat → Option Addr} {v : V} {d : D} (r : Rep R F b v d) : ∀ {vs : List V} {ds : List D} (i : Nat), Reps R F b vs ds → Reps R F b (vs.set i v) (ds.set i d)
  | _, _, _, .nil => .nil
  | _, _, 0, .cons _ t => .cons r t
  | _, _, i + 1, .cons q t => .cons q (Reps.set r i t)
end Mi
namespace Mi
open PySem PySem.Spec L2

/-- what stood at an address still stands there: as it was, locked, or a table that has grown -/
def KeepO (o : HO) (r : Option HO) : Prop :=
  r = some o ∨ (isDic o = true ∧ ∃ ob, r = some (.frz ob o)) ∨ ∃ ps more, o = .tbl ps ∧ r = some (.tbl (ps ++ more))
theorem KeepO.refl (o : HO) : KeepO o (some o) := .inl rfl
theorem KeepO.isSome {o : HO} {r : Option HO} (h : KeepO o r) : r ≠ none := by
  rcases h with h | ⟨_, _, h⟩ | ⟨_, _, _, h⟩ <;> rw [h] <;> simp
theorem KeepO.trans {o o' : HO} {r : Option HO} (h : KeepO o (some o')) (k : KeepO o' r) : KeepO o r := by
  rcases h with h | ⟨n, ob, h⟩ | ⟨ps, more, e, h⟩
  · cases h; exact k
  · cases h
    rcases k with k | ⟨n', _, k⟩ | ⟨ps, _, e, _⟩
    · exact .inr (.inl ⟨n, ob, k⟩)
    · cases n'
    · cases e
  · cases h
    subst e
    rcases k with k | ⟨n', ob, k⟩ | ⟨ps', more', e, k⟩
    · exact .inr (.inr ⟨_, _, rfl, k⟩)
    · cases n'
    · cases e
      exact .inr (.inr ⟨_, _, rfl, by rw [k, Array.append_assoc]⟩)

/-- a mutable cell's content -/
def BoxRep (R : Rt) (F : Hp) (b : Nat → Option Addr) (H : Hp) (a : Addr) : D → Prop
  | .lst ds => ∃ vs, H a = some (.lst vs) ∧ Reps R F b vs ds
  | .dic false kvs => ∃ kv ds, H a = some (.dK kv) ∧ Reps R F b (kv.map (·.2)) ds ∧ kvs = (kv.map fun p => keyD p.1).zip ds
  | .dic true kvs => ∃ kv ds, H a = some (.dT kv) ∧ Reps R F b (kv.map (·.2)) ds ∧ kvs = (kv.map fun p => keysD p.1).zip ds
  | .obj c fs => ∃ C dx fv ds, R.cls c = some C ∧ H a = some (.ins C dx fv) ∧ Reps R F b (fv.map (·.2)) ds ∧ fs = (fv.map (·.1)).zip ds
  | _ => False
theorem BoxRep.mono {R : Rt} {F F' : Hp} {b b' : Nat → Option Addr} {H H' : Hp} {a : Addr} {d : D} (s : SubH F F') (t : SubB b b') (e : H' a = H a) (h : BoxRep R F b H a d) : BoxRep R F' b' H' a d := by
  cases d with
  | lst ds => obtain ⟨vs, h1, h2⟩ := h; exact ⟨vs, e.trans h1, h2.mono s t⟩
  | dic k kvs =>
    cases k with
    | false => obtain ⟨kv, ds, h1, h2, h3⟩ := h; exact ⟨kv, ds, e.trans h1, h2.mono s t, h3⟩
    | true => obtain ⟨kv, ds, h1, h2, h3⟩ := h; exact ⟨kv, ds, e.trans h1, h2.mono s t, h3⟩
  | obj c fs => obtain ⟨C, dx, fv, ds, h0, h1, h2, h3⟩ := h; exact ⟨C, dx, fv, ds, h0, e.trans h1, h2.mono s t, h3⟩
  | _ => exact h.elim
theorem BoxRep.isSome {R : Rt} {F : Hp} {b : Nat → Option Addr} {H : Hp} {a : Addr} {d : D} (h : BoxRep R F b H a d) : ∃ o, H a = some o ∧ Mut (some o) := by
  cases d with
  | lst ds => obtain ⟨vs, h1, h2⟩ := h; exact ⟨_, h1, True.intro⟩
  | dic k kvs =>
    cases k with
    | false => obtain ⟨kv, ds, h1, h2, h3⟩ := h; exact ⟨_, h1, True.intro⟩
    | true => obtain ⟨kv, ds, h1, h2, h3⟩ := h; exact ⟨_, h1, True.intro⟩
  | obj c fs => obtain ⟨C, dx, fv, ds, h0, h1, h2, h3⟩ := h; exact ⟨_, h1, True.intro⟩
  | _ => exact h.elim

/-- the context of a run: what stood at its entry -/
structure Rn where
  R : Rt
  G : Hp
  b0 : Nat → Option Addr
structure Gx where
  F : Hp
  b : Nat → Option Addr
  top : Nat
structure Le (g g' : Gx) : Prop where
  F : SubH g.F g'.F
  b : SubB g.b g'.b
theorem Le.refl (g : Gx) : Le g g := ⟨SubH.refl _, SubB.refl _⟩
theorem Le.trans {g1 g2 g3 : Gx} (a : Le g1 g2) (c : Le g2 g3) : Le g1 g3 := ⟨a.F.trans c.F, a.b.trans c.b⟩
abbrev RepG (R : Rt) (g : Gx) (v : V) (d : D) : Prop := Rep R g.F g.b v d
abbrev RepsG (R : Rt) (g : Gx) (v : List V) (d : List D) : Prop := Reps R g.F g.b v d
theorem Le.rep {R : Rt} {g g' : Gx} {v : V} {d : D} (l : Le g g') (h : RepG R g v d) : RepG R g' v d := h.mono l.F l.b
theorem Le.reps {R : Rt} {g g' : Gx} {v : List V} {d : List D} (l : Le g g') (h : RepsG R g v d) : RepsG R g' v d := h.mono l.F l.b

/-- the heap's part -/
structure Hb (R : Rt) (g : Gx) (bx : Bx) (H : Hp) : Prop where
  sub : SubH g.F H
  bxs : ∀ n c, bx n = some c → ∃ a, g.b n = some a ∧ g.F a = none ∧ BoxRep R g.F g.b H a c
  inj : ∀ n m a, bx n ≠ none → bx m ≠ none → g.b n = some a → g.b m = some a → n = m
  top : ∀ n, g.top ≤ n → g.b n = none
  dx : ∀ a u, isDic u = true → g.F a = some u → H a = some u
structure Kp (r : Rn) (g : Gx) (H : Hp) : Prop where
  gs : SubH r.G g.F
  keep : ∀ a o, r.G a = some o → KeepO o (H a)
  sb : SubB r.b0 g.b
def Sls (R : Rt) (g : Gx) (sl : Sl) (σ : St) : Prop := ∀ (i : Nat) (d : D), sl[i]? = some (some d) → ∃ v, σ[i]? = some (some v) ∧ RepG R g v d
structure Holds (r : Rn) (g : Gx) (sl : Sl) (bx : Bx) (σ : St) (H : Hp) : Prop where
  hb : Hb r.R g bx H
  kp : Kp r g H
  ss : Sls r.R g sl σ
  len : List.length sl = List.length σ

theorem Sls.mono {R : Rt} {g g' : Gx} {sl : Sl} {σ : St} (l : Le g g') (h : Sls R g sl σ) : Sls R g' sl σ := fun i d e =>
  let ⟨v, h1, h2⟩ := h i d e; ⟨v, h1, l.rep h2⟩

section
variable {r : Rn} {g : Gx} {sl : Sl} {bx : Bx} {σ : St} {H : Hp}
theorem Holds.none_of (h : Holds r g sl bx σ H) {p : Addr} (hp : H p = none) : g.F p = none ∧ r.G p = none := by
  refine ⟨?_, ?_⟩
  · cases e : g.F p with
    | none => rfl
    | some u => exact absurd hp (h.hb.sub.dm p (by rw [e]; simp))
  · cases e : r.G p with
    | none => rfl
    | some u => exact absurd hp (h.kp.keep p u e).isSome
/-- the frozen part grows by what stands there -/
def Gx.add (g : Gx) (p : Addr) (o : HO) : Gx := { g with F := upd g.F p o }
theorem Gx.le_add {g : Gx} {p : Addr} {o : HO} (hp : g.F p = none) : Le g (g.add p o) := by
  refine ⟨⟨fun a h => ?_, fun a u _ h => ?_, fun a xs i h => ?_, fun a ps h => ?_⟩, SubB.refl _⟩
  · have ne : a ≠ p := by rintro rfl; exact h hp
    show upd g.F p o a ≠ _
    rw [upd_ne ne]; exact h
  · have ne : a ≠ p := by
      rintro rfl
      rcases h with q | ⟨_, q⟩ <;> rw [hp] at q <;> cases q
    rcases h with q | ⟨x, q⟩
    · exact .inl (by show upd g.F p o a = _; rw [upd_ne ne]; exact q)
    · exact .inr ⟨x, by show upd g.F p o a = _; rw [upd_ne ne]; exact q⟩
  · have ne : a ≠ p := by
      rintro rfl
      rw [hp] at h; cases h
    show upd g.F p o a = _
    rw [upd_ne ne]; exact h
  · have ne : a ≠ p := by
      rintro rfl
      rw [hp] at h; cases h
    exact ⟨#[], by show upd g.F p o a = _; rw [upd_ne ne, h]; simp⟩
theorem subH_upd {F H : Hp} {p : Addr} {o : HO} (s : SubH F H) (hn : ∀ u, ¬ Rd F p u) : SubH F (upd H p o) := ⟨fun a h => by
  by_cases ne : a = p
  · rw [ne, upd_same]; simp
  · rw [upd_ne ne]; exact s.dm a h, fun a u i h => by
  have ne : a ≠ p := by rintro rfl; exact hn u h
  rcases s.rd a u i h with q | ⟨x, q⟩
  · exact .inl (by rw [upd_ne ne]; exact q)
  · exact .inr ⟨x, by rw [upd_ne ne]; exact q⟩, fun a xs i h => by
  have ne : a ≠ p := by rintro rfl; exact hn _ (.inl h)
  rw [upd_ne ne]; exact s.ls a xs i h, fun a ps h => by
  have ne : a ≠ p := by rintro rfl; exact hn _ (.inl h)
  rw [upd_ne ne]; exact s.tb a ps h⟩
theorem rd_none {F : Hp} {p : Addr} (h : F p = none) : ∀ u, ¬ Rd F p u := fun u q => by
  rcases q with q | ⟨_, q⟩ <;> rw [h] at q <;> cases q
theorem subH_both {F H : Hp} {p : Addr} {o : HO} (s : SubH F H) (hn : F p = none) : SubH (upd F p o) (upd H p o) := ⟨fun a h => by
  by_cases e : a = p
  · rw [e, upd_same]; simp
  · rw [upd_ne e] at h; rw [upd_ne e]; exact s.dm a h, fun a u i h => by
  by_cases e : a = p
  · subst e
    rcases h with q | ⟨x, q⟩
    · rw [upd_same] at q; exact .inl (by rw [upd_same]; exact q)
    · rw [upd_same] at q; exact .inr ⟨x, by rw [upd_same]; exact q⟩
  · have h' : Rd F a u := by
      rcases h with q | ⟨x, q⟩
      · rw [upd_ne e] at q; exact .inl q
      · rw [upd_ne e] at q; exact .inr ⟨x, q⟩
    rcases s.rd a u i h' with q | ⟨x, q⟩
    · exact .inl (by rw [upd_ne e]; exact q)
    · exact .inr ⟨x, by rw [upd_ne e]; exact q⟩, fun a xs i h => by
  by_cases e : a = p
  · subst e; rw [upd_same] at h; rw [upd_same]; exact h
  · rw [upd_ne e] at h; rw [upd_ne e]; exact s.ls a xs i h, fun a ps h => by
  by_cases e : a = p
  · subst e; rw [upd_same] at h; cases h; exact ⟨#[], by rw [upd_same]; simp⟩
  · rw [upd_ne e] at h; rw [upd_ne e]; exact s.tb a ps h⟩
theorem dx_both {F H : Hp} {p : Addr} {o : HO} (s : ∀ a u, isDic u = true → F a = some u → H a = some u) : ∀ a u, isDic u = true → upd F p o a = some u → upd H p o a = some u := fun a u i h => by
  by_cases e : a = p
  · subst e; rw [upd_same] at h; rw [upd_same]; exact h
  · rw [upd_ne e] at h; rw [upd_ne e]; exact s a u i h
theorem dx_upd {F H : Hp} {p : Addr} {o : HO} (s : ∀ a u, isDic u = true → F a = some u → H a = some u) (hn : F p = none) : ∀ a u, isDic u = true → F a = some u → upd H p o a = some u := fun a u i h => by
  have ne : a ≠ p := by rintro rfl; rw [hn] at h; cases h
  rw [upd_ne ne]; exact s a u i h
/-- a new object, frozen from the start -/
theorem Holds.lay {p : Addr} (o : HO) (h : Holds r g sl bx σ H) (hp : H p = none) : Holds r (g.add p o) sl bx σ (upd H p o) := by
  obtain ⟨hF, hG⟩ := h.none_of hp
  have le := Gx.le_add (o := o) hF
  refine ⟨⟨subH_both h.hb.sub hF, fun n c e => ?_, h.hb.inj, h.hb.top, dx_both h.hb.dx⟩, ⟨h.kp.gs.trans le.F, fun a u e => ?_, h.kp.sb⟩, h.ss.mono le, h.len⟩
  · obtain ⟨a, h1, h2, h3⟩ := h.hb.bxs n c e
    obtain ⟨u, hu, _⟩ := h3.isSome
    have ne : a ≠ p := by rintro rfl; rw [hp] at hu; cases hu
    exact ⟨a, h1, by show upd g.F p o a = none; rw [upd_ne ne]; exact h2, h3.mono le.F le.b (upd_ne ne)⟩
  · have ne : a ≠ p := by rintro rfl; rw [hG] at e; cases e
    rw [upd_ne ne]; exact h.kp.keep a u e
/-- a new object that nothing speaks of -/
theorem Holds.lay0 {p : Addr} (o : HO) (h : Holds r g sl bx σ H) (hp : H p = none) : Holds r g sl bx σ (upd H p o) := by
  obtain ⟨hF, hG⟩ := h.none_of hp
  refine ⟨⟨subH_upd h.hb.sub (rd_none hF), fun n c e => ?_, h.hb.inj, h.hb.top, dx_upd h.hb.dx hF⟩, ⟨h.kp.gs, fun a u e => ?_, h.kp.sb⟩, h.ss, h.len⟩
  · obtain ⟨a, h1, h2, h3⟩ := h.hb.bxs n c e
    obtain ⟨u, hu, _⟩ := h3.isSome
    have ne : a ≠ p := by rintro rfl; rw [hp] at hu; cases hu
    exact ⟨a, h1, h2, h3.mono (SubH.refl _) (SubB.refl _) (upd_ne ne)⟩
  · have ne : a ≠ p := by rintro rfl; rw [hG] at e; cases e
    rw [upd_ne ne]; exact h.kp.keep a u e
/-- a new box -/
def Gx.addB (g : Gx) (p : Addr) : Gx := { g with b := fun n => if n = g.top then some p else g.b n, top := g.top + 1 }
theorem Gx.le_addB {g : Gx} {p : Addr} (ht : g.b g.top = none) : Le g (g.addB p) := ⟨SubH.refl _, fun n a e => by
  have ne : n ≠ g.top := by rintro rfl; rw [ht] at e; cases e
  show (if n = g.top then some p else g.b n) = some a
  rw [if_neg ne]; exact e⟩
theorem Holds.topNone (h : Holds r g sl bx σ H) : bx g.top = none := by
  cases e : bx g.top with
  | none => rfl
  | some c =>
    obtain ⟨a, h1, _⟩ := h.hb.bxs _ c e
    rw [h.hb.top _ (Nat.le_refl _)] at h1; cases h1
theorem Holds.layB {p : Addr} {o : HO} {c : D} (h : Holds r g sl bx σ H) (hp : H p = none) (hc : BoxRep r.R g.F (g.addB p).b (upd H p o) p c) : Holds r (g.addB p) sl (upb bx g.top c) σ (upd H p o) := by
  obtain ⟨hF, hG⟩ := h.none_of hp
  have ht := h.hb.top g.top (Nat.le_refl _)
  have le := Gx.le_addB (p := p) ht
  have bt : (g.addB p).b g.top = some p := by show (if g.top = g.top then some p else _) = _; rw [if_pos rfl]
  have bn : ∀ n, n ≠ g.top → (g.addB p).b n = g.b n := fun n ne => by show (if n = g.top then some p else _) = _; rw [if_neg ne]
  have apart : ∀ n, bx n ≠ none → g.b n ≠ some p := fun n e q => by
    cases e' : bx n with
    | none => exact e e'
    | some c' =>
      obtain ⟨a, h1, _, h3⟩ := h.hb.bxs n c' e'
      obtain ⟨u, hu, _⟩ := h3.isSome
      rw [q] at h1; cases h1
      rw [hp] at hu; cases hu
  refine ⟨⟨subH_upd h.hb.sub (rd_none hF), fun n c' e => ?_, fun n m a e1 e2 f1 f2 => ?_, fun n hn => ?_, dx_upd h.hb.dx hF⟩, ⟨h.kp.gs, fun a u e => ?_, h.kp.sb.trans le.b⟩, h.ss.mono le, h.len⟩
  · by_cases ne : n = g.top
    · subst ne
      have : c' = c := by simpa [upb] using e.symm
      subst this
      exact ⟨p, bt, hF, hc⟩
    · have e' : bx n = some c' := by simpa [upb, ne] using e
      obtain ⟨a, h1, h2, h3⟩ := h.hb.bxs n c' e'
      obtain ⟨u, hu, _⟩ := h3.isSome
      have nap : a ≠ p := by rintro rfl; rw [hp] at hu; cases hu
      exact ⟨a, (bn n ne).trans h1, h2, h3.mono le.F le.b (upd_ne nap)⟩
  · by_cases n1 : n = g.top
    · by_cases n2 : m = g.top
      · rw [n1, n2]
      · subst n1
        rw [bt] at f1; cases f1
        rw [bn m n2] at f2
        exact absurd f2 (apart m (by simpa [upb, n2] using e2))
    · by_cases n2 : m = g.top
      · subst n2
        rw [bt] at f2; cases f2
        rw [bn n n1] at f1
        exact absurd f1 (apart n (by simpa [upb, n1] using e1))
      · rw [bn n n1] at f1; rw [bn m n2] at f2
        exact h.hb.inj n m a (by simpa [upb, n1] using e1) (by simpa [upb, n2] using e2) f1 f2
  · have hn' : g.top + 1 ≤ n := hn
    rw [bn n (by omega)]
    exact h.hb.top n (by omega)
  · have ne : a ≠ p := by rintro rfl; rw [hG] at e; cases e
    rw [upd_ne ne]; exact h.kp.keep a u e
/-- a box's content is changed -/
theorem Holds.put {n : Nat} {a : Addr} {c c' : D} {o : HO} (h : Holds r g sl bx σ H) (hn : bx n = some c) (ha : g.b n = some a) (hc : BoxRep r.R g.F g.b (upd H a o) a c') : Holds r g sl (upb bx n c') σ (upd H a o) := by
  obtain ⟨a', h1, h2, h3⟩ := h.hb.bxs n c hn
  rw [ha] at h1; cases h1
  have hG : r.G a = none := by
    cases e : r.G a with
    | none => rfl
    | some u => exact absurd h2 (h.kp.gs.dm a (by rw [e]; simp))
  refine ⟨⟨subH_upd h.hb.sub (rd_none h2), fun m d e => ?_, fun m k x e1 e2 f1 f2 => ?_, h.hb.top, dx_upd h.hb.dx h2⟩, ⟨h.kp.gs, fun x u e => ?_, h.kp.sb⟩, h.ss, h.len⟩
  · by_cases ne : m = n
    · subst ne
      have : d = c' := by simpa [upb] using e.symm
      subst this
      exact ⟨a, ha, h2, hc⟩
    · have e' : bx m = some d := by simpa [upb, ne] using e
      obtain ⟨x, k1, k2, k3⟩ := h.hb.bxs m d e'
      have nap : x ≠ a := by
        rintro rfl
        exact ne (h.hb.inj m n x (by rw [e']; simp) (by rw [hn]; simp) k1 ha)
      exact ⟨x, k1, k2, k3.mono (SubH.refl _) (SubB.refl _) (upd_ne nap)⟩
  · have s1 : bx m ≠ none := by
      by_cases q : m = n
      · rw [q, hn]; simp
      · simpa [upb, q] using e1
    have s2 : bx k ≠ none := by
      by_cases q : k = n
      · rw [q, hn]; simp
      · simpa [upb, q] using e2
    exact h.hb.inj m k x s1 s2 f1 f2
  · have ne : x ≠ a := by rintro rfl; rw [hG] at e; cases e
    rw [upd_ne ne]; exact h.kp.keep x u e
/-- a box is forgotten -/
theorem Holds.forget {bx' : Bx} (h : Holds r g sl bx σ H) (l : LeB bx' bx) : Holds r g sl bx' σ H := by
  have s : ∀ n, bx' n ≠ none → bx n ≠ none := fun n e q => by
    cases e' : bx' n with
    | none => exact e e'
    | some c => rw [l n c e'] at q; cases q
  exact ⟨⟨h.hb.sub, fun n c e => h.hb.bxs n c (l n c e), fun n m a e1 e2 => h.hb.inj n m a (s n e1) (s m e2), h.hb.top, h.hb.dx⟩, h.kp, h.ss, h.len⟩
theorem leB_del (bx : Bx) (n : Nat) : LeB (delb bx n) bx := fun m d e => by
  by_cases q : m = n
  · subst q; simp [delb] at e
  · simpa [delb, q] using e
/-- a box is frozen: what stands there joins the frozen part -/
theorem Holds.freeze {n : Nat} {a : Addr} {c : D} {o : HO} (h : Holds r g sl bx σ H) (hn : bx n = some c) (ha : g.b n = some a) (ho : H a = some o) : Holds r (g.add a o) sl (delb bx n) σ H ∧ Le g (g.add a o) := by
  obtain ⟨a', h1, h2, h3⟩ := h.hb.bxs n c hn
  rw [ha] at h1; cases h1
  have le := Gx.le_add (o := o) h2
  have h' := h.forget (leB_del bx n)
  refine ⟨⟨⟨⟨fun x q => ?_, fun x u i q => ?_, fun x xs i q => ?_, fun x ps q => ?_⟩, fun m d e => ?_, h'.hb.inj, h'.hb.top, fun x u i q => ?_⟩, ⟨h.kp.gs.trans le.F, h.kp.keep, h.kp.sb⟩, h.ss.mono le, h.len⟩, le⟩
  · have q' : upd g.F a o x ≠ none := q
    by_cases e : x = a
    · rw [e, ho]; simp
    · rw [upd_ne e] at q'; exact h.hb.sub.dm x q'
  · by_cases e : x = a
    · subst e
      have q' : Rd (upd g.F x o) x u := q
      rcases q' with q' | ⟨y, q'⟩
      · rw [upd_same] at q'; cases q'; exact .inl ho
      · rw [upd_same] at q'; cases q'; exact .inr ⟨y, ho⟩
    · refine h.hb.sub.rd x u i ?_
      have q' : Rd (upd g.F a o) x u := q
      rcases q' with q' | ⟨y, q'⟩
      · rw [upd_ne e] at q'; exact .inl q'
      · rw [upd_ne e] at q'; exact .inr ⟨y, q'⟩
  · have q' : upd g.F a o x = some xs := q
    by_cases e : x = a
    · subst e; rw [upd_same] at q'; rw [ho]; exact q'
    · rw [upd_ne e] at q'; exact h.hb.sub.ls x xs i q'
  · have q' : upd g.F a o x = some (.tbl ps) := q
    by_cases e : x = a
    · subst e; rw [upd_same] at q'; cases q'; exact ⟨#[], by rw [ho]; simp⟩
    · rw [upd_ne e] at q'; exact h.hb.sub.tb x ps q'
  · obtain ⟨x, k1, k2, k3⟩ := h'.hb.bxs m d e
    have nm : m ≠ n := by
      rintro rfl
      simp [delb] at e
    have nap : x ≠ a := by
      rintro rfl
      refine nm (h.hb.inj m n x (by rw [leB_del bx n m d e]; simp) (by rw [hn]; simp) k1 ha)
    exact ⟨x, k1, by show upd g.F a o x = none; rw [upd_ne nap]; exact k2, k3.mono le.F le.b rfl⟩
  · have q' : upd g.F a o x = some u := q
    by_cases e : x = a
    · subst e; rw [upd_same] at q'; rw [ho]; exact q'
    · rw [upd_ne e] at q'; exact h.hb.dx x u i q'
/-- a slot is set -/
theorem Holds.set {i : Nat} {v : V} {d : D} (h : Holds r g sl bx σ H) (rv : RepG r.R g v d) : Holds r g (sl.set i (some d)) bx (σ.set i (some v)) H := by
  refine ⟨h.hb, h.kp, fun j e hj => ?_, by simp [h.len]⟩
  by_cases q : j = i
  · subst q
    have hlt : j < sl.length := by
      have := (List.getElem?_eq_some_iff.mp hj).1
      simpa using this
    rw [List.getElem?_set_self hlt] at hj
    cases hj
    exact ⟨v, by rw [List.getElem?_set_self (by rw [← h.len]; exact hlt)], rv⟩
  · rw [List.getElem?_set_ne (Ne.symm q)] at hj
    obtain ⟨v', h1, h2⟩ := h.ss j e hj
    exact ⟨v', by rw [List.getElem?_set_ne (Ne.symm q)]; exact h1, h2⟩
theorem Holds.setNone {i : Nat} {v : V} (h : Holds r g sl bx σ H) : Holds r g (sl.set i none) bx (σ.set i (some v)) H := by
  refine ⟨h.hb, h.kp, fun j e hj => ?_, by simp [h.len]⟩
  by_cases q : j = i
  · subst q
    have hlt : j < sl.length := by
      have := (List.getElem?_eq_some_iff.mp hj).1
      simpa using this
    rw [List.getElem?_set_self hlt] at hj
    cases hj
  · rw [List.getElem?_set_ne (Ne.symm q)] at hj
    obtain ⟨v', h1, h2⟩ := h.ss j e hj
    exact ⟨v', by rw [List.getElem?_set_ne (Ne.symm q)]; exact h1, h2⟩
end

/-! the content of a value -/
def dr (bx : Bx) : D → Option D
  | .box n => bx n
  | d => some d
section
variable {r : Rn} {g : Gx} {sl : Sl} {bx : Bx} {σ : St} {H : Hp} {v : V} {d : D}
theorem Holds.lstAt {ds : List D} (h : Holds r g sl bx σ H) (rv : RepG r.R g v d) (e : dr bx d = some (.lst ds)) : ∃ a vs, v = .ref a ∧ H a = some (.lst vs) ∧ RepsG r.R g vs ds := by
  cases rv with
  | lst h1 h2 => simp [dr] at e; subst e; exact ⟨_, _, rfl, h.hb.sub.ls _ _ rfl h1, h2⟩
  | box h1 =>
    simp [dr] at e
    obtain ⟨a, k1, k2, k3⟩ := h.hb.bxs _ _ e
    rw [h1] at k1; cases k1
    obtain ⟨vs, q1, q2⟩ := k3
    exact ⟨_, vs, rfl, q1, q2⟩
  | _ => simp [dr] at e
theorem Holds.tupAt {ds : List D} (h : Holds r g sl bx σ H) (rv : RepG r.R g v d) (e : dr bx d = some (.tup ds)) : ∃ a vs, v = .ref a ∧ H a = some (.tup vs) ∧ RepsG r.R g vs ds := by
  cases rv with
  | tup h1 h2 => simp [dr] at e; subst e; exact ⟨_, _, rfl, h.hb.sub.ls _ _ rfl h1, h2⟩
  | box h1 =>
    simp [dr] at e
    obtain ⟨a, k1, k2, k3⟩ := h.hb.bxs _ _ e
    exact k3.elim
  | _ => simp [dr] at e
/-- a dict that is read -/
def DicAt (R : Rt) (g : Gx) (H : Hp) (a : Addr) (t : Bool) (kvs : List (D × D)) : Prop :=
  match t with
  | false => ∃ kv ds, Rd H a (.dK kv) ∧ RepsG R g (kv.map (·.2)) ds ∧ kvs = (kv.map fun p => keyD p.1).zip ds
  | true => ∃ kv ds, Rd H a (.dT kv) ∧ RepsG R g (kv.map (·.2)) ds ∧ kvs = (kv.map fun p => keysD p.1).zip ds
theorem Holds.dicAt {t : Bool} {kvs : List (D × D)} (h : Holds r g sl bx σ H) (rv : RepG r.R g v d) (e : dr bx d = some (.dic t kvs)) : ∃ a, v = .ref a ∧ DicAt r.R g H a t kvs := by
  cases rv with
  | dicK h1 h2 => simp [dr] at e; obtain ⟨rfl, rfl⟩ := e; exact ⟨_, rfl, _, _, h.hb.sub.rd _ _ rfl h1, h2, rfl⟩
  | dicT h1 h2 => simp [dr] at e; obtain ⟨rfl, rfl⟩ := e; exact ⟨_, rfl, _, _, h.hb.sub.rd _ _ rfl h1, h2, rfl⟩
  | box h1 =>
    simp [dr] at e
    obtain ⟨a, k1, k2, k3⟩ := h.hb.bxs _ _ e
    rw [h1] at k1; cases k1
    cases t with
    | false => obtain ⟨kv, ds, q1, q2, q3⟩ := k3; exact ⟨_, rfl, kv, ds, .inl q1, q2, q3⟩
    | true => obtain ⟨kv, ds, q1, q2, q3⟩ := k3; exact ⟨_, rfl, kv, ds, .inl q1, q2, q3⟩
  | _ => simp [dr] at e
theorem Holds.objAt {c : Nat} {fs : List (Str × D)} (h : Holds r g sl bx σ H) (rv : RepG r.R g v d) (e : dr bx d = some (.obj c fs)) :
    ∃ a C dx fv ds, v = .ref a ∧ r.R.cls c = some C ∧ H a = some (.ins C dx fv) ∧ RepsG r.R g (fv.map (·.2)) ds ∧ fs = (fv.map (·.1)).zip ds := by
  cases rv with
  | obj h0 h1 h2 => simp [dr] at e; obtain ⟨rfl, rfl⟩ := e; exact ⟨_, _, _, _, _, rfl, h0, h.hb.sub.ls _ _ rfl h1, h2, rfl⟩
  | box h1 =>
    simp [dr] at e
    obtain ⟨a, k1, k2, k3⟩ := h.hb.bxs _ _ e
    rw [h1] at k1; cases k1
    obtain ⟨C, dx, fv, ds, h0, h1, h2, h3⟩ := k3
    exact ⟨_, C, dx, fv, ds, rfl, h0, h1, h2, h3⟩
  | _ => simp [dr] at e
end
end Mi
namespace Mi
open PySem PySem.Spec L2

/-! judgements -/
/-- an exception's object: its class, its own dict -/
def XRep (R : Rt) (g : Gx) (H : Hp) (cls : Value) (d : Option Addr) (x : XD) : Prop :=
  (∃ C, R.cls x.c = some C ∧ cls = .ref C) ∧
    ((x.fs = [] ∧ d = none) ∨ ∃ a fv ds, d = some a ∧ H a = some (.xd fv) ∧ RepsG R g (fv.map (·.2)) ds ∧ x.fs = (fv.map (·.1)).zip ds)
/-- the wish about exceptions that leave -/
def wxI (r : Rn) (W : WXQ) : L2.WX := fun cls d σ H => ∃ g sl bx x, Holds r g sl bx σ H ∧ XRep r.R g H cls d x ∧ W x sl bx
/-- what is wanted behind a value -/
def Cont (r : Rn) (g : Gx) (sl : Sl) (σ : L2.St) (QD : VQ) (Q : VK) : Prop :=
  ∀ g' bx' H' v d, Le g g' → Holds r g' sl bx' σ H' → RepG r.R g' v d → QD d bx' → Q v H'
def ContA (r : Rn) (g : Gx) (sl : Sl) (σ : L2.St) (QD : List D → Bx → Prop) (Q : List V → Hp → Prop) : Prop :=
  ∀ g' bx' H' v d, Le g g' → Holds r g' sl bx' σ H' → RepsG r.R g' v d → QD d bx' → Q v H'
def ContT (r : Rn) (g : Gx) (sl : Sl) (σ : L2.St) (QD : Bool → Bx → Prop) (Q : Bool → Hp → Prop) : Prop :=
  ∀ g' bx' H' b, Le g g' → Holds r g' sl bx' σ H' → QD b bx' → Q b H'
def tI (r : Rn) (W : WXQ) (m : WE) : TE := fun σ H Q => ∃ g sl bx QD, Holds r g sl bx σ H ∧ m sl bx QD (fun x b => W x sl b) ∧ Cont r g sl σ QD Q
def tIA (r : Rn) (W : WXQ) (m : WA) : TA := fun σ H Q => ∃ g sl bx QD, Holds r g sl bx σ H ∧ m sl bx QD (fun x b => W x sl b) ∧ ContA r g sl σ QD Q
def tIT (r : Rn) (W : WXQ) (m : WT) : TT := fun σ H Q => ∃ g sl bx QD, Holds r g sl bx σ H ∧ m sl bx QD (fun x b => W x sl b) ∧ ContT r g sl σ QD Q
/-- .. of statements -/
structure ContS (r : Rn) (g : Gx) (DD : En) (D : Ends) : Prop where
  nx : ∀ g' sl' bx' σ' H', Le g g' → Holds r g' sl' bx' σ' H' → DD.nx sl' bx' → D.nx σ' H'
  bk : ∀ g' sl' bx' σ' H', Le g g' → Holds r g' sl' bx' σ' H' → DD.bk sl' bx' → D.bk σ' H'
  ct : ∀ g' sl' bx' σ' H', Le g g' → Holds r g' sl' bx' σ' H' → DD.ct sl' bx' → D.ct σ' H'
  rt : ∀ g' sl' bx' σ' H' v d, Le g g' → Holds r g' sl' bx' σ' H' → RepG r.R g' v d → DD.rt d bx' → D.rt v H'
def tIS (r : Rn) (W : WXQ) (m : WS) : TS := fun D σ H => ∃ g sl bx DD, Holds r g sl bx σ H ∧ m DD W sl bx ∧ ContS r g DD D
abbrev PEm (r : Rn) (X : Cx) (W : WXQ) (e : Expr) (m : WE) : Prop := PE X e (tI r W m)
abbrev PAm (r : Rn) (X : Cx) (W : WXQ) (e : List Expr) (m : WA) : Prop := PA X e (tIA r W m)
abbrev PTm (r : Rn) (X : Cx) (W : WXQ) (e : Expr) (m : WT) : Prop := PT X e (tIT r W m)
abbrev PSm (r : Rn) (X : Cx) (W : WXQ) (e : Stmt) (m : WS) : Prop := PS X e (tIS r W m)
abbrev PSsm (r : Rn) (X : Cx) (W : WXQ) (e : List Stmt) (m : WS) : Prop := PSs X e (tIS r W m)

theorem pe_imp {X : Cx} {e : Expr} {t t' : TE} (h : PE X e t) (i : ∀ σ H Q, t' σ H Q → t σ H Q) : PE X e t' := ⟨fun pins s σ H Q I q => h.run pins s σ H Q I (i σ H Q q)⟩
theorem pt_imp {X : Cx} {e : Expr} {t t' : TT} (h : PT X e t) (i : ∀ σ H Q, t' σ H Q → t σ H Q) : PT X e t' := ⟨fun pins s σ H Q I q => h.run pins s σ H Q I (i σ H Q q)⟩
theorem pa_imp {X : Cx} {e : List Expr} {t t' : TA} (h : PA X e t) (i : ∀ σ H Q, t' σ H Q → t σ H Q) : PA X e t' := ⟨fun pos pins s σ H Q I q => h.run pos pins s σ H Q I (i σ H Q q)⟩
theorem ps_imp {X : Cx} {e : Stmt} {t t' : TS} (h : PS X e t) (i : ∀ D σ H, t' D σ H → t D σ H) : PS X e t' := ⟨fun pins s σ H D I q => h.run pins s σ H D I (i D σ H q)⟩
theorem pss_imp {X : Cx} {e : List Stmt} {t t' : TS} (h : PSs X e t) (i : ∀ D σ H, t' D σ H → t D σ H) : PSs X e t' := ⟨fun pins s σ H D I q => h.run pins s σ H D I (i D σ H q)⟩

/-! results of operations -/
inductive Rs where
  | val (d : D)
  | new (d : D)
/-- b: the new cell is a box -/
def fin (b : Bool) : Rs → Bx → VQ → Prop
  | .val d, bx, Q => Q d bx
  | .new d, bx, Q => if b = true then ∀ n, bx n = none → Q (.box n) (upb bx n d) else Q d bx

section
variable {r : Rn} {g : Gx} {sl : Sl} {bx : Bx} {σ : L2.St} {H : Hp} {QD : VQ} {Q : VK}
theorem Cont.at (c : Cont r g sl σ QD Q) {v : V} {d : D} (h : Holds r g sl bx σ H) (rv : RepG r.R g v d) (q : QD d bx) : Q v H := c g bx H v d (Le.refl _) h rv q
theorem Cont.le {g' : Gx} (c : Cont r g sl σ QD Q) (l : Le g g') : Cont r g' sl σ QD Q := fun g2 bx' H' v d l2 => c g2 bx' H' v d (l.trans l2)
theorem fin_lst {b : Bool} {vs : List V} {ds : List D} (h : Holds r g sl bx σ H) (rv : RepsG r.R g vs ds) (q : fin b (.new (.lst ds)) bx QD) (c : Cont r g sl σ QD Q) :
    ∀ p, H p = none → Q (.ref p) (upd H p (.lst vs)) := by
  intro p hp
  have hF := (h.none_of hp).1
  cases b with
  | false =>
    have q' : QD (.lst ds) bx := by simpa [fin] using q
    have le := Gx.le_add (o := .lst vs) hF
    exact c _ _ _ _ _ le (h.lay (.lst vs) hp) (.lst (by show upd g.F p _ p = _; rw [upd_same]) (le.reps rv)) q'
  | true =>
    have q' : ∀ n, bx n = none → QD (.box n) (upb bx n (.lst ds)) := by simpa [fin] using q
    have ht := h.hb.top g.top (Nat.le_refl _)
    have le := Gx.le_addB (p := p) ht
    have hc : BoxRep r.R g.F (g.addB p).b (upd H p (.lst vs)) p (.lst ds) := ⟨vs, upd_same, le.reps rv⟩
    refine c _ _ _ _ _ le (h.layB hp hc) (.box ?_) (q' _ h.topNone)
    show (if g.top = g.top then some p else _) = _
    rw [if_pos rfl]
theorem fin_tup {b : Bool} {vs : List V} {ds : List D} (h : Holds r g sl bx σ H) (rv : RepsG r.R g vs ds) (q : fin b (.val (.tup ds)) bx QD) (c : Cont r g sl σ QD Q) :
    ∀ p, H p = none → Q (.ref p) (upd H p (.tup vs)) := by
  intro p hp
  have hF := (h.none_of hp).1
  have q' : QD (.tup ds) bx := q
  have le := Gx.le_add (o := .tup vs) hF
  exact c _ _ _ _ _ le (h.lay (.tup vs) hp) (.tup (by show upd g.F p _ p = _; rw [upd_same]) (le.reps rv)) q'
end

/-! ### names, constants -/
def wSlot (i : Nat) : WE := fun sl bx Q _ => ∃ d, sl[i]? = some (some d) ∧ Q d bx
/-- the box in the slot is frozen -/
def wSlotF (i : Nat) : WE := fun sl bx Q _ => ∃ n d, sl[i]? = some (some (.box n)) ∧ bx n = some d ∧ Q d (delb bx n)
def wC (d : D) : WE := fun _ bx Q _ => Q d bx
def wStuck : WE := fun _ _ _ _ => False
section
variable {r : Rn} {X : Cx} {W : WXQ}
theorem pem_stuck {e : Expr} : PEm r X W e wStuck := ⟨fun _ _ _ _ _ _ h => by
  obtain ⟨_, _, _, _, _, z, _⟩ := h
  exact z.elim⟩
theorem pem_slot {i : Nat} {x : Str} {pos : Pos} (hN : X.N[i]? = some x) (hv : Vis X.env.scope x) (hd : (x == ("__debug__" : Str)) = false) (hcd : (x == ("__classdict__" : Str)) = false) : PEm r X W (.Name x pos) (wSlot i) :=
  pe_imp (pe_var hN hv hd hcd) fun σ H Q h => by
    obtain ⟨g, sl, bx, QD, hh, ⟨d, e, q⟩, c⟩ := h
    obtain ⟨v, h1, h2⟩ := hh.ss i d e
    exact ⟨v, h1, c.at hh h2 q⟩
theorem BoxRep.rep {R : Rt} {g : Gx} {H : Hp} {a : Addr} {d : D} (h : BoxRep R g.F g.b H a d) (hF : g.F a = none) : ∃ o, H a = some o ∧ RepG R (g.add a o) (.ref a) d := by
  cases d with
  | lst ds =>
    obtain ⟨vs, h1, h2⟩ := h
    exact ⟨_, h1, .lst upd_same ((Gx.le_add hF).reps h2)⟩
  | dic k kvs =>
    cases k with
    | false => obtain ⟨kv, ds, h1, h2, rfl⟩ := h; exact ⟨_, h1, .dicK (.inl upd_same) ((Gx.le_add hF).reps h2)⟩
    | true => obtain ⟨kv, ds, h1, h2, rfl⟩ := h; exact ⟨_, h1, .dicT (.inl upd_same) ((Gx.le_add hF).reps h2)⟩
  | obj c fs =>
    obtain ⟨C, dx, fv, ds, h0, h1, h2, rfl⟩ := h
    exact ⟨_, h1, .obj h0 upd_same ((Gx.le_add hF).reps h2)⟩
  | _ => exact h.elim
theorem pem_slotF {i : Nat} {x : Str} {pos : Pos} (hN : X.N[i]? = some x) (hv : Vis X.env.scope x) (hd : (x == ("__debug__" : Str)) = false) (hcd : (x == ("__classdict__" : Str)) = false) : PEm r X W (.Name x pos) (wSlotF i) :=
  pe_imp (pe_var hN hv hd hcd) fun σ H Q h => by
    obtain ⟨g, sl, bx, QD, hh, ⟨n, d, e, en, q⟩, c⟩ := h
    obtain ⟨v, h1, h2⟩ := hh.ss i _ e
    obtain ⟨a, k1, k2, k3⟩ := hh.hb.bxs n d en
    obtain ⟨o, ho, rd⟩ := k3.rep k2
    obtain ⟨h', le⟩ := hh.freeze en k1 ho
    cases h2 with
    | box hb => rw [k1] at hb; cases hb; exact ⟨_, h1, c _ _ _ _ _ le h' rd q⟩
theorem pem_const {e : Expr} {v : V} {d : D} (h : PE X e (tC v)) (rv : ∀ g, RepG r.R g v d) : PEm r X W e (wC d) :=
  pe_imp h fun σ H Q h => by
    obtain ⟨g, sl, bx, QD, hh, q, c⟩ := h
    exact c.at hh (rv g) q
end

/-! ### operators -/
/-- a binary operation by values: contents are read through bx -/
abbrev O2 := Bx → D → D → Option Rs
def wBin (b : Bool) (op : O2) (ma mb : WE) : WE := fun sl bx Q X => ma sl bx (fun d bx1 => mb sl bx1 (fun e bx2 => ∃ rs, op bx2 d e = some rs ∧ fin b rs bx2 Q) X) X
def rI2 (r : Rn) (b : Bool) (op : O2) : R2 := fun x y H Q => ∃ g sl bx σ d e rs QD, Holds r g sl bx σ H ∧ RepG r.R g x d ∧ RepG r.R g y e ∧ op bx d e = some rs ∧ fin b rs bx QD ∧ Cont r g sl σ QD Q
theorem tI_bin {r : Rn} {W : WXQ} {b : Bool} {op : O2} {ma mb : WE} {σ : L2.St} {H : Hp} {Q : VK} (h : tI r W (wBin b op ma mb) σ H Q) : tOp (rI2 r b op) (tI r W ma) (tI r W mb) σ H Q := by
  obtain ⟨g, sl, bx, QD, hh, q, c⟩ := h
  refine ⟨g, sl, bx, _, hh, q, fun g1 bx1 H1 x d l1 h1 r1 q1 => ?_⟩
  refine ⟨g1, sl, bx1, _, h1, q1, fun g2 bx2 H2 y e l2 h2 r2 q2 => ?_⟩
  obtain ⟨rs, e1, e2⟩ := q2
  exact ⟨g2, sl, bx2, σ, d, e, rs, QD, h2, l2.rep r1, r2, e1, e2, c.le (l1.trans l2)⟩
theorem pem_bin {r : Rn} {X : Cx} {W : WXQ} {b : Bool} {op : O2} {ma mb : WE} {f : Operator} {ea eb : Expr} {pos : Pos} (ho : OpR X (binaryOp f) (rI2 r b op)) (ha : PEm r X W ea ma) (hb : PEm r X W eb mb) :
    PEm r X W (.BinOp ea f eb pos) (wBin b op ma mb) := pe_imp (pe_op ho ha hb) fun σ H Q h => tI_bin h
theorem pem_cmp {r : Rn} {X : Cx} {W : WXQ} {b : Bool} {op : O2} {ma mb : WE} {f : CmpOp} {ea eb : Expr} {pos : Pos} (ho : OpR X (compareOp f) (rI2 r b op)) (ha : PEm r X W ea ma) (hb : PEm r X W eb mb) (hm : behindInMarks f eb = false) :
    PEm r X W (.Compare ea [f] [eb] pos) (wBin b op ma mb) := pe_imp (pe_cmpR ho ha hb hm) fun σ H Q h => tI_bin h

end Mi
namespace Mi
open PySem PySem.Spec L2

/-! ### data as the library's plain data -/
/-- no dicts, no objects -/
def pyD (bx : Bx) : Nat → D → Option PyData
  | 0, _ => none
  | n + 1, d => match d with
    | .non => some .none
    | .bl b => some (.bool b)
    | .int i => some (.int i)
    | .str x => if PyData.strOk x = true then some (.str x) else none
    | .tup ds => (ds.mapM (pyD bx n)).map .tuple
    | .rot ds => (ds.mapM (pyD bx n)).map .tuple
    | .lst ds => (ds.mapM (pyD bx n)).map .list
    | .box m => match bx m with
      | some (.lst ds) => (ds.mapM (pyD bx n)).map .list
      | _ => none
    | _ => none
theorem mapM_cons {α β : Type} {f : α → Option β} {a : α} {l : List α} {r : List β} (h : (a :: l).mapM f = some r) : ∃ b bs, f a = some b ∧ l.mapM f = some bs ∧ r = b :: bs := by
  rw [List.mapM_cons] at h
  cases e : f a with
  | none => rw [e] at h; cases h
  | some b =>
    cases e' : l.mapM f with
    | none => rw [e, e'] at h; cases h
    | some bs => rw [e, e'] at h; cases h; exact ⟨b, bs, rfl, rfl, rfl⟩
theorem mapM_nil {α β : Type} {f : α → Option β} {r : List β} (h : ([] : List α).mapM f = some r) : r = [] := by
  rw [List.mapM_nil] at h; cases h; rfl
section
variable {r : Rn} {g : Gx} {sl : Sl} {bx : Bx} {σ : L2.St} {H : Hp}
theorem dps_of (f : D → Option PyData) (ih : ∀ v d p, RepG r.R g v d → f d = some p → Dp r.R.K H v p) : ∀ {vs : List V} {ds : List D} {ps : List PyData}, RepsG r.R g vs ds → ds.mapM f = some ps → DpAll r.R.K H vs ps
  | _, _, _, .nil, e => by rw [mapM_nil e]; exact .nil
  | _, _, _, .cons h t, e => by
    obtain ⟨b, bs, e1, e2, rfl⟩ := mapM_cons e
    exact .cons (ih _ _ _ h e1) (dps_of f ih t e2)
theorem dp_of (h : Holds r g sl bx σ H) : ∀ (n : Nat) (v : V) (d : D) (p : PyData), RepG r.R g v d → pyD bx n d = some p → Dp r.R.K H v p
  | 0, _, _, _, _, e => by cases e
  | n + 1, v, d, p, rv, e => by
    have ih := dp_of h n
    cases rv with
    | non => simp [pyD] at e; subst e; exact .non
    | bl b => simp [pyD] at e; subst e; exact .bl b
    | int i => simp [pyD] at e; subst e; exact .int i
    | str x => simp [pyD] at e; obtain ⟨_, rfl⟩ := e; exact .str x
    | tup h1 h2 =>
      simp only [pyD, Option.map_eq_some_iff] at e
      obtain ⟨ps, e1, rfl⟩ := e
      exact .tup (.inl (.inl (h.hb.sub.ls _ _ rfl h1))) (dps_of _ ih h2 e1)
    | rot h1 h2 =>
      simp only [pyD, Option.map_eq_some_iff] at e
      obtain ⟨ps, e1, rfl⟩ := e
      exact .tup (h.hb.sub.sqT h1) (dps_of _ ih h2 e1)
    | lst h1 h2 =>
      simp only [pyD, Option.map_eq_some_iff] at e
      obtain ⟨ps, e1, rfl⟩ := e
      exact .lst (SqL.of (h.hb.sub.ls _ _ rfl h1)) (dps_of _ ih h2 e1)
    | @box a m h1 =>
      simp only [pyD] at e
      split at e
      · rename_i ds e0
        simp only [Option.map_eq_some_iff] at e
        obtain ⟨ps, e1, rfl⟩ := e
        obtain ⟨a', k1, k2, k3⟩ := h.hb.bxs _ _ e0
        rw [h1] at k1; cases k1
        obtain ⟨vs, q1, q2⟩ := k3
        exact .lst (SqL.of q1) (dps_of _ ih q2 e1)
      · cases e
    | _ => simp [pyD] at e
theorem canLay_all (f : D → Option PyData) (ih : ∀ d p, f d = some p → p.canLay0 = true) : ∀ {ds : List D} {ps : List PyData}, ds.mapM f = some ps → PyData.canLayAll0 ps = true
  | [], _, e => by rw [mapM_nil e]; rfl
  | d :: ds, _, e => by
    obtain ⟨b, bs, e1, e2, rfl⟩ := mapM_cons e
    simp [PyData.canLayAll0, ih _ _ e1, canLay_all f ih e2]
theorem depth_all (f : D → Option PyData) (n : Nat) (ih : ∀ d p, f d = some p → p.depth ≤ n) : ∀ {ds : List D} {ps : List PyData}, ds.mapM f = some ps → PyData.depthAll ps ≤ n
  | [], _, e => by rw [mapM_nil e]; exact Nat.zero_le _
  | d :: ds, _, e => by
    obtain ⟨b, bs, e1, e2, rfl⟩ := mapM_cons e
    have := ih _ _ e1
    have := depth_all f n ih e2
    simp [PyData.depthAll]; omega
theorem canLay_of : ∀ (n : Nat) (d : D) (p : PyData), pyD bx n d = some p → p.canLay0 = true
  | 0, _, _, e => by cases e
  | n + 1, d, p, e => by
    have ih := canLay_of n
    cases d with
    | non => simp [pyD] at e; subst e; rfl
    | bl b => simp [pyD] at e; subst e; rfl
    | int i => simp [pyD] at e; subst e; rfl
    | str x => simp [pyD] at e; obtain ⟨h, rfl⟩ := e; exact h
    | tup ds => simp only [pyD, Option.map_eq_some_iff] at e; obtain ⟨ps, e1, rfl⟩ := e; exact canLay_all _ ih e1
    | rot ds => simp only [pyD, Option.map_eq_some_iff] at e; obtain ⟨ps, e1, rfl⟩ := e; exact canLay_all _ ih e1
    | lst ds => simp only [pyD, Option.map_eq_some_iff] at e; obtain ⟨ps, e1, rfl⟩ := e; exact canLay_all _ ih e1
    | box m =>
      simp only [pyD] at e
      split at e
      · simp only [Option.map_eq_some_iff] at e; obtain ⟨ps, e1, rfl⟩ := e; exact canLay_all _ ih e1
      · cases e
    | _ => simp [pyD] at e
theorem depth_of : ∀ (n : Nat) (d : D) (p : PyData), pyD bx n d = some p → p.depth ≤ n
  | 0, _, _, e => by cases e
  | n + 1, d, p, e => by
    have ih := depth_of n
    cases d with
    | non => simp [pyD] at e; subst e; simp [PyData.depth]
    | bl b => simp [pyD] at e; subst e; simp [PyData.depth]
    | int i => simp [pyD] at e; subst e; simp [PyData.depth]
    | str x => simp [pyD] at e; obtain ⟨h, rfl⟩ := e; simp [PyData.depth]
    | rot ds => simp only [pyD, Option.map_eq_some_iff] at e; obtain ⟨ps, e1, rfl⟩ := e; have := depth_all _ n ih e1; simp [PyData.depth]; omega
    | tup ds => simp only [pyD, Option.map_eq_some_iff] at e; obtain ⟨ps, e1, rfl⟩ := e; have := depth_all _ n ih e1; simp [PyData.depth]; omega
    | lst ds => simp only [pyD, Option.map_eq_some_iff] at e; obtain ⟨ps, e1, rfl⟩ := e; have := depth_all _ n ih e1; simp [PyData.depth]; omega
    | box m =>
      simp only [pyD] at e
      split at e
      · simp only [Option.map_eq_some_iff] at e; obtain ⟨ps, e1, rfl⟩ := e; have := depth_all _ n ih e1; simp [PyData.depth]; omega
      · cases e
    | _ => simp [pyD] at e
theorem shaped_of {d : D} {p : PyData} (e : pyD bx 40 d = some p) : SeqAt.shaped p = true := by
  have h1 := canLay_of _ _ _ e
  have h2 := depth_of _ _ _ e
  simp [SeqAt.shaped, h1]; omega
end

/-! ### the operations -/
def dEqP : O2 := fun bx d e => match pyD bx 40 d, pyD bx 40 e with
  | some p, some q => some (.val (.bl (PyData.eqv p q)))
  | _, _ => none
/-- texts of any signs, else plain data -/
def dEq : O2 := fun bx d e => match d, e with
  | .str x, .str y => some (.val (.bl (decide (x = y))))
  | d, e => dEqP bx d e
def dNeP : O2 := fun bx d e => match pyD bx 40 d, pyD bx 40 e with
  | some p, some q => some (.val (.bl (!PyData.eqv p q)))
  | _, _ => none
def dNe : O2 := fun bx d e => match d, e with
  | .str x, .str y => some (.val (.bl (!decide (x = y))))
  | d, e => dNeP bx d e
/-- keys of dicts -/
def toKey : D → Option L2.Key
  | .int i => some (.inl i)
  | .str x => some (.inr x)
  | _ => none
def toKeys : D → Option (List L2.Key)
  | .tup ds => ds.mapM toKey
  | _ => none
def okKey (t : Bool) (k : D) : Bool := if t then (toKeys k).isSome else (toKey k).isSome
def eqK (t : Bool) (a b : D) : Bool := if t then decide (toKeys a = toKeys b) else decide (toKey a = toKey b)
def lookK (t : Bool) (kvs : List (D × D)) (k : D) : Option D := (kvs.find? fun p => eqK t p.1 k).map (·.2)
def dIn (neg : Bool) : O2 := fun bx d e => match dr bx e with
  | some (.lst es) => match pyD bx 40 d, pyD bx 40 (.lst es) with
    | some p, some (.list qs) => some (.val (.bl (xor neg (qs.any fun z => PyData.eqv z p))))
    | _, _ => none
  | some (.tup es) => match pyD bx 40 d, pyD bx 40 (.tup es) with
    | some p, some (.tuple qs) => some (.val (.bl (xor neg (qs.any fun z => PyData.eqv z p))))
    | _, _ => none
  | some (.str y) => match d with
    | .str x => match x.cps.toList with
      | [c] => some (.val (.bl (xor neg (decide (c ∈ y.cps.toList)))))
      | _ => none
    | _ => none
  | some (.dic t kvs) => if okKey t d then some (.val (.bl (xor neg (lookK t kvs d).isSome))) else none
  | _ => none

section
variable {r : Rn} {X : Cx}
theorem op_I {f : Value → Value → Sem Value} {b : Bool} {op : O2}
    (h : ∀ g sl bx σ H x y d e rs QD Q, Holds r g sl bx σ H → RepG r.R g x d → RepG r.R g y e → op bx d e = some rs → fin b rs bx QD → Cont r g sl σ QD Q → ∃ R2' : R2, OpR X f R2' ∧ R2' x y H Q) : OpR X f (rI2 r b op) := by
  intro pins s σ H x y v u Q I rx ry q
  obtain ⟨g, sl, bx, σ', d, e, rs, QD, hh, r1, r2, e1, e2, c⟩ := q
  obtain ⟨R, hR, hq⟩ := h g sl bx σ' H x y d e rs QD Q hh r1 r2 e1 e2 c
  exact hR pins s σ H x y v u Q I rx ry hq
theorem opI_eq {b : Bool} (hK : X.K = r.R.K) (hu : X.A.units + 64 < cLine) : OpR X (compareOp .Eq) (rI2 r b dEq) := op_I fun g sl bx σ H x y d e rs QD Q hh r1 r2 e1 e2 c => by
  unfold dEq at e1
  split at e1
  · cases e1
    cases r1; cases r2
    exact ⟨_, op_eq, rfl, by simpa using c.at hh (.bl _) e2⟩
  unfold dEqP at e1
  split at e1
  · rename_i p q ep eq
    cases e1
    exact ⟨_, op_eqD hu, p, q, by rw [hK]; exact dp_of hh _ _ _ _ r1 ep, by rw [hK]; exact dp_of hh _ _ _ _ r2 eq, shaped_of ep, shaped_of eq, c.at hh (.bl _) e2⟩
  · cases e1
theorem opI_ne {b : Bool} (hK : X.K = r.R.K) (hu : X.A.units + 64 < cLine) : OpR X (compareOp .NotEq) (rI2 r b dNe) := op_I fun g sl bx σ H x y d e rs QD Q hh r1 r2 e1 e2 c => by
  unfold dNe at e1
  split at e1
  · cases e1
    cases r1; cases r2
    exact ⟨_, op_ne, rfl, by simpa using c.at hh (.bl _) e2⟩
  unfold dNeP at e1
  split at e1
  · rename_i p q ep eq
    cases e1
    exact ⟨_, op_neD hu, p, q, by rw [hK]; exact dp_of hh _ _ _ _ r1 ep, by rw [hK]; exact dp_of hh _ _ _ _ r2 eq, shaped_of ep, shaped_of eq, c.at hh (.bl _) e2⟩
  · cases e1
end
end Mi
namespace Mi
open PySem PySem.Spec L2

def RelOD (R : Rt) (g : Gx) : Option V → Option D → Prop
  | none, none => True
  | some v, some d => RepG R g v d
  | _, _ => False
theorem toKey_keyD (k : L2.Key) : toKey (keyD k) = some k := by cases k <;> rfl
theorem toKeys_keysD (ks : List L2.Key) : toKeys (keysD ks) = some ks := by
  show (ks.map keyD).mapM toKey = some ks
  induction ks with
  | nil => rfl
  | cons k ks ih => rw [List.map_cons, List.mapM_cons, toKey_keyD, ih]; rfl
section
variable {R : Rt} {F : Hp} {b : Nat → Option Addr}
theorem rep_key {v : V} {d : D} {k : L2.Key} (h : Rep R F b v d) (e : toKey d = some k) : v = kV k := by
  cases h <;> simp [toKey] at e <;> subst e <;> rfl
theorem reps_keys : ∀ {vs : List V} {ds : List D} {ks : List L2.Key}, Reps R F b vs ds → ds.mapM toKey = some ks → vs = ks.map kV
  | _, _, _, .nil, e => by rw [mapM_nil e]; rfl
  | _, _, _, .cons h t, e => by
    obtain ⟨k, ks, e1, e2, rfl⟩ := mapM_cons e
    rw [rep_key h e1, reps_keys t e2]; rfl
theorem look_rel {κ : Type} [DecidableEq κ] {g : Gx} (kd : κ → D) (eqf : D → D → Bool) (k : κ) (d : D) (he : ∀ j, eqf (kd j) d = decide (j = k)) :
    ∀ {kv : List (κ × V)} {ds : List D}, RepsG R g (kv.map (·.2)) ds → RelOD R g (valV kv k) ((((kv.map fun p => kd p.1).zip ds).find? fun p => eqf p.1 d).map (·.2))
  | [], _, _ => True.intro
  | p :: kv, [], h => by cases h
  | p :: kv, d' :: ds, h => by
    cases h with
    | cons h t =>
      have ih := look_rel kd eqf k d he t
      rw [List.map_cons, List.zip_cons_cons, List.find?_cons]
      simp only [he]
      by_cases q : p.1 = k
      · rw [valV_pos q, decide_eq_true q]; exact h
      · rw [valV_neg q, decide_eq_false q]; exact ih
end
section
variable {r : Rn} {g : Gx} {sl : Sl} {bx : Bx} {σ : L2.St} {H : Hp}
theorem Holds.lookAt (h : Holds r g sl bx σ H) {a : Addr} {t : Bool} {kvs : List (D × D)} {v : V} {d : D} (hd : DicAt r.R g H a t kvs) (rv : RepG r.R g v d) (ok : okKey t d = true) :
    ∃ o, DGet H a v o ∧ RelOD r.R g o (lookK t kvs d) := by
  cases t with
  | false =>
    obtain ⟨kv, ds, h1, h2, rfl⟩ := hd
    obtain ⟨k, ek⟩ := Option.isSome_iff_exists.mp (show (toKey d).isSome = true by simpa [okKey] using ok)
    refine ⟨valV kv k, .inl ⟨kv, k, h1, rep_key rv ek, rfl⟩, ?_⟩
    refine look_rel keyD (eqK false) k d (fun j => ?_) h2
    simp [eqK, toKey_keyD, ek]
  | true =>
    obtain ⟨kv, ds, h1, h2, rfl⟩ := hd
    obtain ⟨ks, ek⟩ := Option.isSome_iff_exists.mp (show (toKeys d).isSome = true by simpa [okKey] using ok)
    cases d with
    | tup es =>
      obtain ⟨b, vs, rfl, hb, rs⟩ := h.tupAt rv (ds := es) rfl
      have ev := reps_keys rs (show es.mapM toKey = some ks from ek)
      subst ev
      refine ⟨valV kv ks, .inr ⟨kv, ks, b, h1, rfl, hb, rfl⟩, ?_⟩
      refine look_rel keysD (eqK true) ks _ (fun j => ?_) h2
      simp [eqK, toKeys_keysD, ek]
    | _ => simp [toKeys] at ek
theorem RelOD.isSome {R : Rt} {o : Option V} {o' : Option D} (h : RelOD R g o o') : o.isSome = o'.isSome := by
  cases o <;> cases o' <;> simp_all [RelOD]
end
section
variable {r : Rn} {X : Cx}
theorem opR_din (hu : X.A.units + 1 < cLine) : OpR X (compareOp .In) (fun y x H Q => ∃ a o, x = .ref a ∧ DGet H a y o ∧ Q (.bl o.isSome) H) := by
  intro pins s σ H y x v u Q I ry rx h
  obtain ⟨a, o, rfl, g, q⟩ := h
  cases rx
  exact d_in hu I g ry fun s' I' => ⟨.bl _, H, I', rfl, q⟩
theorem opR_dnotin (hu : X.A.units + 1 < cLine) : OpR X (compareOp .NotIn) (fun y x H Q => ∃ a o, x = .ref a ∧ DGet H a y o ∧ Q (.bl (!o.isSome)) H) := by
  intro pins s σ H y x v u Q I ry rx h
  obtain ⟨a, o, rfl, g, q⟩ := h
  cases rx
  exact d_notIn hu I g ry fun s' I' => ⟨.bl _, H, I', rfl, q⟩
/-- x in a list or tuple of plain data -/
theorem opR_inT (hu : X.A.units + 65 < cLine) : OpR X (compareOp .In) (fun x y H Q => ∃ d ds, Dp X.K H x d ∧ Dp X.K H y (.tuple ds) ∧ SeqAt.shaped d = true ∧ SeqAt.shaped (.tuple ds) = true ∧ Q (.bl (ds.any fun z => PyData.eqv z d)) H) := by
  intro pins s σ H x y v u Q I rx ry h
  obtain ⟨d, ds, hd, he, sd, se, q⟩ := h
  obtain ⟨as, r1⟩ := Dp.reads I d x v hd rx
  obtain ⟨bs, r2⟩ := Dp.reads I (.tuple ds) y u he ry
  have hz := SeqAt.depth_of_shaped sd
  exact SeqAt.in_tuple_reads r2 r1 (SeqAt.canLay_of_shaped se) (SeqAt.canLay_of_shaped sd) (by omega) ⟨.bl _, H, I, rfl, q⟩
theorem opR_notInT (hu : X.A.units + 65 < cLine) : OpR X (compareOp .NotIn) (fun x y H Q => ∃ d ds, Dp X.K H x d ∧ Dp X.K H y (.tuple ds) ∧ SeqAt.shaped d = true ∧ SeqAt.shaped (.tuple ds) = true ∧ Q (.bl (!ds.any fun z => PyData.eqv z d)) H) := by
  intro pins s σ H x y v u Q I rx ry h
  obtain ⟨d, ds, hd, he, sd, se, q⟩ := h
  obtain ⟨as, r1⟩ := Dp.reads I d x v hd rx
  obtain ⟨bs, r2⟩ := Dp.reads I (.tuple ds) y u he ry
  have hz := SeqAt.depth_of_shaped sd
  exact SeqAt.notIn_tuple_reads r2 r1 (SeqAt.canLay_of_shaped se) (SeqAt.canLay_of_shaped sd) (by omega) ⟨.bl _, H, I, rfl, q⟩
theorem dp_dr {g : Gx} {sl : Sl} {bx : Bx} {σ : L2.St} {H : Hp} {v : V} {d : D} {es : List D} {qs : List PyData} (h : Holds r g sl bx σ H) (rv : RepG r.R g v d) (e : dr bx d = some (.lst es)) (e2 : pyD bx 40 (.lst es) = some (.list qs)) : Dp r.R.K H v (.list qs) := by
  refine dp_of h 40 v d _ rv ?_
  cases d with
  | lst ds => simp [dr] at e; subst e; exact e2
  | box m => simp [dr] at e; simp only [pyD, e]; exact e2
  | _ => simp [dr] at e
theorem dr_tup {bx : Bx} {d : D} {es : List D} {H : Hp} {g : Gx} {sl : Sl} {σ : L2.St} {v : V} (h : Holds r g sl bx σ H) (rv : RepG r.R g v d) (e : dr bx d = some (.tup es)) : d = .tup es := by
  cases d with
  | tup ds => simp [dr] at e; rw [e]
  | box m =>
    cases rv with
    | box h1 =>
      simp [dr] at e
      obtain ⟨a, _, _, k⟩ := h.hb.bxs _ _ e
      exact k.elim
  | _ => simp [dr] at e
theorem sign_of {x : Str} {c : Nat} (h : x.cps.toList = [c]) : x = ⟨#[c]⟩ := by
  obtain ⟨a⟩ := x
  obtain ⟨l⟩ := a
  simp at h
  rw [h]
theorem opI_in {b : Bool} (hK : X.K = r.R.K) (hu : X.A.units + 65 < cLine) : OpR X (compareOp .In) (rI2 r b (dIn false)) := op_I fun g sl bx σ H x y d e rs QD Q hh r1 r2 e1 e2 c => by
  unfold dIn at e1
  split at e1
  · rename_i es ee
    split at e1
    · rename_i p qs ep eq
      cases e1
      exact ⟨_, op_inD hu, p, qs, by rw [hK]; exact dp_of hh _ _ _ _ r1 ep, by rw [hK]; exact dp_dr hh r2 ee eq, shaped_of ep, shaped_of eq, c.at hh (.bl _) (by simpa [fin] using e2)⟩
    · cases e1
  · rename_i es ee
    split at e1
    · rename_i p qs ep eq
      cases e1
      have := dr_tup hh r2 ee
      subst this
      exact ⟨_, opR_inT hu, p, qs, by rw [hK]; exact dp_of hh _ _ _ _ r1 ep, by rw [hK]; exact dp_of hh _ _ _ _ r2 eq, shaped_of ep, shaped_of eq, c.at hh (.bl _) (by simpa [fin] using e2)⟩
    · cases e1
  · rename_i z ee
    split at e1
    · rename_i x'
      split at e1
      · rename_i cc ec
        cases e1
        cases r1
        have ex := sign_of ec
        cases e with
        | str z' =>
          simp [dr] at ee; subst ee
          cases r2
          exact ⟨_, op_in_sign, cc, _, by rw [ex], rfl, c.at hh (.bl _) (by simpa [fin] using e2)⟩
        | box m =>
          simp [dr] at ee
          cases r2 with
          | box h1 =>
            obtain ⟨a, _, _, k⟩ := hh.hb.bxs _ _ ee
            exact k.elim
        | _ => simp [dr] at ee
      · cases e1
    · cases e1
  · rename_i t kvs ee
    split at e1
    · rename_i hok
      cases e1
      obtain ⟨a, rfl, hd⟩ := hh.dicAt r2 ee
      obtain ⟨o, k1, k2⟩ := hh.lookAt hd r1 hok
      exact ⟨_, opR_din (by omega), a, o, rfl, k1, c.at hh (.bl _) (by rw [k2.isSome]; simpa [fin] using e2)⟩
    · cases e1
  · cases e1
theorem opI_notin {b : Bool} (hK : X.K = r.R.K) (hu : X.A.units + 65 < cLine) : OpR X (compareOp .NotIn) (rI2 r b (dIn true)) := op_I fun g sl bx σ H x y d e rs QD Q hh r1 r2 e1 e2 c => by
  unfold dIn at e1
  split at e1
  · rename_i es ee
    split at e1
    · rename_i p qs ep eq
      cases e1
      exact ⟨_, op_notInD hu, p, qs, by rw [hK]; exact dp_of hh _ _ _ _ r1 ep, by rw [hK]; exact dp_dr hh r2 ee eq, shaped_of ep, shaped_of eq, c.at hh (.bl _) (by simpa [fin] using e2)⟩
    · cases e1
  · rename_i es ee
    split at e1
    · rename_i p qs ep eq
      cases e1
      have := dr_tup hh r2 ee
      subst this
      exact ⟨_, opR_notInT hu, p, qs, by rw [hK]; exact dp_of hh _ _ _ _ r1 ep, by rw [hK]; exact dp_of hh _ _ _ _ r2 eq, shaped_of ep, shaped_of eq, c.at hh (.bl _) (by simpa [fin] using e2)⟩
    · cases e1
  · rename_i z ee
    split at e1
    · rename_i x'
      split at e1
      · rename_i cc ec
        cases e1
        cases r1
        have ex := sign_of ec
        cases e with
        | str z' =>
          simp [dr] at ee; subst ee
          cases r2
          exact ⟨_, op_notIn_sign, cc, _, by rw [ex], rfl, c.at hh (.bl _) (by simpa [fin] using e2)⟩
        | box m =>
          simp [dr] at ee
          cases r2 with
          | box h1 =>
            obtain ⟨a, _, _, k⟩ := hh.hb.bxs _ _ ee
            exact k.elim
        | _ => simp [dr] at ee
      · cases e1
    · cases e1
  · rename_i t kvs ee
    split at e1
    · rename_i hok
      cases e1
      obtain ⟨a, rfl, hd⟩ := hh.dicAt r2 ee
      obtain ⟨o, k1, k2⟩ := hh.lookAt hd r1 hok
      exact ⟨_, opR_dnotin (by omega), a, o, rfl, k1, c.at hh (.bl _) (by rw [k2.isSome]; simpa [fin] using e2)⟩
    · cases e1
  · cases e1
end
end Mi
namespace Mi
open PySem PySem.Spec L2

/-- an int of any kind of ints -/
def dAdd : O2 := fun bx d e => match dr bx d, dr bx e with
  | some (.int i), some (.int j) => some (.val (.int (i + j)))
  | some (.str x), some (.str y) => if x.length + y.length ≤ sizeLine then some (.val (.str (x ++ y))) else none
  | some (.lst x), some (.lst y) => if x.length + y.length ≤ sizeLine then some (.new (.lst (x ++ y))) else none
  | some (.tup x), some (.tup y) => if x.length + y.length ≤ sizeLine then some (.val (.tup (x ++ y))) else none
  | _, _ => none
def dSub : O2 := fun _ d e => match d, e with
  | .int i, .int j => some (.val (.int (i - j)))
  | _, _ => none
def dMul : O2 := fun bx d e => match dr bx d, e with
  | some (.int i), .int j => if i.natAbs.log2 + j.natAbs.log2 < 1000000 ∨ (-(2 ^ 64) < i ∧ i < 2 ^ 64) ∨ (-(2 ^ 64) < j ∧ j < 2 ^ 64) then some (.val (.int (i * j))) else none
  | some (.lst x), .int k => if -(2 ^ 63) ≤ k ∧ k < 2 ^ 63 ∧ x.length * k.toNat ≤ sizeLine then some (.new (.lst (List.replicate k.toNat x).flatten)) else none
  | _, _ => none
def dMod : O2 := fun _ d e => match d, e with
  | .int i, .int j => if j ≠ 0 then some (.val (.int (i.fmod j))) else none
  | _, _ => none
def dDiv : O2 := fun _ d e => match d, e with
  | .int i, .int j => if j ≠ 0 ∧ j.natAbs < 1073741824 then some (.val (.int (i.fdiv j))) else none
  | _, _ => none
def dPow : O2 := fun _ d e => match d, e with
  | .int i, .int j => if 0 ≤ j ∧ j ≤ 1000000 ∧ i.natAbs < 2 ^ 64 then some (.val (.int (i ^ j.toNat))) else none
  | _, _ => none
def dLt : O2 := fun _ d e => match d, e with
  | .int i, .int j => some (.val (.bl (decide (i < j))))
  | .str x, .str y => some (.val (.bl (decide (x.cps.toList < y.cps.toList))))
  | _, _ => none
def dGt : O2 := fun _ d e => match d, e with
  | .int i, .int j => some (.val (.bl (decide (j < i))))
  | .str x, .str y => some (.val (.bl (decide (y.cps.toList < x.cps.toList))))
  | _, _ => none
def dLe : O2 := fun _ d e => match d, e with
  | .int i, .int j => some (.val (.bl (decide (i ≤ j))))
  | .str x, .str y => some (.val (.bl (!decide (y.cps.toList < x.cps.toList))))
  | _, _ => none
def dGe : O2 := fun _ d e => match d, e with
  | .int i, .int j => some (.val (.bl (decide (j ≤ i))))
  | .str x, .str y => some (.val (.bl (!decide (x.cps.toList < y.cps.toList))))
  | _, _ => none
def isNon : D → Bool
  | .non => true
  | _ => false
def dIsN (neg : Bool) : O2 := fun _ d e => match e with
  | .non => some (.val (.bl (xor neg (isNon d))))
  | _ => none

section
variable {r : Rn} {X : Cx}
theorem reps_flat {R : Rt} {F : Hp} {b : Nat → Option Addr} {vs : List V} {ds : List D} (h : Reps R F b vs ds) : ∀ n, Reps R F b (List.replicate n vs).flatten (List.replicate n ds).flatten
  | 0 => .nil
  | n + 1 => by rw [List.replicate_succ, List.replicate_succ, List.flatten_cons, List.flatten_cons]; exact h.append (reps_flat h n)
theorem dr_int {g : Gx} {sl : Sl} {bx : Bx} {σ : L2.St} {H : Hp} {v : V} {d : D} {i : Int} (h : Holds r g sl bx σ H) (rv : RepG r.R g v d) (e : dr bx d = some (.int i)) : v = .int i := by
  cases rv with
  | int i => simp [dr] at e; rw [e]
  | box h1 =>
    simp [dr] at e
    obtain ⟨a, _, _, k⟩ := h.hb.bxs _ _ e
    exact k.elim
  | _ => simp [dr] at e
theorem dr_str {g : Gx} {sl : Sl} {bx : Bx} {σ : L2.St} {H : Hp} {v : V} {d : D} {i : Str} (h : Holds r g sl bx σ H) (rv : RepG r.R g v d) (e : dr bx d = some (.str i)) : v = .str i := by
  cases rv with
  | str i => simp [dr] at e; rw [e]
  | box h1 =>
    simp [dr] at e
    obtain ⟨a, _, _, k⟩ := h.hb.bxs _ _ e
    exact k.elim
  | _ => simp [dr] at e
theorem opI_add {b : Bool} (hK : X.K = r.R.K) : OpR X (binaryOp .Add) (rI2 r b dAdd) := op_I fun g sl bx σ H x y d e rs QD Q hh r1 r2 e1 e2 c => by
  unfold dAdd at e1
  split at e1
  · rename_i i j ei ej
    cases e1
    exact ⟨_, op_add, i, j, dr_int hh r1 ei, dr_int hh r2 ej, c.at hh (.int _) e2⟩
  · rename_i i j ei ej
    split at e1
    · rename_i hz
      cases e1
      exact ⟨_, op_add_str, i, j, dr_str hh r1 ei, dr_str hh r2 ej, hz, c.at hh (.str _) e2⟩
    · cases e1
  · rename_i i j ei ej
    split at e1
    · rename_i hz
      cases e1
      obtain ⟨a1, v1, rfl, k1, q1⟩ := hh.lstAt r1 ei
      obtain ⟨a2, v2, rfl, k2, q2⟩ := hh.lstAt r2 ej
      exact ⟨_, op_cat, a1, a2, v1, v2, rfl, rfl, k1, k2, by rw [q1.length, q2.length]; exact hz, fin_lst hh (q1.append q2) e2 c⟩
    · cases e1
  · rename_i i j ei ej
    split at e1
    · rename_i hz
      cases e1
      have e1' := dr_tup hh r1 ei
      have e2' := dr_tup hh r2 ej
      subst e1'; subst e2'
      obtain ⟨a1, v1, rfl, k1, q1⟩ := hh.tupAt r1 ei
      obtain ⟨a2, v2, rfl, k2, q2⟩ := hh.tupAt r2 ej
      refine ⟨_, op_catA, a1, a2, v1, v2, rfl, rfl, .inl (.inl k1), .inl (.inl k2), by rw [q1.length, q2.length]; exact hz, fun z => ?_, fun z z2 => ?_, fun _ _ => fin_tup (b := b) hh (q1.append q2) e2 c⟩
      · subst z
        cases q1
        exact c.at hh r2 (by simpa [fin] using e2)
      · subst z2
        cases q2
        exact c.at hh r1 (by simpa [fin] using e2)
    · cases e1
  · cases e1
theorem opI_sub {b : Bool} : OpR X (binaryOp .Sub) (rI2 r b dSub) := op_I fun g sl bx σ H x y d e rs QD Q hh r1 r2 e1 e2 c => by
  unfold dSub at e1
  split at e1
  · cases e1
    cases r1; cases r2
    exact ⟨_, op_sub, _, _, rfl, rfl, c.at hh (.int _) e2⟩
  · cases e1
theorem opI_mul {b : Bool} : OpR X (binaryOp .Mult) (rI2 r b dMul) := op_I fun g sl bx σ H x y d e rs QD Q hh r1 r2 e1 e2 c => by
  unfold dMul at e1
  split at e1
  · rename_i i j ei
    split at e1
    · rename_i hz
      cases e1
      have := dr_int hh r1 ei
      cases r2
      rcases hz with hz | hz
      · exact ⟨_, op_mulW, _, _, this, rfl, hz, c.at hh (.int _) e2⟩
      · exact ⟨_, op_mul, _, _, this, rfl, hz, c.at hh (.int _) e2⟩
    · cases e1
  · rename_i i j ei
    split at e1
    · rename_i hz
      cases e1
      obtain ⟨a1, v1, rfl, k1, q1⟩ := hh.lstAt r1 ei
      cases r2
      exact ⟨_, op_rep, a1, _, v1, rfl, rfl, k1, hz.1, hz.2.1, by rw [q1.length]; exact hz.2.2, fin_lst hh (reps_flat q1 _) e2 c⟩
    · cases e1
  · cases e1
theorem opI_mod {b : Bool} : OpR X (binaryOp .Mod) (rI2 r b dMod) := op_I fun g sl bx σ H x y d e rs QD Q hh r1 r2 e1 e2 c => by
  unfold dMod at e1
  split at e1
  · split at e1
    · rename_i hz
      cases e1
      cases r1; cases r2
      exact ⟨_, op_modN, _, _, rfl, rfl, hz, c.at hh (.int _) e2⟩
    · cases e1
  · cases e1
theorem opI_div {b : Bool} : OpR X (binaryOp .FloorDiv) (rI2 r b dDiv) := op_I fun g sl bx σ H x y d e rs QD Q hh r1 r2 e1 e2 c => by
  unfold dDiv at e1
  split at e1
  · split at e1
    · rename_i hz
      cases e1
      cases r1; cases r2
      exact ⟨_, op_fdivN, _, _, rfl, rfl, hz, c.at hh (.int _) e2⟩
    · cases e1
  · cases e1
theorem opI_pow {b : Bool} : OpR X (binaryOp .Pow) (rI2 r b dPow) := op_I fun g sl bx σ H x y d e rs QD Q hh r1 r2 e1 e2 c => by
  unfold dPow at e1
  split at e1
  · split at e1
    · rename_i hz
      cases e1
      cases r1; cases r2
      exact ⟨_, op_pow, _, _, rfl, rfl, hz, c.at hh (.int _) e2⟩
    · cases e1
  · cases e1
theorem opI_lt {b : Bool} : OpR X (compareOp .Lt) (rI2 r b dLt) := op_I fun g sl bx σ H x y d e rs QD Q hh r1 r2 e1 e2 c => by
  unfold dLt at e1
  split at e1
  · cases e1; cases r1; cases r2; exact ⟨_, op_lt, _, _, rfl, rfl, c.at hh (.bl _) e2⟩
  · cases e1; cases r1; cases r2; exact ⟨_, op_lt_str, _, _, rfl, rfl, c.at hh (.bl _) e2⟩
  · cases e1
theorem opI_gt {b : Bool} : OpR X (compareOp .Gt) (rI2 r b dGt) := op_I fun g sl bx σ H x y d e rs QD Q hh r1 r2 e1 e2 c => by
  unfold dGt at e1
  split at e1
  · cases e1; cases r1; cases r2; exact ⟨_, op_gt, _, _, rfl, rfl, c.at hh (.bl _) e2⟩
  · cases e1; cases r1; cases r2; exact ⟨_, op_gt_str, _, _, rfl, rfl, c.at hh (.bl _) e2⟩
  · cases e1
theorem opI_le {b : Bool} : OpR X (compareOp .LtE) (rI2 r b dLe) := op_I fun g sl bx σ H x y d e rs QD Q hh r1 r2 e1 e2 c => by
  unfold dLe at e1
  split at e1
  · cases e1; cases r1; cases r2; exact ⟨_, op_le, _, _, rfl, rfl, c.at hh (.bl _) e2⟩
  · cases e1; cases r1; cases r2; exact ⟨_, op_le_str, _, _, rfl, rfl, c.at hh (.bl _) e2⟩
  · cases e1
theorem opI_ge {b : Bool} : OpR X (compareOp .GtE) (rI2 r b dGe) := op_I fun g sl bx σ H x y d e rs QD Q hh r1 r2 e1 e2 c => by
  unfold dGe at e1
  split at e1
  · cases e1; cases r1; cases r2; exact ⟨_, op_ge, _, _, rfl, rfl, c.at hh (.bl _) e2⟩
  · cases e1; cases r1; cases r2; exact ⟨_, op_ge_str, _, _, rfl, rfl, c.at hh (.bl _) e2⟩
  · cases e1
theorem isNon_of {R : Rt} {g : Gx} {v : V} {d : D} (h : RepG R g v d) : decide (v = .non) = isNon d := by
  cases h <;> simp [isNon]
theorem opI_is {b : Bool} : OpR X (compareOp .Is) (rI2 r b (dIsN false)) := op_I fun g sl bx σ H x y d e rs QD Q hh r1 r2 e1 e2 c => by
  unfold dIsN at e1
  split at e1
  · cases e1; cases r2; exact ⟨_, op_isN, rfl, c.at hh (.bl _) (by rw [isNon_of r1]; simpa [fin] using e2)⟩
  · cases e1
theorem opI_isnot {b : Bool} : OpR X (compareOp .IsNot) (rI2 r b (dIsN true)) := op_I fun g sl bx σ H x y d e rs QD Q hh r1 r2 e1 e2 c => by
  unfold dIsN at e1
  split at e1
  · cases e1; cases r2; exact ⟨_, op_notN, rfl, c.at hh (.bl _) (by rw [isNon_of r1]; simpa [fin] using e2)⟩
  · cases e1
end
end Mi
namespace Mi
open PySem PySem.Spec L2

/-! ### truth -/
def dTru (bx : Bx) (d : D) : Option Bool := match d with
  | .non => some false
  | .bl b => some b
  | .int i => some (i != 0)
  | .str x => if x.length ≤ sizeLine then some ((x.length : Int) != 0) else none
  | .lst ds => some (!ds.isEmpty)
  | .tup ds => some (!ds.isEmpty)
  | .box n => match bx n with
    | some (.lst ds) => some (!ds.isEmpty)
    | _ => none
  | _ => none
def wTru (m : WE) : WT := fun sl bx Q X => m sl bx (fun d bx' => ∃ k, dTru bx' d = some k ∧ Q k bx') X
def wtB (m : WE) : WT := fun sl bx Q X => m sl bx (fun d bx' => ∃ k, d = .bl k ∧ Q k bx') X
def wtNot (m : WT) : WT := fun sl bx Q X => m sl bx (fun k bx' => Q (!k) bx') X
def wtAnd (m n : WT) : WT := fun sl bx Q X => m sl bx (fun k bx' => if k = true then n sl bx' Q X else Q false bx') X
def wtOr (m n : WT) : WT := fun sl bx Q X => m sl bx (fun k bx' => if k = true then Q true bx' else n sl bx' Q X) X
def wNot (m : WE) : WE := fun sl bx Q X => m sl bx (fun d bx' => ∃ k, dTru bx' d = some k ∧ Q (.bl (!k)) bx') X
def wAnd (m n : WE) : WE := fun sl bx Q X => m sl bx (fun d bx' => ∃ k, dTru bx' d = some k ∧ if k = true then n sl bx' Q X else Q d bx') X
def wOr (m n : WE) : WE := fun sl bx Q X => m sl bx (fun d bx' => ∃ k, dTru bx' d = some k ∧ if k = true then Q d bx' else n sl bx' Q X) X
def wIf (t : WT) (a b : WE) : WE := fun sl bx Q X => t sl bx (fun k bx' => if k = true then a sl bx' Q X else b sl bx' Q X) X
def wNeg (m : WE) : WE := fun sl bx Q X => m sl bx (fun d bx' => ∃ i, d = .int i ∧ Q (.int (-i)) bx') X
section
variable {r : Rn} {X : Cx} {W : WXQ}
theorem Reps.isEmpty {R : Rt} {F : Hp} {b : Nat → Option Addr} {vs : List V} {ds : List D} (h : Reps R F b vs ds) : vs.isEmpty = ds.isEmpty := by cases h <;> rfl
theorem tru_of {g : Gx} {sl : Sl} {bx : Bx} {σ : L2.St} {H : Hp} {v : V} {d : D} {k : Bool} (h : Holds r g sl bx σ H) (rv : RepG r.R g v d) (e : dTru bx d = some k) : TruV r.R.K v H k := by
  cases rv with
  | non => simp [dTru] at e; subst e; rfl
  | bl b => simp [dTru] at e; subst e; rfl
  | int i => simp [dTru] at e; subst e; rfl
  | str x => simp [dTru] at e; obtain ⟨e1, rfl⟩ := e; exact ⟨e1, rfl⟩
  | lst h1 h2 => cases (Option.some.inj e); exact .inl ⟨_, SqL.of (h.hb.sub.ls _ _ rfl h1), by rw [h2.isEmpty]⟩
  | tup h1 h2 => cases (Option.some.inj e); exact .inr (.inl ⟨_, .inl (.inl (h.hb.sub.ls _ _ rfl h1)), by rw [h2.isEmpty]⟩)
  | box h1 =>
    simp only [dTru] at e
    split at e
    · rename_i ds e0
      cases e
      obtain ⟨a, k1, k2, vs, q1, q2⟩ := h.hb.bxs _ _ e0
      rw [h1] at k1; cases k1
      exact .inl ⟨_, SqL.of q1, by rw [q2.isEmpty]⟩
    · cases e
  | _ => simp [dTru] at e
theorem tI_tru {m : WE} {σ : L2.St} {H : Hp} {Q : Bool → Hp → Prop} (h : tIT r W (wTru m) σ H Q) : tI r W m σ H fun x H' => ∃ k, TruV r.R.K x H' k ∧ Q k H' := by
  obtain ⟨g, sl, bx, QD, hh, q, c⟩ := h
  refine ⟨g, sl, bx, _, hh, q, fun g1 bx1 H1 v d l h1 rv q1 => ?_⟩
  obtain ⟨k, e, q2⟩ := q1
  exact ⟨k, tru_of h1 rv e, c _ _ _ _ l h1 q2⟩
theorem ptm_tru {e : Expr} {m : WE} (hK : X.K = r.R.K) (h : PEm r X W e m) (he : ∀ whole, isTrue e X.env whole = (do let v ← whole; standAt e.pos; holding [v] (truthy v))) : PTm r X W e (wTru m) :=
  pt_imp (pt_truth h he) fun σ H Q q => by rw [hK]; exact tI_tru q
theorem ptm_cmp {b : Bool} {op : O2} {ma mb : WE} {f : CmpOp} {ea eb : Expr} {pos : Pos} (ho : OpR X (compareOp f) (rI2 r b op)) (ha : PEm r X W ea ma) (hb : PEm r X W eb mb) (hm : behindInMarks f eb = false) :
    PTm r X W (.Compare ea [f] [eb] pos) (wtB (wBin b op ma mb)) := pt_imp (pt_cmpR ho ha hb hm) fun σ H Q h => by
  obtain ⟨g, sl, bx, QD, hh, q, c⟩ := h
  refine tI_bin ⟨g, sl, bx, _, hh, q, fun g1 bx1 H1 v d l h1 rv q1 => ?_⟩
  obtain ⟨k, rfl, q2⟩ := q1
  cases rv
  exact ⟨k, rfl, c _ _ _ _ l h1 q2⟩
theorem ptm_not {e : Expr} {m : WT} {pos : Pos} (h : PTm r X W e m) : PTm r X W (.UnaryOp .Not e pos) (wtNot m) := pt_imp (pt_not h) fun σ H Q q => by
  obtain ⟨g, sl, bx, QD, hh, q, c⟩ := q
  exact ⟨g, sl, bx, _, hh, q, fun g1 bx1 H1 k l h1 q1 => c _ _ _ _ l h1 q1⟩
abbrev PWm (r : Rn) (X : Cx) (W : WXQ) (e : Expr) (m : WT) : Prop := PW X e (tIT r W m)
theorem pw_imp {X : Cx} {e : Expr} {t t' : TT} (h : PW X e t) (i : ∀ σ H Q, t' σ H Q → t σ H Q) : PW X e t' := ⟨fun wh pins s σ H Q I q => h.run wh pins s σ H Q I (i σ H Q q)⟩
theorem pwm_and1 {e : Expr} {m : WT} {pos : Pos} (h : PTm r X W e m) : PWm r X W (.BoolOp .And [e] pos) m := pw_and1 h
theorem pwm_or1 {e : Expr} {m : WT} {pos : Pos} (h : PTm r X W e m) : PWm r X W (.BoolOp .Or [e] pos) m := pw_or1 h
theorem pwm_and {e e' : Expr} {rest : List Expr} {m n : WT} {pos : Pos} (h : PTm r X W e m) (h' : PWm r X W (.BoolOp .And (e' :: rest) pos) n) : PWm r X W (.BoolOp .And (e :: e' :: rest) pos) (wtAnd m n) := pw_imp (pw_and h h') fun σ H Q q => by
  obtain ⟨g, sl, bx, QD, hh, q, c⟩ := q
  refine ⟨g, sl, bx, _, hh, q, fun g1 bx1 H1 k l h1 q1 => ?_⟩
  cases k with
  | true => exact ⟨g1, sl, bx1, _, h1, by simpa using q1, fun g2 bx2 H2 k2 l2 => c g2 bx2 H2 k2 (l.trans l2)⟩
  | false => exact c _ _ _ _ l h1 (by simpa using q1)
theorem pwm_or {e e' : Expr} {rest : List Expr} {m n : WT} {pos : Pos} (h : PTm r X W e m) (h' : PWm r X W (.BoolOp .Or (e' :: rest) pos) n) : PWm r X W (.BoolOp .Or (e :: e' :: rest) pos) (wtOr m n) := pw_imp (pw_or h h') fun σ H Q q => by
  obtain ⟨g, sl, bx, QD, hh, q, c⟩ := q
  refine ⟨g, sl, bx, _, hh, q, fun g1 bx1 H1 k l h1 q1 => ?_⟩
  cases k with
  | false => exact ⟨g1, sl, bx1, _, h1, by simpa using q1, fun g2 bx2 H2 k2 l2 => c g2 bx2 H2 k2 (l.trans l2)⟩
  | true => exact c _ _ _ _ l h1 (by simpa using q1)
theorem pem_not {e : Expr} {m : WE} {pos : Pos} (hK : X.K = r.R.K) (h : PEm r X W e m) : PEm r X W (.UnaryOp .Not e pos) (wNot m) := pe_imp (pe_notT h) fun σ H Q q => by
  obtain ⟨g, sl, bx, QD, hh, q, c⟩ := q
  refine ⟨g, sl, bx, _, hh, q, fun g1 bx1 H1 v d l h1 rv q1 => ?_⟩
  obtain ⟨k, e, q2⟩ := q1
  exact ⟨k, by rw [hK]; exact tru_of h1 rv e, c _ _ _ _ _ l h1 (.bl _) q2⟩
theorem pem_one {e : Expr} {m : WE} {op} {pos : Pos} (h : PEm r X W e m) : PEm r X W (.BoolOp op [e] pos) m := pe_one h
theorem pem_and {e e' : Expr} {rest : List Expr} {m n : WE} {pos : Pos} (hK : X.K = r.R.K) (h : PEm r X W e m) (h' : PEm r X W (.BoolOp .And (e' :: rest) pos) n) : PEm r X W (.BoolOp .And (e :: e' :: rest) pos) (wAnd m n) := pe_imp (pe_andT h h') fun σ H Q q => by
  obtain ⟨g, sl, bx, QD, hh, q, c⟩ := q
  refine ⟨g, sl, bx, _, hh, q, fun g1 bx1 H1 v d l h1 rv q1 => ?_⟩
  obtain ⟨k, e, q2⟩ := q1
  refine ⟨k, by rw [hK]; exact tru_of h1 rv e, ?_⟩
  cases k with
  | true => rw [if_pos rfl] at q2 ⊢; exact ⟨g1, sl, bx1, _, h1, q2, c.le l⟩
  | false => rw [if_neg Bool.false_ne_true] at q2 ⊢; exact c _ _ _ _ _ l h1 rv q2
theorem pem_or {e e' : Expr} {rest : List Expr} {m n : WE} {pos : Pos} (hK : X.K = r.R.K) (h : PEm r X W e m) (h' : PEm r X W (.BoolOp .Or (e' :: rest) pos) n) : PEm r X W (.BoolOp .Or (e :: e' :: rest) pos) (wOr m n) := pe_imp (pe_orT h h') fun σ H Q q => by
  obtain ⟨g, sl, bx, QD, hh, q, c⟩ := q
  refine ⟨g, sl, bx, _, hh, q, fun g1 bx1 H1 v d l h1 rv q1 => ?_⟩
  obtain ⟨k, e, q2⟩ := q1
  refine ⟨k, by rw [hK]; exact tru_of h1 rv e, ?_⟩
  cases k with
  | false => rw [if_neg Bool.false_ne_true] at q2 ⊢; exact ⟨g1, sl, bx1, _, h1, q2, c.le l⟩
  | true => rw [if_pos rfl] at q2 ⊢; exact c _ _ _ _ _ l h1 rv q2
theorem pem_if {t a b : Expr} {mt : WT} {ma mb : WE} {pos : Pos} (ht : PTm r X W t mt) (ha : PEm r X W a ma) (hb : PEm r X W b mb) : PEm r X W (.IfExp t a b pos) (wIf mt ma mb) := pe_imp (pe_ifExp ht ha hb) fun σ H Q q => by
  obtain ⟨g, sl, bx, QD, hh, q, c⟩ := q
  refine ⟨g, sl, bx, _, hh, q, fun g1 bx1 H1 k l h1 q1 => ?_⟩
  cases k with
  | true => rw [if_pos rfl] at q1 ⊢; exact ⟨g1, sl, bx1, _, h1, q1, c.le l⟩
  | false => rw [if_neg Bool.false_ne_true] at q1 ⊢; exact ⟨g1, sl, bx1, _, h1, q1, c.le l⟩
theorem pem_neg {e : Expr} {m : WE} {pos : Pos} (h : PEm r X W e m) : PEm r X W (.UnaryOp .USub e pos) (wNeg m) := pe_imp (pe_un un_neg h) fun σ H Q q => by
  obtain ⟨g, sl, bx, QD, hh, q, c⟩ := q
  refine ⟨g, sl, bx, _, hh, q, fun g1 bx1 H1 v d l h1 rv q1 => ?_⟩
  obtain ⟨i, rfl, q2⟩ := q1
  cases rv
  exact ⟨_, rfl, c _ _ _ _ _ l h1 (.int _) q2⟩
end

/-! ### arguments, displays -/
def wNil : WA := fun _ bx Q _ => Q [] bx
def wCons (m : WE) (n : WA) : WA := fun sl bx Q X => m sl bx (fun d bx1 => n sl bx1 (fun ds bx2 => Q (d :: ds) bx2) X) X
def wStuckA : WA := fun _ _ _ _ => False
def wLst (b : Bool) (m : WA) : WE := fun sl bx Q X => m sl bx (fun ds bx' => ds.length ≤ sizeLine ∧ fin b (.new (.lst ds)) bx' Q) X
def wTup (m : WA) : WE := fun sl bx Q X => m sl bx (fun ds bx' => ds.length ≤ sizeLine ∧ Q (.tup ds) bx') X
section
variable {r : Rn} {X : Cx} {W : WXQ}
theorem pam_nil : PAm r X W [] wNil := pa_imp pa_nil fun σ H Q q => by
  obtain ⟨g, sl, bx, QD, hh, q, c⟩ := q
  exact c _ _ _ _ _ (Le.refl _) hh .nil q
theorem pam_cons {e : Expr} {es : List Expr} {m : WE} {n : WA} (h : PEm r X W e m) (h' : PAm r X W es n) (hs : starEach (e :: es) X.env = (false, eval e X.env) :: starEach es X.env) : PAm r X W (e :: es) (wCons m n) :=
  pa_imp (pa_cons h h' hs) fun σ H Q q => by
  obtain ⟨g, sl, bx, QD, hh, q, c⟩ := q
  refine ⟨g, sl, bx, _, hh, q, fun g1 bx1 H1 v d l h1 rv q1 => ?_⟩
  refine ⟨g1, sl, bx1, _, h1, q1, fun g2 bx2 H2 vs ds l2 h2 rs q2 => ?_⟩
  exact c _ _ _ _ _ (l.trans l2) h2 (.cons (l2.rep rv) rs) q2
theorem pam_stuck {es : List Expr} : PAm r X W es wStuckA := ⟨fun _ _ _ _ _ _ _ h => by
  obtain ⟨_, _, _, _, _, z, _⟩ := h
  exact z.elim⟩
theorem pem_lst {b : Bool} {es : List Expr} {m : WA} {pos : Pos} (h : PAm r X W es m) : PEm r X W (.List es pos) (wLst b m) := pe_imp (pe_lst h) fun σ H Q q => by
  obtain ⟨g, sl, bx, QD, hh, q, c⟩ := q
  refine ⟨g, sl, bx, _, hh, q, fun g1 bx1 H1 vs ds l h1 rs q1 => ?_⟩
  exact ⟨by rw [rs.length]; exact q1.1, fin_lst h1 rs q1.2 (c.le l)⟩
theorem pem_tup {es : List Expr} {k : Nat} {m : WA} {pos : Pos} (h : PAm r X W es m) : PEm r X W (.Tuple es k pos) (wTup m) := pe_imp (pe_tup h) fun σ H Q q => by
  obtain ⟨g, sl, bx, QD, hh, q, c⟩ := q
  refine ⟨g, sl, bx, _, hh, q, fun g1 bx1 H1 vs ds l h1 rs q1 => ?_⟩
  exact ⟨by rw [rs.length]; exact q1.1, fin_tup (b := false) h1 rs q1.2 (c.le l)⟩
end

/-! ### subscripts -/
def dIx : O2 := fun bx d e => match dr bx d with
  | some (.lst ds) => match e with
    | .int i => (atI ds i).map .val
    | _ => none
  | some (.tup ds) => match e with
    | .int i => (atI ds i).map .val
    | _ => none
  | some (.str z) => match e with
    | .int i => if z.length ≤ sizeLine then (atI z.cps.toList i).map fun c => .val (.str ⟨#[c]⟩) else none
    | _ => none
  | some (.dic t kvs) => if okKey t e then (lookK t kvs e).map .val else none
  | _ => none
theorem reps_atI {R : Rt} {F : Hp} {b : Nat → Option Addr} {vs : List V} {ds : List D} {i : Int} {d : D} (h : Reps R F b vs ds) (e : atI ds i = some d) : ∃ v, atI vs i = some v ∧ Rep R F b v d := by
  unfold atI at e ⊢
  rw [h.length]
  cases q : ixN ds.length i with
  | none => rw [q] at e; cases e
  | some j =>
    rw [q] at e
    exact h.get e
section
variable {r : Rn} {X : Cx} {W : WXQ}
open PyProof.Rows hiding St in
theorem ix_dict (hu : X.A.units + 1 < cLine) : IxR X (fun x y H Q => ∃ a v, x = .ref a ∧ DGet H a y (some v) ∧ Q v H) := by
  intro value slice pins s σ H x y v u Q I rx ry h hs
  obtain ⟨a, z, rfl, g, q⟩ := h
  obtain rfl : v = Value.ref a := rx
  have hT := dict_typeIs I g
  unfold subscriptTail
  refine wpAny_bind ?_
  rw [getitemInPython_of_ne hT.not_modules]
  refine wpAny_bind (wpAny_specialOf hT PySem.F.slot_dict_getitem.lookup ?_)
  have fin : wpAny (model X.prog X.w) X.A (subscripted slice false (.ref a) u) (fun r s₃ => wpAny (model X.prog X.w) X.A (letTemporaryGo value (.ref a) r >>= fun _ => pure r) (EP X pins σ Q) X.xe s₃) X.xe s := by
    rw [hs]
    exact wpAny_operating (d_getItem hu I g ry fun w' s3 I3 rw' => wpAny_bind (wpAny_letTemporaryGo (wpAny_pure ⟨z, H, I3, rw', q⟩)))
  first
    | exact wpAny_pure (wpAny_bind fin)
    | exact wpAny_bind (wpAny_pure (wpAny_bind fin))
    | exact wpAny_bind fin
open PyProof.Rows hiding St in
theorem ixI (hK : X.K = r.R.K) (hu : X.A.units + 1 < cLine) : IxR X (rI2 r false dIx) := by
  intro value slice pins s σ H x y v u Q I rx ry h hs
  obtain ⟨g, sl, bx, σ', d, e, rs, QD, hh, r1, r2, e1, e2, c⟩ := h
  unfold dIx at e1
  split at e1
  · rename_i ds ed
    split at e1
    · simp only [Option.map_eq_some_iff] at e1
      obtain ⟨z, ez, rfl⟩ := e1
      obtain ⟨a, vs, rfl, k1, k2⟩ := hh.lstAt r1 ed
      obtain ⟨w', ew, rw'⟩ := reps_atI k2 ez
      cases r2
      exact ix_list value slice pins s σ H _ _ v u Q I rx ry ⟨a, vs, _, w', rfl, rfl, SqL.of k1, ew, c.at hh rw' (by simpa [fin] using e2)⟩ hs
    · cases e1
  · rename_i ds ed
    split at e1
    · simp only [Option.map_eq_some_iff] at e1
      obtain ⟨z, ez, rfl⟩ := e1
      obtain ⟨a, vs, rfl, k1, k2⟩ := hh.tupAt r1 ed
      obtain ⟨w', ew, rw'⟩ := reps_atI k2 ez
      cases r2
      exact ix_tup value slice pins s σ H _ _ v u Q I rx ry ⟨a, vs, _, w', rfl, rfl, .inl (.inl k1), ew, c.at hh rw' (by simpa [fin] using e2)⟩ hs
    · cases e1
  · rename_i z ed
    split at e1
    · split at e1
      · rename_i hz
        simp only [Option.map_eq_some_iff] at e1
        obtain ⟨cc, ez, rfl⟩ := e1
        have := dr_str hh r1 ed
        subst this
        cases r2
        exact ix_str value slice pins s σ H _ _ v u Q I rx ry ⟨z, _, cc, rfl, rfl, hz, ez, c.at hh (.str _) (by simpa [fin] using e2)⟩ hs
      · cases e1
    · cases e1
  · rename_i t kvs ed
    split at e1
    · rename_i ok
      simp only [Option.map_eq_some_iff] at e1
      obtain ⟨z, ez, rfl⟩ := e1
      obtain ⟨a, rfl, hd⟩ := hh.dicAt r1 ed
      obtain ⟨o, k1, k2⟩ := hh.lookAt hd r2 ok
      rw [ez] at k2
      cases o with
      | none => exact k2.elim
      | some w' => exact ix_dict hu value slice pins s σ H _ _ v u Q I rx ry ⟨a, w', rfl, k1, c.at hh k2 (by simpa [fin] using e2)⟩ hs
    · cases e1
  · cases e1
theorem pem_ix {ea eb : Expr} {ma mb : WE} {pos : Pos} (hK : X.K = r.R.K) (hu : X.A.units + 1 < cLine) (ha : PEm r X W ea ma) (hb : PEm r X W eb mb) (hs : PlainIx eb) : PEm r X W (.Subscript ea eb pos) (wBin false dIx ma mb) :=
  pe_imp (pe_ix (ixI hK hu) ha hb hs) fun σ H Q h => tI_bin h
end
end Mi
namespace Mi
open PySem PySem.Spec L2

/-! ### what is walked: the items, known ahead; cond: what must stay so through the walk -/
abbrev WIt := Sl → Bx → (List D → (Bx → Prop) → Bx → Prop) → XQ → Prop
structure Yields (r : Rn) (J : It) (g0 : Gx) (cond : Bx → Prop) (ds : List D) : Prop where
  go : ∀ (i : Nat) g sl bx σ H, Le g0 g → Holds r g sl bx σ H → cond bx → i < ds.length → J.go i H
  yld : ∀ (i : Nat) g sl bx σ H x H', Le g0 g → Holds r g sl bx σ H → cond bx → i < ds.length → J.yld i H x H' → ∃ g' d, ds[i]? = some d ∧ Le g g' ∧ Holds r g' sl bx σ H' ∧ RepG r.R g' x d
  stop : ∀ (i : Nat) g sl bx σ H, Le g0 g → Holds r g sl bx σ H → cond bx → ds.length ≤ i → J.stop i H
def tII (r : Rn) (W : WXQ) (m : WIt) : TI := fun σ H R => ∃ g sl bx QD, Holds r g sl bx σ H ∧ m sl bx QD (fun x b => W x sl b) ∧
  ∀ g' bx' H' J ds cond, Le g g' → Holds r g' sl bx' σ H' → Yields r J g' cond ds → QD ds cond bx' → R J H'
abbrev PIm (r : Rn) (X : Cx) (W : WXQ) (tg e : Expr) (m : WIt) : Prop := PI X tg e (tII r W m)
theorem pi_imp {X : Cx} {tg e : Expr} {t t' : TI} (h : PI X tg e t) (i : ∀ σ H R, t' σ H R → t σ H R) : PI X tg e t' := ⟨fun pins s σ H R I q => h.run pins s σ H R I (i σ H R q)⟩

def always : Bx → Prop := fun _ => True
/-- a value's items -/
def itemsOf (bx : Bx) (d : D) : Option (List D × (Bx → Prop)) := match d with
  | .lst ds => some (ds, always)
  | .rol ds => some (ds, always)
  | .tup ds => some (ds, always)
  | .rot ds => some (ds, always)
  | .str x => some (x.cps.toList.map fun c => .str ⟨#[c]⟩, always)
  | .dic _ kvs => some (kvs.map (·.1), always)
  | .box n => match bx n with
    | some (.lst ds) => some (ds, fun b => b n = some (.lst ds))
    | _ => none
  | _ => none
def wiAny (m : WE) : WIt := fun sl bx Q X => m sl bx (fun d bx' => ∃ p, itemsOf bx' d = some p ∧ Q p.1 p.2 bx') X
section
variable {r : Rn} {X : Cx} {W : WXQ} {tg : Expr}
/-- by the value: a list, a tuple, a text, a dict -/
def rIter (K : PySem.W.Frag) (x : V) (H : Hp) (R : It → Hp → Prop) : Prop :=
  (∃ a xs, x = .ref a ∧ SqL K H a xs ∧ R (Itl K a) H) ∨ (∃ a xs, x = .ref a ∧ SqT K H a xs ∧ R (Itt K a) H) ∨ (∃ z, x = .str z ∧ R (Its z) H) ∨
  (∃ d kvs, x = .ref d ∧ Rd H d (.dK kvs) ∧ ∀ o, (H d = some (.frz o (.dK kvs)) → R (Itk d o kvs) H) ∧ (H d = some (.dK kvs) → R (Itk d o kvs) (upd H d (.frz o (.dK kvs))))) ∨
  (∃ d kvs, x = .ref d ∧ Rd H d (.dT kvs) ∧ ∀ o, (H d = some (.frz o (.dT kvs)) → R (Itkt d o kvs) H) ∧ (H d = some (.dT kvs) → R (Itkt d o kvs) (upd H d (.frz o (.dT kvs)))))
theorem iter_any {E : Value → Shared → Prop} {pins : List (Addr × Obj)} {σ : L2.St} {H : Hp} {s : Shared} {R : It → Hp → Prop} {x : V} {v : Value} (I : Inv X pins σ H s) (rx : RelV x v) (h : rIter X.K x H R) :
    wpAny (model X.prog X.w) X.A (pyIter v) (PIE X pins σ tg R) E s := by
  rcases h with ⟨a, xs, rfl, hq, q⟩ | ⟨a, xs, rfl, hq, q⟩ | ⟨z, rfl, q⟩ | ⟨d, kvs, rfl, hd, q⟩ | ⟨d, kvs, rfl, hd, q⟩
  · cases rx
    obtain ⟨its, rv, p, hz⟩ := I.list hq
    refine wpAny_pyIter_list p.isList ?_
    refine ⟨s.heap.objs.size, [s.heap.objs.size], _, _, H, rfl, I.kept (t' := s.toks) fun b o e => Heap.get?_push_of_some _ e, turn_list a _, ⟨_, Heap.get?_push_size _ rfl, rfl, rfl⟩, fun b hb => ?_, q⟩
    have e : b = s.heap.objs.size := by simpa using hb
    subst e
    exact I.fpOk (Nat.le_refl _) (I.hok.fresh (Nat.le_refl _))
  · cases rx
    obtain ⟨its, rv, p, hz⟩ := I.tuple hq
    refine wpAny_pyIter_tuple (show s.heap.IsTuple a its.toArray from p) ?_
    refine ⟨s.heap.objs.size, [s.heap.objs.size], _, _, H, rfl, I.kept (t' := s.toks) fun b o e => Heap.get?_push_of_some _ e, turn_tuple a _, ⟨_, Heap.get?_push_size _ rfl, rfl, rfl⟩, fun b hb => ?_, q⟩
    have e : b = s.heap.objs.size := by simpa using hb
    subst e
    exact I.fpOk (Nat.le_refl _) (I.hok.fresh (Nat.le_refl _))
  · obtain ⟨t, rfl⟩ := rx
    cases ha : z.cps.all (· < 128)
    · exact wpAny_pyIter_wide ha (pi_one (tk := s.toks) I _ (turn_str _ z t "str_iterator" (.inr rfl)) ⟨_, Heap.get?_push_size _ rfl, rfl, rfl⟩ q)
    · exact wpAny_pyIter_ascii ha (pi_one (tk := s.toks) I _ (turn_str _ z t "str_ascii_iterator" (.inl rfl)) ⟨_, Heap.get?_push_size _ rfl, rfl, rfl⟩ q)
  · obtain rfl : v = Value.ref d := rx
    rcases hd with hd | ⟨o, hd⟩
    · obtain ⟨o, I'⟩ := I.lock hd True.intro
      have hd' : upd H d (.frz o (.dK kvs)) d = some (.frz o (.dK kvs)) := upd_same
      obtain ⟨hs, hgd, hx, es, ep, vs, hdt, hsz, kv, hm⟩ := I'.frzK hd'
      refine iter_keys hs hgd hx hdt (pi_one (tk := s.toks) I' _ (turn_keys _ hdt) ⟨_, Heap.get?_push_size _ rfl, rfl, ?_⟩ ((q o).2 hd))
      rw [hsz] <;> rfl
    · obtain ⟨hs, hgd, hx, es, ep, vs, hdt, hsz, kv, hm⟩ := I.frzK hd
      refine iter_keys hs hgd hx hdt (pi_one (tk := s.toks) I _ (turn_keys _ hdt) ⟨_, Heap.get?_push_size _ rfl, rfl, ?_⟩ ((q o).1 hd))
      rw [hsz] <;> rfl
  · obtain rfl : v = Value.ref d := rx
    rcases hd with hd | ⟨o, hd⟩
    · obtain ⟨o, I'⟩ := I.lock hd True.intro
      have hd' : upd H d (.frz o (.dT kvs)) d = some (.frz o (.dT kvs)) := upd_same
      obtain ⟨hs, hgd, hx, es, ep, hdt, hsz, ent⟩ := I'.frzT hd'
      refine iter_keys hs hgd hx hdt (pi_one (tk := s.toks) I' _ (turn_keysT _ hdt) ⟨_, Heap.get?_push_size _ rfl, rfl, ?_⟩ ((q o).2 hd))
      rw [hsz] <;> rfl
    · obtain ⟨hs, hgd, hx, es, ep, hdt, hsz, ent⟩ := I.frzT hd
      refine iter_keys hs hgd hx hdt (pi_one (tk := s.toks) I _ (turn_keysT _ hdt) ⟨_, Heap.get?_push_size _ rfl, rfl, ?_⟩ ((q o).1 hd))
      rw [hsz] <;> rfl
theorem pi_any {e : Expr} {te : TE} (he : PE X e te) : PI X tg e (fun σ H R => te σ H fun x H1 => rIter X.K x H1 R) :=
  ⟨fun pins s σ H R I h => thn (he.run pins s σ H _ I h) fun v s1 ⟨x, H1, I1, r1, q1⟩ => iter_any I1 r1 q1⟩

theorem get_of_reps {R : Rt} {F : Hp} {b : Nat → Option Addr} {vs : List V} {ds : List D} (h : Reps R F b vs ds) {i : Nat} {v : V} (e : vs[i]? = some v) : ∃ d, ds[i]? = some d ∧ Rep R F b v d := by
  induction h using Reps.rec (motive_1 := fun _ _ _ => True) generalizing i with
  | nil => simp at e
  | cons h t _ ih =>
    cases i with
    | zero => simp at e; subst e; exact ⟨_, rfl, h⟩
    | succ j => simpa using ih (by simpa using e)
  | _ => trivial
theorem sqL_fun {K : PySem.W.Frag} {H : Hp} {a : Addr} {xs : List V} (h : H a = some (.lst xs)) (hK : K.lookup a = none) {ys : List V} (h' : SqL K H a ys) : ys = xs := by
  rcases h' with (h' | ⟨o, h'⟩) | ⟨o, its, n, hk, _⟩
  · rw [h] at h'; cases h'; rfl
  · rw [h] at h'; cases h'
  · rw [hK] at hk; cases hk
/-- a dict is locked for good -/
theorem Holds.lock {g : Gx} {sl : Sl} {bx : Bx} {σ : L2.St} {H : Hp} {d : Addr} {u : HO} {o : Obj} (h : Holds r g sl bx σ H) (hd : H d = some u) (hu : isDic u = true) (hF : Rd g.F d u) :
    Le g (g.add d (.frz o u)) ∧ Holds r (g.add d (.frz o u)) sl bx σ (upd H d (.frz o u)) := by
  have fF : g.F d = some u := by
    rcases hF with q | ⟨x, q⟩
    · exact q
    · have k := h.hb.sub.ls d _ rfl q
      rw [hd] at k; cases k <;> cases hu
  have le : Le g (g.add d (.frz o u)) := by
    refine ⟨⟨fun a q => ?_, fun a w i q => ?_, fun a w i q => ?_, fun a ps q => ?_⟩, SubB.refl _⟩
    · show upd g.F d _ a ≠ none
      by_cases ea : a = d
      · rw [ea, upd_same]; simp
      · rw [upd_ne ea]; exact q
    · by_cases ea : a = d
      · subst ea
        rcases q with q | ⟨x, q⟩
        · rw [fF] at q; cases q; exact .inr ⟨o, upd_same⟩
        · rw [fF] at q; cases q; cases hu
      · rcases q with q | ⟨x, q⟩
        · exact .inl ((upd_ne ea).trans q)
        · exact .inr ⟨x, (upd_ne ea).trans q⟩
    · have ea : a ≠ d := by
        rintro rfl
        rw [fF] at q; cases q
        cases u <;> simp_all [isSeq, isDic]
      exact (upd_ne ea).trans q
    · have ea : a ≠ d := by
        rintro rfl
        rw [fF] at q; cases q; cases hu
      exact ⟨#[], by show upd g.F d _ a = _; rw [upd_ne ea, q]; simp⟩
  refine ⟨le, ⟨⟨⟨fun a q => ?_, fun a w i q => ?_, fun a w i q => ?_, fun a ps q => ?_⟩, fun n c e => ?_, h.hb.inj, h.hb.top, dx_both h.hb.dx⟩, ⟨h.kp.gs.trans le.F, fun a w e => ?_, h.kp.sb⟩, h.ss.mono le, h.len⟩⟩
  · have q' : upd g.F d (.frz o u) a ≠ none := q
    by_cases ea : a = d
    · rw [ea, upd_same]; simp
    · rw [upd_ne ea] at q'; rw [upd_ne ea]; exact h.hb.sub.dm a q'
  · have q' : Rd (upd g.F d (.frz o u)) a w := q
    by_cases ea : a = d
    · subst ea
      rcases q' with q' | ⟨x, q'⟩
      · rw [upd_same] at q'; cases q'; exact .inl upd_same
      · rw [upd_same] at q'; cases q'; exact .inr ⟨o, upd_same⟩
    · have k : Rd g.F a w := by
        rcases q' with q' | ⟨x, q'⟩
        · exact .inl ((upd_ne ea).symm.trans q')
        · exact .inr ⟨x, (upd_ne ea).symm.trans q'⟩
      rcases h.hb.sub.rd a w i k with k | ⟨x, k⟩
      · exact .inl ((upd_ne ea).trans k)
      · exact .inr ⟨x, (upd_ne ea).trans k⟩
  · have q' : upd g.F d (.frz o u) a = some w := q
    by_cases ea : a = d
    · subst ea; rw [upd_same] at q'; rw [upd_same]; exact q'
    · rw [upd_ne ea] at q'; rw [upd_ne ea]; exact h.hb.sub.ls a w i q'
  · have q' : upd g.F d (.frz o u) a = some (.tbl ps) := q
    by_cases ea : a = d
    · subst ea; rw [upd_same] at q'; cases q'
    · rw [upd_ne ea] at q'; rw [upd_ne ea]; exact h.hb.sub.tb a ps q'
  · obtain ⟨a, k1, k2, k3⟩ := h.hb.bxs n c e
    have ea : a ≠ d := by
      rintro rfl
      exact rd_none k2 _ hF
    exact ⟨a, k1, (upd_ne ea).trans k2, k3.mono le.F le.b (upd_ne ea)⟩
  · by_cases ea : a = d
    · subst ea
      have k := h.kp.keep a w e
      rw [hd] at k
      exact KeepO.trans k (.inr (.inl ⟨hu, o, upd_same⟩))
    · rw [upd_ne ea]; exact h.kp.keep a w e
theorem yields_lst {g0 : Gx} {cond : Bx → Prop} {a : Addr} {ds : List D} (hs : ∀ g sl bx σ H, Le g0 g → Holds r g sl bx σ H → cond bx → ∃ vs, RepsG r.R g vs ds ∧ SqL r.R.K H a vs) : Yields r (Itl r.R.K a) g0 cond ds where
  go := fun i g sl bx σ H l h c hi => by
    obtain ⟨vs, r1, r2⟩ := hs g sl bx σ H l h c
    exact ⟨vs, _, r2, List.getElem?_eq_getElem (by rw [r1.length]; exact hi)⟩
  yld := fun i g sl bx σ H x H' l h c _ q => by
    obtain ⟨vs, r1, r2⟩ := hs g sl bx σ H l h c
    obtain ⟨e, e2⟩ := q
    subst e
    obtain ⟨d, e3, rd⟩ := get_of_reps r1 (e2 vs r2)
    exact ⟨g, d, e3, Le.refl _, h, rd⟩
  stop := fun i g sl bx σ H l h c hi => by
    obtain ⟨vs, r1, r2⟩ := hs g sl bx σ H l h c
    exact ⟨vs, r2, by rw [r1.length]; exact hi⟩
theorem yields_tup {g0 : Gx} {cond : Bx → Prop} {a : Addr} {ds : List D} (hs : ∀ g sl bx σ H, Le g0 g → Holds r g sl bx σ H → cond bx → ∃ vs, RepsG r.R g vs ds ∧ SqT r.R.K H a vs) : Yields r (Itt r.R.K a) g0 cond ds where
  go := fun i g sl bx σ H l h c hi => by
    obtain ⟨vs, r1, r2⟩ := hs g sl bx σ H l h c
    exact ⟨vs, _, r2, List.getElem?_eq_getElem (by rw [r1.length]; exact hi)⟩
  yld := fun i g sl bx σ H x H' l h c _ q => by
    obtain ⟨vs, r1, r2⟩ := hs g sl bx σ H l h c
    obtain ⟨e, e2⟩ := q
    subst e
    obtain ⟨d, e3, rd⟩ := get_of_reps r1 (e2 vs r2)
    exact ⟨g, d, e3, Le.refl _, h, rd⟩
  stop := fun i g sl bx σ H l h c hi => by
    obtain ⟨vs, r1, r2⟩ := hs g sl bx σ H l h c
    exact ⟨vs, r2, by rw [r1.length]; exact hi⟩
theorem reps_keysD {R : Rt} {F : Hp} {b : Nat → Option Addr} : ∀ ks : List L2.Key, Reps R F b (ks.map kV) (ks.map keyD)
  | [] => .nil
  | .inl i :: ks => .cons (.int i) (reps_keysD ks)
  | .inr x :: ks => .cons (.str x) (reps_keysD ks)
theorem rep_kV {R : Rt} {F : Hp} {b : Nat → Option Addr} (k : L2.Key) : Rep R F b (kV k) (keyD k) := by
  cases k with
  | inl i => exact .int i
  | inr x => exact .str x
theorem zip_fst {α β : Type} : ∀ {l : List α} {m : List β}, l.length = m.length → (l.zip m).map (·.1) = l
  | [], _, _ => rfl
  | a :: l, [], h => by cases h
  | a :: l, b :: m, h => by rw [List.zip_cons_cons, List.map_cons, zip_fst (by simpa using h)]
theorem yields_dK {g0 : Gx} {a : Addr} {o : Obj} {kv : List (L2.Key × V)} {ds : List D} (hz : kv.length = ds.length) (hf : g0.F a = some (.frz o (.dK kv))) : Yields r (Itk a o kv) g0 always (((kv.map fun p => keyD p.1).zip ds).map (·.1)) := by
  have hF : ∀ g sl bx σ H, Le g0 g → Holds r g sl bx σ H → H a = some (.frz o (.dK kv)) := fun g sl bx σ H l h => h.hb.sub.ls _ _ rfl (l.F.ls _ _ rfl hf)
  rw [zip_fst (by simpa using hz)]
  refine ⟨fun i g' sl' bx' σ' H' l hh _ hi => ⟨hF _ _ _ _ _ l hh, by simpa using hi⟩, fun i g' sl' bx' σ' H' y H2 l hh _ _ q => ?_, fun i g' sl' bx' σ' H' l hh _ hi => ⟨hF _ _ _ _ _ l hh, by simpa using hi⟩⟩
  obtain ⟨e1, kk, vv, e2, e3⟩ := q
  subst e1; subst e3
  exact ⟨g', keyD kk, by rw [List.getElem?_map, e2]; rfl, Le.refl _, hh, rep_kV kk⟩
/-- a tuple that stands joins the frozen part -/
theorem Holds.adopt {g : Gx} {sl : Sl} {bx : Bx} {σ : L2.St} {H : Hp} {t : Addr} {vs : List V} (h : Holds r g sl bx σ H) (ht : H t = some (.tup vs)) : ∃ g', Le g g' ∧ Holds r g' sl bx σ H ∧ g'.F t = some (.tup vs) := by
  cases e : g.F t with
  | some u =>
    refine ⟨g, Le.refl _, h, ?_⟩
    by_cases iu : isSeq u = true
    · have q := h.hb.sub.ls t u iu e
      rw [ht] at q; cases q; exact e
    · by_cases id : isDic u = true
      · have q := h.hb.dx t u id e
        rw [ht] at q; cases q; cases id
      · cases u <;> first | (exact absurd rfl iu) | (exact absurd rfl id) | skip
        obtain ⟨_, q⟩ := h.hb.sub.tb _ _ e
        rw [ht] at q; cases q
  | none =>
    have le := Gx.le_add (o := .tup vs) e
    have eu : upd H t (.tup vs) = H := by
      funext b
      by_cases hb : b = t
      · rw [hb, upd_same, ht]
      · rw [upd_ne hb]
    refine ⟨g.add t (.tup vs), le, ⟨⟨?_, fun n c en => ?_, h.hb.inj, h.hb.top, ?_⟩, ⟨h.kp.gs.trans le.F, h.kp.keep, h.kp.sb⟩, h.ss.mono le, h.len⟩, upd_same⟩
    · have q := subH_both (p := t) (o := .tup vs) h.hb.sub e
      rw [eu] at q; exact q
    · obtain ⟨a, k1, k2, k3⟩ := h.hb.bxs n c en
      have ea : a ≠ t := by
        rintro rfl
        obtain ⟨o, ho, mu⟩ := k3.isSome
        rw [ht] at ho; cases ho
        exact mu.elim
      exact ⟨a, k1, (upd_ne ea).trans k2, k3.mono le.F le.b rfl⟩
    · have q := dx_both (p := t) (o := .tup vs) h.hb.dx
      rw [eu] at q; exact q
theorem yields_dT {g0 : Gx} {a : Addr} {o : Obj} {kv : List (List L2.Key × V)} {ds : List D} (hz : kv.length = ds.length) (hf : g0.F a = some (.frz o (.dT kv))) : Yields r (Itkt a o kv) g0 always (((kv.map fun p => keysD p.1).zip ds).map (·.1)) := by
  have hF : ∀ g sl bx σ H, Le g0 g → Holds r g sl bx σ H → H a = some (.frz o (.dT kv)) := fun g sl bx σ H l h => h.hb.sub.ls _ _ rfl (l.F.ls _ _ rfl hf)
  rw [zip_fst (by simpa using hz)]
  refine ⟨fun i g' sl' bx' σ' H' l hh _ hi => ⟨hF _ _ _ _ _ l hh, by simpa using hi⟩, fun i g' sl' bx' σ' H' y H2 l hh _ _ q => ?_, fun i g' sl' bx' σ' H' l hh _ hi => ⟨hF _ _ _ _ _ l hh, by simpa using hi⟩⟩
  obtain ⟨e1, kk, vv, t, e2, e3, e4⟩ := q
  subst e1; subst e3
  obtain ⟨g2, l2, h2, f2⟩ := hh.adopt e4
  exact ⟨g2, keysD kk, by rw [List.getElem?_map, e2]; rfl, l2, h2, .tup f2 (reps_keysD kk)⟩
/-- the walk of a value's items -/
theorem rIter_of {g : Gx} {sl : Sl} {bx : Bx} {σ : L2.St} {H : Hp} {x : V} {d : D} {p : List D × (Bx → Prop)} {R : It → Hp → Prop} (hK : X.K = r.R.K) (h : Holds r g sl bx σ H) (rv : RepG r.R g x d) (e : itemsOf bx d = some p)
    (k : ∀ g' H' J, Le g g' → Holds r g' sl bx σ H' → Yields r J g' p.2 p.1 → R J H') : rIter X.K x H R := by
  rw [hK]
  cases rv with
  | @lst a vs ds h1 h2 =>
    cases (Option.some.inj e)
    exact .inl ⟨a, vs, rfl, SqL.of (h.hb.sub.ls _ _ rfl h1), k g H _ (Le.refl _) h (yields_lst fun g' sl' bx' σ' H' l hh _ => ⟨vs, l.reps h2, SqL.of (hh.hb.sub.ls _ _ rfl (l.F.ls _ _ rfl h1))⟩)⟩
  | @rol a vs ds h1 h2 =>
    cases (Option.some.inj e)
    exact .inl ⟨a, vs, rfl, h.hb.sub.sqL h1, k g H _ (Le.refl _) h (yields_lst fun g' sl' bx' σ' H' l hh _ => ⟨vs, l.reps h2, hh.hb.sub.sqL (l.F.sqL h1)⟩)⟩
  | @tup a vs ds h1 h2 =>
    cases (Option.some.inj e)
    exact .inr (.inl ⟨a, vs, rfl, .inl (.inl (h.hb.sub.ls _ _ rfl h1)), k g H _ (Le.refl _) h (yields_tup fun g' sl' bx' σ' H' l hh _ => ⟨vs, l.reps h2, .inl (.inl (hh.hb.sub.ls _ _ rfl (l.F.ls _ _ rfl h1)))⟩)⟩)
  | @rot a vs ds h1 h2 =>
    cases (Option.some.inj e)
    exact .inr (.inl ⟨a, vs, rfl, h.hb.sub.sqT h1, k g H _ (Le.refl _) h (yields_tup fun g' sl' bx' σ' H' l hh _ => ⟨vs, l.reps h2, hh.hb.sub.sqT (l.F.sqT h1)⟩)⟩)
  | str z =>
    cases (Option.some.inj e)
    refine .inr (.inr (.inl ⟨z, rfl, k g H _ (Le.refl _) h ⟨fun i g' sl' bx' σ' H' l hh _ hi => ?_, fun i g' sl' bx' σ' H' y H2 l hh _ _ q => ?_, fun i g' sl' bx' σ' H' l hh _ hi => ?_⟩⟩))
    · show i < z.cps.size
      simpa using hi
    · obtain ⟨e1, c, e2, e3⟩ := q
      subst e1; subst e3
      refine ⟨g', .str ⟨#[c]⟩, ?_, Le.refl _, hh, .str _⟩
      show (z.cps.toList.map fun c => D.str ⟨#[c]⟩)[i]? = _
      rw [List.getElem?_map, Array.getElem?_toList, e2]; rfl
    · show z.cps.size ≤ i
      simpa using hi
  | @dicK a kv ds h1 h2 =>
    cases (Option.some.inj e)
    have hz : kv.length = ds.length := by rw [← h2.length, List.length_map]
    refine .inr (.inr (.inr (.inl ⟨a, kv, rfl, h.hb.sub.rd _ _ rfl h1, fun o => ⟨fun he => ?_, fun he => ?_⟩⟩)))
    · rcases h1 with h1 | ⟨o', h1⟩
      · have q := h.hb.dx a _ rfl h1
        rw [he] at q; cases q
      · have q := h.hb.sub.ls a _ rfl h1
        rw [he] at q; cases q
        exact k g H _ (Le.refl _) h (yields_dK hz h1)
    · obtain ⟨le, hh⟩ := Holds.lock (o := o) h he rfl h1
      exact k _ _ _ le hh (yields_dK hz upd_same)
  | @dicT a kv ds h1 h2 =>
    cases (Option.some.inj e)
    have hz : kv.length = ds.length := by rw [← h2.length, List.length_map]
    refine .inr (.inr (.inr (.inr ⟨a, kv, rfl, h.hb.sub.rd _ _ rfl h1, fun o => ⟨fun he => ?_, fun he => ?_⟩⟩)))
    · rcases h1 with h1 | ⟨o', h1⟩
      · have q := h.hb.dx a _ rfl h1
        rw [he] at q; cases q
      · have q := h.hb.sub.ls a _ rfl h1
        rw [he] at q; cases q
        exact k g H _ (Le.refl _) h (yields_dT hz h1)
    · obtain ⟨le, hh⟩ := Holds.lock (o := o) h he rfl h1
      exact k _ _ _ le hh (yields_dT hz upd_same)
  | @box a n h1 =>
    simp only [itemsOf] at e
    split at e
    · rename_i ds e0
      cases e
      obtain ⟨a', k1, k2, vs, q1, q2⟩ := h.hb.bxs _ _ e0
      rw [h1] at k1; cases k1
      refine .inl ⟨a, vs, rfl, SqL.of q1, k g H _ (Le.refl _) h (yields_lst fun g' sl' bx' σ' H' l hh c => ?_)⟩
      have c' : bx' n = some (.lst ds) := c
      obtain ⟨a2, j1, j2, vs2, i1, i2⟩ := hh.hb.bxs _ _ c'
      rw [l.b _ _ h1] at j1; cases j1
      exact ⟨vs2, i2, SqL.of i1⟩
    · cases e
  | _ => cases e
theorem pim_any {e : Expr} {m : WE} (hK : X.K = r.R.K) (h : PEm r X W e m) : PIm r X W tg e (wiAny m) := pi_imp (pi_any h) fun σ H R q => by
  obtain ⟨g, sl, bx, QD, hh, q, c⟩ := q
  refine ⟨g, sl, bx, _, hh, q, fun g1 bx1 H1 x d l h1 rv q1 => ?_⟩
  obtain ⟨p, e, q2⟩ := q1
  exact rIter_of hK h1 rv e fun g' H' J l' hh' ys => c g' bx1 H' J p.1 p.2 (l.trans l') hh' ys q2
end

/-! ### targets -/
abbrev WG := D → WXQ → Sl → Bx → (Sl → Bx → Prop) → Prop
abbrev WGs := List D → WXQ → Sl → Bx → (Sl → Bx → Prop) → Prop
def ContG (r : Rn) (g : Gx) (QD : Sl → Bx → Prop) (Q : L2.St → Hp → Prop) : Prop := ∀ g' sl' bx' σ' H', Le g g' → Holds r g' sl' bx' σ' H' → QD sl' bx' → Q σ' H'
def tIG (r : Rn) (W : WXQ) (m : WG) : TG := fun v σ H Q => ∃ g sl bx d QD, Holds r g sl bx σ H ∧ RepG r.R g v d ∧ m d W sl bx QD ∧ ContG r g QD Q
def tIGs (r : Rn) (W : WXQ) (m : WGs) : TGs := fun vs σ H Q => ∃ g sl bx ds QD, Holds r g sl bx σ H ∧ RepsG r.R g vs ds ∧ m ds W sl bx QD ∧ ContG r g QD Q
abbrev PGm (r : Rn) (X : Cx) (W : WXQ) (e : Expr) (m : WG) : Prop := PG X e (tIG r W m)
abbrev PGsm (r : Rn) (X : Cx) (W : WXQ) (e : List Expr) (m : WGs) : Prop := PGs X e (tIGs r W m)
theorem pg_imp {X : Cx} {e : Expr} {t t' : TG} (h : PG X e t) (i : ∀ v σ H Q, t' v σ H Q → t v σ H Q) : PG X e t' := ⟨fun pins s σ H v u Q I rv q => h.run pins s σ H v u Q I rv (i v σ H Q q)⟩
theorem pgs_imp {X : Cx} {e : List Expr} {t t' : TGs} (h : PGs X e t) (i : ∀ v σ H Q, t' v σ H Q → t v σ H Q) : PGs X e t' := ⟨fun pins s σ H v u Q I rv q => h.run pins s σ H v u Q I rv (i v σ H Q q)⟩
def wgName (i : Nat) : WG := fun d _ sl bx Q => Q (sl.set i (some d)) bx
def wgNil : WGs := fun ds _ sl bx Q => ds = [] ∧ Q sl bx
def wgCons (m : WG) (n : WGs) : WGs := fun ds W sl bx Q => ∃ d es, ds = d :: es ∧ m d W sl bx fun sl' bx' => n es W sl' bx' Q
/-- a tuple (or a list) of that length is unpacked -/
def wgTup (k : Nat) (n : WGs) : WG := fun d W sl bx Q => ∃ ds, (d = .tup ds ∨ d = .rot ds ∨ dr bx d = some (.lst ds)) ∧ ds.length = k ∧ n ds W sl bx Q
section
variable {r : Rn} {X : Cx} {W : WXQ}
theorem pgm_name {i : Nat} {x : Str} {pos : Pos} (hN : X.N.Nodup) (hi : X.N[i]? = some x) (hx : Loc X.env.scope x) (hf : X.fn x = true ∨ X.env.scope.names.lookup x = some .local) : PGm r X W (.Name x pos) (wgName i) :=
  pg_imp (pg_name hN hi hx hf) fun v σ H Q q => by
  obtain ⟨g, sl, bx, d, QD, hh, rv, q, c⟩ := q
  exact c _ _ _ _ _ (Le.refl _) (hh.set rv) q
theorem pgsm_nil : PGsm r X W [] wgNil := pgs_imp pgs_nil fun v σ H Q q => by
  obtain ⟨g, sl, bx, d, QD, hh, rv, ⟨rfl, q⟩, c⟩ := q
  cases rv
  exact ⟨rfl, c _ _ _ _ _ (Le.refl _) hh q⟩
theorem pgsm_cons {e : Expr} {es : List Expr} {m : WG} {n : WGs} (h1 : PGm r X W e m) (h2 : PGsm r X W es n) (hs : (assignEach (e :: es) X.env).map (·.2) = assign e X.env :: (assignEach es X.env).map (·.2)) : PGsm r X W (e :: es) (wgCons m n) :=
  pgs_imp (pgs_cons h1 h2 hs) fun v σ H Q q => by
  obtain ⟨g, sl, bx, d, QD, hh, rv, ⟨d1, ds, rfl, q⟩, c⟩ := q
  cases rv with
  | cons h t =>
    refine ⟨_, _, rfl, g, sl, bx, _, _, hh, h, q, fun g1 sl1 bx1 σ1 H1 l h1 q1 => ?_⟩
    exact ⟨g1, sl1, bx1, _, _, h1, l.reps t, q1, fun g2 sl2 bx2 σ2 H2 l2 h2 => c g2 sl2 bx2 σ2 H2 (l.trans l2) h2⟩
theorem pgm_tup {es : List Expr} {k : Nat} {n : WGs} {kk : Nat} {pos : Pos} (hK : X.K = r.R.K) (hc : X.calm = true) (h : PGsm r X W es n) (hn : (assignEach es X.env).length = kk) (hst : (assignEach es X.env).findIdx? (·.1) = none) : PGm r X W (.Tuple es k pos) (wgTup kk n) :=
  pg_imp (t := fun v σ H Q => gTup X.K kk (tIGs r W n) v σ H Q ∨ gLst X.K kk (tIGs r W n) v σ H Q) ⟨fun pins s σ H v u Q I rr q => q.elim ((pg_tup hc h hn hst).run pins s σ H v u Q I rr) ((pg_lst hc h hn hst).run pins s σ H v u Q I rr)⟩ fun v σ H Q q => by
  obtain ⟨g, sl, bx, d, QD, hh, rv, ⟨ds, e, el, q⟩, c⟩ := q
  rcases e with rfl | rfl | e
  · refine .inl ?_
    cases rv with
    | tup h1 h2 => exact ⟨_, _, rfl, by rw [hK]; exact .inl (.inl (hh.hb.sub.ls _ _ rfl h1)), by rw [h2.length]; exact el, g, sl, bx, ds, QD, hh, h2, q, c⟩
  · refine .inl ?_
    cases rv with
    | rot h1 h2 => exact ⟨_, _, rfl, by rw [hK]; exact hh.hb.sub.sqT h1, by rw [h2.length]; exact el, g, sl, bx, ds, QD, hh, h2, q, c⟩
  · obtain ⟨a, vs, rfl, h1, h2⟩ := hh.lstAt rv e
    exact .inr ⟨a, vs, rfl, SqL.of h1, by rw [h2.length]; exact el, g, sl, bx, ds, QD, hh, h2, q, c⟩
end

/-! ### statements -/
def wsStuck : WS := fun _ _ _ _ => False
def wsSkip : WS := fun D _ sl bx => D.nx sl bx
def wsSeq (m n : WS) : WS := fun D W sl bx => m { D with nx := n D W } W sl bx
def wsExpr (m : WE) : WS := fun D W sl bx => m sl bx (fun _ bx' => D.nx sl bx') (fun x b => W x sl b)
def wsRet (m : WE) : WS := fun D W sl bx => m sl bx D.rt (fun x b => W x sl b)
def wsRetN : WS := fun D _ _ bx => D.rt .non bx
def wsIf (t : WT) (m n : WS) : WS := fun D W sl bx => t sl bx (fun k bx' => if k = true then m D W sl bx' else n D W sl bx') (fun x b => W x sl b)
def wsAsg (m : WE) (g : WG) : WS := fun D W sl bx => m sl bx (fun d bx' => g d W sl bx' D.nx) (fun x b => W x sl b)
def wsBrk : WS := fun D _ sl bx => D.bk sl bx
def wsCont : WS := fun D _ sl bx => D.ct sl bx
def forW (cond : Bx → Prop) (g : WG) (b : WS) (DD : En) (W : WXQ) : List D → Sl → Bx → Prop
  | [], sl, bx => cond bx ∧ DD.nx sl bx
  | d :: ds, sl, bx => cond bx ∧ g d W sl bx fun sl1 bx1 => b { DD with nx := forW cond g b DD W ds, ct := forW cond g b DD W ds, bk := DD.nx } W sl1 bx1
def wsFor (it : WIt) (g : WG) (b : WS) : WS := fun D W sl bx => it sl bx (fun ds cond bx' => forW cond g b D W ds sl bx') (fun x b => W x sl b)
/-- at most n turns -/
def whileW (t : WT) (b : WS) (D : En) (W : WXQ) : Nat → Sl → Bx → Prop
  | 0, _, _ => False
  | n + 1, sl, bx => t sl bx (fun k bx' => if k = true then b { D with nx := whileW t b D W n, ct := whileW t b D W n, bk := D.nx } W sl bx' else D.nx sl bx') (fun x b => W x sl b)
def wsWhile (t : WT) (b : WS) : WS := fun D W sl bx => ∃ n, whileW t b D W n sl bx
section
variable {r : Rn} {X : Cx} {W : WXQ}
theorem ContS.le {g g' : Gx} {DD : En} {D : Ends} (c : ContS r g DD D) (l : Le g g') : ContS r g' DD D :=
  ⟨fun g2 sl bx σ H l2 => c.nx g2 sl bx σ H (l.trans l2), fun g2 sl bx σ H l2 => c.bk g2 sl bx σ H (l.trans l2), fun g2 sl bx σ H l2 => c.ct g2 sl bx σ H (l.trans l2), fun g2 sl bx σ H v d l2 => c.rt g2 sl bx σ H v d (l.trans l2)⟩
theorem psm_stuck {st : Stmt} : PSm r X W st wsStuck := ⟨fun _ _ _ _ _ _ h => by
  obtain ⟨_, _, _, _, _, z, _⟩ := h
  exact z.elim⟩
theorem pssm_nil : PSsm r X W [] wsSkip := pss_imp pss_nil fun D σ H q => by
  obtain ⟨g, sl, bx, DD, hh, q, c⟩ := q
  exact c.nx _ _ _ _ _ (Le.refl _) hh q
theorem psm_pass {pos : Pos} : PSm r X W (.Pass pos) wsSkip := ps_imp ps_pass fun D σ H q => by
  obtain ⟨g, sl, bx, DD, hh, q, c⟩ := q
  exact c.nx _ _ _ _ _ (Le.refl _) hh q
theorem psm_brk {pos : Pos} : PSm r X W (.Break pos) wsBrk := ps_imp ps_break fun D σ H q => by
  obtain ⟨g, sl, bx, DD, hh, q, c⟩ := q
  exact c.bk _ _ _ _ _ (Le.refl _) hh q
theorem psm_cont {pos : Pos} : PSm r X W (.Continue pos) wsCont := ps_imp ps_continue fun D σ H q => by
  obtain ⟨g, sl, bx, DD, hh, q, c⟩ := q
  exact c.ct _ _ _ _ _ (Le.refl _) hh q
theorem pssm_cons {st : Stmt} {rest : List Stmt} {m n : WS} (h1 : PSm r X W st m) (h2 : PSsm r X W rest n) : PSsm r X W (st :: rest) (wsSeq m n) := pss_imp (pss_cons h1 h2) fun D σ H q => by
  obtain ⟨g, sl, bx, DD, hh, q, c⟩ := q
  refine ⟨g, sl, bx, _, hh, q, ⟨fun g1 sl1 bx1 σ1 H1 l h1 q1 => ?_, c.bk, c.ct, c.rt⟩⟩
  exact ⟨g1, sl1, bx1, DD, h1, q1, c.le l⟩
theorem psm_expr {e : Expr} {m : WE} {pos : Pos} (h : PEm r X W e m) (hs : swapsWith e none pos.line X.env = pure false) : PSm r X W (.Expr e pos) (wsExpr m) := ps_imp (ps_expr h hs) fun D σ H q => by
  obtain ⟨g, sl, bx, DD, hh, q, c⟩ := q
  exact ⟨g, sl, bx, _, hh, q, fun g1 bx1 H1 v d l h1 rv q1 => c.nx _ _ _ _ _ l h1 q1⟩
theorem psm_ret {e : Expr} {m : WE} {pos : Pos} (h : PEm r X W e m) : PSm r X W (.Return (some e) pos) (wsRet m) := ps_imp (ps_ret h) fun D σ H q => by
  obtain ⟨g, sl, bx, DD, hh, q, c⟩ := q
  exact ⟨g, sl, bx, _, hh, q, fun g1 bx1 H1 v d l h1 rv q1 => c.rt _ _ _ _ _ _ _ l h1 rv q1⟩
theorem psm_retN {pos : Pos} : PSm r X W (.Return none pos) wsRetN := ps_imp ps_retN fun D σ H q => by
  obtain ⟨g, sl, bx, DD, hh, q, c⟩ := q
  exact c.rt _ _ _ _ _ _ _ (Le.refl _) hh .non q
theorem psm_if {t : Expr} {a b : List Stmt} {mt : WT} {m n : WS} {pos : Pos} (ht : PTm r X W t mt) (ha : PSsm r X W a m) (hb : PSsm r X W b n) : PSm r X W (.If t a b pos) (wsIf mt m n) := ps_imp (ps_if ht ha hb) fun D σ H q => by
  obtain ⟨g, sl, bx, DD, hh, q, c⟩ := q
  refine ⟨g, sl, bx, _, hh, q, fun g1 bx1 H1 k l h1 q1 => ?_⟩
  cases k with
  | true => rw [if_pos rfl] at q1 ⊢; exact ⟨g1, sl, bx1, DD, h1, q1, c.le l⟩
  | false => rw [if_neg Bool.false_ne_true] at q1 ⊢; exact ⟨g1, sl, bx1, DD, h1, q1, c.le l⟩
theorem psm_asg {tg e : Expr} {m : WE} {g : WG} {pos : Pos} (he : PEm r X W e m) (hg : PGm r X W tg g) (hs : swapsWithSole [tg] e pos.line X.env = pure false) (hw : swappedStores [tg] e X.env = pure none)
    (h1 : (assignEach [tg] X.env).map (·.2) = [assign tg X.env]) : PSm r X W (.Assign [tg] e pos) (wsAsg m g) := ps_imp (ps_asg he hg hs hw h1) fun D σ H q => by
  obtain ⟨g, sl, bx, DD, hh, q, c⟩ := q
  refine ⟨g, sl, bx, _, hh, q, fun g1 bx1 H1 v d l h1 rv q1 => ?_⟩
  exact ⟨g1, sl, bx1, d, _, h1, rv, q1, fun g2 sl2 bx2 σ2 H2 l2 h2 q2 => c.nx _ _ _ _ _ (l.trans l2) h2 q2⟩
theorem psm_for {tg iter : Expr} {body : List Stmt} {it : WIt} {g : WG} {b : WS} {pos : Pos} (hp : PassesOwn (model X.prog X.w) X.A X.env X.xe) (hc : X.calm = true) (hi : PIm r X W tg iter it) (hg : PGm r X W tg g) (hb : PSsm r X W body b)
    (hs : ∀ x, foldedSetIterable iter X.env x = pure x) : PSm r X W (.For tg iter body [] pos) (wsFor it g b) := ps_imp (ps_for hp hc hi hg hb hs) fun D σ H q => by
  obtain ⟨g0, sl, bx, DD, hh, q, c⟩ := q
  refine ⟨g0, sl, bx, _, hh, q, fun g1 bx1 H1 J ds cond l h1 ys q1 => ?_⟩
  refine ⟨fun i m σ' H' => i + m = ds.length ∧ ∃ g' sl' bx', Le g1 g' ∧ Holds r g' sl' bx' σ' H' ∧ forW cond g b DD W (ds.drop i) sl' bx', ⟨ds.length, by omega, g1, sl, bx1, Le.refl _, h1, by rw [List.drop_zero]; exact q1⟩, ?_⟩
  rintro i m σ' H' ⟨em, g', sl', bx', l', h', q'⟩
  by_cases hi : i < ds.length
  · have ed := List.drop_eq_getElem_cons hi
    rw [ed] at q'
    obtain ⟨hc', q'⟩ := q'
    refine .inr ⟨ys.go i g' sl' bx' σ' H' l' h' hc' hi, fun σ2 H2 => ∃ g2 sl2 bx2, Le g1 g2 ∧ Holds r g2 sl2 bx2 σ2 H2 ∧ forW cond g b DD W (ds.drop (i + 1)) sl2 bx2, fun σ2 H2 ⟨g2, sl2, bx2, a1, a2, a3⟩ => ⟨m - 1, by omega, by omega, g2, sl2, bx2, a1, a2, a3⟩, fun x H2 hy => ?_⟩
    obtain ⟨g2, d, e2, l2, h2, rd⟩ := ys.yld i g' sl' bx' σ' H' x H2 l' h' hc' hi hy
    rw [List.getElem?_eq_getElem hi] at e2; cases e2
    refine ⟨g2, sl', bx', _, _, h2, rd, q', fun g3 sl3 bx3 σ3 H3 l3 h3 q3 => ?_⟩
    have l13 := (l'.trans l2).trans l3
    exact ⟨g3, sl3, bx3, _, h3, q3, ⟨fun g4 sl4 bx4 σ4 H4 l4 h4 q4 => ⟨g4, sl4, bx4, l13.trans l4, h4, q4⟩, fun g4 sl4 bx4 σ4 H4 l4 h4 q4 => c.nx _ _ _ _ _ ((l.trans l13).trans l4) h4 q4,
      fun g4 sl4 bx4 σ4 H4 l4 h4 q4 => ⟨g4, sl4, bx4, l13.trans l4, h4, q4⟩, fun g4 sl4 bx4 σ4 H4 v d l4 h4 rv q4 => c.rt _ _ _ _ _ _ _ ((l.trans l13).trans l4) h4 rv q4⟩⟩
  · have ed : ds.drop i = [] := List.drop_eq_nil_of_le (by omega)
    rw [ed] at q'
    exact .inl ⟨ys.stop i g' sl' bx' σ' H' l' h' q'.1 (by omega), c.nx _ _ _ _ _ (l.trans l') h' q'.2⟩
theorem psm_while {t : Expr} {body : List Stmt} {mt : WT} {b : WS} {pos : Pos} (hp : PassesOwn (model X.prog X.w) X.A X.env X.xe) (ht : PTm r X W t mt) (hb : PSsm r X W body b) : PSm r X W (.While t body [] pos) (wsWhile mt b) := ps_imp (ps_while hp ht hb) fun D σ H q => by
  obtain ⟨g0, sl, bx, DD, hh, ⟨n, q⟩, c⟩ := q
  refine ⟨fun m σ' H' => ∃ g' sl' bx', Le g0 g' ∧ Holds r g' sl' bx' σ' H' ∧ whileW mt b DD W m sl' bx', ⟨n, g0, sl, bx, Le.refl _, hh, q⟩, ?_⟩
  rintro m σ' H' ⟨g', sl', bx', l', h', q'⟩
  cases m with
  | zero => exact q'.elim
  | succ m =>
    refine ⟨g', sl', bx', _, h', q', fun g1 bx1 H1 k l1 h1 q1 => ?_⟩
    cases k with
    | false => rw [if_neg Bool.false_ne_true] at q1 ⊢; exact c.nx _ _ _ _ _ (l'.trans l1) h1 q1
    | true =>
      rw [if_pos rfl] at q1 ⊢
      have l01 := l'.trans l1
      refine ⟨fun σ2 H2 => ∃ g2 sl2 bx2, Le g0 g2 ∧ Holds r g2 sl2 bx2 σ2 H2 ∧ whileW mt b DD W m sl2 bx2, fun σ2 H2 ⟨g2, sl2, bx2, a1, a2, a3⟩ => ⟨m, by omega, g2, sl2, bx2, a1, a2, a3⟩, g1, sl', bx1, _, h1, q1, ?_⟩
      exact ⟨fun g4 sl4 bx4 σ4 H4 l4 h4 q4 => ⟨g4, sl4, bx4, l01.trans l4, h4, q4⟩, fun g4 sl4 bx4 σ4 H4 l4 h4 q4 => c.nx _ _ _ _ _ (l01.trans l4) h4 q4,
        fun g4 sl4 bx4 σ4 H4 l4 h4 q4 => ⟨g4, sl4, bx4, l01.trans l4, h4, q4⟩, fun g4 sl4 bx4 σ4 H4 v d l4 h4 rv q4 => c.rt _ _ _ _ _ _ _ (l01.trans l4) h4 rv q4⟩
end
end Mi
namespace Mi
open PySem PySem.Spec L2

/-! ### what a def promises, where no repr is under way -/
structure FnG (P : Program) (w : World) (K : PySem.W.Frag) (mg : Str → Option Value) (base : Heap) (CX : CXT) (k : Nat) (f : Addr) (fd : FuncData) (ps : List Str) (sp : Sp) : Prop where
  len : ∀ vs H Q E, sp vs H Q E → vs.length = ps.length
  run : ∀ (A : Around) (outer : List Env) (s : Shared) (H : Hp) (args : Args) (us : List Value) (vs : List V) (Q : VK) (E : XK), Room k A → A.guards = some [] → Env0 P w K mg base A outer s H → BindsTo s fd args (ps.zip us) → Vals vs us → sp vs H Q E →
    codeAny (model P w) A (.call (.ref f) args) (CR CX outer P w H s Q E) s
theorem FnG.mono {P : Program} {w : World} {K : PySem.W.Frag} {mg : Str → Option Value} {base : Heap} {CX : CXT} {j k : Nat} {f : Addr} {fd : FuncData} {ps : List Str} {sp : Sp} (F : FnG P w K mg base CX j f fd ps sp) (h : j ≤ k) :
    FnG P w K mg base CX k f fd ps sp := ⟨F.len, fun A outer s H args us vs Q E hr => F.run A outer s H args us vs Q E (hr.mono h)⟩

open PyProof.Rows hiding St in
theorem fnG_of {CX : CXT} {P : Program} {w : World} {K : PySem.W.Frag} {mg : Str → Option Value} {base : Heap} {k : Nat} {f : Addr} {name qual : Str} {params : Arguments} {body : List Stmt} {scope : Scope} {dV kV doc pm cdv ct oc : Value} {an od : Option Addr}
    {osl : Array (Option Value)} {N ps : List Str} {sp : Sp} (lk : K.lookup f = some ⟨oc, od, .func (PySem.W.fnOf name qual params body scope dV kV doc pm an cdv ct), osl⟩) (hcd : PySem.W.codeIn K cdv qual = true) (S : FnScope N ps scope)
    (len : ∀ vs H Q E, sp vs H Q E → vs.length = ps.length)
    (hbody : ∀ (A : Around) (outer : List Env) (s : Shared) (H : Hp) (vs : List V) (Q : VK) (E : XK), Room k (A.deeper (envOfC qual scope s.heap.objs.size f cdv)) → A.guards = some [] → sp vs H Q E →
      ∃ t, PSs (cxOf CX P w K mg base N qual scope f cdv A outer s H E) body t ∧ t { nx := fun _ H' => Q .non H', rt := Q } (start N vs) H) :
    FnG P w K mg base CX (k + 1) f (PySem.W.fnOf name qual params body scope dV kV doc pm an cdv ct) ps sp := by
  refine ⟨len, fun A outer s H args us vs Q E hr hgd e0 hb r hsp => ?_⟩
  have hl := len _ _ _ _ hsp
  have KX : K.In s.heap := e0.mod.kin.keeps fun b o e => (e0.bs b o e).1
  have lim : s.heap.NoLimit := e0.mod.nolimit.keeps fun b o e => (e0.bs b o e).1
  have hkind : ∀ y ∈ ps.zip us, scope.names.lookup y.1 = some .local ∨ (scope.names.lookup y.1 = some .cell ∧ ((cellsFrom (s.heap.objs.size + 1) scope.names []).lookup y.1).isSome = true) := fun ⟨n, v⟩ hy => by
    rcases S.par n (List.of_mem_zip hy).1 with q | q
    · exact .inl q
    · exact .inr ⟨q, PySem.W.cellsFrom_some _ _ _ (.inl q)⟩
  refine codeAny_call_function hr.depth (KX _ _ lk) rfl S.co S.gen rfl (PySem.W.codeRec_of KX hcd) (hb _ _ _ _ ?_)
  refine wpAny_newFunctionEnv_cells S.kind hkind fun env he s1 x => ?_
  subst he
  refine ⟨lim.keeps x.toInCall.keep, codeAny_func ?_⟩
  obtain ⟨t, ht, hq⟩ := hbody A outer s H vs Q E (hr.deeper _) hgd hsp
  have I : Inv (cxOf CX P w K mg base N qual scope f cdv A outer s H E) [] (start N vs) H s1 := inv_start S hr.hd e0 hl r x
  refine wpAny_mono (ht.run [] s1 (start N vs) H _ I hq) (fun fl s' hs => ?_) fun e s' hs => hs
  have fin : ∀ {σ' : L2.St} {H' : Hp} {v : V} {u : Value}, Inv (cxOf CX P w K mg base N qual scope f cdv A outer s H E) [] σ' H' s' → RelV v u → Q v H' → CE outer P w H s Q u s' :=
    fun {σ' H' v u} J rv q => ⟨v, H', J.os, J.bare, J.base, J.hok, rv, q⟩
  cases fl with
  | ret u =>
    obtain ⟨v, σ', H', J, rv, q⟩ := hs
    exact fin J rv q
  | next =>
    obtain ⟨σ', H', J, q⟩ := hs
    exact fin (v := V.non) (u := Value.none) J rfl q
  | brk =>
    obtain ⟨_, _, _, q⟩ := hs
    exact False.elim q
  | cont =>
    obtain ⟨_, _, _, q⟩ := hs
    exact False.elim q

section
variable {X : Cx} {CX : CXT} {k : Nat} {f C : Addr} {fd : FuncData} {ps : List Str} {sp : Sp} {E : XK}
theorem run_fnG {pins : List (Addr × Obj)} {σ : L2.St} {H : Hp} {s : Shared} {Q : VK} {us : List Value} {vs : List V} (F : FnG X.prog X.w X.K X.mg X.base CX k f fd ps sp) (hr : Room k X.A) (hgd : X.A.guards = some []) (hb : Binds X.K fd ps []) (hx : PassesAt CX X σ E)
    (I : Inv X pins σ H s) (r : Vals vs us) (h : sp vs H Q E) : wpAny (model X.prog X.w) X.A (call (.ref f) us) (EP X pins σ Q) X.xe s := by
  have hl : (us ++ []).length = ps.length := by rw [List.append_nil, ← r.length]; exact F.len _ _ _ _ h
  have hb' := hb s us I.kIn hl
  rw [List.append_nil] at hb'
  refine wpAny_call (codeAny_mono (F.run X.A X.stack s H ⟨us, []⟩ us vs Q E hr hgd I.env0 hb' r h) fun r s' hq => ?_)
  cases r with
  | error e => exact hx pins H s e s' I hq
  | ok fl =>
    cases fl with
    | ret u => exact I.after hq
    | next => exact False.elim hq
    | brk => exact False.elim hq
    | cont => exact False.elim hq
theorem make_guards {A : Around} {C : Addr} {us : List Value} {kw : List (Str × Value)} (h : A.guards = some []) : (A.under (.builtin "type.__call__" ⟨.ref C :: us, kw⟩)).guards = some [] := by
  first | exact h | simp [Around.under, Code.weight, Code.isCreation, Code.isGuard, Code.guards, Code.isCaller, Code.frames, Code.isFrame, guardIds, pushGuards, h]
theorem run_makeG {pins : List (Addr × Obj)} {σ : L2.St} {H : Hp} {s : Shared} {Q : VK} {us : List Value} {vs : List V} (M : Mk X.K C f) (F : FnG X.prog X.w X.K X.mg X.base CX k f fd ps sp) (hr : Room (k + 1) X.A) (hgd : X.A.guards = some []) (hb : Binds X.K fd ps [])
    (hx : PassesAt CX X σ E) (I : Inv X pins σ H s) (r : Vals vs us)
    (h : ∀ x dx, H x = none → H dx = none → dx ≠ x → sp (.ref x :: vs) (upd (upd H dx (.own x)) x (.ins C dx [])) (fun v H2 => v = .non ∧ Q (.ref x) H2) E) :
    wpAny (model X.prog X.w) X.A (call (.ref C) us) (EP X pins σ Q) X.xe s := by
  have hq := h (s.heap.objs.size + 1) s.heap.objs.size (I.hok.fresh (Nat.le_succ _)) (I.hok.fresh (Nat.le_refl _)) (Nat.ne_of_lt (Nat.lt_succ_self _))
  have I2 := Inv.made (C := C) I
  have r2 : Vals (V.ref (s.heap.objs.size + 1) :: vs) (Value.ref (s.heap.objs.size + 1) :: us) := .cons rfl r
  have hl : (Value.ref (s.heap.objs.size + 1) :: us ++ []).length = ps.length := by
    have e := r2.length
    rw [F.len _ _ _ _ hq] at e
    rw [List.append_nil]
    exact e.symm
  have hb' := hb _ (Value.ref (s.heap.objs.size + 1) :: us) I2.kIn hl
  rw [List.append_nil] at hb'
  refine wpAny_call (make_map (f := f) I.kIn M.makes M.init (beq_iff_eq.mp M.fn) (codeAny_mono (F.run _ X.stack _ _ ⟨Value.ref (s.heap.objs.size + 1) :: us, []⟩ (Value.ref (s.heap.objs.size + 1) :: us) _ _ E (hr.make C us []) (make_guards hgd)
    (I2.env0.make C us []) hb' r2 hq) fun r s' hq' => ?_))
  cases r with
  | error e => exact hx pins _ _ e s' I2 hq'
  | ok fl =>
    cases fl with
    | ret u =>
      obtain ⟨v, H', I3, rv, ev, q3⟩ := I2.after hq'
      subst ev
      exact ⟨rv, ⟨V.ref (s.heap.objs.size + 1), H', I3, rfl, q3⟩⟩
    | next => exact False.elim hq'
    | brk => exact False.elim hq'
    | cont => exact False.elim hq'
end
end Mi
namespace Mi
open PySem PySem.Spec L2
open Classical in
/-- the heap without the live boxes -/
noncomputable def mask (H : Hp) (g : Gx) (bx : Bx) : Hp := fun a => if ∃ n, bx n ≠ none ∧ g.b n = some a then none else H a
theorem mask_box {H : Hp} {g : Gx} {bx : Bx} {a : Addr} (h : ∃ n, bx n ≠ none ∧ g.b n = some a) : mask H g bx a = none := by unfold mask; rw [if_pos h]
theorem mask_out {H : Hp} {g : Gx} {bx : Bx} {a : Addr} (h : ¬ ∃ n, bx n ≠ none ∧ g.b n = some a) : mask H g bx a = H a := by unfold mask; rw [if_neg h]
theorem mask_some {H : Hp} {g : Gx} {bx : Bx} {a : Addr} {o : HO} (h : mask H g bx a = some o) : H a = some o ∧ ¬ ∃ n, bx n ≠ none ∧ g.b n = some a := by
  by_cases q : ∃ n, bx n ≠ none ∧ g.b n = some a
  · rw [mask_box q] at h; cases h
  · rw [mask_out q] at h; exact ⟨h, q⟩
section
variable {R : Rt} {g : Gx} {bx : Bx} {H : Hp}
theorem Hb.out (h : Hb R g bx H) {a : Addr} (hF : g.F a ≠ none) : ¬ ∃ n, bx n ≠ none ∧ g.b n = some a := fun ⟨n, e, q⟩ => by
  cases e' : bx n with
  | none => exact e e'
  | some c =>
    obtain ⟨a', k1, k2, _⟩ := h.bxs n c e'
    rw [q] at k1; cases k1
    exact hF k2
theorem Hb.subMask (h : Hb R g bx H) : SubH g.F (mask H g bx) where
  dm := fun a q => by rw [mask_out (h.out q)]; exact h.sub.dm a q
  rd := fun a u i q => by
    have hF : g.F a ≠ none := by rcases q with q | ⟨_, q⟩ <;> rw [q] <;> simp
    have e := mask_out (H := H) (h.out hF)
    rcases h.sub.rd a u i q with k | ⟨x, k⟩
    · exact .inl (e.trans k)
    · exact .inr ⟨x, e.trans k⟩
  ls := fun a o i q => by
    have hF : g.F a ≠ none := by rw [q]; simp
    exact (mask_out (H := H) (h.out hF)).trans (h.sub.ls a o i q)
  tb := fun a ps q => by
    have hF : g.F a ≠ none := by rw [q]; simp
    obtain ⟨m, e⟩ := h.sub.tb a ps q
    exact ⟨m, (mask_out (H := H) (h.out hF)).trans e⟩
/-- the frozen part of a callee: all but the boxes -/
noncomputable def Gx.all (g : Gx) (H : Hp) (bx : Bx) : Gx := { g with F := mask H g bx }
theorem Hb.all (h : Hb R g bx H) : Hb R (g.all H bx) bx H where
  sub := ⟨fun a q => by
      cases e : mask H g bx a with
      | none => exact absurd e q
      | some o => rw [(mask_some e).1]; simp,
    fun a u i q => by
      rcases q with q | ⟨x, q⟩
      · exact .inl (mask_some q).1
      · exact .inr ⟨x, (mask_some q).1⟩,
    fun a o i q => (mask_some q).1,
    fun a ps q => ⟨#[], by rw [(mask_some q).1]; simp⟩⟩
  bxs := fun n c e => by
    obtain ⟨a, k1, k2, k3⟩ := h.bxs n c e
    exact ⟨a, k1, mask_box ⟨n, by rw [e]; simp, k1⟩, k3.mono h.subMask (SubB.refl _) rfl⟩
  inj := h.inj
  top := h.top
  dx := fun a u i q => (mask_some q).1
end
noncomputable def Rn.sub (R : Rt) (g : Gx) (H : Hp) (bx : Bx) : Rn := ⟨R, mask H g bx, g.b⟩
structure Back (R : Rt) (g : Gx) (bx : Bx) (H : Hp) (g' : Gx) (bx' : Bx) (H' : Hp) : Prop where
  hb : Hb R g' bx' H'
  kp : Kp (Rn.sub R g H bx) g' H'
/-- the caller's state behind a call -/
theorem Holds.back {r : Rn} {g g' : Gx} {sl : Sl} {bx bx' : Bx} {σ : L2.St} {H H' : Hp} (h : Holds r g sl bx σ H) (k : Back r.R g bx H g' bx' H') : Le g g' ∧ Holds r g' sl bx' σ H' := by
  have le : Le g g' := ⟨h.hb.subMask.trans k.kp.gs, k.kp.sb⟩
  refine ⟨le, k.hb, ⟨h.kp.gs.trans le.F, fun a o e => ?_, h.kp.sb.trans le.b⟩, h.ss.mono le, h.len⟩
  have k1 := h.kp.keep a o e
  cases e' : H a with
  | none => exact absurd e' k1.isSome
  | some o' =>
    rw [e'] at k1
    have hF : g.F a ≠ none := h.kp.gs.dm a (by rw [e]; simp)
    exact k1.trans (k.kp.keep a o' ((mask_out (h.hb.out hF)).trans e'))
theorem Back.start {R : Rt} {g : Gx} {bx : Bx} {H : Hp} (h : Hb R g bx H) : Kp (Rn.sub R g H bx) (g.all H bx) H :=
  ⟨SubH.refl _, fun a o e => by rw [(mask_some e).1]; exact .inl rfl, SubB.refl _⟩

/-! ### a def's meaning, its promise -/
abbrev CallM := List D → Bx → VQ → XQ → Prop
def spI (R : Rt) (np : Nat) (m : CallM) : Sp := fun vs H Q E => ∃ g bx ds QD XD', vs.length = np ∧ Hb R g bx H ∧ RepsG R g vs ds ∧ m ds bx QD XD' ∧
  (∀ g' bx' H' v d, Back R g bx H g' bx' H' → RepG R g' v d → QD d bx' → Q v H') ∧ (∀ g' bx' H' cls dd x, Back R g bx H g' bx' H' → XRep R g' H' cls dd x → XD' x bx' → E cls dd H')
def fgt (Q : Bx → Prop) : Bx → Prop := fun bx => ∃ bx', LeB bx' bx ∧ Q bx'
theorem LeB.refl (b : Bx) : LeB b b := fun _ _ h => h
/-- a body run at its arguments: np parameters, ns slots -/
def runM (np ns : Nat) (m : WS) : CallM := fun ds bx Q X => ds.length = np ∧
  m { nx := fun _ => fgt (Q .non), rt := fun d => fgt (Q d) } (fun x _ => fgt (X x)) (ds.map some ++ List.replicate (ns - np) none) bx
def wCall (c : CallM) (m : WA) : WE := fun sl bx Q X => m sl bx (fun ds bx1 => c ds bx1 Q X) X
structure FnRt (P : Program) (w : World) (K : PySem.W.Frag) (mg : Str → Option Value) (base : Heap) (R : Rt) (k : Nat) (c : CallM) (a : Addr) (np : Nat) : Prop where
  ok : ∃ fd ps, FnG P w K mg base (L2.CX P w) k a fd ps (spI R np c) ∧ Binds K fd ps []
  kp : PySem.W.keepIn K (.ref a) = true
  len : ∀ ds bx Q X, c ds bx Q X → ds.length = np

theorem Back.forget {R : Rt} {g g' : Gx} {bx bx' bx2 : Bx} {H H' : Hp} (h : Back R g bx H g' bx' H') (l : LeB bx2 bx') : Back R g bx H g' bx2 H' := by
  have s : ∀ n, bx2 n ≠ none → bx' n ≠ none := fun n e q => by
    cases e' : bx2 n with
    | none => exact e e'
    | some c => rw [l n c e'] at q; cases q
  exact ⟨⟨h.hb.sub, fun n c e => h.hb.bxs n c (l n c e), fun n m a e1 e2 => h.hb.inj n m a (s n e1) (s m e2), h.hb.top, h.hb.dx⟩, h.kp⟩
theorem reps_slots {R : Rt} {g : Gx} {N : List Str} {vs : List V} {ds : List D} {np : Nat} (h : RepsG R g vs ds) (hn : ds.length = np) (hN : np ≤ N.length) :
    Sls R g (ds.map some ++ List.replicate (N.length - np) none) (L2.start N vs) ∧ (ds.map some ++ List.replicate (N.length - np) none).length = (L2.start N vs).length := by
  have hl := h.length
  refine ⟨fun i d e => ?_, by simp [L2.start, hl, hn]⟩
  have hi : i < ds.length := by
    by_cases hi : i < ds.length
    · exact hi
    · rw [List.getElem?_append_right (by simpa using hi), List.getElem?_replicate] at e
      split at e <;> cases e
  rw [List.getElem?_append_left (by simpa using hi), List.getElem?_map] at e
  cases e2 : ds[i]? with
  | none => rw [e2] at e; cases e
  | some d' =>
    rw [e2] at e; cases e
    obtain ⟨v, h1, h2⟩ := h.get e2
    refine ⟨v, ?_, h2⟩
    unfold L2.start
    rw [List.getElem?_append_left (by simpa [hl] using hi), List.getElem?_map, h1]; rfl
/-- THE RULE for a def: its body's meaning, in any context that stands at its entry -/
theorem fnRt_of {P : Program} {w : World} {K : PySem.W.Frag} {mg : Str → Option Value} {base : Heap} {k : Nat} {f : Addr} {name qual : Str} {params : Arguments} {body : List Stmt} {scope : Scope} {dV kV doc pm cdv ct oc : Value} {an od : Option Addr}
    {osl : Array (Option Value)} {N ps : List Str} {R : Rt} {m : WS} (lk : K.lookup f = some ⟨oc, od, .func (PySem.W.fnOf name qual params body scope dV kV doc pm an cdv ct), osl⟩) (hcd : PySem.W.codeIn K cdv qual = true) (S : FnScope N ps scope)
    (hb : ∀ us : List Value, us.length = ps.length → bindArgs (PySem.W.fnOf name qual params body scope dV kV doc pm an cdv ct) ⟨us, []⟩ = pure (ps.zip us)) (kp : PySem.W.keepIn K (.ref f) = true)
    (hbody : ∀ (r : Rn) (X : Cx) (W : WXQ), r.R = R → X.prog = P → X.w = w → X.K = K → X.mg = mg → X.base = base → X.N = N → X.env.scope = scope → X.calm = true → (∀ x, X.fn x = true) → X.A.guards = some [] → Room k X.A → X.stack = X.env :: X.outer → X.env.frame = some X.env.locals →
      Takes X (wxI r W) → PassesOwn (model X.prog X.w) X.A X.env X.xe → PSsm r X W body m) : FnRt P w K mg base R (k + 1) (runM ps.length N.length m) f ps.length := by
  refine ⟨⟨_, ps, ?_, Binds.all hb⟩, kp, fun ds bx Q X h => h.1⟩
  refine fnG_of lk hcd S (fun vs H Q E h => ?_) (fun A outer s H vs Q E hr hgd h => ?_)
  · obtain ⟨_, _, _, _, _, e, _⟩ := h
    exact e
  · obtain ⟨g, bx, ds, QD, XD', en, hh, rs, ⟨el, q⟩, cQ, cE⟩ := h
    have hN : ps.length ≤ N.length := by have := congrArg List.length S.pre; rw [List.length_take] at this; omega
    have X_ok : ∀ X : Cx, X = cxOf (L2.CX P w) P w K mg base N qual scope f cdv A outer s H E → PSsm (Rn.sub R g H bx) X (fun x _ => fgt (XD' x)) body m := fun X eX => by
      subst eX
      refine hbody _ _ _ rfl rfl rfl rfl rfl rfl rfl rfl rfl (fun _ => rfl) hgd hr rfl rfl ?_ ?_
      · refine (takes_of (E := E) rfl rfl rfl rfl).imp fun cls d σ H' hx => ?_
        obtain ⟨g', sl, bx', x, h', rx, bx2, l2, qx⟩ := hx
        exact cE g' bx2 H' cls d x (Back.forget ⟨h'.hb, h'.kp⟩ l2) rx qx
      · exact passes_of rfl
    refine ⟨_, X_ok _ rfl, ?_⟩
    obtain ⟨s1, s2⟩ := reps_slots (N := N) (R := R) (g := g.all H bx) (rs.mono hh.subMask (SubB.refl _)) el hN
    refine ⟨g.all H bx, _, bx, _, ⟨hh.all, Back.start hh, s1, s2⟩, q, ⟨fun g' sl' bx' σ' H' l h' qn => ?_, fun g' sl' bx' σ' H' l h' qn => qn.elim, fun g' sl' bx' σ' H' l h' qn => qn.elim, fun g' sl' bx' σ' H' v d l h' rv qn => ?_⟩⟩
    · obtain ⟨bx2, l2, qn⟩ := qn
      exact cQ g' bx2 H' .non .non (Back.forget ⟨h'.hb, h'.kp⟩ l2) .non qn
    · obtain ⟨bx2, l2, qn⟩ := qn
      exact cQ g' bx2 H' v d (Back.forget ⟨h'.hb, h'.kp⟩ l2) rv qn

section
variable {r : Rn} {X : Cx} {W : WXQ} {k : Nat} {c : CallM} {a : Addr} {np : Nat}
theorem run_I {g : Gx} {sl : Sl} {bx : Bx} {ds : List D} {QD : VQ} {pins : List (Addr × Obj)} {σ : L2.St} {H : Hp} {s : Shared} {Q : VK} {us : List Value} {vs : List V} (F : FnRt X.prog X.w X.K X.mg X.base r.R k c a np) (hn : vs.length = np) (hr : Room k X.A) (hgd : X.A.guards = some [])
    (tk : Takes X (wxI r W)) (I : Inv X pins σ H s) (rv : Vals vs us) (hh : Holds r g sl bx σ H) (rs : RepsG r.R g vs ds) (q : c ds bx QD (fun x b => W x sl b)) (cQ : Cont r g sl σ QD Q) : wpAny (model X.prog X.w) X.A (call (.ref a) us) (EP X pins σ Q) X.xe s := by
  obtain ⟨fd, ps, FG, hb⟩ := F.ok
  refine run_fnG (E := L2.WE (wxI r W) σ) FG hr hgd hb (passAt tk σ) I rv ⟨g, bx, ds, QD, _, hn, hh.hb, rs, q, fun g' bx' H' v d bk rv' q' => ?_, fun g' bx' H' cls dd x bk rx q' => ?_⟩
  · obtain ⟨le, h'⟩ := hh.back bk
    exact cQ g' bx' H' v d le h' rv' q'
  · obtain ⟨le, h'⟩ := hh.back bk
    exact ⟨g', sl, bx', x, h', rx, q'⟩
/-- f(e, ..) -/
theorem pem_call {x : Str} {p pos : Pos} {e : Expr} {es : List Expr} {m : WA} (F : FnRt X.prog X.w X.K X.mg X.base r.R k c a np) (hr : Room k X.A) (hgd : X.A.guards = some []) (tk : Takes X (wxI r W)) (hg : Gl X x) (hm : X.mg x = some (.ref a))
    (ha : PAm r X W (e :: es) m) (hdb : (x == ("__debug__" : Str)) = false) (he : starEach (e :: es) X.env = (false, eval e X.env) :: starEach es X.env) (hpl : (backTo pos (starEach es X.env)).any (·.1) = false) :
    PEm r X W (.Call (.Name x p) (e :: es) [] pos) (wCall c m) := by
  refine ⟨fun pins s σ H Q I h => ?_⟩
  obtain ⟨g, sl, bx, QD, hh, q, cQ⟩ := h
  refine wpAny_Call_Name_kw (ld_glob I hg hm ?_ hdb)
  refine PySem.W.callWith_K (h₀ := X.base) I.ok.mod.kin F.kp (thn (ha.run pos pins s σ H (fun vs H1 => ∃ g1 bx1 ds, Le g g1 ∧ Holds r g1 sl bx1 σ H1 ∧ RepsG r.R g1 vs ds ∧ c ds bx1 QD (fun x b => W x sl b)) I ⟨g, sl, bx, _, hh, q, fun g1 bx1 H1 vs ds l h1 rs q1 => ⟨g1, bx1, ds, l, h1, rs, q1⟩⟩) fun us s1 ⟨vs, H1, I1, rv, g1, bx1, ds, l, h1, rs, q1⟩ => ⟨I1.kIn, ?_⟩) he hpl
  exact run_I F (by rw [rs.length]; exact F.len _ _ _ _ q1) hr hgd tk I1 rv h1 rs q1 (cQ.le l)
theorem pem_call0 {x : Str} {p pos : Pos} (F : FnRt X.prog X.w X.K X.mg X.base r.R k c a 0) (hr : Room k X.A) (hgd : X.A.guards = some []) (tk : Takes X (wxI r W)) (hg : Gl X x) (hm : X.mg x = some (.ref a)) (hdb : (x == ("__debug__" : Str)) = false) :
    PEm r X W (.Call (.Name x p) [] [] pos) (wCall c wNil) := by
  refine ⟨fun pins s σ H Q I h => ?_⟩
  obtain ⟨g, sl, bx, QD, hh, q, cQ⟩ := h
  refine wpAny_Call_Name_kw (ld_glob I hg hm ?_ hdb)
  exact PySem.W.callWith_K0 I.kIn F.kp (run_I (us := []) (vs := []) (ds := []) F rfl hr hgd tk I .nil hh .nil q cQ)
end
end Mi
namespace Mi
open PySem PySem.Spec L2

/-! ### what must be seen of the text -/
def noStar : List Expr → Bool
  | [] => true
  | .Starred _ _ :: _ => false
  | _ :: es => noStar es
theorem starEach_of : ∀ {es : List Expr} {env : Env}, noStar es = true → starEach es env = es.map fun e => (false, eval e env)
  | [], _, _ => rfl
  | e :: es, env, h => by
    have key : noStar es = true ∧ starEach (e :: es) env = (false, eval e env) :: starEach es env := by
      cases e <;> first | exact ⟨h, rfl⟩ | cases h
    rw [key.2, starEach_of key.1]; rfl
theorem starCons {e : Expr} {es : List Expr} {env : Env} (h : noStar (e :: es) = true) : starEach (e :: es) env = (false, eval e env) :: starEach es env := by
  cases e <;> first | rfl | cases h
theorem noStar_tail {e : Expr} {es : List Expr} (h : noStar (e :: es) = true) : noStar es = true := by
  cases e <;> first | exact h | cases h
theorem plainBack {es : List Expr} {env : Env} {pos : Pos} (h : noStar es = true) : (backTo pos (starEach es env)).any (·.1) = false := by
  rw [starEach_of h]
  induction es with
  | nil => rfl
  | cons e es ih => exact ih (noStar_tail h)
theorem plainBackAll {es : List Expr} {env : Env} {pos : Pos} (h : noStar es = true) : (backTo pos (starEach es env)).all (fun x => !x.1) = true := by
  rw [starEach_of h]
  induction es with
  | nil => rfl
  | cons e es ih => exact ih (noStar_tail h)
/-- no super() in front of the dot -/
def okBase : Expr → Bool
  | .Call (.Name _ _) [] [] _ => false
  | _ => true
theorem base_of {o : Expr} {m : Str} {env : Env} (h : okBase o = true) (w : Sem Value) : attributeBase o m env w = w := by
  unfold attributeBase
  split
  · cases h
  · rfl
theorem few_of {es : List Expr} {env : Env} {pos : Pos} (h : noStar es = true) (hl : es.length < 30) : ((backTo pos (starEach es env)).all (fun x => !x.1) && (backToKw pos (keywordEach [] env)).all (fun x => x.1.isSome)
      && decide (es.length + ([] : List Keyword).length + (if ([] : List Keyword).isEmpty then 0 else 1) < 30)) = true := by
  rw [plainBackAll h]
  simp [backToKw, keywordEach]
  exact hl
theorem eval_meth {o : Expr} {m : Str} {apos pos : Pos} {es : List Expr} {env : Env} (hb : okBase o = true) (h : noStar es = true) (hl : es.length < 30) (line : (apos.endLine == pos.line) = true) :
    eval (.Call (.Attribute o m apos) es [] pos) env = (do
      let ov ← eval o env
      standAt apos.atName
      let (f, first) ← holding [ov] (getMethod ov m (do return (← importBound o env).getD true))
      callWith pos f first (backTo pos (starEach es env)) (backToKw pos (keywordEach [] env))) := by
  have hf : methodCallForm (es.length + ([] : List Keyword).length) (backTo pos (starEach es env)) (backToKw pos (keywordEach [] env)) = true := few_of h hl
  show (attributeBase o m env (eval o env) >>= fun ov => standAt apos.atName >>= fun _ => methodCall o m apos pos env ov (es.length + ([] : List Keyword).length) (backTo pos (starEach es env)) (backToKw pos (keywordEach [] env))) = _
  rw [base_of hb]
  unfold methodCall
  rw [hf]
  unfold calleeOf methodCallPos
  rw [line]
  rfl

/-! ### attributes -/
structure ClsRt (R : Rt) (K : PySem.W.Frag) (attrs : Nat → List Str) : Prop where
  cl : ∀ c C, R.cls c = some C → attrs c ≠ [] → Cls K C
  no : ∀ c C f, R.cls c = some C → f ∈ attrs c → NoAttr K C f
def wAttr (attrs : Nat → List Str) (f : Str) (m : WE) : WE := fun sl bx Q X => m sl bx (fun d bx' => ∃ c fs d', dr bx' d = some (.obj c fs) ∧ f ∈ attrs c ∧ fs.lookup f = some d' ∧ Q d' bx') X
theorem lookup_zip {R : Rt} {F : Hp} {b : Nat → Option Addr} {f : Str} : ∀ {fv : List (Str × V)} {ds : List D} {d : D}, Reps R F b (fv.map (·.2)) ds → ((fv.map (·.1)).zip ds).lookup f = some d → ∃ v, fv.lookup f = some v ∧ Rep R F b v d
  | [], _, _, _, e => by cases e
  | p :: fv, [], _, h, _ => by cases h
  | (g, v) :: fv, d' :: ds, d, h, e => by
    cases h with
    | cons h t =>
      rw [List.map_cons, List.zip_cons_cons] at e
      simp only [List.lookup] at e ⊢
      cases q : f == g with
      | true => rw [q] at e; cases e; exact ⟨v, rfl, h⟩
      | false => rw [q] at e; exact lookup_zip t e
theorem lookup_zipN {f : Str} : ∀ {fv : List (Str × V)} {ds : List D}, fv.length = ds.length → ((fv.map (·.1)).zip ds).lookup f = none → fv.lookup f = none
  | [], _, _, _ => rfl
  | p :: fv, [], h, _ => by cases h
  | (g, v) :: fv, d' :: ds, h, e => by
    rw [List.map_cons, List.zip_cons_cons] at e
    simp only [List.lookup] at e ⊢
    cases q : f == g with
    | true => rw [q] at e; cases e
    | false => rw [q] at e; exact lookup_zipN (by simpa using h) e
section
variable {r : Rn} {X : Cx} {W : WXQ} {attrs : Nat → List Str}
theorem pem_attr {o : Expr} {f : Str} {m : WE} {pos : Pos} (hK : X.K = r.R.K) (T : ClsRt r.R X.K attrs) (hb : okBase o = true) (h : PEm r X W o m) : PEm r X W (.Attribute o f pos) (wAttr attrs f m) :=
  pe_imp (pe_fld h (base_of hb _)) fun σ H Q q => by
  obtain ⟨g, sl, bx, QD, hh, q, c⟩ := q
  refine ⟨g, sl, bx, _, hh, q, fun g1 bx1 H1 v d l h1 rv q1 => ?_⟩
  obtain ⟨cc, fs, d', e, hf, ef, q2⟩ := q1
  obtain ⟨a, C, dx, fv, ds, rfl, hC, hH, rs, rfl⟩ := h1.objAt rv e
  obtain ⟨v', e', rv'⟩ := lookup_zip rs ef
  exact ⟨a, C, dx, fv, v', rfl, hH, T.cl cc C hC (List.ne_nil_of_mem hf), T.no cc C f hC hf, e', c _ _ _ _ _ l h1 rv' q2⟩
end
/-- o.f = e: o a box -/
def putFD (f : Str) (v : D) : List (Str × D) → List (Str × D)
  | [] => [(f, v)]
  | (g, x) :: r => if g = f then (g, v) :: r else (g, x) :: putFD f v r
theorem putF_zip {f : Str} {v : V} {d : D} : ∀ {fv : List (Str × V)} {ds : List D}, fv.length = ds.length → ∃ ds', putFD f d ((fv.map (·.1)).zip ds) = ((putF f v fv).map (·.1)).zip ds' ∧ ∀ (R : Rt) (F : Hp) (b : Nat → Option Addr), Rep R F b v d → Reps R F b (fv.map (·.2)) ds → Reps R F b ((putF f v fv).map (·.2)) ds'
  | [], [], _ => ⟨[d], rfl, fun R F b h _ => .cons h .nil⟩
  | (g, x) :: fv, e :: ds, h => by
    by_cases q : g = f
    · refine ⟨d :: ds, ?_, fun R F b hv hr => ?_⟩
      · simp [putFD, putF, q]
      · cases hr with
        | cons _ t => simp [putF, q]; exact .cons hv t
    · obtain ⟨ds', e1, e2⟩ := putF_zip (f := f) (v := v) (d := d) (fv := fv) (ds := ds) (by simpa using h)
      refine ⟨e :: ds', ?_, fun R F b hv hr => ?_⟩
      · simp [putFD, putF, q, e1]
      · cases hr with
        | cons p t => simp only [putF, if_neg q, List.map_cons]; exact .cons p (e2 R F b hv t)
def wsFld (attrs : Nat → List Str) (mo me : WE) (f : Str) : WS := fun D W sl bx => me sl bx (fun d bx1 => mo sl bx1 (fun o bx2 => ∃ n c fs, o = .box n ∧ bx2 n = some (.obj c fs) ∧ f ∈ attrs c ∧ fs.length < 1000 ∧ D.nx sl (upb bx2 n (.obj c (putFD f d fs)))) (fun x b => W x sl b)) (fun x b => W x sl b)
section
variable {r : Rn} {X : Cx} {W : WXQ} {attrs : Nat → List Str}
theorem psm_fld {o e : Expr} {f : Str} {mo me : WE} {p pos : Pos} (hK : X.K = r.R.K) (T : ClsRt r.R X.K attrs) (ho : PEm r X W o mo) (he : PEm r X W e me) (hs : swapsWith e (some (.Attribute o f p)) pos.line X.env = pure false) : PSm r X W (.Assign [.Attribute o f p] e pos) (wsFld attrs mo me f) :=
  ps_imp (ps_fld ho he hs) fun D σ H q => by
  obtain ⟨g, sl, bx, DD, hh, q, c⟩ := q
  refine ⟨g, sl, bx, _, hh, q, fun g1 bx1 H1 v d l h1 rv q1 => ?_⟩
  refine ⟨g1, sl, bx1, _, h1, q1, fun g2 bx2 H2 w o l2 h2 rwv q2 => ?_⟩
  obtain ⟨n, cc, fs, rfl, en, hf, hl, q3⟩ := q2
  cases rwv with
  | @box a n' hb =>
    obtain ⟨a', k1, k2, C, dx, fv, ds, hC, hH, rs, rfl⟩ := h2.hb.bxs _ _ en
    rw [hb] at k1; cases k1
    have hz : fv.length = ds.length := by rw [← rs.length, List.length_map]
    obtain ⟨ds', e1, e2⟩ := putF_zip (f := f) (v := v) (d := d) hz
    refine ⟨a, C, dx, fv, rfl, hH, T.cl cc C hC (List.ne_nil_of_mem hf), T.no cc C f hC hf, ?_, ?_⟩
    · have : ((fv.map (·.1)).zip ds).length = fv.length := by simp [hz]
      omega
    · have hc' : BoxRep r.R g2.F g2.b (upd H2 a (.ins C dx (putF f v fv))) a (.obj cc (putFD f d ((fv.map (·.1)).zip ds))) := ⟨C, dx, _, ds', hC, upd_same, e2 _ _ _ (l2.rep rv) rs, e1⟩
      exact c.nx g2 sl _ σ _ (l.trans l2) (h2.put en hb hc') q3
end

/-! ### methods of own classes -/
def wMeth (mt : Nat → Option CallM) (m : Str) (mo : WE) (ma : WA) : WE := fun sl bx Q X => mo sl bx (fun d bx1 => ∃ c fs cm, dr bx1 d = some (.obj c fs) ∧ fs.lookup m = none ∧ mt c = some cm ∧ ma sl bx1 (fun ds bx2 => cm (d :: ds) bx2 Q X) X) X
def MethRt (P : Program) (w : World) (K : PySem.W.Frag) (mg : Str → Option Value) (base : Heap) (R : Rt) (k : Nat) (m : Str) (mt : Nat → Option CallM) : Prop :=
  ∀ c C cm, R.cls c = some C → mt c = some cm → ∃ a np, Cls K C ∧ Meth K C m a ∧ FnRt P w K mg base R k cm a np
section
variable {r : Rn} {X : Cx} {W : WXQ} {k : Nat} {mt : Nat → Option CallM} {m : Str}
theorem pem_meth {o e : Expr} {es : List Expr} {mo : WE} {ma : WA} {apos pos : Pos} (T : MethRt X.prog X.w X.K X.mg X.base r.R k m mt) (hr : Room k X.A) (hgd : X.A.guards = some []) (tk : Takes X (wxI r W)) (hb : okBase o = true) (hn : noStar (e :: es) = true) (hl : (e :: es).length < 30)
    (line : (apos.endLine == pos.line) = true) (ho : PEm r X W o mo) (ha : PAm r X W (e :: es) ma) : PEm r X W (.Call (.Attribute o m apos) (e :: es) [] pos) (wMeth mt m mo ma) := by
  refine ⟨fun pins s σ H Q I h => ?_⟩
  obtain ⟨g, sl, bx, QD, hh, q, cQ⟩ := h
  refine PySem.W.methodCall_KW (pl := do return (← importBound o X.env).getD true) (thn (ho.run pins s σ H (fun v H1 => ∃ g1 bx1 d, Le g g1 ∧ Holds r g1 sl bx1 σ H1 ∧ RepG r.R g1 v d ∧ _) I ⟨g, sl, bx, _, hh, q, fun g1 bx1 H1 v d l h1 rv q1 => ⟨g1, bx1, d, l, h1, rv, q1⟩⟩) fun u s1 ⟨x, H1, I1, rx, g1, bx1, d, l, h1, rv, q1⟩ => ?_) (eval_meth hb hn hl line)
  obtain ⟨cc, fs, cm, ed, ef, em, q1⟩ := q1
  obtain ⟨a, C, dx, fv, ds, rfl, hC, hH, rs, rfl⟩ := h1.objAt rv ed
  obtain ⟨f, np, cl, me, F⟩ := T cc C cm hC em
  obtain rfl : u = Value.ref a := rx
  have hz : fv.length = ds.length := by rw [← rs.length, List.length_map]
  refine getmeth_ok I1 hH cl me (lookup_zipN hz ef) ?_
  refine PySem.W.callWith_K (first := [.ref a]) (h₀ := X.base) I1.ok.mod.kin me.kp (thn (ha.run pos pins s1 σ H1 (fun vs H2 => ∃ g2 bx2 es', Le g1 g2 ∧ Holds r g2 sl bx2 σ H2 ∧ RepsG r.R g2 vs es' ∧ cm (d :: es') bx2 QD (fun x b => W x sl b)) I1 ⟨g1, sl, bx1, _, h1, q1, fun g2 bx2 H2 vs es' l2 h2 rs2 q2 => ⟨g2, bx2, es', l2, h2, rs2, q2⟩⟩)
    fun us s2 ⟨vs, H2, I2, rvs, g2, bx2, es', l2, h2, rs2, q2⟩ => ⟨I2.kIn, ?_⟩) (starCons hn) (plainBack (noStar_tail hn))
  have rr : RepsG r.R g2 (.ref a :: vs) (d :: es') := .cons (l2.rep rv) rs2
  exact run_I (us := .ref a :: us) (vs := .ref a :: vs) F (by rw [rr.length]; exact F.len _ _ _ _ q2) hr hgd tk I2 (.cons rfl rvs) h2 rr q2 (cQ.le (l.trans l2))
theorem pem_meth0 {o : Expr} {mo : WE} {apos pos : Pos} (T : MethRt X.prog X.w X.K X.mg X.base r.R k m mt) (hr : Room k X.A) (hgd : X.A.guards = some []) (tk : Takes X (wxI r W)) (hb : okBase o = true)
    (line : (apos.endLine == pos.line) = true) (ho : PEm r X W o mo) : PEm r X W (.Call (.Attribute o m apos) [] [] pos) (wMeth mt m mo wNil) := by
  refine ⟨fun pins s σ H Q I h => ?_⟩
  obtain ⟨g, sl, bx, QD, hh, q, cQ⟩ := h
  refine PySem.W.methodCall_KW (pl := do return (← importBound o X.env).getD true) (thn (ho.run pins s σ H (fun v H1 => ∃ g1 bx1 d, Le g g1 ∧ Holds r g1 sl bx1 σ H1 ∧ RepG r.R g1 v d ∧ _) I ⟨g, sl, bx, _, hh, q, fun g1 bx1 H1 v d l h1 rv q1 => ⟨g1, bx1, d, l, h1, rv, q1⟩⟩) fun u s1 ⟨x, H1, I1, rx, g1, bx1, d, l, h1, rv, q1⟩ => ?_) (eval_meth hb rfl (by decide) line)
  obtain ⟨cc, fs, cm, ed, ef, em, q1⟩ := q1
  obtain ⟨a, C, dx, fv, ds, rfl, hC, hH, rs, rfl⟩ := h1.objAt rv ed
  obtain ⟨f, np, cl, me, F⟩ := T cc C cm hC em
  obtain rfl : u = Value.ref a := rx
  have hz : fv.length = ds.length := by rw [← rs.length, List.length_map]
  refine getmeth_ok I1 hH cl me (lookup_zipN hz ef) ?_
  have q1' : cm [d] bx1 QD (fun x b => W x sl b) := q1
  have rr : RepsG r.R g1 [.ref a] [d] := .cons rv .nil
  exact PySem.W.callWith_K0 (first := [.ref a]) I1.kIn me.kp (run_I (us := [.ref a]) (vs := [.ref a]) F (by rw [rr.length]; exact F.len _ _ _ _ q1') hr hgd tk I1 (.cons rfl .nil) h1 rr q1' (cQ.le l))
end

/-! ### instances made -/
/-- C(e, ..): the new instance is a box while __init__ runs; b: it stays one -/
def wMake (b : Bool) (c : Nat) (cm : CallM) (ma : WA) : WE := fun sl bx Q X => ma sl bx (fun ds bx1 => ∀ n, bx1 n = none → cm (.box n :: ds) (upb bx1 n (.obj c [])) (fun v bx2 => v = .non ∧ ∃ d, bx2 n = some d ∧ if b = true then Q (.box n) bx2 else Q d (delb bx2 n)) X) X
section
variable {r : Rn} {X : Cx} {W : WXQ} {k : Nat} {cm : CallM} {f C : Addr} {np c : Nat} {b : Bool}
theorem run_mk {g : Gx} {sl : Sl} {bx : Bx} {ds : List D} {QD : VQ} {pins : List (Addr × Obj)} {σ : L2.St} {H : Hp} {s : Shared} {Q : VK} {us : List Value} {vs : List V} (F : FnRt X.prog X.w X.K X.mg X.base r.R k cm f np) (M : Mk X.K C f) (hC : r.R.cls c = some C) (hr : Room (k + 1) X.A) (hgd : X.A.guards = some [])
    (tk : Takes X (wxI r W)) (I : Inv X pins σ H s) (rv : Vals vs us) (hh : Holds r g sl bx σ H) (rs : RepsG r.R g vs ds)
    (q : ∀ n, bx n = none → cm (.box n :: ds) (upb bx n (.obj c [])) (fun v bx2 => v = .non ∧ ∃ d, bx2 n = some d ∧ if b = true then QD (.box n) bx2 else QD d (delb bx2 n)) (fun x b => W x sl b)) (cQ : Cont r g sl σ QD Q) :
    wpAny (model X.prog X.w) X.A (call (.ref C) us) (EP X pins σ Q) X.xe s := by
  obtain ⟨fd, ps, FG, hb⟩ := F.ok
  refine run_makeG (E := L2.WE (wxI r W) σ) M FG hr hgd hb (passAt tk σ) I rv fun x dx nx nd ne => ?_
  have h1 := hh.lay0 (.own x) nd
  have nx1 : upd H dx (.own x) x = none := by rw [upd_ne (Ne.symm ne)]; exact nx
  have ht := hh.hb.top g.top (Nat.le_refl _)
  have le := Gx.le_addB (p := x) ht
  have h2 := h1.layB (o := .ins C dx []) (c := .obj c []) nx1 ⟨C, dx, [], [], hC, upd_same, .nil, rfl⟩
  have rb : RepG r.R (g.addB x) (.ref x) (.box g.top) := .box (by show (if g.top = g.top then some x else _) = _; rw [if_pos rfl])
  have q' := q g.top hh.topNone
  have rr : RepsG r.R (g.addB x) (.ref x :: vs) (.box g.top :: ds) := .cons rb (le.reps rs)
  refine ⟨g.addB x, upb bx g.top (.obj c []), .box g.top :: ds, _, _, by rw [rr.length]; exact F.len _ _ _ _ q', h2.hb, rr, q', fun g' bx' H' v d bk rv' q2 => ?_, fun g' bx' H' cls dd x bk rx q2 => ?_⟩
  · obtain ⟨rfl, d', ed, q3⟩ := q2
    cases rv'
    refine ⟨rfl, ?_⟩
    obtain ⟨le2, h3⟩ := h2.back bk
    obtain ⟨a', k1, k2, k3⟩ := h3.hb.bxs _ _ ed
    have eb : g'.b g.top = some x := le2.b _ _ (by show (if g.top = g.top then some x else _) = _; rw [if_pos rfl])
    rw [eb] at k1; cases k1
    cases b with
    | true => rw [if_pos rfl] at q3; exact cQ g' bx' H' _ _ (le.trans le2) h3 (.box eb) q3
    | false =>
      rw [if_neg Bool.false_ne_true] at q3
      obtain ⟨o, ho, rd⟩ := k3.rep k2
      obtain ⟨h4, le3⟩ := h3.freeze ed eb ho
      exact cQ _ _ H' _ _ ((le.trans le2).trans le3) h4 rd q3
  · obtain ⟨le2, h3⟩ := h2.back bk
    exact ⟨g', sl, bx', x, h3, rx, q2⟩
theorem pem_make {x : Str} {p pos : Pos} {e : Expr} {es : List Expr} {ma : WA} (F : FnRt X.prog X.w X.K X.mg X.base r.R k cm f np) (M : Mk X.K C f) (hC : r.R.cls c = some C) (hr : Room (k + 1) X.A) (hgd : X.A.guards = some []) (tk : Takes X (wxI r W)) (hg : Gl X x) (hm : X.mg x = some (.ref C))
    (hn : noStar (e :: es) = true) (ha : PAm r X W (e :: es) ma) (hdb : (x == ("__debug__" : Str)) = false) : PEm r X W (.Call (.Name x p) (e :: es) [] pos) (wMake b c cm ma) := by
  refine ⟨fun pins s σ H Q I h => ?_⟩
  obtain ⟨g, sl, bx, QD, hh, q, cQ⟩ := h
  refine wpAny_Call_Name_kw (ld_glob I hg hm ?_ hdb)
  refine PySem.W.callWith_K (h₀ := X.base) I.ok.mod.kin M.kp (thn (ha.run pos pins s σ H (fun vs H1 => ∃ g1 bx1 ds, Le g g1 ∧ Holds r g1 sl bx1 σ H1 ∧ RepsG r.R g1 vs ds ∧ _) I ⟨g, sl, bx, _, hh, q, fun g1 bx1 H1 vs ds l h1 rs q1 => ⟨g1, bx1, ds, l, h1, rs, q1⟩⟩) fun us s1 ⟨vs, H1, I1, rv, g1, bx1, ds, l, h1, rs, q1⟩ => ⟨I1.kIn, ?_⟩) (starCons hn) (plainBack (noStar_tail hn))
  exact run_mk F M hC hr hgd tk I1 rv h1 rs q1 (cQ.le l)
theorem pem_make0 {x : Str} {p pos : Pos} (F : FnRt X.prog X.w X.K X.mg X.base r.R k cm f np) (M : Mk X.K C f) (hC : r.R.cls c = some C) (hr : Room (k + 1) X.A) (hgd : X.A.guards = some []) (tk : Takes X (wxI r W)) (hg : Gl X x) (hm : X.mg x = some (.ref C))
    (hdb : (x == ("__debug__" : Str)) = false) : PEm r X W (.Call (.Name x p) [] [] pos) (wMake b c cm wNil) := by
  refine ⟨fun pins s σ H Q I h => ?_⟩
  obtain ⟨g, sl, bx, QD, hh, q, cQ⟩ := h
  refine wpAny_Call_Name_kw (ld_glob I hg hm ?_ hdb)
  exact PySem.W.callWith_K0 I.kIn M.kp (run_mk (us := []) (vs := []) (ds := []) F M hC hr hgd tk I .nil hh .nil q cQ)
end
end Mi
namespace Mi
open PySem PySem.Spec L2

/-! ### operations on values -/
/-- an operation's meaning, by the data -/
def VO (r : Rn) (X : Cx) (W : WXQ) (op : List Value → Sem Value) (c : CallM) : Prop :=
  ∀ (pins : List (Addr × Obj)) (s : Shared) (σ : L2.St) (H : Hp) (g : Gx) (sl : Sl) (bx : Bx) (ds : List D) (us : List Value) (vs : List V) (QD : VQ) (Q : VK), Inv X pins σ H s → Vals vs us → Holds r g sl bx σ H → RepsG r.R g vs ds →
    c ds bx QD (fun x b => W x sl b) → Cont r g sl σ QD Q → wpAny (model X.prog X.w) X.A (op us) (EP X pins σ Q) X.xe s
def cOr (c c' : CallM) : CallM := fun ds bx Q X => c ds bx Q X ∨ c' ds bx Q X
abbrev OB := Bx → List D → Option Rs
def cOp (b : Bool) (op : OB) : CallM := fun ds bx Q _ => ∃ rs, op bx ds = some rs ∧ fin b rs bx Q
def cl (f : Value) : List Value → Sem Value := fun us => call f us
def bi (f : Value → Value → Sem Value) : List Value → Sem Value
  | [v, u] => f v u
  | _ => pure .none
def un (f : Value → Sem Value) : List Value → Sem Value
  | [v] => f v
  | _ => pure .none
section
variable {r : Rn} {X : Cx} {W : WXQ}
theorem VO.or {op : List Value → Sem Value} {c c' : CallM} (h : VO r X W op c) (h' : VO r X W op c') : VO r X W op (cOr c c') := fun pins s σ H g sl bx ds us vs QD Q I rv hh rs q cQ => by
  rcases q with q | q
  · exact h pins s σ H g sl bx ds us vs QD Q I rv hh rs q cQ
  · exact h' pins s σ H g sl bx ds us vs QD Q I rv hh rs q cQ
theorem VO.imp {op : List Value → Sem Value} {c c' : CallM} (h : VO r X W op c) (i : ∀ ds bx Q X, c' ds bx Q X → c ds bx Q X) : VO r X W op c' := fun pins s σ H g sl bx ds us vs QD Q I rv hh rs q cQ => h pins s σ H g sl bx ds us vs QD Q I rv hh rs (i _ _ _ _ q) cQ
/-- how an operation's answer is made -/
structure OpW (r : Rn) (K : PySem.W.Frag) (b : Bool) (op : OB) (rr : List V → Hp → VK → Prop) : Prop where
  go : ∀ g sl bx σ H vs ds rs QD Q, Holds r g sl bx σ H → RepsG r.R g vs ds → op bx ds = some rs → fin b rs bx QD → Cont r g sl σ QD Q → rr vs H Q
theorem vo_callR {f : Value} {b : Bool} {op : OB} {rr : List V → Hp → VK → Prop} (h : CallR X f rr) (o : OpW r X.K b op rr) : VO r X W (cl f) (cOp b op) := fun pins s σ H g sl bx ds us vs QD Q I rv hh rs ⟨x, e1, e2⟩ cQ =>
  h pins s σ H vs us Q I rv (o.go g sl bx σ H vs ds x QD Q hh rs e1 e2 cQ)
theorem reps1 {g : Gx} {vs : List V} {d : D} (h : RepsG r.R g vs [d]) : ∃ v, vs = [v] ∧ RepG r.R g v d := by
  cases h with
  | cons h t => cases t with
    | nil => exact ⟨_, rfl, h⟩
theorem reps2 {g : Gx} {vs : List V} {d e : D} (h : RepsG r.R g vs [d, e]) : ∃ v u, vs = [v, u] ∧ RepG r.R g v d ∧ RepG r.R g u e := by
  cases h with
  | cons h t => cases t with
    | cons h' t => cases t with
      | nil => exact ⟨_, _, rfl, h, h'⟩
def o2 (op : O2) : OB := fun bx ds => match ds with
  | [d, e] => op bx d e
  | _ => none
/-- from the operators' rules -/
theorem vo_opR {f : Value → Value → Sem Value} {b : Bool} {op : O2} (h : OpR X f (rI2 r b op)) : VO r X W (bi f) (cOp b (o2 op)) := fun pins s σ H g sl bx ds us vs QD Q I rv hh rs ⟨x, e1, e2⟩ cQ => by
  match ds, e1, rs with
  | [d, e], e1, rs =>
    obtain ⟨v, u, rfl, r1, r2⟩ := reps2 rs
    cases rv with
    | cons q1 t => cases t with
      | cons q2 t => cases t with
        | nil => exact h pins s σ H v u _ _ Q I q1 q2 ⟨g, sl, bx, σ, d, e, x, QD, hh, r1, r2, e1, e2, cQ⟩
end
/-- what is said of two operands -/
def wOp2 (c : CallM) (ma mb : WE) : WE := fun sl bx Q X => ma sl bx (fun d bx1 => mb sl bx1 (fun e bx2 => c [d, e] bx2 Q X) X) X
def wOp1 (c : CallM) (ma : WE) : WE := fun sl bx Q X => ma sl bx (fun d bx1 => c [d] bx1 Q X) X
section
variable {r : Rn} {X : Cx} {W : WXQ} {c : CallM}
theorem two_I {ea eb : Expr} {ma mb : WE} {f : Value → Value → Sem Value} (ho : VO r X W (bi f) c) (ha : PEm r X W ea ma) (hb : PEm r X W eb mb) {pins : List (Addr × Obj)} {s : Shared} {σ : L2.St} {H : Hp} {Q : VK} (I : Inv X pins σ H s) (h : tI r W (wOp2 c ma mb) σ H Q) :
    wpAny (model X.prog X.w) X.A (eval ea X.env) (fun v s₁ => wpAny (model X.prog X.w) X.A (eval eb X.env) (fun u s₂ => wpAny (model X.prog X.w) X.A (f v u) (EP X pins σ Q) X.xe s₂) X.xe s₁) X.xe s := by
  obtain ⟨g, sl, bx, QD, hh, q, cQ⟩ := h
  refine thn (ha.run pins s σ H (fun v H1 => ∃ g1 bx1 d, Le g g1 ∧ Holds r g1 sl bx1 σ H1 ∧ RepG r.R g1 v d ∧ _) I ⟨g, sl, bx, _, hh, q, fun g1 bx1 H1 v d l h1 rv q1 => ⟨g1, bx1, d, l, h1, rv, q1⟩⟩) fun v s1 ⟨x, H1, I1, r1, g1, bx1, d, l1, h1, rv1, q1⟩ => ?_
  refine thn (hb.run pins s1 σ H1 (fun v H1 => ∃ g2 bx2 e, Le g1 g2 ∧ Holds r g2 sl bx2 σ H1 ∧ RepG r.R g2 v e ∧ _) I1 ⟨g1, sl, bx1, _, h1, q1, fun g2 bx2 H2 v e l h2 rv q2 => ⟨g2, bx2, e, l, h2, rv, q2⟩⟩) fun u s2 ⟨y, H2, I2, r2, g2, bx2, e, l2, h2, rv2, q2⟩ => ?_
  exact ho pins s2 σ H2 g2 sl bx2 [d, e] [v, u] [x, y] QD Q I2 (.cons r1 (.cons r2 .nil)) h2 (.cons (l2.rep rv1) (.cons rv2 .nil)) q2 (cQ.le (l1.trans l2))
theorem pem_op2 {ea eb : Expr} {ma mb : WE} {f : Operator} {pos : Pos} (ho : VO r X W (bi (binaryOp f)) c) (ha : PEm r X W ea ma) (hb : PEm r X W eb mb) : PEm r X W (.BinOp ea f eb pos) (wOp2 c ma mb) :=
  ⟨fun pins s σ H Q I h => wpAny_BinOp (two_I ho ha hb I h)⟩
theorem pem_cmp2 {ea eb : Expr} {ma mb : WE} {f : CmpOp} {pos : Pos} (ho : VO r X W (bi (compareOp f)) c) (ha : PEm r X W ea ma) (hb : PEm r X W eb mb) (hm : behindInMarks f eb = false) : PEm r X W (.Compare ea [f] [eb] pos) (wOp2 c ma mb) :=
  ⟨fun pins s σ H Q I h => wpAny_Compare1 (two_I ho ha hb I h) hm⟩
theorem ptm_cmp2 {ea eb : Expr} {ma mb : WE} {f : CmpOp} {pos : Pos} (ho : VO r X W (bi (compareOp f)) c) (ha : PEm r X W ea ma) (hb : PEm r X W eb mb) (hm : behindInMarks f eb = false) : PTm r X W (.Compare ea [f] [eb] pos) (wtB (wOp2 c ma mb)) :=
  ⟨fun pins s σ H Q I h => by
    obtain ⟨g, sl, bx, QD, hh, q, cQ⟩ := h
    refine wpAny_isTrue_Compare1 (thn (ha.run pins s σ H (fun v H1 => ∃ g1 bx1 d, Le g g1 ∧ Holds r g1 sl bx1 σ H1 ∧ RepG r.R g1 v d ∧ _) I ⟨g, sl, bx, _, hh, q, fun g1 bx1 H1 v d l h1 rv q1 => ⟨g1, bx1, d, l, h1, rv, q1⟩⟩) fun v s1 ⟨x, H1, I1, r1, g1, bx1, d, l1, h1, rv1, q1⟩ => ?_) hm
    refine thn (hb.run pins s1 σ H1 (fun v H1 => ∃ g2 bx2 e, Le g1 g2 ∧ Holds r g2 sl bx2 σ H1 ∧ RepG r.R g2 v e ∧ _) I1 ⟨g1, sl, bx1, _, h1, q1, fun g2 bx2 H2 v e l h2 rv q2 => ⟨g2, bx2, e, l, h2, rv, q2⟩⟩) fun u s2 ⟨y, H2, I2, r2, g2, bx2, e, l2, h2, rv2, q2⟩ => ?_
    refine thn (ho pins s2 σ H2 g2 sl bx2 [d, e] [v, u] [x, y] _ (fun z H3 => ∃ k, z = .bl k ∧ Q k H3) I2 (.cons r1 (.cons r2 .nil)) h2 (.cons (l2.rep rv1) (.cons rv2 .nil)) q2 fun g3 bx3 H3 z dz l3 h3 rz q3 => ?_) fun w s3 ⟨z, H3, I3, r3, k, e, q3⟩ => ?_
    · obtain ⟨k, rfl, q3⟩ := q3
      cases rz
      exact ⟨k, rfl, cQ _ _ _ _ ((l1.trans l2).trans l3) h3 q3⟩
    · subst e
      cases r3
      exact wpAny_truthy_bool ⟨H3, I3, q3⟩⟩
/-- f(e, ..) of a built-in function, a built-in type -/
theorem pem_blt {x : Str} {p pos : Pos} {e : Expr} {es : List Expr} {m : WA} {id : String} (hc : VO r X W (cl (.builtin id)) c) (hg : Gl X x) (hm : X.mg x = none) (hv : bootBuiltins x = some (.builtin id)) (ha : PAm r X W (e :: es) m) (hn : x ≠ "__name__") (hdb : (x == ("__debug__" : Str)) = false)
    (hs : noStar (e :: es) = true) : PEm r X W (.Call (.Name x p) (e :: es) [] pos) (wCall c m) := by
  refine ⟨fun pins s σ H Q I h => ?_⟩
  obtain ⟨g, sl, bx, QD, hh, q, cQ⟩ := h
  refine wpAny_Call_Name_kw (ld_blt I hg hm hv ?_ hn hdb)
  exact PyProof.Rows.callWith_builtin1 (thn (ha.run pos pins s σ H (fun vs H1 => ∃ g1 bx1 ds, Le g g1 ∧ Holds r g1 sl bx1 σ H1 ∧ RepsG r.R g1 vs ds ∧ c ds bx1 QD (fun x b => W x sl b)) I ⟨g, sl, bx, _, hh, q, fun g1 bx1 H1 vs ds l h1 rs q1 => ⟨g1, bx1, ds, l, h1, rs, q1⟩⟩) fun us s1 ⟨vs, H1, I1, rv, g1, bx1, ds, l, h1, rs, q1⟩ =>
    hc pins s1 σ H1 g1 sl bx1 ds us vs QD Q I1 rv h1 rs q1 (cQ.le l)) (starCons hs) (plainBack (noStar_tail hs))
theorem pem_bltT {x : Str} {p pos : Pos} {e : Expr} {es : List Expr} {m : WA} {id : String} (hc : VO r X W (cl (.type id)) c) (hg : Gl X x) (hm : X.mg x = none) (hv : bootBuiltins x = some (.type id)) (ha : PAm r X W (e :: es) m) (hn : x ≠ "__name__") (hdb : (x == ("__debug__" : Str)) = false)
    (hs : noStar (e :: es) = true) : PEm r X W (.Call (.Name x p) (e :: es) [] pos) (wCall c m) := by
  refine ⟨fun pins s σ H Q I h => ?_⟩
  obtain ⟨g, sl, bx, QD, hh, q, cQ⟩ := h
  refine wpAny_Call_Name_kw (ld_blt I hg hm hv ?_ hn hdb)
  exact PyProof.Rows.callWith_type1 (thn (ha.run pos pins s σ H (fun vs H1 => ∃ g1 bx1 ds, Le g g1 ∧ Holds r g1 sl bx1 σ H1 ∧ RepsG r.R g1 vs ds ∧ c ds bx1 QD (fun x b => W x sl b)) I ⟨g, sl, bx, _, hh, q, fun g1 bx1 H1 vs ds l h1 rs q1 => ⟨g1, bx1, ds, l, h1, rs, q1⟩⟩) fun us s1 ⟨vs, H1, I1, rv, g1, bx1, ds, l, h1, rs, q1⟩ =>
    hc pins s1 σ H1 g1 sl bx1 ds us vs QD Q I1 rv h1 rs q1 (cQ.le l)) (starCons hs) (plainBack (noStar_tail hs))
end

/-! ### the content as a sequence -/
def seqL : D → Option (List D)
  | .lst ds => some ds
  | .rol ds => some ds
  | _ => none
def seqT : D → Option (List D)
  | .tup ds => some ds
  | .rot ds => some ds
  | _ => none
section
variable {r : Rn} {g : Gx} {sl : Sl} {bx : Bx} {σ : L2.St} {H : Hp} {v : V} {d : D}
theorem Holds.seqLAt {K : PySem.W.Frag} {e : D} {ds : List D} (hK : K = r.R.K) (h : Holds r g sl bx σ H) (rv : RepG r.R g v d) (e1 : dr bx d = some e) (e2 : seqL e = some ds) : ∃ a vs, v = .ref a ∧ SqL K H a vs ∧ RepsG r.R g vs ds := by
  subst hK
  cases e with
  | lst x =>
    simp [seqL] at e2; subst e2
    obtain ⟨a, vs, rfl, k1, k2⟩ := h.lstAt rv e1
    exact ⟨a, vs, rfl, SqL.of k1, k2⟩
  | rol x =>
    simp [seqL] at e2; subst e2
    cases rv with
    | rol h1 h2 => simp [dr] at e1; subst e1; exact ⟨_, _, rfl, h.hb.sub.sqL h1, h2⟩
    | box h1 =>
      simp [dr] at e1
      obtain ⟨a, k1, k2, k3⟩ := h.hb.bxs _ _ e1
      exact k3.elim
    | _ => simp [dr] at e1
  | _ => simp [seqL] at e2
theorem Holds.seqTAt {K : PySem.W.Frag} {e : D} {ds : List D} (hK : K = r.R.K) (h : Holds r g sl bx σ H) (rv : RepG r.R g v d) (e1 : dr bx d = some e) (e2 : seqT e = some ds) : ∃ a vs, v = .ref a ∧ SqT K H a vs ∧ RepsG r.R g vs ds := by
  subst hK
  cases e with
  | tup x =>
    simp [seqT] at e2; subst e2
    obtain ⟨a, vs, rfl, k1, k2⟩ := h.tupAt rv e1
    exact ⟨a, vs, rfl, .inl (.inl k1), k2⟩
  | rot x =>
    simp [seqT] at e2; subst e2
    cases rv with
    | rot h1 h2 => simp [dr] at e1; subst e1; exact ⟨_, _, rfl, h.hb.sub.sqT h1, h2⟩
    | box h1 =>
      simp [dr] at e1
      obtain ⟨a, k1, k2, k3⟩ := h.hb.bxs _ _ e1
      exact k3.elim
    | _ => simp [dr] at e1
  | _ => simp [seqT] at e2
theorem DicAt.len {R : Rt} {a : Addr} {t : Bool} {kvs : List (D × D)} (h : DicAt R g H a t kvs) : (t = false ∧ ∃ kv, Rd H a (.dK kv) ∧ kv.length = kvs.length) ∨ (t = true ∧ ∃ kv, Rd H a (.dT kv) ∧ kv.length = kvs.length) := by
  cases t with
  | false =>
    obtain ⟨kv, ds, h1, h2, rfl⟩ := h
    have := h2.length
    exact .inl ⟨rfl, kv, h1, by simp at this ⊢; omega⟩
  | true =>
    obtain ⟨kv, ds, h1, h2, rfl⟩ := h
    have := h2.length
    exact .inr ⟨rfl, kv, h1, by simp at this ⊢; omega⟩
end

/-! ### len, abs, int, str, list, tuple -/
section
variable {X : Cx}
theorem call_len_dTr : CallR X (.builtin "len") (fun xs H Q => ∃ (p : Addr) (kvs : List (List L2.Key × V)), xs = [.ref p] ∧ Rd H p (.dT kvs) ∧ Q (.int ((kvs.length : Nat) : Int)) H) := by
  intro pins s σ H xs us Q I r h
  obtain ⟨p, kvs, rfl, hp, q⟩ := h
  obtain ⟨u, rfl, rx⟩ := vals1 r
  obtain rfl : u = .ref p := rx
  obtain ⟨z, hd, ys, rel, dd⟩ := dt_rd I.hok hp
  have hl : kvs.length = ys.length := Paired.length rel
  refine call_len_dictH hd dd (by rw [← hl]; rw [sizeLine_eq] at z; omega) ?_
  rw [← hl]
  exact ⟨.int ((kvs.length : Nat) : Int), H, I.tok _, ⟨_, rfl⟩, q⟩
theorem call_len_dKr : CallR X (.builtin "len") (fun xs H Q => ∃ (p : Addr) (kvs : List (L2.Key × V)), xs = [.ref p] ∧ Rd H p (.dK kvs) ∧ Q (.int ((kvs.length : Nat) : Int)) H) := by
  intro pins s σ H xs us Q I r h
  obtain ⟨p, kvs, rfl, hp, q⟩ := h
  obtain ⟨u, rfl, rx⟩ := vals1 r
  obtain rfl : u = .ref p := rx
  exact d_len I hp fun t s' I' => ⟨.int ((kvs.length : Nat) : Int), H, I', ⟨_, rfl⟩, q⟩
end
def dLen : OB := fun bx ds => match ds with
  | [d] => match dr bx d with
    | some (.lst ds) => some (.val (.int ds.length))
    | some (.rol ds) => some (.val (.int ds.length))
    | some (.tup ds) => some (.val (.int ds.length))
    | some (.rot ds) => some (.val (.int ds.length))
    | some (.dic _ kvs) => some (.val (.int kvs.length))
    | some (.str x) => if x.length ≤ sizeLine then some (.val (.int x.length)) else none
    | _ => none
  | _ => none
section
variable {r : Rn} {X : Cx} {W : WXQ}
theorem lenW {b : Bool} (hK : X.K = r.R.K) : OpW r X.K b dLen (fun xs H Q => (∃ x n, xs = [x] ∧ LenV X.K x H n ∧ Q (.int n) H) ∨ (∃ (p : Addr) (kvs : List (L2.Key × V)), xs = [.ref p] ∧ Rd H p (.dK kvs) ∧ Q (.int ((kvs.length : Nat) : Int)) H) ∨
    (∃ (p : Addr) (kvs : List (List L2.Key × V)), xs = [.ref p] ∧ Rd H p (.dT kvs) ∧ Q (.int ((kvs.length : Nat) : Int)) H)) := ⟨fun g sl bx σ H vs ds rs QD Q hh hr e1 e2 cQ => by
  match ds, e1, hr with
  | [d], e1, hr =>
    obtain ⟨v, rfl, rv⟩ := reps1 hr
    simp only [dLen] at e1
    split at e1
    · rename_i ds ed
      obtain ⟨a, vs, rfl, k1, k2⟩ := hh.seqLAt (ds := ds) hK rv ed rfl
      cases e1
      exact .inl ⟨_, _, rfl, .inl ⟨vs, k1, rfl⟩, by rw [k2.length]; exact cQ.at hh (.int _) e2⟩
    · rename_i ds ed
      obtain ⟨a, vs, rfl, k1, k2⟩ := hh.seqLAt (ds := ds) hK rv ed rfl
      cases e1
      exact .inl ⟨_, _, rfl, .inl ⟨vs, k1, rfl⟩, by rw [k2.length]; exact cQ.at hh (.int _) e2⟩
    · rename_i ds ed
      obtain ⟨a, vs, rfl, k1, k2⟩ := hh.seqTAt (ds := ds) hK rv ed rfl
      cases e1
      exact .inl ⟨_, _, rfl, .inr ⟨vs, k1, rfl⟩, by rw [k2.length]; exact cQ.at hh (.int _) e2⟩
    · rename_i ds ed
      obtain ⟨a, vs, rfl, k1, k2⟩ := hh.seqTAt (ds := ds) hK rv ed rfl
      cases e1
      exact .inl ⟨_, _, rfl, .inr ⟨vs, k1, rfl⟩, by rw [k2.length]; exact cQ.at hh (.int _) e2⟩
    · rename_i t kvs ed
      obtain ⟨a, rfl, hd⟩ := hh.dicAt rv ed
      cases e1
      rcases hd.len with ⟨_, kv, k1, k2⟩ | ⟨_, kv, k1, k2⟩
      · exact .inr (.inl ⟨a, kv, rfl, k1, by rw [k2]; exact cQ.at hh (.int _) e2⟩)
      · exact .inr (.inr ⟨a, kv, rfl, k1, by rw [k2]; exact cQ.at hh (.int _) e2⟩)
    · rename_i x ed
      have := dr_str hh rv ed
      subst this
      split at e1
      · rename_i hz
        cases e1
        exact .inl ⟨_, _, rfl, ⟨hz, rfl⟩, cQ.at hh (.int _) e2⟩
      · cases e1
    · cases e1⟩
theorem vo_len {b : Bool} (hK : X.K = r.R.K) : VO r X W (cl (.builtin "len")) (cOp b dLen) := vo_callR (CallR.or call_len (CallR.or call_len_dKr call_len_dTr)) (lenW hK)

def dAbs : OB := fun bx ds => match ds with
  | [.int i] => some (.val (.int (if i < 0 then -i else i)))
  | _ => none
theorem vo_abs {b : Bool} : VO r X W (cl (.builtin "abs")) (cOp b dAbs) := vo_callR call_abs ⟨fun g sl bx σ H vs ds rs QD Q hh hr e1 e2 cQ => by
  simp only [dAbs] at e1
  split at e1
  · cases e1
    obtain ⟨v, rfl, rv⟩ := reps1 hr
    cases rv
    exact ⟨_, rfl, cQ.at hh (.int _) e2⟩
  · cases e1⟩
def dInt : OB := fun bx ds => match ds with
  | [.int i] => some (.val (.int i))
  | [.bl k] => some (.val (.int (if k then 1 else 0)))
  | [.str a] => match PySem.intText? a with
    | some n => if a.length ≤ 640 then some (.val (.int n)) else none
    | none => none
  | _ => none
theorem vo_int {b : Bool} : VO r X W (cl (.type "int")) (cOp b dInt) := vo_callR (CallR.or call_int1 call_int_str) ⟨fun g sl bx σ H vs ds rs QD Q hh hr e1 e2 cQ => by
  simp only [dInt] at e1
  split at e1
  · cases e1
    obtain ⟨v, rfl, rv⟩ := reps1 hr
    cases rv
    exact .inl (.inl ⟨_, rfl, cQ.at hh (.int _) e2⟩)
  · cases e1
    obtain ⟨v, rfl, rv⟩ := reps1 hr
    cases rv
    exact .inl (.inr ⟨_, rfl, cQ.at hh (.int _) e2⟩)
  · split at e1
    · rename_i n en
      split at e1
      · rename_i hl
        cases e1
        obtain ⟨v, rfl, rv⟩ := reps1 hr
        cases rv
        exact .inr ⟨_, n, rfl, en, hl, cQ.at hh (.int _) e2⟩
      · cases e1
    · cases e1
  · cases e1⟩
def dStr : OB := fun bx ds => match ds with
  | [.int i] => if i.natAbs.log2 < 1920 then some (.val (.str (toString i))) else none
  | _ => none
theorem vo_str {b : Bool} : VO r X W (cl (.type "str")) (cOp b dStr) := vo_callR call_str_int ⟨fun g sl bx σ H vs ds rs QD Q hh hr e1 e2 cQ => by
  simp only [dStr] at e1
  split at e1
  · split at e1
    · rename_i hl
      cases e1
      obtain ⟨v, rfl, rv⟩ := reps1 hr
      cases rv
      exact ⟨_, rfl, hl, cQ.at hh (.str _) e2⟩
    · cases e1
  · cases e1⟩
/-- the key tuples join the frozen part -/
theorem Holds.adoptKeys {sl : Sl} {bx : Bx} {σ : L2.St} {H : Hp} : ∀ {kvs : List (List L2.Key × V)} {bs : List Addr} {g : Gx}, Holds r g sl bx σ H → IsKeys H kvs bs → ∃ g', Le g g' ∧ Holds r g' sl bx σ H ∧ RepsG r.R g' (bs.map V.ref) (kvs.map fun p => keysD p.1)
  | [], _, g, h, .nil => ⟨g, Le.refl _, h, .nil⟩
  | p :: kvs, b :: bs, g, h, .cons h1 h2 => by
    obtain ⟨g1, l1, k1, f1⟩ := h.adopt h1
    obtain ⟨g2, l2, k2, f2⟩ := Holds.adoptKeys (g := g1) k1 h2
    refine ⟨g2, l1.trans l2, k2, .cons (.tup (l2.F.ls _ _ rfl f1) ?_) f2⟩
    exact reps_keysD p.1
def dList : OB := fun bx ds => match ds with
  | [d] => match dr bx d with
    | some (.lst ds) => some (.new (.lst ds))
    | some (.rol ds) => some (.new (.lst ds))
    | some (.tup ds) => some (.new (.lst ds))
    | some (.rot ds) => some (.new (.lst ds))
    | some (.dic _ kvs) => some (.new (.lst (kvs.map (·.1))))
    | _ => none
  | _ => none
theorem vo_list {b : Bool} (hK : X.K = r.R.K) (hc : X.calm = true) : VO r X W (cl (.type "list")) (cOp b dList) := vo_callR (CallR.or call_list_of (CallR.or (call_listD hc) (call_list_dT hc))) ⟨fun g sl bx σ H vs ds rs QD Q hh hr e1 e2 cQ => by
  match ds, e1, hr with
  | [d], e1, hr =>
    obtain ⟨v, rfl, rv⟩ := reps1 hr
    simp only [dList] at e1
    split at e1
    · rename_i ds ed
      obtain ⟨a, vs, rfl, k1, k2⟩ := hh.seqLAt (ds := ds) hK rv ed rfl
      cases e1
      exact .inl ⟨a, vs, rfl, .inl k1, fin_lst hh k2 e2 cQ⟩
    · rename_i ds ed
      obtain ⟨a, vs, rfl, k1, k2⟩ := hh.seqLAt (ds := ds) hK rv ed rfl
      cases e1
      exact .inl ⟨a, vs, rfl, .inl k1, fin_lst hh k2 e2 cQ⟩
    · rename_i ds ed
      obtain ⟨a, vs, rfl, k1, k2⟩ := hh.seqTAt (ds := ds) hK rv ed rfl
      cases e1
      exact .inl ⟨a, vs, rfl, .inr k1, fin_lst hh k2 e2 cQ⟩
    · rename_i ds ed
      obtain ⟨a, vs, rfl, k1, k2⟩ := hh.seqTAt (ds := ds) hK rv ed rfl
      cases e1
      exact .inl ⟨a, vs, rfl, .inr k1, fin_lst hh k2 e2 cQ⟩
    · rename_i t kvs ed
      obtain ⟨a, rfl, hd⟩ := hh.dicAt rv ed
      cases e1
      cases t with
      | false =>
        obtain ⟨kv, ds, k1, k2, rfl⟩ := hd
        have hz : kv.length = ds.length := by rw [← k2.length, List.length_map]
        rw [zip_fst (by simpa using hz)] at e2
        have rk : ∀ kv : List (L2.Key × V), RepsG r.R g (kv.map fun p => kV p.1) (kv.map fun p => keyD p.1) := fun kv => by
          induction kv with
          | nil => exact .nil
          | cons p kv ih => exact .cons (rep_kV p.1) ih
        exact .inr (.inl ⟨a, kv, rfl, k1, fin_lst hh (rk kv) e2 cQ⟩)
      | true =>
        obtain ⟨kv, ds, k1, k2, rfl⟩ := hd
        have hz : kv.length = ds.length := by rw [← k2.length, List.length_map]
        rw [zip_fst (by simpa using hz)] at e2
        refine .inr (.inr ⟨a, kv, rfl, k1, fun p bs hp hk => ?_⟩)
        obtain ⟨g', l', h', rs'⟩ := hh.adoptKeys hk
        exact fin_lst h' rs' e2 (cQ.le l') p hp
    · cases e1⟩
def dTuple : OB := fun bx ds => match ds with
  | [d] => match dr bx d with
    | some (.lst ds) => some (.val (.tup ds))
    | some (.rol ds) => some (.val (.tup ds))
    | some (.tup ds) => some (.val (.tup ds))
    | _ => none
  | _ => none
theorem vo_tuple {b : Bool} (hK : X.K = r.R.K) : VO r X W (cl (.type "tuple")) (cOp b dTuple) := vo_callR call_tuple_of ⟨fun g sl bx σ H vs ds rs QD Q hh hr e1 e2 cQ => by
  match ds, e1, hr with
  | [d], e1, hr =>
    obtain ⟨v, rfl, rv⟩ := reps1 hr
    simp only [dTuple] at e1
    split at e1
    · rename_i ds ed
      obtain ⟨a, vs, rfl, k1, k2⟩ := hh.seqLAt (ds := ds) hK rv ed rfl
      cases e1
      exact ⟨a, vs, rfl, .inl ⟨k1, fin_tup (b := b) hh k2 e2 cQ⟩⟩
    · rename_i ds ed
      obtain ⟨a, vs, rfl, k1, k2⟩ := hh.seqLAt (ds := ds) hK rv ed rfl
      cases e1
      exact ⟨a, vs, rfl, .inl ⟨k1, fin_tup (b := b) hh k2 e2 cQ⟩⟩
    · rename_i ds ed
      obtain ⟨a, vs, rfl, k1, k2⟩ := hh.seqTAt (ds := ds) hK rv ed rfl
      cases e1
      cases rv with
      | tup q1 q2 =>
        simp [dr] at ed; subst ed
        exact ⟨a, vs, rfl, .inr ⟨k1, cQ.at hh (.tup q1 q2) e2⟩⟩
      | box q1 =>
        simp [dr] at ed
        obtain ⟨_, _, _, k3⟩ := hh.hb.bxs _ _ ed
        exact k3.elim
      | _ => simp [dr] at ed
    · cases e1⟩
end
end Mi
namespace Mi
open PySem PySem.Spec L2

/-! ### a def called from within a builtin -/
section
variable {X : Cx} {CX : CXT} {k : Nat} {f C : Addr} {fd : FuncData} {ps : List Str} {sp : Sp} {E : XK}
theorem run_fnA {A : Around} {pins : List (Addr × Obj)} {σ : L2.St} {H : Hp} {s : Shared} {Q : VK} {us : List Value} {vs : List V} (F : FnG X.prog X.w X.K X.mg X.base CX k f fd ps sp) (fr : A.frames = X.A.frames) (hr : Room k A) (hgd : A.guards = some []) (hb : Binds X.K fd ps []) (hx : PassesAt CX X σ E)
    (I : Inv X pins σ H s) (r : Vals vs us) (h : sp vs H Q E) : wpAny (model X.prog X.w) A (call (.ref f) us) (EP X pins σ Q) X.xe s := by
  have hl : (us ++ []).length = ps.length := by rw [List.append_nil, ← r.length]; exact F.len _ _ _ _ h
  have hb' := hb s us I.kIn hl
  rw [List.append_nil] at hb'
  have e0 : Env0 X.prog X.w X.K X.mg X.base A X.stack s H := by
    have e := I.env0
    exact ⟨by rw [fr]; exact e.frames, e.mod, e.bs, e.bsz, e.funs, e.frf, e.hok, e.bare⟩
  refine wpAny_call (codeAny_mono (F.run A X.stack s H ⟨us, []⟩ us vs Q E hr hgd e0 hb' r h) fun r s' hq => ?_)
  cases r with
  | error e => exact hx pins H s e s' I hq
  | ok fl =>
    cases fl with
    | ret u => exact I.after hq
    | next => exact False.elim hq
    | brk => exact False.elim hq
    | cont => exact False.elim hq
end
/-- a place below the running body -/
structure Blw (X : Cx) (k : Nat) (A : Around) : Prop where
  fr : A.frames = X.A.frames
  room : Room k A
  gd : A.guards = some []
theorem Blw.here {X : Cx} {k : Nat} (hr : Room k X.A) (hgd : X.A.guards = some []) : Blw X k X.A := ⟨rfl, hr, hgd⟩
theorem Blw.in1 {X : Cx} {k : Nat} {A : Around} (h : Blw X (k + 1) A) : Blw X k A.in1 := ⟨h.fr, h.room.in1, h.gd⟩
section
variable {r : Rn} {X : Cx} {W : WXQ} {k : Nat} {c : CallM} {a : Addr} {np : Nat}
theorem run_IA {A : Around} {g : Gx} {sl : Sl} {bx : Bx} {ds : List D} {QD : VQ} {pins : List (Addr × Obj)} {σ : L2.St} {H : Hp} {s : Shared} {Q : VK} {us : List Value} {vs : List V} (F : FnRt X.prog X.w X.K X.mg X.base r.R k c a np) (B : Blw X k A)
    (tk : Takes X (wxI r W)) (I : Inv X pins σ H s) (rv : Vals vs us) (hh : Holds r g sl bx σ H) (rs : RepsG r.R g vs ds) (q : c ds bx QD (fun x b => W x sl b)) (cQ : Cont r g sl σ QD Q) : wpAny (model X.prog X.w) A (call (.ref a) us) (EP X pins σ Q) X.xe s := by
  obtain ⟨fd, ps, FG, hb⟩ := F.ok
  have hn : vs.length = np := by rw [rs.length]; exact F.len _ _ _ _ q
  refine run_fnA (E := L2.WE (wxI r W) σ) FG B.fr B.room B.gd hb (passAt tk σ) I rv ⟨g, bx, ds, QD, _, hn, hh.hb, rs, q, fun g' bx' H' v d bk rv' q' => ?_, fun g' bx' H' cls dd x bk rx q' => ?_⟩
  · obtain ⟨le, h'⟩ := hh.back bk
    exact cQ g' bx' H' v d le h' rv' q'
  · obtain ⟨le, h'⟩ := hh.back bk
    exact ⟨g', sl, bx', x, h', rx, q'⟩
end

/-! ### operators of own classes -/
structure OwnRt (P : Program) (w : World) (K : PySem.W.Frag) (mg : Str → Option Value) (base : Heap) (R : Rt) (k : Nat) (name : Str) (mt : Nat → Option CallM) : Prop where
  go : ∀ c C cm, R.cls c = some C → mt c = some cm → ∃ a np, FnRt P w K mg base R k cm a np ∧ PySem.W.findIn K (.ref C) name = some (some (.ref a)) ∧ PySem.W.isFn K (.ref a) = true ∧ PySem.W.selfFirst K C = true
/-- the class of a value that is an instance -/
def clsD (bx : Bx) (d : D) : Option Nat := match dr bx d with
  | some (.obj c _) => some c
  | _ => none
theorem clsD_at {bx : Bx} {d : D} {c : Nat} (e : clsD bx d = some c) : ∃ fs, dr bx d = some (.obj c fs) := by
  unfold clsD at e
  split at e
  · rename_i fs ed; cases e; exact ⟨fs, ed⟩
  · cases e
/-- x op y: both of one class -/
def cOwn2 (mt : Nat → Option CallM) : CallM := fun ds bx Q X => ∃ d e c cm, ds = [d, e] ∧ clsD bx d = some c ∧ clsD bx e = some c ∧ mt c = some cm ∧ cm [d, e] bx Q X
/-- .. the answer is turned -/
def cOwn2N (mt : Nat → Option CallM) : CallM := fun ds bx Q X => ∃ d e c cm, ds = [d, e] ∧ clsD bx d = some c ∧ clsD bx e = some c ∧ mt c = some cm ∧ cm [d, e] bx (fun v bx' => ∃ k, v = .bl k ∧ Q (.bl (!k)) bx') X
def cOwn1 (mt : Nat → Option CallM) : CallM := fun ds bx Q X => ∃ d c cm, ds = [d] ∧ clsD bx d = some c ∧ mt c = some cm ∧ cm [d] bx Q X
def cOwnLen (mt : Nat → Option CallM) : CallM := fun ds bx Q X => ∃ d c cm, ds = [d] ∧ clsD bx d = some c ∧ mt c = some cm ∧ cm [d] bx (fun v bx' => ∃ n : Int, v = .int n ∧ 0 ≤ n ∧ n < 2 ^ 63 ∧ Q (.int n) bx') X
/-- y in x -/
def cOwnIn (neg : Bool) (mt : Nat → Option CallM) : CallM := fun ds bx Q X => ∃ e d c cm, ds = [e, d] ∧ clsD bx d = some c ∧ mt c = some cm ∧ cm [d, e] bx (fun v bx' => ∃ k, v = .bl k ∧ Q (.bl (k != neg)) bx') X
theorem relRef (a : Addr) : RelV (.ref a) (.ref a) := rfl
theorem cmpBack_of {X : Cx} {pins : List (Addr × Obj)} {σ : L2.St} {Q : VK} {v : Value} {s : Shared} (h : EP X pins σ Q v s) : PySem.W.CmpBack (EP X pins σ Q) v s := by
  cases v with
  | notImplemented =>
    obtain ⟨x, H', I, rx, q⟩ := h
    cases x with
    | str _ => obtain ⟨_, z⟩ := rx; cases z
    | int _ => obtain ⟨_, z⟩ := rx; cases z
    | flt _ => obtain ⟨_, z⟩ := rx; cases z
    | byt _ => obtain ⟨_, z⟩ := rx; cases z
    | _ => cases rx
  | _ => exact h
section
variable {r : Rn} {X : Cx} {W : WXQ} {k : Nat} {mt : Nat → Option CallM}
theorem vo_own2 {op : Operator} (T : OwnRt X.prog X.w X.K X.mg X.base r.R k (PySem.dunder op.info.2) mt) (B : Blw X k X.A) (tk : Takes X (wxI r W)) : VO r X W (bi (binaryOp op)) (cOwn2 mt) := fun pins s σ H g sl bx ds us vs QD Q I rv hh rs ⟨d, e, c, cm, eds, e1, e2, em, q⟩ cQ => by
  subst eds
  obtain ⟨v, u, rfl, r1, r2⟩ := reps2 rs
  obtain ⟨fs, e1⟩ := clsD_at e1
  obtain ⟨fs2, e2⟩ := clsD_at e2
  obtain ⟨x, C, dx, fv, ds1, rfl, hC, hx, _, _⟩ := hh.objAt r1 e1
  obtain ⟨y, C', dy, fv2, ds2, rfl, hC', hy, _, _⟩ := hh.objAt r2 e2
  rw [hC] at hC'; cases hC'
  obtain ⟨a, np, F, hs, hf, hc⟩ := T.go c C cm hC em
  cases rv with | cons q1 t => cases t with | cons q2 t => cases t with | nil =>
  cases q1; cases q2
  obtain ⟨mA, J, _⟩ := ins_get I.hok hx
  obtain ⟨mB, J', _⟩ := ins_get I.hok hy
  obtain ⟨od, J, _⟩ := J.look
  obtain ⟨od', J', _⟩ := J'.look
  obtain ⟨m, hF⟩ := I.fr
  exact PySem.W.binop_K hF I.ok.mod.kin J J'.type hc hs hf (wpAny_mono (run_IA F B tk I (.cons (relRef x) (.cons (relRef y) .nil)) hh rs q cQ) (fun _ _ z => cmpBack_of z) fun _ _ z => z)
theorem vo_ownCmp {op : CmpOp} (ho : compareOp op = richCompare op) (T : OwnRt X.prog X.w X.K X.mg X.base r.R k (cmpInfo op).2.1 mt) (B : Blw X k X.A) (tk : Takes X (wxI r W)) : VO r X W (bi (compareOp op)) (cOwn2 mt) := fun pins s σ H g sl bx ds us vs QD Q I rv hh rs ⟨d, e, c, cm, eds, e1, e2, em, q⟩ cQ => by
  subst eds
  obtain ⟨v, u, rfl, r1, r2⟩ := reps2 rs
  obtain ⟨fs, e1⟩ := clsD_at e1
  obtain ⟨fs2, e2⟩ := clsD_at e2
  obtain ⟨x, C, dx, fv, ds1, rfl, hC, hx, _, _⟩ := hh.objAt r1 e1
  obtain ⟨y, C', dy, fv2, ds2, rfl, hC', hy, _, _⟩ := hh.objAt r2 e2
  rw [hC] at hC'; cases hC'
  obtain ⟨a, np, F, hs, hf, hc⟩ := T.go c C cm hC em
  cases rv with | cons q1 t => cases t with | cons q2 t => cases t with | nil =>
  cases q1; cases q2
  obtain ⟨mA, J, _⟩ := ins_get I.hok hx
  obtain ⟨mB, J', _⟩ := ins_get I.hok hy
  obtain ⟨od, J, _⟩ := J.look
  obtain ⟨od', J', _⟩ := J'.look
  obtain ⟨m, hF⟩ := I.fr
  show wpAny _ _ (compareOp op (.ref x) (.ref y)) _ _ _
  rw [ho]
  exact PySem.W.cmp_K (op := op) (tb := .ref C) B.room.units0 hF I.ok.mod.kin J J'.type (by simp [PySem.W.notFirst]) hs hf (wpAny_mono (run_IA F B tk I (.cons (relRef x) (.cons (relRef y) .nil)) hh rs q cQ) (fun _ _ z => cmpBack_of z) fun _ _ z => z)
theorem vo_ownIn (T : OwnRt X.prog X.w X.K X.mg X.base r.R k "__contains__" mt) (B : Blw X k X.A) (tk : Takes X (wxI r W)) : VO r X W (bi (compareOp .In)) (cOwnIn false mt) := fun pins s σ H g sl bx ds us vs QD Q I rv hh rs ⟨e, d, c, cm, eds, e1, em, q⟩ cQ => by
  subst eds
  obtain ⟨u, v, rfl, r2, r1⟩ := reps2 rs
  obtain ⟨fs, e1⟩ := clsD_at e1
  obtain ⟨x, C, dx, fv, ds1, rfl, hC, hx, _, _⟩ := hh.objAt r1 e1
  obtain ⟨a, np, F, hs, hf, hc⟩ := T.go c C cm hC em
  cases rv with | cons q2 t => cases t with | cons q1 t => cases t with | nil =>
  cases q1
  obtain ⟨mA, J, _⟩ := ins_get I.hok hx
  obtain ⟨od, J, _⟩ := J.look
  obtain ⟨m, hF⟩ := I.fr
  refine PySem.W.in_K hF I.ok.mod.kin J hs hf (thn (run_IA (Q := fun v H' => ∃ kk, v = .bl kk ∧ Q (.bl kk) H') F B tk I (.cons (relRef x) (.cons q2 .nil)) hh (.cons r1 (.cons r2 .nil)) q fun g' bx' H' v d l h' rv q' => ?_) fun w s2 ⟨z, H2, I2, rz, kk, ez, q2⟩ => ?_)
  · obtain ⟨kk, rfl, q'⟩ := q'
    cases rv
    have := cQ _ _ _ _ _ l h' (.bl _) q'
    exact ⟨kk, rfl, by simpa using this⟩
  · subst ez
    cases rz
    exact wpAny_truthy_bool ⟨.bl kk, H2, I2, rfl, q2⟩
theorem vo_ownNotIn (T : OwnRt X.prog X.w X.K X.mg X.base r.R k "__contains__" mt) (B : Blw X k X.A) (tk : Takes X (wxI r W)) : VO r X W (bi (compareOp .NotIn)) (cOwnIn true mt) := fun pins s σ H g sl bx ds us vs QD Q I rv hh rs ⟨e, d, c, cm, eds, e1, em, q⟩ cQ => by
  subst eds
  obtain ⟨u, v, rfl, r2, r1⟩ := reps2 rs
  obtain ⟨fs, e1⟩ := clsD_at e1
  obtain ⟨x, C, dx, fv, ds1, rfl, hC, hx, _, _⟩ := hh.objAt r1 e1
  obtain ⟨a, np, F, hs, hf, hc⟩ := T.go c C cm hC em
  cases rv with | cons q2 t => cases t with | cons q1 t => cases t with | nil =>
  cases q1
  obtain ⟨mA, J, _⟩ := ins_get I.hok hx
  obtain ⟨od, J, _⟩ := J.look
  obtain ⟨m, hF⟩ := I.fr
  refine PySem.W.notIn_K hF I.ok.mod.kin J hs hf (thn (run_IA (Q := fun v H' => ∃ kk, v = .bl kk ∧ Q (.bl (!kk)) H') F B tk I (.cons (relRef x) (.cons q2 .nil)) hh (.cons r1 (.cons r2 .nil)) q fun g' bx' H' v d l h' rv q' => ?_) fun w s2 ⟨z, H2, I2, rz, kk, ez, q2⟩ => ?_)
  · obtain ⟨kk, rfl, q'⟩ := q'
    cases rv
    have := cQ _ _ _ _ _ l h' (.bl _) q'
    exact ⟨kk, rfl, by simpa using this⟩
  · subst ez
    cases rz
    exact wpAny_truthy_bool ⟨.bl (!kk), H2, I2, rfl, q2⟩
theorem vo_ownLen (T : OwnRt X.prog X.w X.K X.mg X.base r.R k "__len__" mt) (B : Blw X (k + 1) X.A) (tk : Takes X (wxI r W)) : VO r X W (cl (.builtin "len")) (cOwnLen mt) := fun pins s σ H g sl bx ds us vs QD Q I rv hh rs ⟨d, c, cm, eds, e1, em, q⟩ cQ => by
  subst eds
  obtain ⟨v, rfl, r1⟩ := reps1 rs
  obtain ⟨fs, e1⟩ := clsD_at e1
  obtain ⟨x, C, dx, fv, ds1, rfl, hC, hx, _, _⟩ := hh.objAt r1 e1
  obtain ⟨a, np, F, hs, hf, hc⟩ := T.go c C cm hC em
  cases rv with | cons q1 t => cases t with | nil =>
  cases q1
  obtain ⟨mA, J, _⟩ := ins_get I.hok hx
  obtain ⟨od, J, _⟩ := J.look
  obtain ⟨m, hF⟩ := I.fr
  refine PySem.W.len_K hF I.ok.mod.kin J hs hf (thn (run_IA (Q := fun v H' => ∃ n : Int, v = .int n ∧ (0 ≤ n ∧ n < 2 ^ 63) ∧ Q (.int n) H') F B.in1 tk I (.cons (relRef x) .nil) hh rs q fun g' bx' H' v d l h' rv q' => ?_) fun w s2 ⟨z, H2, I2, rz, n, ez, hn, q2⟩ => ?_)
  · obtain ⟨n, rfl, h0, h1, q'⟩ := q'
    cases rv
    exact ⟨n, rfl, ⟨h0, h1⟩, cQ _ _ _ _ _ l h' (.int _) q'⟩
  · subst ez
    obtain ⟨t, rfl⟩ := rz
    exact ⟨hn, .int n, H2, I2.tok _, ⟨_, rfl⟩, q2⟩
theorem unary_fn {M : Model} {A : Around} {E : Value → Shared → Prop} {s : Shared} {K : PySem.W.Frag} {x C f : Addr} {ox : Obj} {od : Option Obj} {Q : Value → Shared → Prop} (Xk : K.In s.heap) (I : PySem.W.InstAt s.heap x ox C od) (hs : PySem.W.findIn K (.ref C) "__invert__" = some (some (.ref f))) (hf : PySem.W.isFn K (.ref f) = true)
    (h : wpAny M A (call (.ref f) [.ref x]) Q E s) : wpAny M A (unaryOp .Invert (.ref x)) Q E s := by
  unfold unaryOp
  refine wpAny_holding ?_
  show wpAny M A (callSpecial? (.ref x) "__invert__" >>= _) _ _ _
  exact wpAny_bind (PySem.W.special_fn Xk I hs (beq_iff_eq.mp hf) (wpAny_mono h (fun v s' z => wpAny_pure z) fun _ _ z => z))
theorem vo_ownInv (T : OwnRt X.prog X.w X.K X.mg X.base r.R k "__invert__" mt) (B : Blw X k X.A) (tk : Takes X (wxI r W)) : VO r X W (un (unaryOp .Invert)) (cOwn1 mt) := fun pins s σ H g sl bx ds us vs QD Q I rv hh rs ⟨d, c, cm, eds, e1, em, q⟩ cQ => by
  subst eds
  obtain ⟨v, rfl, r1⟩ := reps1 rs
  obtain ⟨fs, e1⟩ := clsD_at e1
  obtain ⟨x, C, dx, fv, ds1, rfl, hC, hx, _, _⟩ := hh.objAt r1 e1
  obtain ⟨a, np, F, hs, hf, hc⟩ := T.go c C cm hC em
  cases rv with | cons q1 t => cases t with | nil =>
  cases q1
  obtain ⟨mA, J, _⟩ := ins_get I.hok hx
  obtain ⟨od, J, _⟩ := J.look
  exact unary_fn I.kIn J hs hf (run_IA F B tk I (.cons (relRef x) .nil) hh rs q cQ)
theorem pem_op1 {c : CallM} {ea : Expr} {ma : WE} {f : UnaryOp} {pos : Pos} (ho : VO r X W (un (unaryOp f)) c) (ha : PEm r X W ea ma) : PEm r X W (.UnaryOp f ea pos) (wOp1 c ma) := ⟨fun pins s σ H Q I h => by
  obtain ⟨g, sl, bx, QD, hh, q, cQ⟩ := h
  refine PyProof.Rows.UnaryOp_ (thn (ha.run pins s σ H (fun v H1 => ∃ g1 bx1 d, Le g g1 ∧ Holds r g1 sl bx1 σ H1 ∧ RepG r.R g1 v d ∧ _) I ⟨g, sl, bx, _, hh, q, fun g1 bx1 H1 v d l h1 rv q1 => ⟨g1, bx1, d, l, h1, rv, q1⟩⟩) fun v s1 ⟨x, H1, I1, r1, g1, bx1, d, l1, h1, rv1, q1⟩ => ?_)
  exact ho pins s1 σ H1 g1 sl bx1 [d] [v] [x] QD Q I1 (.cons r1 .nil) h1 (.cons rv1 .nil) q1 (cQ.le l1)⟩
end
end Mi
namespace Mi
open PySem PySem.Spec L2

/-! ### != by an own __eq__ -/
section
open PySem.W PySem.Calls PyProof.Rows Builtin
variable {prog : Program} {w : World} {A : Around} {E : Value → Shared → Prop} {s : Shared} {K : Frag} {x C L f : Addr} {h₀ : Heap} {m : Str → Option Value} {ox : Obj} {od : Option Obj} {b tb : Value}
theorem ifBoundB {M : Model} {args : List Value} {name : Str} {id T : String} {Q : Option Value → Shared → Prop} (X : K.In s.heap) (I : InstAt s.heap x ox C od) (hs : findIn K (.ref C) name = some (some (.builtin id))) (S : Slot T name id)
    (h : wpAny M A (call (.builtin id) (.ref x :: args)) (fun v => Q (some v)) E s) : wpAny M A (callSpecialIfBound? (.ref x) name args) Q E s := by
  simp only [callSpecialIfBound?, bindSpecialIfBound?]
  refine wpAny_holding (wpAny_bind (wpAny_bind (wpAny_bind (I.type.here ((looks_findIn X hs).here ?_)))))
  simp only [S.bind]
  refine wpAny_bind (wpAny_askSetting (wpAny_ite ?_))
  have fin : wpAny M A (call (.builtin id) ([.ref x] ++ args) >>= fun v => pure (some v)) Q E s := wpAny_bind (wpAny_mono h (fun v s' h' => wpAny_pure h') fun _ _ h' => h')
  split
  · exact wpAny_bind (wpAny_pure (wpAny_pure fin))
  · exact wpAny_tryCatch (wpAny_bind (wpAny_pure (wpAny_pure fin)))
theorem objNe_own {Q : Fin → Shared → Prop} (hu : A.units < cLine) (X : K.In s.heap) (I : InstAt s.heap x ox C od) (hs : findIn K (.ref C) "__eq__" = some (some (.ref f))) (hf : isFn K (.ref f) = true)
    (h : wpAny (model prog w) A (call (.ref f) [.ref x, b]) (fun v s' => ∃ k, v = .bool k ∧ Q (.done (.ret (.bool (!k)))) s') E s) : wpAny (model prog w) A (Builtin.«object.__ne__» ⟨[.ref x, b], []⟩) Q E s := by
  unfold Builtin.«object.__ne__»
  refine wpAny_bind (m := slotArgs "__ne__" 1 _) (wpAny_pure ?_)
  refine wpAny_bind (wpAny_cRoomFor hu ?_)
  refine wpAny_bind (ifBound_K X I hs hf (wpAny_mono h (fun v s' z => ?_) fun _ _ z => z))
  obtain ⟨k, rfl, q⟩ := z
  refine wpAny_bind (wpAny_truthy_bool ?_)
  exact wpAny_pure q
theorem ne_own {Q : Value → Shared → Prop} (hu : A.units + 1 < cLine) (F : Fr h₀ L s.heap m) (X₀ : K.In h₀) (I : InstAt s.heap x ox C od) (hb : Looks (model prog w) s.heap (typeOf b) tb) (hn : notFirst K C tb = true)
    (hs : findIn K (.ref C) "__eq__" = some (some (.ref f))) (hf : isFn K (.ref f) = true) (hne : findIn K (.ref C) "__ne__" = some (some (.builtin "object.__ne__"))) (hob : mroIn K C (.type "object") = some true)
    (h : wpAny (model prog w) A.in1 (call (.ref f) [.ref x, b]) (fun v s' => ∃ k, v = .bool k ∧ Q (.bool (!k)) s') E s) : wpAny (model prog w) A (richCompare .NotEq (.ref x) b) Q E s := by
  have X := X₀.keeps F.keep
  have hu0 : A.units < cLine := Nat.lt_of_succ_lt hu
  have one : wpAny (model prog w) A (tryCompare (.ref x) "__ne__" b) (fun r s' => ∃ v, r = some v ∧ Q v s') E s := by
    unfold tryCompare
    refine wpAny_bind (ifBoundB X I hne PySem.F.cmp_object.ne (wpAny_call (codeAny_call_builtin PySem.F.cmp_object.ne.plain PySem.F.cmpEntry_ne ?_)))
    refine check_slot PySem.F.cmpKind_ne PySem.F.cmpSplit_ne (I.type.andThen (looks_mroIn X hob)) (PySem.F.cmpArgs_ne _ _) ?_
    refine objNe_own (A := A.in1) hu X I hs hf (wpAny_mono h (fun v s' z => ?_) fun _ _ z => z)
    obtain ⟨k, rfl, q⟩ := z
    exact ⟨k, rfl, wpAny_pure ⟨_, rfl, q⟩⟩
  unfold richCompare
  simp only [oneThing_ref]
  refine wpAny_holding (wpAny_bind (wpAny_cRoomFor hu0 ?_))
  refine wpAny_bind (I.type.here (wpAny_bind (hb.here ?_)))
  split
  · rename_i q
    have e : subIn K tb (.ref C) = some false := by
      rcases Bool.or_eq_true_iff.mp hn with e | e
      · rw [beq_iff_eq.mp e] at q; simp at q
      · exact beq_iff_eq.mp e
    refine wpAny_bind ((looks_subIn X e).here ?_)
    simp only [Bool.false_eq_true, if_false]
    refine wpAny_bind (wpAny_mono one (fun r s' z => ?_) fun _ _ e => e)
    obtain ⟨v, rfl, hq⟩ := z
    exact wpAny_pure hq
  · refine wpAny_bind (wpAny_pure ?_)
    simp only [Bool.false_eq_true, if_false]
    refine wpAny_bind (wpAny_mono one (fun r s' z => ?_) fun _ _ e => e)
    obtain ⟨v, rfl, hq⟩ := z
    exact wpAny_pure hq
end
structure OwnNe (K : PySem.W.Frag) (R : Rt) (dom : Nat → Bool) : Prop where
  go : ∀ c C, R.cls c = some C → dom c = true → PySem.W.findIn K (.ref C) "__ne__" = some (some (.builtin "object.__ne__")) ∧ PySem.W.mroIn K C (.type "object") = some true
section
variable {r : Rn} {X : Cx} {W : WXQ} {k : Nat} {mt : Nat → Option CallM}
theorem vo_ownNe (T : OwnRt X.prog X.w X.K X.mg X.base r.R k "__eq__" mt) (N : OwnNe X.K r.R fun c => (mt c).isSome) (B : Blw X (k + 1) X.A) (tk : Takes X (wxI r W)) : VO r X W (bi (compareOp .NotEq)) (cOwn2N mt) := fun pins s σ H g sl bx ds us vs QD Q I rv hh rs ⟨d, e, c, cm, eds, e1, e2, em, q⟩ cQ => by
  subst eds
  obtain ⟨v, u, rfl, r1, r2⟩ := reps2 rs
  obtain ⟨fs, e1⟩ := clsD_at e1
  obtain ⟨fs2, e2⟩ := clsD_at e2
  obtain ⟨x, C, dx, fv, ds1, rfl, hC, hx, _, _⟩ := hh.objAt r1 e1
  obtain ⟨y, C', dy, fv2, ds2, rfl, hC', hy, _, _⟩ := hh.objAt r2 e2
  rw [hC] at hC'; cases hC'
  obtain ⟨a, np, F, hs, hf, hc⟩ := T.go c C cm hC em
  obtain ⟨n1, n2⟩ := N.go c C hC (by simp [em])
  cases rv with | cons q1 t => cases t with | cons q2 t => cases t with | nil =>
  cases q1; cases q2
  obtain ⟨mA, J, _⟩ := ins_get I.hok hx
  obtain ⟨mB, J', _⟩ := ins_get I.hok hy
  obtain ⟨od, J, _⟩ := J.look
  obtain ⟨od', J', _⟩ := J'.look
  obtain ⟨m, hF⟩ := I.fr
  have hu : X.A.units + 1 < cLine := by have := B.room.units; omega
  show wpAny _ _ (richCompare .NotEq (.ref x) (.ref y)) _ _ _
  refine ne_own (tb := .ref C) hu hF I.ok.mod.kin J J'.type (by simp [PySem.W.notFirst]) hs hf n1 n2 (thn (run_IA (Q := fun v H' => ∃ kk, v = .bl kk ∧ Q (.bl (!kk)) H') F B.in1 tk I (.cons (relRef x) (.cons (relRef y) .nil)) hh rs q fun g' bx' H' v d l h' rv q' => ?_) fun w s2 ⟨z, H2, I2, rz, kk, ez, q2⟩ => ?_)
  · obtain ⟨kk, rfl, q'⟩ := q'
    cases rv
    exact ⟨kk, rfl, cQ _ _ _ _ _ l h' (.bl _) q'⟩
  · subst ez
    cases rz
    exact ⟨kk, rfl, .bl (!kk), H2, I2, rfl, q2⟩
end

/-! ### all, any -/
def boolsD : List D → Option (List Bool)
  | [] => some []
  | .bl b :: r => (boolsD r).map (b :: ·)
  | _ :: _ => none
theorem bools_reps {R : Rt} {F : Hp} {b : Nat → Option Addr} : ∀ {vs : List V} {ds : List D} {bs : List Bool}, Reps R F b vs ds → boolsD ds = some bs → vs = bs.map V.bl
  | _, _, _, .nil, e => by cases e; rfl
  | _, _, _, .cons (v := v) (d := d) h t, e => by
    cases d with
    | bl x =>
      simp only [boolsD, Option.map_eq_some_iff] at e
      obtain ⟨bs, e, rfl⟩ := e
      cases h
      rw [bools_reps t e]; rfl
    | _ => cases e
def dAll (all : Bool) : OB := fun bx ds => match ds with
  | [d] => match dr bx d with
    | some (.lst ds) => (boolsD ds).map fun bs => .val (.bl (if all then bs.all id else bs.any id))
    | _ => none
  | _ => none
section
variable {r : Rn} {X : Cx} {W : WXQ}
theorem allW {all b : Bool} : OpW r X.K b (dAll all) (fun vs H Q => ∃ (a : Addr) (bs : List Bool), vs = [V.ref a] ∧ SqL X.K H a (bs.map V.bl) ∧ Q (.bl (if all then bs.all id else bs.any id)) H) := ⟨fun g sl bx σ H vs ds rs QD Q hh hr e1 e2 cQ => by
  match ds, e1, hr with
  | [d], e1, hr =>
    obtain ⟨v, rfl, rv⟩ := reps1 hr
    simp only [dAll] at e1
    split at e1
    · rename_i ds ed
      simp only [Option.map_eq_some_iff] at e1
      obtain ⟨bs, eb, rfl⟩ := e1
      obtain ⟨a, vs, rfl, k1, k2⟩ := hh.lstAt rv ed
      rw [bools_reps k2 eb] at k1
      exact ⟨a, bs, rfl, SqL.of k1, cQ.at hh (.bl _) e2⟩
    · cases e1⟩
theorem vo_all {b : Bool} (hc : X.calm = true) : VO r X W (cl (.builtin "all")) (cOp b (dAll true)) := vo_callR (cr_all hc) ⟨fun g sl bx σ H vs ds rs QD Q hh hr e1 e2 cQ => (allW (X := X) (all := true)).go g sl bx σ H vs ds rs QD Q hh hr e1 e2 cQ⟩
theorem vo_any {b : Bool} (hc : X.calm = true) : VO r X W (cl (.builtin "any")) (cOp b (dAll false)) := vo_callR (cr_any hc) ⟨fun g sl bx σ H vs ds rs QD Q hh hr e1 e2 cQ => (allW (X := X) (all := false)).go g sl bx σ H vs ds rs QD Q hh hr e1 e2 cQ⟩
end

/-! ### isinstance -/
/-- a value's type: a built-in one, an own class -/
inductive Ty where
  | ty (n : String) | cls (c : Nat)
  deriving DecidableEq
def tyD (isE : Nat → Bool) (bx : Bx) (d : D) : Option Ty := match dr bx d with
  | some .non => some (.ty "NoneType")
  | some (.bl _) => some (.ty "bool")
  | some (.int _) => some (.ty "int")
  | some (.str _) => some (.ty "str")
  | some (.lst _) => some (.ty "list")
  | some (.tup _) => some (.ty "tuple")
  | some (.dic _ _) => some (.ty "dict")
  | some (.obj c _) => if isE c = true then none else some (.cls c)
  | some (.exc c _) => if isE c = true then some (.cls c) else none
  | _ => none
def clD : D → Option Ty
  | .ty n => some (.ty n)
  | .cls c => some (.cls c)
  | _ => none
def clsD' : List D → Option (List Ty)
  | [] => some []
  | d :: r => (clD d).bind fun t => (clsD' r).map (t :: ·)
/-- t is, or comes from, one of these -/
def isiAny (tb : Ty → Ty → Option Bool) (t : Ty) : List Ty → Option Bool
  | [] => some false
  | c :: r => match tb t c with
    | some true => some true
    | some false => isiAny tb t r
    | none => none
def dIsi (isE : Nat → Bool) (tb : Ty → Ty → Option Bool) : OB := fun bx ds => match ds with
  | [d, e] => (tyD isE bx d).bind fun t => match e with
    | .tup (e :: es) => (clsD' (e :: es)).bind fun cs => (isiAny tb t cs).map fun k => .val (.bl k)
    | e => (clD e).bind fun c => (tb t c).map fun k => .val (.bl k)
  | _ => none
inductive RepTy (R : Rt) : Ty → Value → Prop
  | ty (n : String) : RepTy R (.ty n) (.type n)
  | cls {c : Nat} {C : Addr} (h : R.cls c = some C) : RepTy R (.cls c) (.ref C)
/-- the table of subclasses -/
structure IsiRt (R : Rt) (K : PySem.W.Frag) (isE : Nat → Bool) (tb : Ty → Ty → Option Bool) : Prop where
  go : ∀ t c b tv cv, tb t c = some b → RepTy R t tv → RepTy R c cv → PySem.W.kitOne K tv cv = some b
  own : ∀ c C t b, R.cls c = some C → isE c = false → tb (.cls c) t = some b → Cls K C ∧ PySem.W.findIn K (.ref C) "__class__" = some (some (.builtin "object.__class__")) ∧
      PySem.W.specialIn K (.builtin "object.__class__") "__get__" = some (some (.builtin "getset_descriptor.__get__")) ∧ PySem.W.takesIn K (.builtin "object.__class__") = some true ∧ PySem.W.mroIn K C (.type "object") = some true
  ownE : ∀ c C t b, R.cls c = some C → isE c = true → tb (.cls c) t = some b → (PySem.W.clsIn K C).isSome = true ∧ PySem.W.findIn K (.ref C) "__getattribute__" = some (some (.builtin "BaseException.__getattribute__")) ∧ PySem.W.findIn K (.ref C) "__getattr__" = some none ∧
    PySem.W.subIn K (.ref C) (.type "BaseException") = some true ∧ PySem.W.findIn K (.ref C) "__class__" = some (some (.builtin "object.__class__")) ∧ PySem.W.specialIn K (.builtin "object.__class__") "__get__" = some (some (.builtin "getset_descriptor.__get__")) ∧
    PySem.W.takesIn K (.builtin "object.__class__") = some true ∧ PySem.W.mroIn K C (.type "object") = some true
section
variable {r : Rn} {X : Cx} {W : WXQ} {isE : Nat → Bool} {tb : Ty → Ty → Option Bool}
theorem repTy_of {g : Gx} {v : V} {d : D} {t : Ty} (rv : RepG r.R g v d) (e : clD d = some t) : ∃ u, ClsV v u ∧ RepTy r.R t u := by
  cases rv with
  | ty n => simp [clD] at e; subst e; exact ⟨_, .ty n, .ty n⟩
  | @cls a j h => simp [clD] at e; subst e; exact ⟨_, .own a, .cls h⟩
  | _ => simp [clD] at e
theorem repTys_of {g : Gx} : ∀ {vs : List V} {ds : List D} {ts : List Ty}, RepsG r.R g vs ds → clsD' ds = some ts → ∃ us, Paired ClsV vs us ∧ Paired (RepTy r.R) ts us
  | _, _, _, .nil, e => by cases e; exact ⟨[], .nil, .nil⟩
  | _, _, _, .cons h t, e => by
    simp only [clsD', Option.bind_eq_some_iff, Option.map_eq_some_iff] at e
    obtain ⟨t1, e1, ts, e2, rfl⟩ := e
    obtain ⟨u, c1, p1⟩ := repTy_of h e1
    obtain ⟨us, c2, p2⟩ := repTys_of t e2
    exact ⟨u :: us, .cons c1 c2, .cons p1 p2⟩
theorem kitAny_of (T : IsiRt r.R X.K isE tb) {t : Ty} {tv : Value} (ht : RepTy r.R t tv) : ∀ {cs : List Ty} {us : List Value} {k : Bool}, Paired (RepTy r.R) cs us → isiAny tb t cs = some k → PySem.W.kitAny X.K tv us = some k
  | _, _, _, .nil, e => by cases e; rfl
  | _, _, k, .cons h q, e => by
    simp only [isiAny] at e
    unfold PySem.W.kitAny
    split at e
    · rename_i e1
      cases e
      rw [T.go _ _ _ _ _ e1 ht h]
    · rename_i e1
      rw [T.go _ _ _ _ _ e1 ht h]
      exact kitAny_of T ht q e
    · cases e
/-- what the library's rules want of a value's type -/
theorem kit_I {g : Gx} {sl : Sl} {bx : Bx} {σ : L2.St} {H : Hp} {pins : List (Addr × Obj)} {s : Shared} {v : V} {u : Value} {d : D} {t : Ty} (T : IsiRt r.R X.K isE tb) (hK : X.K = r.R.K) (I : Inv X pins σ H s) (hh : Holds r g sl bx σ H) (rv : RepG r.R g v d) (ru : RelV v u)
    (e : tyD isE bx d = some t) (ec : ∃ c bb, tb t c = some bb) : ∃ tv, RepTy r.R t tv ∧ ∃ P : Heap → Prop, PySem.W.KitX X.K u tv P ∧ P s.heap ∧ u ≠ .builtin "__main__.__loader__#opaque" := by
  unfold tyD at e
  split at e
  · rename_i ed
    cases e
    cases rv with
    | non => exact ⟨_, .ty _, kit_of I ru (.base .non)⟩
    | box h1 => simp [dr] at ed; obtain ⟨_, _, _, k3⟩ := hh.hb.bxs _ _ ed; exact k3.elim
    | _ => simp [dr] at ed
  · rename_i x ed
    cases e
    cases rv with
    | bl x => exact ⟨_, .ty _, kit_of I ru (.base (.bl _))⟩
    | box h1 => simp [dr] at ed; obtain ⟨_, _, _, k3⟩ := hh.hb.bxs _ _ ed; exact k3.elim
    | _ => simp [dr] at ed
  · rename_i x ed
    cases e
    cases rv with
    | int x => exact ⟨_, .ty _, kit_of I ru (.base (.int _))⟩
    | box h1 => simp [dr] at ed; obtain ⟨_, _, _, k3⟩ := hh.hb.bxs _ _ ed; exact k3.elim
    | _ => simp [dr] at ed
  · rename_i x ed
    cases e
    cases rv with
    | str x => exact ⟨_, .ty _, kit_of I ru (.base (.str _))⟩
    | box h1 => simp [dr] at ed; obtain ⟨_, _, _, k3⟩ := hh.hb.bxs _ _ ed; exact k3.elim
    | _ => simp [dr] at ed
  · rename_i x ed
    cases e
    obtain ⟨a, vs, rfl, k1, k2⟩ := hh.lstAt rv ed
    exact ⟨_, .ty _, kit_of I ru (.base (.lst k1))⟩
  · rename_i x ed
    cases e
    obtain ⟨a, vs, rfl, k1, k2⟩ := hh.tupAt rv ed
    exact ⟨_, .ty _, kit_of I ru (.base (.tup k1))⟩
  · rename_i tt x ed
    cases e
    obtain ⟨a, rfl, hd⟩ := hh.dicAt rv ed
    obtain rfl : u = Value.ref a := ru
    refine ⟨_, .ty _, _, PySem.W.kitx_dict, ?_, fun z => nomatch z⟩
    rcases hd.len with ⟨_, kv, k1, _⟩ | ⟨_, kv, k1, _⟩
    · obtain ⟨_, _, vs, _, o, es, ep, h1, h2, _⟩ := dk_rd I.hok k1
      exact ⟨o, h1, h2.1⟩
    · obtain ⟨_, _, vs, _, o, es, ep, h1, h2, _⟩ := dt_rd I.hok k1
      exact ⟨o, h1, h2.1⟩
  · rename_i c fs ed
    split at e
    · cases e
    rename_i hE
    cases e
    obtain ⟨a, C, dx, fv, ds, rfl, hC, hH, rs, rfl⟩ := hh.objAt rv ed
    obtain ⟨c', bb, ec⟩ := ec
    obtain ⟨o1, o2, o3, o4, o5⟩ := T.own _ _ _ _ hC (by simpa using hE) ec
    exact ⟨_, .cls hC, kit_of I ru (.base (.ins hH o1 o2 o3 o4 o5))⟩
  · rename_i c fs ed
    split at e
    rename_i hE
    · cases e
      have ex : ∃ a C d, v = .ref a ∧ r.R.cls c = some C ∧ H a = some (L2.exo a C d) ∧ ∀ dx, d = some dx → ∃ fv, H dx = some (L2.exd dx fv) := by
        cases rv with
        | exc0 hc h1 => simp [dr] at ed; obtain ⟨rfl, rfl⟩ := ed; exact ⟨_, _, none, rfl, hc, hh.hb.sub.ls _ _ rfl h1, fun dx z => by cases z⟩
        | excD hc h1 h2 h3 => simp [dr] at ed; obtain ⟨rfl, rfl⟩ := ed; exact ⟨_, _, _, rfl, hc, hh.hb.sub.ls _ _ rfl h1, fun dx z => by cases z; exact ⟨_, hh.hb.sub.ls _ _ rfl h2⟩⟩
        | box h1 => simp [dr] at ed; obtain ⟨_, _, _, k3⟩ := hh.hb.bxs _ _ ed; exact k3.elim
        | _ => simp [dr] at ed
      obtain ⟨a, C, dd, rfl, hC, hH, hd⟩ := ex
      obtain ⟨c', bb, ec⟩ := ec
      obtain ⟨o1, o2, o3, o4, o5, o6, o7, o8⟩ := T.ownE _ _ _ _ hC hE ec
      obtain rfl : u = Value.ref a := ru
      obtain ⟨t1, ho⟩ := L2.exo_at I.hok hH
      cases dd with
      | none => exact ⟨_, .cls hC, _, PySem.W.kitx_exc (od := none) o1 o2 o3 o4 o5 o6 o7 o8, ⟨ho, rfl, rfl, trivial⟩, fun z => nomatch z⟩
      | some dx =>
        obtain ⟨fv, hdx⟩ := hd dx rfl
        obtain ⟨mA, hns, _⟩ := L2.exd_at I.hok hdx
        obtain ⟨od, es, ep, hod, _⟩ := hns
        exact ⟨_, .cls hC, _, PySem.W.kitx_exc (od := some od) o1 o2 o3 o4 o5 o6 o7 o8, ⟨ho, rfl, rfl, hod⟩, fun z => nomatch z⟩
    · cases e
  · cases e
theorem vo_isi {b : Bool} (T : IsiRt r.R X.K isE tb) (hK : X.K = r.R.K) : VO r X W (cl (.builtin "isinstance")) (cOp b (dIsi isE tb)) := fun pins s σ H g sl bx ds us vs QD Q I rv hh rs ⟨x, e1, e2⟩ cQ => by
  match ds, e1, rs with
  | [d, e], e1, rs =>
    obtain ⟨v, u, rfl, r1, r2⟩ := reps2 rs
    obtain ⟨u1, u2, rfl, q1, q2⟩ := vals2 rv
    simp only [dIsi, Option.bind_eq_some_iff] at e1
    obtain ⟨t, et, e1⟩ := e1
    split at e1
    · rename_i e0 es
      simp only [Option.bind_eq_some_iff, Option.map_eq_some_iff] at e1
      obtain ⟨cs, ec, k, ek, rfl⟩ := e1
      obtain ⟨tp, vs, rfl, k1, k2⟩ := hh.tupAt r2 rfl
      obtain ⟨ws, c1, p1⟩ := repTys_of k2 ec
      have hcs : cs ≠ [] := by
        simp only [clsD', Option.bind_eq_some_iff, Option.map_eq_some_iff] at ec
        obtain ⟨_, _, _, _, rfl⟩ := ec
        simp
      have : ∃ c bb, tb t c = some bb := by
        cases cs with
        | nil => exact absurd rfl hcs
        | cons c cs =>
          simp only [isiAny] at ek
          split at ek
          · rename_i e1; exact ⟨c, _, e1⟩
          · rename_i e1; exact ⟨c, _, e1⟩
          · cases ek
      obtain ⟨tv, rt, P, Z, p, hx⟩ := kit_I T hK I hh r1 q1 et this
      have ek' := kitAny_of T rt p1 ek
      cases (show u2 = Value.ref tp from q2)
      obtain ⟨_, its, rv', o, h1, h2, n, h3⟩ := (show ObjOk X.prog X.w H s.heap tp (.tup vs) from I.hok tp _ k1)
      have e3 := ClsV.all c1 rv'
      subst e3
      obtain ⟨oc, od, dt, sl⟩ := o
      simp only at h2 h3
      subst h2 h3
      exact PySem.W.kia_tup Z I.kIn p h1 ek' hx fun tk => ⟨.bl k, H, I.tok tk, rfl, cQ.at hh (.bl _) e2⟩
    · simp only [Option.bind_eq_some_iff, Option.map_eq_some_iff] at e1
      obtain ⟨c, ec, k, ek, rfl⟩ := e1
      obtain ⟨w, c1, p1⟩ := repTy_of r2 ec
      obtain ⟨tv, rt, P, Z, p, hx⟩ := kit_I T hK I hh r1 q1 et ⟨_, _, ek⟩
      have ek' := T.go _ _ _ _ _ ek rt p1
      have e3 := c1.eq q2
      subst e3
      exact PySem.W.kia_one Z I.kIn p ek' hx fun tk => ⟨.bl k, H, I.tok tk, rfl, cQ.at hh (.bl _) e2⟩
end
end Mi
namespace Mi
open PySem PySem.Spec L2

/-! ### methods of built-in types -/
def isTy (T : String) (bx : Bx) (d : D) : Prop := match dr bx d with
  | some (.lst _) => T = "list"
  | some (.rol _) => T = "list"
  | some (.dic _ _) => T = "dict"
  | some (.str _) => T = "str"
  | some (.int _) => T = "int"
  | _ => False
/-- the method's facts -/
structure MOn (T : String) (name : Str) (id : String) : Prop where
  pa : PlainAttrs T
  slot : Slot T name id
  ty : typeOf (.builtin id) = pure (.type "method_descriptor")
def wBm (T : String) (c : CallM) (mo : WE) (ma : WA) : WE := fun sl bx Q X => mo sl bx (fun d bx1 => isTy T bx1 d ∧ ma sl bx1 (fun ds bx2 => c (d :: ds) bx2 Q X) X) X
section
variable {r : Rn} {X : Cx} {W : WXQ}
theorem ty_I {g : Gx} {sl : Sl} {bx : Bx} {σ : L2.St} {H : Hp} {pins : List (Addr × Obj)} {s : Shared} {v : V} {u : Value} {d : D} {T : String} (hK : X.K = r.R.K) (I : Inv X pins σ H s) (hh : Holds r g sl bx σ H) (rv : RepG r.R g v d) (ru : RelV v u) (e : isTy T bx d) :
    s.TypeIs u T ∧ ∀ a, u = .ref a → ∃ ob, s.heap.get? a = some ob ∧ ob.dict = none := by
  unfold isTy at e
  split at e
  · rename_i x ed
    subst e
    obtain ⟨a, vs, rfl, k1, k2⟩ := hh.lstAt rv ed
    exact tyV_is I ru (.inl ⟨rfl, vs, SqL.of k1⟩)
  · rename_i x ed
    subst e
    obtain ⟨a, vs, rfl, k1, k2⟩ := hh.seqLAt hK rv ed rfl
    exact tyV_is I ru (.inl ⟨rfl, vs, k1⟩)
  · rename_i t x ed
    subst e
    obtain ⟨a, rfl, hd⟩ := hh.dicAt rv ed
    obtain rfl : u = Value.ref a := ru
    rcases hd.len with ⟨_, kv, k1, _⟩ | ⟨_, kv, k1, _⟩
    · obtain ⟨_, _, vs, _, o, es, ep, h1, h2, _⟩ := dk_rd I.hok k1
      exact ⟨⟨o, h1, h2.1⟩, fun b eb => by cases eb; exact ⟨o, h1, h2.2.1⟩⟩
    · obtain ⟨_, _, vs, _, o, es, ep, h1, h2, _⟩ := dt_rd I.hok k1
      exact ⟨⟨o, h1, h2.1⟩, fun b eb => by cases eb; exact ⟨o, h1, h2.2.1⟩⟩
  · rename_i x ed
    subst e
    have := dr_str hh rv ed
    subst this
    exact tyV_is (T := "str") I ru rfl
  · rename_i x ed
    subst e
    have := dr_int hh rv ed
    subst this
    exact tyV_is (T := "int") I ru rfl
  · exact e.elim
theorem pem_bm {o e : Expr} {es : List Expr} {T id : String} {name : Str} {c : CallM} {mo : WE} {ma : WA} {apos pos : Pos} (hK : X.K = r.R.K) (M : MOn T name id) (hc : VO r X W (cl (.builtin id)) c) (hb : okBase o = true) (hn : noStar (e :: es) = true) (hl : (e :: es).length < 30)
    (line : (apos.endLine == pos.line) = true) (ho : PEm r X W o mo) (ha : PAm r X W (e :: es) ma) : PEm r X W (.Call (.Attribute o name apos) (e :: es) [] pos) (wBm T c mo ma) := by
  refine ⟨fun pins s σ H Q I h => ?_⟩
  obtain ⟨g, sl, bx, QD, hh, q, cQ⟩ := h
  refine wpAny_Call_method_late (base_of hb _) (few_of hn hl) line rfl (thn (ho.run pins s σ H (fun v H1 => ∃ g1 bx1 d, Le g g1 ∧ Holds r g1 sl bx1 σ H1 ∧ RepG r.R g1 v d ∧ _) I ⟨g, sl, bx, _, hh, q, fun g1 bx1 H1 v d l h1 rv q1 => ⟨g1, bx1, d, l, h1, rv, q1⟩⟩) fun v s1 ⟨x, H1, I1, rx, g1, bx1, d, l1, h1, rv1, q1⟩ => ?_)
  obtain ⟨ty, q1⟩ := q1
  obtain ⟨t1, t2⟩ := ty_I hK I1 h1 rv1 rx ty
  refine ⟨T, id, M.pa, M.slot, M.ty, t1, t2, ?_⟩
  have hA := ha.run pos pins s1 σ H1 (fun vs H2 => ∃ g2 bx2 es', Le g1 g2 ∧ Holds r g2 sl bx2 σ H2 ∧ RepsG r.R g2 vs es' ∧ c (d :: es') bx2 QD (fun x b => W x sl b)) I1 ⟨g1, sl, bx1, _, h1, q1, fun g2 bx2 H2 vs es' l2 h2 rs2 q2 => ⟨g2, bx2, es', l2, h2, rs2, q2⟩⟩
  rw [starCons hn] at hA ⊢
  refine Calls.callWith_builtin (by show (false || (backTo pos (starEach es X.env)).any (·.1)) = false; rw [plainBack (noStar_tail hn)] <;> rfl) (Calls.evalArgs_plain ?_)
  exact thn hA fun us s2 ⟨vs, H2, I2, r2, g2, bx2, es', l2, h2, rs2, q2⟩ => hc pins s2 σ H2 g2 sl bx2 (d :: es') (v :: us) (x :: vs) QD Q I2 (.cons rx r2) h2 (.cons (l2.rep rv1) rs2) q2 (cQ.le (l1.trans l2))
theorem pem_bm0 {o : Expr} {T id : String} {name : Str} {c : CallM} {mo : WE} {apos pos : Pos} (hK : X.K = r.R.K) (M : MOn T name id) (hc : VO r X W (cl (.builtin id)) c) (hb : okBase o = true)
    (line : (apos.endLine == pos.line) = true) (ho : PEm r X W o mo) : PEm r X W (.Call (.Attribute o name apos) [] [] pos) (wBm T c mo wNil) := by
  refine ⟨fun pins s σ H Q I h => ?_⟩
  obtain ⟨g, sl, bx, QD, hh, q, cQ⟩ := h
  refine wpAny_Call_method0_late (base_of hb _) line (thn (ho.run pins s σ H (fun v H1 => ∃ g1 bx1 d, Le g g1 ∧ Holds r g1 sl bx1 σ H1 ∧ RepG r.R g1 v d ∧ _) I ⟨g, sl, bx, _, hh, q, fun g1 bx1 H1 v d l h1 rv q1 => ⟨g1, bx1, d, l, h1, rv, q1⟩⟩) fun v s1 ⟨x, H1, I1, rx, g1, bx1, d, l1, h1, rv1, q1⟩ => ?_)
  obtain ⟨ty, q1⟩ := q1
  obtain ⟨t1, t2⟩ := ty_I hK I1 h1 rv1 rx ty
  exact ⟨T, id, M.pa, M.slot, M.ty, t1, t2, Calls.callWith_builtin rfl (PySem.evalArgs_none (hc pins s1 σ H1 g1 sl bx1 [d] [v] [x] QD Q I1 (.cons rx .nil) h1 (.cons rv1 .nil) q1 (cQ.le l1)))⟩
theorem vo_mtR {id : String} {c : CallM} {rr : V → List V → Hp → VK → Prop} (h : MtR X id rr)
    (go : ∀ g sl bx σ H v vs ds QD Q, Holds r g sl bx σ H → RepsG r.R g (v :: vs) ds → c ds bx QD (fun x b => W x sl b) → Cont r g sl σ QD Q → rr v vs H Q) (len : ∀ ds bx Q X, c ds bx Q X → ds ≠ []) : VO r X W (cl (.builtin id)) c := fun pins s σ H g sl bx ds us vs QD Q I rv hh rs q cQ => by
  cases rs with
  | nil => exact absurd rfl (len _ _ _ _ q)
  | cons h1 t =>
    cases rv with
    | cons r1 t1 => exact h pins s σ H _ _ _ _ Q I r1 t1 (go g sl bx σ H _ _ _ QD Q hh (.cons h1 t) q cQ)
/-- a box's list is put anew -/
theorem putLst {g : Gx} {sl : Sl} {bx : Bx} {σ : L2.St} {H : Hp} {v : V} {n : Nat} {ds : List D} (hh : Holds r g sl bx σ H) (rv : RepG r.R g v (.box n)) (en : bx n = some (.lst ds)) :
    ∃ a vs, v = .ref a ∧ H a = some (.lst vs) ∧ RepsG r.R g vs ds ∧ ∀ vs' ds', RepsG r.R g vs' ds' → Holds r g sl (upb bx n (.lst ds')) σ (upd H a (.lst vs')) := by
  cases rv with
  | @box a n' hb =>
    obtain ⟨a', k1, k2, vs, k3, k4⟩ := hh.hb.bxs _ _ en
    rw [hb] at k1; cases k1
    exact ⟨a, vs, rfl, k3, k4, fun vs' ds' hr => hh.put en hb ⟨vs', upd_same, hr⟩⟩
end

/-! ### lists' methods -/
def cAppend : CallM := fun ds bx Q _ => ∃ n e l, ds = [.box n, e] ∧ bx n = some (.lst l) ∧ l.length < sizeLine ∧ Q .non (upb bx n (.lst (l ++ [e])))
def cExtend : CallM := fun ds bx Q _ => ∃ n e l m, ds = [.box n, e] ∧ bx n = some (.lst l) ∧ dr bx e = some (.lst m) ∧ l.length + m.length ≤ sizeLine ∧ Q .non (upb bx n (.lst (l ++ m)))
def cPop : CallM := fun ds bx Q _ => ∃ n l y, ds = [.box n] ∧ bx n = some (.lst l) ∧ l[l.length - 1]? = some y ∧ Q y (upb bx n (.lst l.dropLast))
def cPopAt : CallM := fun ds bx Q _ => ∃ n i l k y, ds = [.box n, .int i] ∧ bx n = some (.lst l) ∧ -(2 ^ 63) ≤ i ∧ i < 2 ^ 63 ∧ seqIndex? i l.length = some k ∧ l[k]? = some y ∧ Q y (upb bx n (.lst (l.eraseIdx k)))
def cClear : CallM := fun ds bx Q _ => ∃ n l, ds = [.box n] ∧ bx n = some (.lst l) ∧ Q .non (upb bx n (.lst []))
section
variable {r : Rn} {X : Cx} {W : WXQ}
theorem Reps.dropLast {R : Rt} {F : Hp} {b : Nat → Option Addr} : ∀ {vs : List V} {ds : List D}, Reps R F b vs ds → Reps R F b vs.dropLast ds.dropLast
  | _, _, .nil => .nil
  | _, _, .cons h .nil => .nil
  | _, _, .cons h (.cons h' t) => .cons h (Reps.dropLast (.cons h' t))
theorem Reps.eraseIdx {R : Rt} {F : Hp} {b : Nat → Option Addr} : ∀ {vs : List V} {ds : List D} (i : Nat), Reps R F b vs ds → Reps R F b (vs.eraseIdx i) (ds.eraseIdx i)
  | _, _, _, .nil => .nil
  | _, _, 0, .cons h t => t
  | _, _, i + 1, .cons h t => .cons h (Reps.eraseIdx i t)
theorem Reps.get' {R : Rt} {F : Hp} {b : Nat → Option Addr} {vs : List V} {ds : List D} {i : Nat} {d : D} (h : Reps R F b vs ds) (e : ds[i]? = some d) : ∃ v, vs[i]? = some v ∧ Rep R F b v d := h.get e
theorem vo_append : VO r X W (cl (.builtin "list.append")) cAppend := vo_mtR (rr := rAppend) mt_append (fun g sl bx σ H v vs ds QD Q hh hr ⟨n, e, l, eds, en, hl, q⟩ cQ => by
  subst eds
  obtain ⟨v1, v2, ev, r1, r2⟩ := reps2 hr
  cases ev
  obtain ⟨a, xs, rfl, k1, k2, k3⟩ := putLst hh r1 en
  exact ⟨a, xs, _, rfl, rfl, k1, by rw [k2.length]; exact hl, cQ.at (k3 _ _ (k2.append (.cons r2 .nil))) .non q⟩) fun ds bx Q X h => by obtain ⟨n, e, l, rfl, _⟩ := h; simp
theorem vo_extend : VO r X W (cl (.builtin "list.extend")) cExtend := vo_mtR (rr := rExtend) mt_extend (fun g sl bx σ H v vs ds QD Q hh hr ⟨n, e, l, m, eds, en, em, hl, q⟩ cQ => by
  subst eds
  obtain ⟨v1, v2, ev, r1, r2⟩ := reps2 hr
  cases ev
  obtain ⟨a, xs, rfl, k1, k2, k3⟩ := putLst hh r1 en
  obtain ⟨b, ys, rfl, q1, q2⟩ := hh.lstAt r2 em
  exact ⟨a, b, xs, ys, rfl, rfl, k1, q1, by rw [k2.length, q2.length]; exact hl, cQ.at (k3 _ _ (k2.append q2)) .non q⟩) fun ds bx Q X h => by obtain ⟨n, e, l, m, rfl, _⟩ := h; simp
theorem vo_pop : VO r X W (cl (.builtin "list.pop")) (cOr cPop cPopAt) := VO.or (vo_mtR (rr := rPop) mt_pop (fun g sl bx σ H v vs ds QD Q hh hr ⟨n, l, y, eds, en, ey, q⟩ cQ => by
  subst eds
  obtain ⟨v1, ev, r1⟩ := reps1 hr
  cases ev
  obtain ⟨a, xs, rfl, k1, k2, k3⟩ := putLst hh r1 en
  obtain ⟨z, ez, rz⟩ := k2.get ey
  exact ⟨a, xs, z, rfl, rfl, k1, by rw [k2.length]; exact ez, cQ.at (k3 _ _ k2.dropLast) rz q⟩) fun ds bx Q X h => by obtain ⟨n, l, y, rfl, _⟩ := h; simp)
  (vo_mtR (rr := rPopAt) mt_popAt (fun g sl bx σ H v vs ds QD Q hh hr ⟨n, i, l, k, y, eds, en, h1, h2, ek, ey, q⟩ cQ => by
  subst eds
  obtain ⟨v1, v2, ev, r1, r2⟩ := reps2 hr
  cases ev
  obtain ⟨a, xs, rfl, k1, k2, k3⟩ := putLst hh r1 en
  obtain ⟨z, ez, rz⟩ := k2.get ey
  cases r2
  exact ⟨a, xs, i, k, z, rfl, rfl, k1, h1, h2, by rw [k2.length]; exact ek, ez, cQ.at (k3 _ _ (k2.eraseIdx k)) rz q⟩) fun ds bx Q X h => by obtain ⟨n, i, l, k, y, rfl, _⟩ := h; simp)
theorem vo_clear : VO r X W (cl (.builtin "list.clear")) cClear := vo_mtR (rr := rClear) mt_clear (fun g sl bx σ H v vs ds QD Q hh hr ⟨n, l, eds, en, q⟩ cQ => by
  subst eds
  obtain ⟨v1, ev, r1⟩ := reps1 hr
  cases ev
  obtain ⟨a, xs, rfl, k1, k2, k3⟩ := putLst hh r1 en
  exact ⟨a, xs, rfl, rfl, k1, cQ.at (k3 [] [] .nil) .non q⟩) fun ds bx Q X h => by obtain ⟨n, l, rfl, _⟩ := h; simp
theorem on_append : MOn "list" "append" "list.append" := ⟨PySem.F.plainAttrs_list, PySem.F.slot_list_append, PySem.F.type_list_append⟩
theorem on_extend : MOn "list" "extend" "list.extend" := ⟨PySem.F.plainAttrs_list, PySem.F.slot_list_extend, PySem.F.type_list_extend⟩
theorem on_pop : MOn "list" "pop" "list.pop" := ⟨PySem.F.plainAttrs_list, PySem.F.slot_list_pop, PySem.F.type_list_pop⟩
theorem on_clear : MOn "list" "clear" "list.clear" := ⟨PySem.F.plainAttrs_list, PySem.F.slot_list_clear, PySem.F.type_list_clear⟩
end
end Mi
namespace Mi
open PySem PySem.Spec L2

/-! ### o[i] = v -/
def putD (t : Bool) (k v : D) (kvs : List (D × D)) : List (D × D) :=
  if (kvs.any fun p => eqK t p.1 k) = true then kvs.map fun p => if eqK t p.1 k = true then (p.1, v) else p else kvs ++ [(k, v)]
theorem keyD_of {d : D} {k : L2.Key} (e : toKey d = some k) : keyD k = d := by
  cases d <;> simp [toKey] at e <;> subst e <;> rfl
theorem keysD_of {d : D} {ks : List L2.Key} (e : toKeys d = some ks) : keysD ks = d := by
  cases d with
  | tup ds =>
    have e' : ds.mapM toKey = some ks := e
    show D.tup (ks.map keyD) = _
    congr 1
    clear e
    induction ds generalizing ks with
    | nil => simp at e'; subst e'; rfl
    | cons a ds ih =>
      rw [List.mapM_cons] at e'
      simp only [Option.bind_eq_bind, Option.bind_eq_some_iff, Option.pure_def, Option.some.injEq] at e'
      obtain ⟨k, e1, ks', e2, rfl⟩ := e'
      rw [List.map_cons, keyD_of e1, ih e2]
  | _ => simp [toKeys] at e
section
variable {κ : Type} [DecidableEq κ]
/-- the same store, on both sides -/
theorem put_rel {R : Rt} {F : Hp} {b : Nat → Option Addr} (kd : κ → D) (eqf : D → D → Bool) (k : κ) (d : D) (hd : kd k = d) (he : ∀ j : κ, eqf (kd j) d = decide (j = k)) {v : V} {e : D} (rv : Rep R F b v e) :
    ∀ {kv : List (κ × V)} {ds : List D}, Reps R F b (kv.map (·.2)) ds → ∃ ds', Reps R F b ((putK kv k v).map (·.2)) ds' ∧
      (if ((((kv.map fun p => kd p.1).zip ds).any fun p => eqf p.1 d)) = true then ((kv.map fun p => kd p.1).zip ds).map fun p => if eqf p.1 d = true then (p.1, e) else p else ((kv.map fun p => kd p.1).zip ds) ++ [(d, e)]) =
        (((putK kv k v).map fun p => kd p.1).zip ds') := by
  intro kv ds h
  have hz : kv.length = ds.length := by rw [← h.length, List.length_map]
  have anyE : ∀ {kv : List (κ × V)} {ds : List D}, kv.length = ds.length → (((kv.map fun p => kd p.1).zip ds).any fun p => eqf p.1 d) = kv.any fun p => decide (p.1 = k) := by
    intro kv
    induction kv with
    | nil => intro ds _; rfl
    | cons p kv ih =>
      intro ds hz
      cases ds with
      | nil => cases hz
      | cons d' ds =>
        rw [List.map_cons, List.zip_cons_cons, List.any_cons, List.any_cons, ih (by simpa using hz)]
        simp only [he]
  rw [anyE hz]
  unfold putK
  by_cases q : (kv.any fun p => decide (p.1 = k)) = true
  · rw [if_pos q, if_pos q]
    clear q anyE
    have key : ∀ {kv : List (κ × V)} {ds : List D}, Reps R F b (kv.map (·.2)) ds → ∃ ds', Reps R F b ((kv.map fun p => if p.1 = k then (p.1, v) else p).map (·.2)) ds' ∧
        (((kv.map fun p => kd p.1).zip ds).map fun p => if eqf p.1 d = true then (p.1, e) else p) = (((kv.map fun p => if p.1 = k then (p.1, v) else p).map fun p => kd p.1).zip ds') := by
      intro kv
      induction kv with
      | nil => intro ds h; cases h; exact ⟨[], .nil, rfl⟩
      | cons p kv ih =>
        intro ds h
        cases h with
        | cons h t =>
          obtain ⟨ds', h1, h2⟩ := ih t
          by_cases qk : p.1 = k
          · refine ⟨e :: ds', ?_, ?_⟩
            · simp only [List.map_cons, if_pos qk]; exact .cons rv h1
            · simp only [List.map_cons, if_pos qk, List.zip_cons_cons, he, decide_eq_true qk, if_true]
              rw [h2]
          · rename_i d1 ds1
            refine ⟨d1 :: ds', ?_, ?_⟩
            · simp only [List.map_cons, if_neg qk]; exact .cons h h1
            · simp only [List.map_cons, if_neg qk, List.zip_cons_cons, he, decide_eq_false qk]
              rw [h2]; rfl
    exact key h
  · rw [if_neg q, if_neg q]
    refine ⟨ds ++ [e], ?_, ?_⟩
    · rw [List.map_append]; exact h.append (.cons rv .nil)
    · rw [List.map_append, List.zip_append (by simpa using hz)]
      simp [hd]
end
def wgSub (mo mi : WE) : WG := fun d W sl bx Q => mo sl bx (fun o bx1 => mi sl bx1 (fun i bx2 => ∃ n, o = .box n ∧
  ((∃ l k j, bx2 n = some (.lst l) ∧ i = .int k ∧ ixN l.length k = some j ∧ Q sl (upb bx2 n (.lst (l.set j d)))) ∨
   (∃ t kvs, bx2 n = some (.dic t kvs) ∧ okKey t i = true ∧ kvs.length < sizeLine ∧ Q sl (upb bx2 n (.dic t (putD t i d kvs)))))) (fun x b => W x sl b)) (fun x b => W x sl b)
section
variable {r : Rn} {X : Cx} {W : WXQ}
/-- a box's dict is put anew -/
theorem Holds.putDic {g : Gx} {sl : Sl} {bx : Bx} {σ : L2.St} {H : Hp} {v y w : V} {n : Nat} {t : Bool} {kvs : List (D × D)} {i d : D} (hh : Holds r g sl bx σ H) (rv : RepG r.R g v (.box n)) (en : bx n = some (.dic t kvs)) (ri : RepG r.R g y i) (rw' : RepG r.R g w d)
    (ok : okKey t i = true) (hl : kvs.length < sizeLine) : ∃ a H', v = .ref a ∧ DPut H a y w H' ∧ Holds r g sl (upb bx n (.dic t (putD t i d kvs))) σ H' := by
  cases rv with
  | @box a n' hb =>
    obtain ⟨a', k1, k2, k3⟩ := hh.hb.bxs _ _ en
    rw [hb] at k1; cases k1
    cases t with
    | false =>
      obtain ⟨kv, ds, h1, h2, rfl⟩ := k3
      have hz : kv.length = ds.length := by rw [← h2.length, List.length_map]
      obtain ⟨k, ek⟩ := Option.isSome_iff_exists.mp (show (toKey i).isSome = true by simpa [okKey] using ok)
      have ev := rep_key ri ek
      subst ev
      obtain ⟨ds', q1, q2⟩ := put_rel keyD (eqK false) k i (keyD_of ek) (fun j => by simp [eqK, toKey_keyD, ek]) rw' h2
      refine ⟨a, _, rfl, DPut.k h1 (by simp at hl; omega), hh.put en hb ⟨_, ds', upd_same, q1, q2⟩⟩
    | true =>
      obtain ⟨kv, ds, h1, h2, rfl⟩ := k3
      have hz : kv.length = ds.length := by rw [← h2.length, List.length_map]
      obtain ⟨ks, ek⟩ := Option.isSome_iff_exists.mp (show (toKeys i).isSome = true by simpa [okKey] using ok)
      obtain ⟨ds', q1, q2⟩ := put_rel keysD (eqK true) ks i (keysD_of ek) (fun j => by simp [eqK, toKeys_keysD, ek]) rw' h2
      cases i with
      | tup es =>
        obtain ⟨b, vs, rfl, hb', rs⟩ := hh.tupAt ri (ds := es) rfl
        have ev := reps_keys rs (show es.mapM toKey = some ks from ek)
        subst ev
        exact ⟨a, _, rfl, DPut.t h1 hb' (by simp at hl; omega), hh.put en hb ⟨_, ds', upd_same, q1, q2⟩⟩
      | _ => simp [toKeys] at ek
theorem set_any (hu : X.A.units + 1 < cLine) : PSet X (fun o i v H Q => rSetL o i v H Q ∨ rSetD o i v H Q) := by
  intro pins s σ H o i v ov iv u Q I ro ri rv h
  rcases h with h | h
  · exact set_list pins s σ H o i v ov iv u Q I ro ri rv h
  · exact set_dict hu pins s σ H o i v ov iv u Q I ro ri rv h
theorem pgm_sub {o i : Expr} {mo mi : WE} {pos : Pos} (hu : X.A.units + 1 < cLine) (ho : PEm r X W o mo) (hi : PEm r X W i mi)
    (ha : ∀ v, assign (.Subscript o i pos) X.env v = (do
      let ov ← holding [v] (eval o X.env)
      let iv ← holding [v, ov] (eval i X.env)
      standAt pos
      holding [v, ov, iv] (setItem ov iv v)
      release [v, ov, iv] [])) : PGm r X W (.Subscript o i pos) (wgSub mo mi) := pg_imp (pg_sub ho hi (set_any hu) ha) fun v σ H Q q => by
  obtain ⟨g, sl, bx, d, QD, hh, rv, q, c⟩ := q
  refine ⟨g, sl, bx, _, hh, q, fun g1 bx1 H1 x o l1 h1 rx q1 => ?_⟩
  refine ⟨g1, sl, bx1, _, h1, q1, fun g2 bx2 H2 y i l2 h2 ry q2 => ?_⟩
  have l12 := l1.trans l2
  obtain ⟨n, rfl, q2⟩ := q2
  rcases q2 with ⟨l, k, j, en, rfl, ej, q3⟩ | ⟨t, kvs, en, ok, hl, q3⟩
  · obtain ⟨a, vs, rfl, k1, k2, k3⟩ := putLst h2 (l2.rep rx) en
    cases ry
    exact .inl ⟨a, vs, k, j, rfl, rfl, k1, by rw [k2.length]; exact ej, c _ _ _ _ _ l12 (k3 _ _ (k2.set (l12.rep rv) j)) q3⟩
  · obtain ⟨a, H', rfl, k1, k2⟩ := h2.putDic (l2.rep rx) en ry (l12.rep rv) ok hl
    exact .inr ⟨a, H', rfl, k1, c _ _ _ _ _ l12 k2 q3⟩
end

/-! ### range -/
def wiRng1 (m : WA) : WIt := fun sl bx Q X => m sl bx (fun ds bx' => ∃ j : Int, ds = [.int j] ∧ -(2 ^ 62) ≤ j ∧ j < 2 ^ 62 ∧ Q ((List.range j.toNat).map fun (i : Nat) => .int (i : Int)) always bx') X
def wiRng2 (m : WA) : WIt := fun sl bx Q X => m sl bx (fun ds bx' => ∃ i j : Int, ds = [.int i, .int j] ∧ (-(2 ^ 62) ≤ i ∧ i < 2 ^ 62 ∧ -(2 ^ 62) ≤ j ∧ j < 2 ^ 62) ∧ Q ((List.range (j - i).toNat).map fun (k : Nat) => .int (i + (k : Int))) always bx') X
section
variable {r : Rn} {X : Cx} {W : WXQ} {tg : Expr}
theorem yields_rng {g0 : Gx} {lo : Int} {n : Nat} : Yields r (Itr lo n) g0 always ((List.range n).map fun (k : Nat) => .int (lo + (k : Int))) where
  go := fun i g sl bx σ H l h c hi => by
    have hi : i < n := by simpa using hi
    exact hi
  yld := fun i g sl bx σ H x H' l h c hi q => by
    obtain ⟨rfl, rfl⟩ := q
    have hi : i < n := by simpa using hi
    refine ⟨g, .int (lo + i), ?_, Le.refl _, h, .int _⟩
    rw [List.getElem?_map, List.getElem?_range hi]; rfl
  stop := fun i g sl bx σ H l h c hi => by
    have hi : n ≤ i := by simpa using hi
    exact hi
theorem pim_range1 {a : Expr} {m : WA} {p pos : Pos} (hg : Gl X "range") (hm : X.mg "range" = none) (ha : PAm r X W [a] m) (hs : starEach [a] X.env = [(false, eval a X.env)]) : PIm r X W tg (.Call (.Name "range" p) [a] [] pos) (wiRng1 m) := by
  refine pi_imp (pi_range1 hg hm ha hs) fun σ H R q => ?_
  obtain ⟨g, sl, bx, QD, hh, q, c⟩ := q
  refine ⟨g, sl, bx, _, hh, q, fun g1 bx1 H1 vs ds l h1 rs q1 => ?_⟩
  obtain ⟨j, rfl, a1, a2, q2⟩ := q1
  obtain ⟨v, rfl, rv⟩ := reps1 rs
  cases rv
  refine ⟨j, rfl, a1, a2, c g1 bx1 H1 _ _ _ l h1 ?_ q2⟩
  simpa using yields_rng (r := r) (g0 := g1) (lo := 0) (n := j.toNat)
theorem pim_range2 {a b : Expr} {m : WA} {p pos : Pos} (hg : Gl X "range") (hm : X.mg "range" = none) (ha : PAm r X W [a, b] m) (hs : starEach [a, b] X.env = [(false, eval a X.env), (false, eval b X.env)]) (hs2 : starEach [b] X.env = [(false, eval b X.env)]) : PIm r X W tg (.Call (.Name "range" p) [a, b] [] pos) (wiRng2 m) := by
  refine pi_imp (pi_range2 hg hm ha hs hs2) fun σ H R q => ?_
  obtain ⟨g, sl, bx, QD, hh, q, c⟩ := q
  refine ⟨g, sl, bx, _, hh, q, fun g1 bx1 H1 vs ds l h1 rs q1 => ?_⟩
  obtain ⟨i, j, rfl, a1, q2⟩ := q1
  obtain ⟨v, u, rfl, rv, ru⟩ := reps2 rs
  cases rv; cases ru
  exact ⟨i, j, rfl, a1, c g1 bx1 H1 _ _ _ l h1 yields_rng q2⟩
end

/-! ### dict displays -/
def wPairs : List (WE × WE) → Sl → Bx → (List (D × D) → Bx → Prop) → XQ → Prop
  | [], _, bx, Q, _ => Q [] bx
  | (mk, mv) :: r, sl, bx, Q, X => mk sl bx (fun k bx1 => mv sl bx1 (fun v bx2 => wPairs r sl bx2 (fun ps bx3 => Q ((k, v) :: ps) bx3) X) X) X
def toPairs : List (WE × WE) → (r : Rn) → WXQ → List (TE × TE)
  | [], _, _ => []
  | (mk, mv) :: l, r, W => (tI r W mk, tI r W mv) :: toPairs l r W
section
variable {r : Rn} {X : Cx} {W : WXQ}
def VVR (R : Rt) (g : Gx) : List (V × V) → List (D × D) → Prop := Paired fun p q => RepG R g p.1 q.1 ∧ RepG R g p.2 q.2
theorem VVR.le {R : Rt} {g g' : Gx} (l : Le g g') {ps : List (V × V)} {qs : List (D × D)} (h : VVR R g ps qs) : VVR R g' ps qs := by
  unfold VVR at *
  induction h with
  | nil => exact .nil
  | cons h t ih => exact .cons ⟨l.rep h.1, l.rep h.2⟩ ih
theorem tPairs_I {σ : L2.St} {sl : Sl} : ∀ {ms : List (WE × WE)} {g : Gx} {bx : Bx} {H : Hp} {QD : List (D × D) → Bx → Prop} {Q : List (V × V) → Hp → Prop}, Holds r g sl bx σ H → wPairs ms sl bx QD (fun x b => W x sl b) →
    (∀ g' bx' H' ps qs, Le g g' → Holds r g' sl bx' σ H' → VVR r.R g' ps qs → QD qs bx' → Q ps H') → tPairs (toPairs ms r W) σ H Q
  | [], g, bx, H, QD, Q, hh, q, c => c g bx H [] [] (Le.refl _) hh .nil q
  | (mk, mv) :: ms, g, bx, H, QD, Q, hh, q, c => by
    refine ⟨g, sl, bx, _, hh, q, fun g1 bx1 H1 x d l1 h1 rx q1 => ?_⟩
    refine ⟨g1, sl, bx1, _, h1, q1, fun g2 bx2 H2 y e l2 h2 ry q2 => ?_⟩
    exact tPairs_I h2 q2 fun g3 bx3 H3 ps qs l3 h3 rs q3 => c g3 bx3 H3 _ _ ((l1.trans l2).trans l3) h3 (.cons ⟨l3.rep (l2.rep rx), l3.rep ry⟩ rs) q3
/-- the pairs in order, a later one wins -/
def mergeD (t : Bool) (kvs : List (D × D)) (ps : List (D × D)) : List (D × D) := ps.foldl (fun acc p => putD t p.1 p.2 acc) kvs
theorem merge_rel {g : Gx} : ∀ {ps : List (V × V)} {qs : List (D × D)} {kv : List (L2.Key × V)} {ds : List D}, VVR r.R g ps qs → RepsG r.R g (kv.map (·.2)) ds → (qs.all fun q => okKey false q.1) = true →
    ∃ kvs : List (L2.Key × V), ps = kvs.map (fun kv => (kV kv.1, kv.2)) ∧ ∃ ds', RepsG r.R g ((mergeK kv kvs).map (·.2)) ds' ∧ mergeD false ((kv.map fun p => keyD p.1).zip ds) qs = (((mergeK kv kvs).map fun p => keyD p.1).zip ds')
  | [], [], kv, ds, .nil, hr, _ => ⟨[], rfl, ds, hr, rfl⟩
  | p :: ps, q :: qs, kv, ds, .cons h t, hr, ok => by
    simp only [List.all_cons, Bool.and_eq_true] at ok
    obtain ⟨k, ek⟩ := Option.isSome_iff_exists.mp (show (toKey q.1).isSome = true by simpa [okKey] using ok.1)
    have ev := rep_key h.1 ek
    obtain ⟨ds1, r1, e1⟩ := put_rel keyD (eqK false) k q.1 (keyD_of ek) (fun j => by simp [eqK, toKey_keyD, ek]) h.2 hr
    obtain ⟨kvs, e2, ds2, r2, e3⟩ := merge_rel t r1 ok.2
    refine ⟨(k, p.2) :: kvs, ?_, ds2, r2, ?_⟩
    · obtain ⟨p1, p2⟩ := p
      simp only at ev; subst ev
      rw [e2]; rfl
    · rw [show mergeD false ((kv.map fun p => keyD p.1).zip ds) (q :: qs) = mergeD false (putD false q.1 q.2 ((kv.map fun p => keyD p.1).zip ds)) qs from rfl]
      rw [show putD false q.1 q.2 ((kv.map fun p => keyD p.1).zip ds) = _ from e1, e3]; rfl
def wDisp (b : Bool) (ms : List (WE × WE)) : WE := fun sl bx Q X => ∀ n, bx n = none → wPairs ms sl (upb bx n (.dic false [])) (fun ps bx' => bx' n = some (.dic false []) ∧ ps.length ≤ 15 ∧ (ps.all fun q => okKey false q.1) = true ∧
  if b = true then Q (.box n) (upb bx' n (.dic false (mergeD false [] ps))) else Q (.dic false (mergeD false [] ps)) (delb bx' n)) X
def wDic0 (t b : Bool) : WE := fun sl bx Q _ => fin b (.new (.dic t [])) bx Q
theorem fin_dic0 {t b : Bool} {g : Gx} {sl : Sl} {bx : Bx} {σ : L2.St} {H : Hp} {QD : VQ} {Q : VK} (h : Holds r g sl bx σ H) (q : fin b (.new (.dic t [])) bx QD) (c : Cont r g sl σ QD Q) :
    ∀ p, H p = none → Q (.ref p) (upd H p (if t = true then .dT [] else .dK [])) := by
  intro p hp
  have hF := (h.none_of hp).1
  cases b with
  | false =>
    have q' : QD (.dic t []) bx := by simpa [fin] using q
    cases t with
    | false =>
      have le := Gx.le_add (o := .dK []) hF
      exact c _ _ _ _ _ le (h.lay (.dK []) hp) (Rep.dicK (kvs := []) (ds := []) (.inl (by show upd g.F p _ p = _; rw [upd_same])) .nil) q'
    | true =>
      have le := Gx.le_add (o := .dT []) hF
      exact c _ _ _ _ _ le (h.lay (.dT []) hp) (Rep.dicT (kvs := []) (ds := []) (.inl (by show upd g.F p _ p = _; rw [upd_same])) .nil) q'
  | true =>
    have q' : ∀ n, bx n = none → QD (.box n) (upb bx n (.dic t [])) := by simpa [fin] using q
    have ht := h.hb.top g.top (Nat.le_refl _)
    have le := Gx.le_addB (p := p) ht
    have eb : (g.addB p).b g.top = some p := by show (if g.top = g.top then some p else _) = _; rw [if_pos rfl]
    cases t with
    | false => exact c _ _ _ _ _ le (h.layB (o := .dK []) (c := .dic false []) hp ⟨[], [], upd_same, .nil, rfl⟩) (.box eb) (q' _ h.topNone)
    | true => exact c _ _ _ _ _ le (h.layB (o := .dT []) (c := .dic true []) hp ⟨[], [], upd_same, .nil, rfl⟩) (.box eb) (q' _ h.topNone)
theorem pem_dic0 {t b : Bool} {pos : Pos} : PEm r X W (.Dict [] [] pos) (wDic0 t b) := by
  cases t with
  | false =>
    refine pe_imp pe_dnewK fun σ H Q q => ?_
    obtain ⟨g, sl, bx, QD, hh, q, c⟩ := q
    exact fun p hp => by simpa using fin_dic0 hh q c p hp
  | true =>
    refine pe_imp pe_dnewT fun σ H Q q => ?_
    obtain ⟨g, sl, bx, QD, hh, q, c⟩ := q
    exact fun p hp => by simpa using fin_dic0 hh q c p hp
theorem pem_disp {b : Bool} {keys : List (Option Expr)} {values : List Expr} {ms : List (WE × WE)} {pos : Pos} (h : PPs X pos keys values (toPairs ms r W)) (hall : keys.all (·.isSome) = true) (hl : keys.length = values.length) (h0 : keys ≠ [])
    (h15 : keys.length ≤ 15) : PEm r X W (.Dict keys values pos) (wDisp b ms) := pe_imp (pe_disp h hall hl h0 h15) fun σ H Q q => by
  obtain ⟨g, sl, bx, QD, hh, q, c⟩ := q
  intro p hp
  have ht := hh.hb.top g.top (Nat.le_refl _)
  have le := Gx.le_addB (p := p) ht
  have eb : (g.addB p).b g.top = some p := by show (if g.top = g.top then some p else _) = _; rw [if_pos rfl]
  have h1 := hh.layB (o := .dK []) (c := .dic false []) hp ⟨[], [], upd_same, .nil, rfl⟩
  refine tPairs_I h1 (q _ hh.topNone) fun g2 bx2 H2 ps qs l2 h2 rs q2 => ?_
  obtain ⟨en, h15, ok, q3⟩ := q2
  obtain ⟨a, k1, k2, kv0, ds0, k3, k4, k5⟩ := h2.hb.bxs _ _ en
  have eb2 := l2.b _ _ eb
  rw [eb2] at k1; cases k1
  have e0 : kv0 = [] := by
    have hz := k4.length
    cases kv0 with
    | nil => rfl
    | cons a l => cases ds0 with
      | nil => simp at hz
      | cons b m => simp at k5
  subst e0
  obtain ⟨kvs, e1, ds', r1, e2⟩ := merge_rel (kv := []) (ds := []) rs .nil ok
  have hlen : kvs.length ≤ 15 := by
    have z : ∀ {ps : List (V × V)} {qs : List (D × D)}, VVR r.R g2 ps qs → ps.length = qs.length := fun h => by
      induction h with
      | nil => rfl
      | cons _ _ ih => simp [ih]
    have := z rs
    rw [e1] at this; simp at this; omega
  refine ⟨k3, kvs, e1, hlen, ?_⟩
  have h3 := h2.put (c' := .dic false (mergeD false [] qs)) en eb2 (o := .dK (mergeK [] kvs)) ⟨_, ds', upd_same, r1, e2⟩
  have l12 := le.trans l2
  cases b with
  | true => rw [if_pos rfl] at q3; exact c _ _ _ _ _ l12 h3 (.box eb2) q3
  | false =>
    rw [if_neg Bool.false_ne_true] at q3
    have e4 : upb bx2 g.top (.dic false (mergeD false [] qs)) g.top = some (.dic false (mergeD false [] qs)) := by simp [upb]
    obtain ⟨h4, l4⟩ := h3.freeze e4 eb2 upd_same
    have e5 : delb (upb bx2 g.top (.dic false (mergeD false [] qs))) g.top = delb bx2 g.top := by
      funext m
      by_cases hm : m = g.top
      · simp [delb, hm]
      · simp [delb, upb, hm]
    rw [e5] at h4
    have rd : RepG r.R (g2.add p (.dK (mergeK [] kvs))) (.ref p) (.dic false (mergeD false [] qs)) := by
      have e2' : mergeD false [] qs = _ := e2
      rw [e2']
      exact .dicK (.inl (by show upd g2.F p _ p = _; rw [upd_same])) (l4.reps r1)
    exact c _ _ _ _ _ (l12.trans l4) h4 rd q3
end
end Mi
namespace Mi
open PySem PySem.Spec L2

/-! ### a comprehension's targets: names of its own -/
inductive CT where
  | one (i : Nat) | tup (is : List Nat)
def gNames : List Nat → TGs
  | [] => gNil
  | i :: is => gCons (gName i) (gNames is)
def ctG (K : PySem.W.Frag) : CT → TG
  | .one i => gName i
  | .tup is => gTup K is.length (gNames is)
def setsD : List Nat → List D → Sl → Option Sl
  | [], [], sl => some sl
  | i :: is, d :: ds, sl => setsD is ds (sl.set i (some d))
  | _, _, _ => none
def ctD : CT → D → Sl → Option Sl
  | .one i, d, sl => some (sl.set i (some d))
  | .tup is, .tup ds, sl => setsD is ds sl
  | .tup is, .rot ds, sl => setsD is ds sl
  | _, _, _ => none
def ctIs : CT → List Nat
  | .one i => [i]
  | .tup is => is
def wipeD (sl : Sl) : List Nat → Sl
  | [] => sl
  | v :: vs => (wipeD sl vs).set v none
theorem wipe_get {σ : L2.St} : ∀ {vs : List Nat} {j : Nat}, j < σ.length → (wipe σ vs)[j]? = if j ∈ vs then some none else σ[j]?
  | [], _, _ => by simp [wipe]
  | v :: vs, j, hj => by
    unfold wipe
    by_cases e : v = j
    · subst e
      rw [List.getElem?_set_self (by rw [wipe_length]; exact hj)]
      simp
    · rw [List.getElem?_set_ne e, wipe_get hj]
      simp [Ne.symm e]
theorem wipe_set {σ : L2.St} {vs : List Nat} {i : Nat} {x : Option V} (hi : i ∈ vs) : wipe (σ.set i x) vs = wipe σ vs := by
  apply List.ext_getElem?
  intro j
  by_cases hj : j < σ.length
  · rw [wipe_get (by simpa using hj), wipe_get hj]
    by_cases h : j ∈ vs
    · simp [h]
    · simp only [h, if_false]
      rw [List.getElem?_set_ne]
      rintro rfl
      exact h hi
  · rw [List.getElem?_eq_none (by rw [wipe_length]; simpa using hj), List.getElem?_eq_none (by rw [wipe_length]; simpa using hj)]
section
variable {r : Rn} {g : Gx} {sl : Sl} {bx : Bx} {σ : L2.St} {H : Hp}
theorem Holds.unset {i : Nat} (h : Holds r g sl bx σ H) : Holds r g (sl.set i none) bx (σ.set i none) H := by
  refine ⟨h.hb, h.kp, fun j e hj => ?_, by simp [h.len]⟩
  by_cases q : j = i
  · subst q
    have hlt : j < sl.length := by
      have := (List.getElem?_eq_some_iff.mp hj).1
      simpa using this
    rw [List.getElem?_set_self hlt] at hj
    cases hj
  · rw [List.getElem?_set_ne (Ne.symm q)] at hj
    obtain ⟨v', h1, h2⟩ := h.ss j e hj
    exact ⟨v', by rw [List.getElem?_set_ne (Ne.symm q)]; exact h1, h2⟩
theorem Holds.wiped (h : Holds r g sl bx σ H) : ∀ vs : List Nat, Holds r g (wipeD sl vs) bx (wipe σ vs) H
  | [] => h
  | v :: vs => (h.wiped vs).unset
theorem Holds.outer {g' : Gx} {sl2 : Sl} {bx' : Bx} {σ2 : L2.St} {H' : Hp} (h : Holds r g sl bx σ H) (h' : Holds r g' sl2 bx' σ2 H') (l : Le g g') : Holds r g' sl bx' σ H' := ⟨h'.hb, h'.kp, h.ss.mono l, h.len⟩
theorem sets_I {Q : L2.St → Hp → Prop} {vs : List Nat} : ∀ {is : List Nat} {us : List V} {ds : List D} {sl sl' : Sl} {σ : L2.St}, Holds r g sl bx σ H → RepsG r.R g us ds → setsD is ds sl = some sl' → (∀ i ∈ is, i ∈ vs) →
    (∀ σ', Holds r g sl' bx σ' H → wipe σ' vs = wipe σ vs → Q σ' H) → gNames is us σ H Q
  | [], _, [], sl, sl', σ, h, .nil, e, hv, q => by
    cases e
    exact ⟨rfl, q σ h rfl⟩
  | i :: is, _, d :: ds, sl, sl', σ, h, .cons h1 t, e, hv, q => by
    refine ⟨_, _, rfl, ?_⟩
    refine sets_I (h.set h1) t e (fun j hj => hv j (List.mem_cons_of_mem _ hj)) fun σ' h' e' => q σ' h' ?_
    rw [e', wipe_set (hv i List.mem_cons_self)]
  | [], _, d :: ds, sl, sl', σ, h, hr, e, hv, q => by cases e
  | i :: is, _, [], sl, sl', σ, h, hr, e, hv, q => by cases e
theorem sets_len : ∀ {is : List Nat} {ds : List D} {sl sl' : Sl}, setsD is ds sl = some sl' → ds.length = is.length
  | [], [], _, _, _ => rfl
  | i :: is, d :: ds, sl, sl', e => by simp [sets_len (is := is) (ds := ds) e]
  | [], d :: ds, _, _, e => by cases e
  | i :: is, [], _, _, e => by cases e
theorem ct_I {K : PySem.W.Frag} {Q : L2.St → Hp → Prop} {vs : List Nat} {ct : CT} {v : V} {d : D} {sl' : Sl} (hK : K = r.R.K) (h : Holds r g sl bx σ H) (rv : RepG r.R g v d) (e : ctD ct d sl = some sl') (hv : ∀ i ∈ ctIs ct, i ∈ vs)
    (q : ∀ σ', Holds r g sl' bx σ' H → wipe σ' vs = wipe σ vs → Q σ' H) : ctG K ct v σ H Q := by
  subst hK
  cases ct with
  | one i =>
    cases e
    exact q _ (h.set rv) (wipe_set (hv i (List.mem_singleton.mpr rfl)))
  | tup is =>
    cases rv with
    | tup h1 h2 =>
      have e' : setsD is _ sl = some sl' := e
      exact ⟨_, _, rfl, .inl (.inl (h.hb.sub.ls _ _ rfl h1)), by rw [h2.length]; exact sets_len e', sets_I h h2 e' hv q⟩
    | rot h1 h2 =>
      have e' : setsD is _ sl = some sl' := e
      exact ⟨_, _, rfl, h.hb.sub.sqT h1, by rw [h2.length]; exact sets_len e', sets_I h h2 e' hv q⟩
    | _ => cases e
end

/-! ### list comprehensions, one clause -/
/-- n: the new list -/
def lcW (n : Nat) (cond : Bx → Prop) (ct : CT) (vs : List Nat) (tt : WT) (te : WE) (sl : Sl) (Q : Bx → Prop) : List D → Bx → Prop
  | [], bx => cond bx ∧ Q bx
  | d :: ds, bx => cond bx ∧ ∃ sl', ctD ct d (wipeD sl vs) = some sl' ∧ tt sl' bx (fun k bx1 => if k = true then
      te sl' bx1 (fun y bx2 => ∃ acc, bx2 n = some (.lst acc) ∧ acc.length < sizeLine ∧ lcW n cond ct vs tt te sl Q ds (upb bx2 n (.lst (acc ++ [y])))) (fun _ _ => False)
    else lcW n cond ct vs tt te sl Q ds bx1) (fun _ _ => False)
def wLc (b : Bool) (ct : CT) (vs : List Nat) (it : WIt) (tt : WT) (te : WE) : WE := fun sl bx Q X => it sl bx (fun ds cond bx1 => ∀ n, bx1 n = none →
  lcW n cond ct vs tt te sl (fun bx2 => ∃ acc, bx2 n = some (.lst acc) ∧ if b = true then Q (.box n) bx2 else Q (.lst acc) (delb bx2 n)) ds (upb bx1 n (.lst []))) X
def wtYes : WT := fun _ bx Q _ => Q true bx
abbrev WF : WXQ := fun _ _ _ => False
abbrev PTsm (r : Rn) (X : Cx) (W : WXQ) (ifs : List Expr) (m : WT) : Prop := PTs X ifs (tIT r W m)
section
variable {r : Rn} {X : Cx} {W : WXQ}
theorem ptsm_nil : PTsm r X W [] wtYes := ⟨fun pins s σ H Q I h => pts_nil.run pins s σ H Q I (by
  obtain ⟨g, sl, bx, QD, hh, q, c⟩ := h
  exact c g bx H true (Le.refl _) hh q)⟩
theorem ptsm_one {e : Expr} {m : WT} (h : PTm r X W e m) : PTsm r X W [e] m := pts_one h
theorem lc_I {ct : CT} {vs : List Nat} {it : WIt} {tt : WT} {te : WE} {b : Bool} (hK : X.K = r.R.K) (hv : ∀ i ∈ ctIs ct, i ∈ vs) {σ : L2.St} {H : Hp} {Q : VK} (h : tI r W (wLc b ct vs it tt te) σ H Q) : tLc (tII r W it) (ctG X.K ct) (tIT r WF tt) (tI r WF te) vs σ H Q := by
  obtain ⟨g, sl, bx, QD, hh, q, c⟩ := h
  refine ⟨g, sl, bx, _, hh, q, fun g1 bx1 H1 J ds cond l1 h1 ys q1 => ?_⟩
  intro p hp
  have q1 := q1 _ h1.topNone
  have ht := h1.hb.top g1.top (Nat.le_refl _)
  have le := Gx.le_addB (p := p) ht
  have eb : (g1.addB p).b g1.top = some p := by show (if g1.top = g1.top then some p else _) = _; rw [if_pos rfl]
  have h2 := h1.layB (o := .lst []) (c := .lst []) hp ⟨[], upd_same, .nil⟩
  refine ⟨fun i m H' => i + m = ds.length ∧ ∃ g' bx', Le (g1.addB p) g' ∧ Holds r g' sl bx' σ H' ∧ lcW g1.top cond ct vs tt te sl (fun bx2 => ∃ acc, bx2 g1.top = some (.lst acc) ∧ if b = true then QD (.box g1.top) bx2 else QD (.lst acc) (delb bx2 g1.top)) (ds.drop i) bx',
    ⟨ds.length, by omega, _, _, Le.refl _, h2, by rw [List.drop_zero]; exact q1⟩, ?_⟩
  rintro i m H' ⟨em, g', bx', l', h', q'⟩
  have ebg := l'.b _ _ eb
  by_cases hi : i < ds.length
  · have ed := List.drop_eq_getElem_cons hi
    rw [ed] at q'
    obtain ⟨hc, sl', ec, q'⟩ := q'
    refine .inr ⟨ys.go i g' sl bx' σ H' (le.trans l') h' hc hi, fun H2 => ∃ g2 bx2, Le (g1.addB p) g2 ∧ Holds r g2 sl bx2 σ H2 ∧ lcW g1.top cond ct vs tt te sl (fun bx2 => ∃ acc, bx2 g1.top = some (.lst acc) ∧ if b = true then QD (.box g1.top) bx2 else QD (.lst acc) (delb bx2 g1.top)) (ds.drop (i + 1)) bx2,
      fun H2 ⟨g2, bx2, a1, a2, a3⟩ => ⟨m - 1, by omega, by omega, g2, bx2, a1, a2, a3⟩, fun x H2 hy => ?_⟩
    obtain ⟨g2, d, e2, l2, hh2, rd⟩ := ys.yld i g' sl bx' σ H' x H2 (le.trans l') h' hc hi hy
    rw [List.getElem?_eq_getElem hi] at e2; cases e2
    refine ct_I hK (hh2.wiped vs) rd ec hv fun σ2 h3 ew => ⟨?_, ?_⟩
    · rw [ew]
      apply List.ext_getElem?
      intro j
      by_cases hj : j < σ.length
      · rw [wipe_get (by rw [wipe_length]; exact hj), wipe_get hj]
        by_cases hjv : j ∈ vs
        · simp [hjv]
        · simp [hjv]
      · rw [List.getElem?_eq_none (by rw [wipe_length, wipe_length]; simpa using hj), List.getElem?_eq_none (by rw [wipe_length]; simpa using hj)]
    · refine ⟨g2, sl', bx', _, h3, q', fun g3 bx3 H3 k l3 h4 q3 => ?_⟩
      cases k with
      | false =>
        rw [if_neg Bool.false_ne_true] at q3 ⊢
        exact ⟨g3, bx3, (l'.trans l2).trans l3, hh2.outer h4 l3, q3⟩
      | true =>
        rw [if_pos rfl] at q3 ⊢
        refine ⟨g3, sl', bx3, _, h4, q3, fun g4 bx4 H4 y e l4 h5 ry q4 => ?_⟩
        obtain ⟨acc, ea, hl, q5⟩ := q4
        obtain ⟨a', k1, k2, ws, k3, k4⟩ := h5.hb.bxs _ _ ea
        have l14 := (l'.trans l2).trans (l3.trans l4)
        have eb4 := l14.b _ _ eb
        rw [eb4] at k1; cases k1
        have h6 := (hh2.outer h5 (l3.trans l4)).put (c' := .lst (acc ++ [e])) ea eb4 (o := .lst (ws ++ [y])) ⟨_, upd_same, k4.append (.cons ry .nil)⟩
        exact ⟨ws, k3, by rw [k4.length]; exact hl, g4, _, l14, h6, q5⟩
  · have ed : ds.drop i = [] := List.drop_eq_nil_of_le (by omega)
    rw [ed] at q'
    obtain ⟨hc, acc, ea, q'⟩ := q'
    refine .inl ⟨ys.stop i g' sl bx' σ H' (le.trans l') h' hc (by omega), ?_⟩
    obtain ⟨a', k1, k2, ws, k3, k4⟩ := h'.hb.bxs _ _ ea
    rw [ebg] at k1; cases k1
    have l1' := (l1.trans le).trans l'
    cases b with
    | true => rw [if_pos rfl] at q'; exact c _ _ _ _ _ l1' h' (.box ebg) q'
    | false =>
      rw [if_neg Bool.false_ne_true] at q'
      obtain ⟨h7, l7⟩ := h'.freeze ea ebg k3
      exact c _ _ _ _ _ (l1'.trans l7) h7 (.lst (by show upd g'.F p _ p = _; rw [upd_same]) (l7.reps k4)) q'
theorem pem_lc {elt tg iter : Expr} {ifs : List Expr} {scope : Scope} {own : List (Str × Nat)} {pos : Pos} {ct : CT} {it : WIt} {tt : WT} {te : WE} {b : Bool} (hK : X.K = r.R.K) (hc : X.calm = true) (hN : X.N.Nodup) (hi : PIm r X W tg iter it) (ok : BlkOk X.N X.env.scope scope own) (hv : ∀ i ∈ ctIs ct, i ∈ own.map (·.2))
    (hg : ∀ (s : Shared) (H : Hp) (C : Addr) (cl : List (Str × Addr)) (fp : List Addr), PG (X.blk s H scope (compEnvC scope cl C X.env) fp) tg (ctG X.K ct)) (ht : ∀ (s : Shared) (H : Hp) (C : Addr) (cl : List (Str × Addr)) (fp : List Addr), PTsm r (X.blk s H scope (compEnvC scope cl C X.env) fp) WF ifs tt)
    (he : ∀ (s : Shared) (H : Hp) (C : Addr) (cl : List (Str × Addr)) (fp : List Addr), PEm r (X.blk s H scope (compEnvC scope cl C X.env) fp) WF elt te) (hs : ∀ x, foldedSetIterable iter X.env x = pure x) : PEm r X W (.ListComp elt [⟨tg, iter, ifs, 0⟩] scope pos) (wLc b ct (own.map (·.2)) it tt te) :=
  pe_imp (pe_lc hc hN hi ok hg ht he hs) fun σ H Q h => lc_I hK hv h
/-- name = [..] on one line -/
theorem psm_setLc {i : Nat} {y : Str} {py : Pos} {elt tg iter : Expr} {ifs : List Expr} {scope : Scope} {own : List (Str × Nat)} {pos spos : Pos} {ct : CT} {it : WIt} {tt : WT} {te : WE} {b : Bool} (hK : X.K = r.R.K) (hc : X.calm = true) (hN : X.N.Nodup) (hy : X.N[i]? = some y) (hyl : X.env.scope.names.lookup y = some .local)
    (hsw : swapsWith (.ListComp elt [⟨tg, iter, ifs, 0⟩] scope pos) (some (.Name y py)) spos.line X.env = pure true) (hi : PIm r X W tg iter it) (ok : BlkOk X.N X.env.scope scope own) (hv : ∀ i ∈ ctIs ct, i ∈ own.map (·.2))
    (hg : ∀ (s : Shared) (H : Hp) (C : Addr) (cl : List (Str × Addr)) (fp : List Addr), PG (X.blk s H scope (compEnvC scope cl C X.env) fp) tg (ctG X.K ct)) (ht : ∀ (s : Shared) (H : Hp) (C : Addr) (cl : List (Str × Addr)) (fp : List Addr), PTsm r (X.blk s H scope (compEnvC scope cl C X.env) fp) WF ifs tt)
    (he : ∀ (s : Shared) (H : Hp) (C : Addr) (cl : List (Str × Addr)) (fp : List Addr), PEm r (X.blk s H scope (compEnvC scope cl C X.env) fp) WF elt te) (hs : ∀ x, foldedSetIterable iter X.env x = pure x) : PSm r X W (.Assign [.Name y py] (.ListComp elt [⟨tg, iter, ifs, 0⟩] scope pos) spos) (wsAsg (wLc b ct (own.map (·.2)) it tt te) (wgName i)) :=
  ps_imp (ps_setLc hc hN hy hyl hsw hi ok hg ht he hs) fun DD σ H h => by
    obtain ⟨g, sl, bx, D0, hh, q, c⟩ := h
    refine lc_I hK hv ⟨g, sl, bx, _, hh, q, fun g1 bx1 H1 v d l h1 rv q1 => ?_⟩
    exact c.nx _ _ _ _ _ l (h1.set rv) q1
end
end Mi
namespace Mi
open PySem PySem.Spec L2

/-! ### a, b = x, y by swapped stores -/
def wsPar (is : List Nat) (m : WA) : WS := fun D W sl bx => m sl bx (fun ds bx' => ∃ sl', setsD is ds sl = some sl' ∧ D.nx sl' bx') (fun x b => W x sl b)
section
variable {r : Rn} {X : Cx} {W : WXQ}
theorem psm_par {i j : Nat} {x y : Str} {a b : Expr} {m : WA} {px py pt pos : Pos} {kt k2 : Nat} {pt2 : Pos} (hc : X.calm = true) (hN : X.N.Nodup) (hi : X.N[i]? = some x) (hj : X.N[j]? = some y) (hij : i ≠ j)
    (hx : X.env.scope.names.lookup x = some .local) (hy : X.env.scope.names.lookup y = some .local) (ha : PAm r X W [a, b] m)
    (hw : swappedStores [.Tuple [.Name x px, .Name y py] kt pt] (.Tuple [a, b] k2 pt2) X.env = pure (some [x, y]))
    (hs : swapsWithSole [.Tuple [.Name x px, .Name y py] kt pt] (.Tuple [a, b] k2 pt2) pos.line X.env = pure false) :
    PSm r X W (.Assign [.Tuple [.Name x px, .Name y py] kt pt] (.Tuple [a, b] k2 pt2) pos) (wsPar [i, j] m) := ps_imp (ps_par hc hN hi hj hij hx hy ha hw hs) fun D σ H q => by
  obtain ⟨g, sl, bx, DD, hh, q, c⟩ := q
  refine ⟨g, sl, bx, _, hh, q, fun g1 bx1 H1 vs ds l h1 rs q1 => ?_⟩
  obtain ⟨sl', e, q2⟩ := q1
  match ds, e, rs with
  | [d, e'], e, rs =>
    obtain ⟨v, u, rfl, r1, r2⟩ := reps2 rs
    cases e
    exact ⟨v, u, rfl, c.nx _ _ _ _ _ l ((h1.set r1).set r2) q2⟩
  | [], e, _ => cases e
  | [_], e, _ => cases e
  | _ :: _ :: _ :: _, e, _ => cases e
theorem psm_par3 {i j l : Nat} {x y z : Str} {a b c : Expr} {m : WA} {px py pz pt pos : Pos} {kt k2 : Nat} {pt2 : Pos} (hc : X.calm = true) (hN : X.N.Nodup) (hi : X.N[i]? = some x) (hj : X.N[j]? = some y) (hl : X.N[l]? = some z) (hij : i ≠ j) (hil : i ≠ l) (hjl : j ≠ l)
    (hx : X.env.scope.names.lookup x = some .local) (hy : X.env.scope.names.lookup y = some .local) (hz : X.env.scope.names.lookup z = some .local) (ha : PAm r X W [a, b, c] m)
    (hw : swappedStores [.Tuple [.Name x px, .Name y py, .Name z pz] kt pt] (.Tuple [a, b, c] k2 pt2) X.env = pure (some [x, y, z]))
    (hs : swapsWithSole [.Tuple [.Name x px, .Name y py, .Name z pz] kt pt] (.Tuple [a, b, c] k2 pt2) pos.line X.env = pure false) :
    PSm r X W (.Assign [.Tuple [.Name x px, .Name y py, .Name z pz] kt pt] (.Tuple [a, b, c] k2 pt2) pos) (wsPar [i, j, l] m) := ps_imp (ps_par3 hc hN hi hj hl hij hil hjl hx hy hz ha hw hs) fun D σ H q => by
  obtain ⟨g, sl, bx, DD, hh, q, c⟩ := q
  refine ⟨g, sl, bx, _, hh, q, fun g1 bx1 H1 vs ds l h1 rs q1 => ?_⟩
  obtain ⟨sl', e, q2⟩ := q1
  match ds, e, rs with
  | [d, e', e''], e, rs =>
    cases rs with
    | cons r1 t => cases t with
      | cons r2 t => cases t with
        | cons r3 t => cases t with
          | nil =>
            cases e
            exact ⟨_, _, _, rfl, c.nx _ _ _ _ _ l (((h1.set r1).set r2).set r3) q2⟩
  | [], e, _ => cases e
  | [_], e, _ => cases e
  | [_, _], e, _ => cases e
  | _ :: _ :: _ :: _ :: _, e, _ => cases e
end

/-! ### text * int -/
instance (x : Str) (n : Int) : Decidable (MulOk x n) := by unfold MulOk; infer_instance
def dSMul : O2 := fun bx d e => match dr bx d, e with
  | some (.str x), .int n => if MulOk x n then some (.val (.str (Txt.mul x n))) else none
  | _, _ => none
def orO (p q : O2) : O2 := fun bx d e => match p bx d e with
  | some r => some r
  | none => q bx d e
section
variable {r : Rn} {X : Cx} {W : WXQ}
theorem op_smul : OpR X (binaryOp .Mult) (fun x y H Q => ∃ a n, x = .str a ∧ y = .int n ∧ MulOk a n ∧ Q (.str (Txt.mul a n)) H) := by
  intro pins s σ H x y v u Q I rx ry h
  obtain ⟨a, n, rfl, rfl, ok, q⟩ := h
  obtain ⟨t, rfl⟩ := rx
  obtain ⟨t', rfl⟩ := ry
  exact SB.mul ok fun t' k => ⟨.str _, H, I.tok k, ⟨_, rfl⟩, q⟩
theorem opI_smul {b : Bool} : OpR X (binaryOp .Mult) (rI2 r b dSMul) := op_I fun g sl bx σ H x y d e rs QD Q hh r1 r2 e1 e2 c => by
  unfold dSMul at e1
  split at e1
  · rename_i z n ez
    split at e1
    · rename_i ok
      cases e1
      have := dr_str hh r1 ez
      subst this
      cases r2
      exact ⟨_, op_smul, z, n, rfl, rfl, ok, c.at hh (.str _) e2⟩
    · cases e1
  · cases e1
theorem opI_or {f : Value → Value → Sem Value} {b : Bool} {p q : O2} (hp : OpR X f (rI2 r b p)) (hq : OpR X f (rI2 r b q)) : OpR X f (rI2 r b (orO p q)) := by
  intro pins s σ H x y v u Q I rx ry h
  obtain ⟨g, sl, bx, σ', d, e, rs, QD, hh, r1, r2, e1, e2, c⟩ := h
  unfold orO at e1
  cases ep : p bx d e with
  | some rr =>
    rw [ep] at e1; cases e1
    exact hp pins s σ H x y v u Q I rx ry ⟨g, sl, bx, σ', d, e, _, QD, hh, r1, r2, ep, e2, c⟩
  | none =>
    rw [ep] at e1
    exact hq pins s σ H x y v u Q I rx ry ⟨g, sl, bx, σ', d, e, _, QD, hh, r1, r2, e1, e2, c⟩
end
/-- by the i-th operand: an instance | a built-in value -/
def cSel (i : Nat) (own op : CallM) : CallM := fun ds bx Q X => match ds[i]? with
  | some d => match clsD bx d with
    | some _ => own ds bx Q X
    | none => op ds bx Q X
  | none => op ds bx Q X
theorem VO.sel {r : Rn} {X : Cx} {W : WXQ} {op : List Value → Sem Value} {c c' : CallM} {i : Nat} (h : VO r X W op c) (h' : VO r X W op c') : VO r X W op (cSel i c c') := (VO.or h h').imp fun ds bx Q X q => by
  unfold cSel at q
  split at q
  · split at q
    · exact .inl q
    · exact .inr q
  · exact .inr q
def cStuck : CallM := fun _ _ _ _ => False
theorem vo_stuck {r : Rn} {X : Cx} {W : WXQ} {op : List Value → Sem Value} : VO r X W op cStuck := fun _ _ _ _ _ _ _ _ _ _ _ _ _ _ _ _ q _ => q.elim
end Mi
namespace Mi
open PySem PySem.Spec L2

/-! ### what is known of the program ahead of a run -/
inductive Gv where
  | fn (j : Nat) | cls (c : Nat) | val (d : D)
structure FnI where
  ps : List Str
  N : List Str
  sc : Scope
  body : List Stmt
structure ClI where
  init : Option Nat
  mths : List (Str × Nat)
  attrs : List Str
  /-- of an exception: how many names its __init__ takes, its fields -/
  ex : Option (Nat × List (Str × Nat × Bool)) := none
structure Stat where
  glb : List (Str × Gv)
  fns : List FnI
  cls : List ClI
  isi : Ty → Ty → Option Bool
  bxp : List (Nat × Nat)
  frz : List (Nat × Nat)
  dT : List (Nat × Nat)
  /-- the classes that except clauses name -/
  hcl : List Nat := []
abbrev CM := Nat → Option CallM
structure Dn where
  E : List Str → Scope → Bool → Expr → WE
  T : List Str → Scope → Bool → Expr → WT
  S : List Str → Scope → Bool → Stmt → WS
def posIn (l : List (Nat × Nat)) (p : Pos) : Bool := l.contains (p.line, p.col)
def ixOf : List Str → Str → Option Nat
  | [], _ => none
  | y :: r, x => if y = x then some 0 else (ixOf r x).map (· + 1)
theorem ixOf_get : ∀ {N : List Str} {x : Str} {i : Nat}, ixOf N x = some i → N[i]? = some x
  | [], _, _, e => by cases e
  | y :: r, x, i, e => by
    simp only [ixOf] at e
    split at e
    · rename_i h; cases e; simp [h]
    · simp only [Option.map_eq_some_iff] at e
      obtain ⟨j, e, rfl⟩ := e
      simpa using ixOf_get e
def visB (sc : Scope) (x : Str) : Bool := match sc.names.lookup x with
  | some .local => true
  | some .cell => true
  | some .free => true
  | _ => false
theorem visB_of {sc : Scope} {x : Str} (h : visB sc x = true) : Vis sc x := by
  unfold visB at h
  split at h
  · exact .inl (by assumption)
  · exact .inr (.inl (by assumption))
  · exact .inr (.inr (by assumption))
  · cases h
def glB (sc : Scope) (x : Str) : Bool := decide (sc.names.lookup x = some .globalImplicit)
/-- names that each module has of its own -/
def dunN : List Str := ["__name__", "__doc__", "__loader__", "__spec__", "__package__"]
def nameOk (x : Str) : Bool := !dunN.contains x && !(x == ("__debug__" : Str)) && !(x == ("__classdict__" : Str)) && !(x == ("__name__" : Str))
def locB (sc : Scope) (blk : Bool) (x : Str) : Bool := match sc.names.lookup x with
  | some .local => true
  | some .cell => !blk
  | _ => false
def mthOf (S : Stat) (cm : CM) (m : Str) : Nat → Option CallM := fun c => ((S.cls[c]?).bind fun ci => ci.mths.lookup m).bind cm
def exOf (S : Stat) (c : Nat) : Option (Nat × List (Str × Nat × Bool)) := (S.cls[c]?).bind fun ci => ci.ex
def isEx (S : Stat) : Nat → Bool := fun c => match S.cls[c]? with
  | some ci => ci.ex.isSome
  | none => false
def attrsOf (S : Stat) : Nat → List Str := fun c => match S.cls[c]? with
  | some ci => ci.attrs
  | none => []
def mkOf (S : Stat) (cm : CM) (c : Nat) : Option CallM := ((S.cls[c]?).bind fun ci => ci.init).bind cm
def bltTys : List (Str × String) := [("int", "int"), ("str", "str"), ("list", "list"), ("tuple", "tuple"), ("dict", "dict"), ("bool", "bool"), ("ValueError", "ValueError"), ("LookupError", "LookupError")]
theorem nameOk_dun {x : Str} (h : nameOk x = true) : dunN.contains x = false := by
  unfold nameOk at h
  simp only [Bool.and_eq_true, Bool.not_eq_true'] at h
  exact h.1.1.1
theorem nameOk_of {x : Str} (h : nameOk x = true) : (x == ("__debug__" : Str)) = false ∧ (x == ("__classdict__" : Str)) = false ∧ x ≠ "__name__" := by
  unfold nameOk at h
  simp only [Bool.and_eq_true, Bool.not_eq_true'] at h
  exact ⟨h.1.1.2, h.1.2, by simpa using h.2⟩
theorem boot_LookupError : bootBuiltins "LookupError" = some (.type "LookupError") := by decide +kernel
theorem bltTys_ok : ∀ p ∈ bltTys, bootBuiltins p.1 = some (.type p.2) := by
  intro p hp
  simp only [bltTys, List.mem_cons, List.not_mem_nil, or_false] at hp
  rcases hp with rfl | rfl | rfl | rfl | rfl | rfl | rfl | rfl
  · exact PyProof.Rows.boot_int
  · exact PyProof.Rows.boot_str
  · exact PyProof.Rows.boot_list
  · exact PyProof.Rows.boot_tuple
  · exact PyProof.Rows.boot_dict
  · exact PyProof.Rows.boot_bool
  · exact L2.boot_ValueError
  · exact boot_LookupError

end Mi
namespace Mi
open PySem PySem.Spec L2

/-! ### own exceptions over a built-in base -/
structure BaseF (B newId initId : String) (bm : List Value) : Prop where
  ex : ExcBaseFacts B newId initId bm
  kx : PySem.W.KxsFacts B initId
  st : StoreFacts B bm "object.__setattr__" "object"
theorem base_VE : BaseF "ValueError" "ValueError.__new__" "ValueError.__init__" [.type "ValueError", .type "Exception", .type "BaseException", .type "object"] := ⟨PySem.F.excBase_ValueError, PySem.W.kxs_ValueError, PySem.F.store_ValueError⟩
theorem base_LE : BaseF "LookupError" "LookupError.__new__" "LookupError.__init__" [.type "LookupError", .type "Exception", .type "BaseException", .type "object"] := ⟨PySem.F.excBase_LookupError, PySem.W.kxs_LookupError, PySem.F.store_LookupError⟩
/-- what the written part says of such a class -/
structure ExcK (K : PySem.W.Frag) (C : Addr) (bm : List Value) (newId : String) : Prop where
  q : PySem.W.excInitIn K C bm newId = true
  ov : PySem.W.excOver K C bm = true
  sa : PySem.W.findIn K (.ref C) "__setattr__" = some (some (.builtin "object.__setattr__"))
  hd : PySem.W.hasDictIn K C = true
  ex : PySem.W.subIn K (.ref C) (.type "BaseException") = some true
  ty : PySem.W.typeIn K (.ref C) = some (.type "type")
  kp : PySem.W.keepIn K (.ref C) = true
section
open PySem.W Builtin Builtin.ObjectAttr
variable {prog : Program} {w : World} {A : Around} {E : Value → Shared → Prop} {R : Result → Shared → Prop} {hp : Heap} {g : Array GenState} {d : Drawn} {t : Nat} {os : OsState} {B newId initId : String} {bm : List Value}
theorem osaNew {K : Frag} {name : Str} {tk : Tok} {v : Value} {x C : Addr} {fv : Array Value} (BF : BaseF B newId initId bm) (T : ExcK K C bm newId) (X : K.In hp) (hx : hp.get? x = some { cls := .ref C, data := .fields fv }) (ht : takerIn K C name = some none)
    (hq : ∀ h' tk' dx, (∀ b o, b ≠ x → hp.get? b = some o → h'.get? b = some o) → hp.objs.size ≤ dx → dx ≠ x → h'.get? x = some { cls := .ref C, dict := some dx, data := .fields fv } →
      h'.Ns1 dx (fun y => if y = name then some v else none) → R (.ok (.ret .none)) ⟨h', g, d, tk', os⟩) :
    codeAny (model prog w) A (.call (.builtin "object.__setattr__") ⟨[.ref x, .str name tk, v], []⟩) R ⟨hp, g, d, t, os⟩ := by
  have I : InstAt hp x { cls := .ref C, data := .fields fv } C none := ⟨hx, rfl, rfl, trivial⟩
  have hxs : x ≠ hp.objs.size := Nat.ne_of_lt (Heap.lt_size hx)
  refine osa_openX BF.st X I T.ov ht fun bb => ?_
  obtain ⟨cd, hcd, hh⟩ := any_some T.hd
  have hcls : Looks (model prog w) hp (classData C) cd := looks_clsIn X hcd
  obtain ⟨nm, bs, mro, ns, qn, hd, sn, sb, ab, col, del⟩ := cd
  dsimp only at hh
  subst hh
  dsimp only
  unfold storeInOwnDict ownDictForStores
  repeat (first | with_reducible refine HandSPX.store_in_new ?_ ?_ | with_reducible refine wpAny_loadPart_at hx ?_ | with_reducible refine hcls.at ?_ | wp_step)
  · exact ⟨_, #[], _, (Heap.get?_update_ne _ _ _ _ hxs.symm).trans (Heap.get?_push_at rfl rfl), rfl, fun e he => absurd he (by simp), fun _ => rfl⟩
  · intro h' tk' hn' hs
    have hx₁ : (hp.push { cls := .type "dict", data := .dict #[] }).get? x = some { cls := .ref C, data := .fields fv } := Heap.get?_push_of_some _ hx
    refine hq h' tk' hp.objs.size (fun b o hb ho => ?_) (Nat.le_refl _) hxs.symm ?_ hn'
    · exact (hs.2 b (Nat.ne_of_lt (Heap.lt_size ho))).trans ((Heap.get?_update_ne _ _ _ _ hb).trans (Heap.get?_push_of_some _ ho))
    · exact (hs.2 x hxs).trans (Heap.get?_update_self _ hx₁ rfl)
theorem osaOld {K : Frag} {name : Str} {tk : Tok} {v : Value} {x C dx : Addr} {fv : Array Value} {m0 : Str → Option Value} {nl : List Str} (BF : BaseF B newId initId bm) (T : ExcK K C bm newId) (X : K.In hp) (hx : hp.get? x = some { cls := .ref C, dict := some dx, data := .fields fv })
    (hns : hp.Ns1 dx m0) (hw : Within m0 nl) (hz : nl.length ≤ 1000) (ht : takerIn K C name = some none)
    (hq : ∀ h' tk', (∀ b o, b ≠ dx → hp.get? b = some o → h'.get? b = some o) → h'.Ns1 dx (fun y => if y = name then some v else m0 y) → R (.ok (.ret .none)) ⟨h', g, d, tk', os⟩) :
    codeAny (model prog w) A (.call (.builtin "object.__setattr__") ⟨[.ref x, .str name tk, v], []⟩) R ⟨hp, g, d, t, os⟩ := by
  obtain ⟨oD, esD, epD, hoD, hdD, _⟩ := hns.count hw
  have I : InstAt hp x { cls := .ref C, dict := some dx, data := .fields fv } C (some oD) := ⟨hx, rfl, rfl, hoD⟩
  refine osa_openX BF.st X I T.ov ht fun bb => ?_
  obtain ⟨cd, hcd, hh⟩ := any_some T.hd
  have hcls : Looks (model prog w) hp (classData C) cd := looks_clsIn X hcd
  obtain ⟨nm, bs, mro, ns, qn, hd, sn, sb, ab, col, del⟩ := cd
  dsimp only at hh
  subst hh
  dsimp only
  unfold storeInOwnDict ownDictForStores
  repeat (first | with_reducible refine PySem.OEX.store_in_old hns hw hz ?_ | with_reducible refine wpAny_loadPart_at hx ?_ | with_reducible refine hcls.at ?_ | wp_step)
  intro h' tk' hn' hs
  exact hq h' tk' (fun b o hb ho => (hs.2 b hb).trans ho) hn'
end
section
variable {X : Cx} {pins : List (Addr × Obj)} {σ : L2.St} {H : Hp} {s : Shared} {a C dx : Addr} {f : Str} {y : V} {u : Value} {fs : List (Str × V)} {Q : Unit → Shared → Prop} {E : Value → Shared → Prop} {A : Around} {B newId initId : String} {bm : List Value}
theorem ostNew (BF : BaseF B newId initId bm) (T : ExcK X.K C bm newId) (I : Inv X pins σ H s) (e : H a = some (exo a C none)) (ht : PySem.W.takerIn X.K C f = some none) (ry : RelV y u)
    (h : ∀ dx s', H dx = none → dx ≠ a → Inv X pins σ (upd (upd H dx (exd dx [(f, y)])) a (exo a C (some dx))) s' → Q () s') : wpAny (model X.prog X.w) A (setAttr (.ref a) f u) Q E s := by
  obtain ⟨t1, ho⟩ := exo_at I.hok e
  obtain ⟨hp, g, d, t, os⟩ := s
  refine PySem.W.set_plain I.kIn (ox := { cls := .ref C, dict := none, data := .fields #[.ref t1, .none, .none, .none, .bool false, .none] }) (od := none) ⟨ho, rfl, rfl, trivial⟩ T.sa ?_
  refine osaNew BF T I.kIn ho ht (fun h' tk' dx k dn dne hx hn => ?_)
  have hnd : H dx = none := I.hok.fresh dn
  have nd : ∀ {b : Addr} {o : Obj}, hp.get? b = some o → b ≠ dx := fun {b o} q => Nat.ne_of_lt (Nat.lt_of_lt_of_le (Heap.lt_size q) dn)
  have na : ∀ {b : Addr}, H b = none → b ≠ a := fun {b} n z => by
    rw [z, e] at n
    cases n
  have Un1 : Un X.fs [] H (upd (upd H dx (exd dx [(f, y)])) a (exo a C (some dx))) hp h' := {
    keep := fun b o q n _ _ => k b o (na n) q
    slot := fun b o q n _ _ => ⟨o.slots, k b o (na n) q⟩
    free := fun b o q n _ => by rw [upd_ne (na n), upd_ne (nd q)]; exact n
    there := fun b o q _ => by
      by_cases hb : b = a
      · exact ⟨_, by rw [hb]; exact hx⟩
      · exact ⟨o, k b o hb q⟩
    tups := fun b xs q => by rw [upd_ne (at_ne e q exo_tup), upd_ne (ne_of_none q hnd)]; exact q
    frzs := fun b o v q => by rw [upd_ne (at_ne e q exo_frz), upd_ne (ne_of_none q hnd)]; exact q
    tbls := fun b ps q => ⟨#[], by rw [upd_ne (at_ne e q exo_tbl), upd_ne (ne_of_none q hnd), q]; simp⟩ }
  refine h dx _ hnd dne (I.un (t' := tk') Un1 fun b o q => ?_)
  by_cases hb : b = a
  · subst hb
    rw [upd_same] at q
    cases q
    exact exo_ok hx
  · rw [upd_ne hb] at q
    by_cases hd : b = dx
    · subst hd
      rw [upd_same] at q
      cases q
      exact exd_ok hn (relO_put (fs := []) ry fun g => True.intro)
    · rw [upd_ne hd] at q
      exact (I.hok b o q).stay (fun c v hc z => k c v (by
          rcases hc with hc | hc
          · rw [hc]
            exact hb
          · exact at_ne e hc exo_own) z)
        (fun c hc => by rw [upd_ne (at_ne e hc exo_own), upd_ne (ne_of_none hc hnd)]; exact hc) (fun c xs hc => by rw [upd_ne (at_ne e hc exo_tup), upd_ne (ne_of_none hc hnd)]; exact hc)
theorem ostOld (BF : BaseF B newId initId bm) (T : ExcK X.K C bm newId) (I : Inv X pins σ H s) (e : H a = some (exo a C (some dx))) (ed : H dx = some (exd dx fs)) (hl : fs.length ≤ 900) (ht : PySem.W.takerIn X.K C f = some none) (ry : RelV y u)
    (h : ∀ s', Inv X pins σ (upd H dx (exd dx ((f, y) :: fs))) s' → Q () s') : wpAny (model X.prog X.w) A (setAttr (.ref a) f u) Q E s := by
  obtain ⟨t1, ho⟩ := exo_at I.hok e
  obtain ⟨mA, hns, rel⟩ := exd_at I.hok ed
  have hw := within_of rel
  obtain ⟨hp, g, d, t, os⟩ := s
  obtain ⟨oD, _, _, hoD, _, _⟩ := hns.count hw
  refine PySem.W.set_plain I.kIn (ox := { cls := .ref C, dict := some dx, data := .fields #[.ref t1, .none, .none, .none, .bool false, .none] }) (od := some oD) ⟨ho, rfl, rfl, hoD⟩ T.sa ?_
  refine osaOld BF T I.kIn ho hns hw (by rw [List.length_map]; omega) ht (fun h' tk' k hn => ?_)
  have hd : ∃ o, h'.get? dx = some o := by
    obtain ⟨o, _, _, e', _⟩ := hn
    exact ⟨o, e'⟩
  exact h _ (I.write (t' := tk') (x := dx) (e := dx) (o := exd dx ((f, y) :: fs)) (by rw [ed]; exact True.intro) (.inl rfl) k hd (exd_ok hn (relO_put ry rel)))
end
/-- self.f = e -/
def tOstB (K : PySem.W.Frag) (C : Addr) (f : Str) (to te : TE) : TS := fun D σ H => te σ H fun y H1 => to σ H1 fun x H2 => ∃ a : Addr, x = .ref a ∧ PySem.W.takerIn K C f = some none ∧
  ((H2 a = some (exo a C none) ∧ ∀ dx, H2 dx = none → dx ≠ a → D.nx σ (upd (upd H2 dx (exd dx [(f, y)])) a (exo a C (some dx)))) ∨
    ∃ (dx : Addr) (fs : List (Str × V)), H2 a = some (exo a C (some dx)) ∧ H2 dx = some (exd dx fs) ∧ fs.length ≤ 900 ∧ D.nx σ (upd H2 dx (exd dx ((f, y) :: fs))))
theorem ps_ostB {X : Cx} {o e : Expr} {to te : TE} {f : Str} {p' pos : Pos} {C : Addr} {B newId initId : String} {bm : List Value} (BF : BaseF B newId initId bm) (T : ExcK X.K C bm newId) (ho : PE X o to) (he : PE X e te) (hs : swapsWith e (some (.Attribute o f p')) pos.line X.env = pure false) :
    PS X (.Assign [.Attribute o f p'] e pos) (tOstB X.K C f to te) := by
  refine ⟨fun pins s σ H D I h => ?_⟩
  refine plainObj_wpAny_Assign_Attribute (thn (he.run pins s σ H _ I h) fun v s1 ⟨y, H1, I1, r1, q1⟩ => thn (ho.run pins s1 σ H1 _ I1 q1) fun u s2 ⟨x, H2, I2, r2, a, ex, hno, q⟩ => ?_) hs
  subst ex
  obtain rfl : u = Value.ref a := r2
  rcases q with ⟨ea, q⟩ | ⟨dx, fs, ea, ed, hl, q⟩
  · exact ostNew BF T I2 ea hno r1 fun dx s' n ne J => ⟨σ, _, J, q dx n ne⟩
  · exact ostOld BF T I2 ea ed hl hno r1 fun s' J => ⟨σ, _, J, q⟩
end Mi
namespace Mi
open PySem PySem.Spec L2

/-! ### super().__init__(text) in an own exception's __init__ -/
structure SupK (K : PySem.W.Frag) (P : Program) (mg : Str → Option Value) (C cc cda f : Addr) (B newId initId : String) (bm : List Value) (name qual : Str) (params : Arguments) (body : List Stmt) (scope : Scope) (x0 : Str) : Prop where
  fn : ∃ (oc dV kV doc pm ct : Value) (an od : Option Addr) (osl : Array (Option Value)), K.lookup f = some ⟨oc, od, .func (PySem.W.fnX name qual params body scope [("__class__", cc)] dV kV doc pm an (.ref cda) ct), osl⟩ ∧
    ∀ us : List Value, us.length = (params.posonlyargs ++ params.args).length → bindArgs (PySem.W.fnX name qual params body scope [("__class__", cc)] dV kV doc pm an (.ref cda) ct) ⟨us, []⟩ = pure (((params.posonlyargs ++ params.args).map (·.arg)).zip us)
  code : ∃ (ccl : Value) (cdd : Option Addr) (vs : Array Value) (ccs : Array (Option Value)) (file : Str) (tf : Tok), K.lookup cda = some ⟨ccl, cdd, .fields vs, ccs⟩ ∧ vs[2]? = some (.str file tf) ∧ (P.main.file == file) = true
  cell : ∃ (cl : Value) (cld : Option Addr) (csl : Array (Option Value)), K.lookup cc = some ⟨cl, cld, .cell (some (.ref C)), csl⟩
  sub : PySem.W.mroIn K C (.ref C) = some true
  sup : PySem.W.ks_superIn K C C "__init__" = some (some (.builtin initId))
  subB : PySem.W.subIn K (.ref C) (.type B) = some true
  st : PySem.W.nsIn K cStatics "thirdparty.any" = some none
  mgs : mg "super" = none
  top : (P.main.scope.names.lookup ("super" : Str)).isSome = false
  head : ∃ ar, (params.posonlyargs ++ params.args).head? = some ar ∧ ar.arg = x0
  ks : scope.names.lookup ("super" : Str) = some .globalImplicit
  kc : scope.names.lookup ("__class__" : Str) = some .free
  ka : scope.names.lookup x0 = some .local
  kind : scope.kind = .function
theorem eval_methS {o : Expr} {m : Str} {apos pos : Pos} {es : List Expr} {env : Env} (h : noStar es = true) (hl : es.length < 30) (line : (apos.endLine == pos.line) = true) :
    eval (.Call (.Attribute o m apos) es [] pos) env = (do
      let ov ← attributeBase o m env (eval o env)
      standAt apos.atName
      let (f, first) ← holding [ov] (getMethod ov m (do return (← importBound o env).getD true))
      callWith pos f first (backTo pos (starEach es env)) (backToKw pos (keywordEach [] env))) := by
  have hf : methodCallForm (es.length + ([] : List Keyword).length) (backTo pos (starEach es env)) (backToKw pos (keywordEach [] env)) = true := few_of h hl
  show (attributeBase o m env (eval o env) >>= fun ov => standAt apos.atName >>= fun _ => methodCall o m apos pos env ov (es.length + ([] : List Keyword).length) (backTo pos (starEach es env)) (backToKw pos (keywordEach [] env))) = _
  unfold methodCall
  rw [hf]
  unfold calleeOf methodCallPos
  rw [line]
  rfl
theorem boot_super : bootBuiltins "super" = some (.type "super") := by decide +kernel
section
open PySem.W PySem.Calls PyProof.Rows
variable {X : Cx} {pins : List (Addr × Obj)} {σ : L2.St} {H : Hp} {s : Shared} {C cc cda f e : Addr} {B newId initId : String} {bm : List Value} {name qual : Str} {params : Arguments} {body body' : List Stmt} {scope : Scope} {x0 : Str} {A : Around} {E : Value → Shared → Prop}
theorem superB (BF : BaseF B newId initId bm) (T : ExcK X.K C bm newId) (S : SupK X.K X.prog X.mg C cc cda f B newId initId bm name qual params body scope x0) {L : Addr} (henv : X.env = ksEnv qual scope L f (.ref cda) cc) (hN : X.N[0]? = some x0)
    (I : Inv X pins σ H s) (h0 : σ[0]? = some (some (.ref e))) (he : H e = some (exo e C none)) {p0 p1 p2 p3 p4 p5 : Pos} {t : Str} {k : Nat} (line : (p2.endLine == p4.line) = true) :
    PySem.wpAt (model X.prog X.w) A (.func body' X.env) (exec (.Expr (.Call (.Attribute (.Call (.Name "super" p0) [] [] p1) "__init__" p2) [.Constant (.str t) k p3] [] p4) p5) X.env) (fun fl s' => fl = .next ∧ Inv X pins σ H s') E s := by
  obtain ⟨oc, dV, kV, doc, pm, ct, an, od, osl, lk, hbd⟩ := S.fn
  obtain ⟨ccl, cdd, vs, ccs, file, tf, lc, hvs, hfile⟩ := S.code
  obtain ⟨cl, cld, csl, lcell⟩ := S.cell
  obtain ⟨ar, har, hx0⟩ := S.head
  obtain ⟨cd, hcd, _⟩ := any_some T.hd
  obtain ⟨oD, hD1, hD2⟩ : ∃ oD, s.heap.get? C = some oD ∧ oD.data = .cls cd := by
    unfold clsIn at hcd
    split at hcd
    · rename_i c d cd' sl ho
      cases hcd
      exact ⟨_, I.kIn _ _ ho, rfl⟩
    · cases hcd
  obtain ⟨t0, ho⟩ := exo_at I.hok he
  have J : ∀ {h : Heap}, (∀ b o, s.heap.get? b = some o → h.get? b = some o) → InstAt h e { cls := .ref C, dict := none, data := .fields #[.ref t0, .none, .none, .none, .bool false, .none] } C none := fun k => ⟨k _ _ ho, rfl, rfl, trivial⟩
  have hxC : e ≠ C := ks_ne I.kIn (J fun _ _ z => z) hcd
  have hk : X.env.scope.kind = .function := by rw [henv]; exact S.kind
  have hks : X.env.kindOf "super" = some .globalImplicit := by rw [henv]; exact S.ks
  have hkc : X.env.kindOf "__class__" = some .free := by rw [henv]; exact S.kc
  obtain ⟨m, hns, hl⟩ := I.loc
  have vis : Vis X.env.scope x0 := .inl (by rw [henv]; exact S.ka)
  obtain ⟨u, ru, lku⟩ := hl 0 x0 (.ref e) hN h0 vis
  obtain rfl : u = Value.ref e := ru
  have hm0 : X.env.kindOf x0 = some .local ∧ m x0 = some (.ref e) := by
    rcases lku with q | ⟨q, _⟩
    · exact q
    · have kl : X.env.kindOf x0 = some .local := by rw [henv]; exact S.ka
      rw [kl] at q
      rcases q with q | q <;> cases q
  obtain ⟨mb, hb1, hb2⟩ := I.ok.mod.blt
  refine ks_wpAt_Expr_any (ks_wpAt_MethodCall (pl := do return (← importBound (.Call (.Name "super" p0) [] [] p1) X.env).getD true) ?_ (eval_methS rfl (by show 1 < 30; omega) line)) (by unfold interactive; rw [hk]; rfl) rfl
  refine ks_wpAt_super_base hks hkc (by decide) (f := f) (by rw [henv]) (I.kIn _ _ lk) rfl har (cc := cda) (by rw [henv]) (I.kIn _ _ lc) rfl hvs hfile S.top ?_
  refine ks_loadName_global hk hks (loadGlobal_builtin (by rw [I.ok.glob]; exact I.ok.mod.glob.keeps I.bk) S.mgs (by rw [I.ok.blt]; exact hb1.keeps I.bk) ((hb2 _ (by decide)).trans boot_super) ⟨rfl, ?_⟩)
  refine wpAny_loadName_free hk hkc (c := cc) (by rw [henv]; rfl) ⟨_, I.kIn _ _ lcell, rfl⟩ ?_
  rw [hx0]
  refine wpAny_loadName_local hk hm0.1 hns hm0.2 ?_
  refine ks_wpAny_isType_cls hD1 hD2 ⟨rfl, ?_⟩
  obtain ⟨hh, g, d, tk, os⟩ := s
  refine ks_wpAny_call_super hD1 hD2 ho rfl (fun c z => by cases z) (looks_mroIn I.kIn S.sub) (fun h1 e1 k1 => ?_)
  have I1 : Inv X pins σ H ⟨h1, g, d, tk, os⟩ := I.kept (t' := tk) k1
  have hsup := S.sup
  unfold ks_superIn at hsup
  rw [hcd] at hsup
  have hI : Looks (model X.prog X.w) h1 (isInstance (.ref e) (.type B)) true := (J k1).type.andThen (looks_subIn I1.kIn S.subB)
  refine kxs_getMethod BF.kx e1 (looks_opaque I1.kIn S.st) (l₀ := cd.mro) (fun A Q E s k q => wpAny_bind ((looks_clsIn I1.kIn hcd) A _ E s k (wpAny_pure q))) rfl I1.kIn hsup hI hxC (by decide) ?_
  have k2 : ∀ b o, h1.get? b = some o → (h1.push (kxs_mw initId e)).get? b = some o := fun b o z => Heap.get?_push_of_some _ z
  have hu : (h1.push (kxs_mw initId e)).get? h1.objs.size = some (kxs_mw initId e) := Heap.get?_push_at rfl rfl
  have I2 : Inv X pins σ H ⟨h1.push (kxs_mw initId e), g, d, tk + 1 + 1, os⟩ := I1.kept (t' := tk + 1 + 1) k2
  refine kxs_callWith (i := initId) (x := e) rfl (evalArgs_plain (spliced_cons (Constant_str (k := k) (pos := p3) (spliced_nil ⟨hu, ?_⟩))))
  obtain ⟨nm, N', qn, bs, bm', hdct, sn, sub, ab, col, dd, k0, k1', k2', k3, k5, hC, hT⟩ := excInit_of I2.kIn T.q
  have he2 := k2 _ _ (k1 _ _ ho)
  refine wpAny_call (codeAny_of_tree ?_)
  show wpAny _ A.in1 (callAny (.ref h1.objs.size) ⟨[.str t (tk + 1)], []⟩) _ _ _
  simp only [callAny]
  refine wpAny_bind (wpAny_load hu ?_)
  simp only [kxs_mw, show (Value.type "method-wrapper" == Value.type "method" || Value.type "method-wrapper" == Value.type "builtin_function_or_method" || Value.type "method-wrapper" == Value.type "method-wrapper") = true by decide, if_true]
  refine KFB.if_so (by decide) ?_
  refine wpAny_bind (check_bound_init BF.ex.toExcCallFacts hC he2 rfl ?_)
  refine wpAny_bind (wpAny_pure (wpAny_pure ?_))
  refine ⟨plainId_quiet BF.ex.init.plain _, codeAny_builtin BF.ex.initEntry ?_⟩
  refine exc_init_tree (cls := .ref C) (t0 := t0) (dv := none) (c2 := .none) (c3 := .none) (b4 := .bool false) he2 (by rw [sizeLine_eq]; show 1 ≤ 16777216; omega) fun h' kk hx _ => ?_
  have I3 := I2.write (t' := tk + 1 + 1) (x := e) (e := e) (o := exo e C none) (by rw [he]; exact True.intro) (.inl rfl) kk ⟨_, hx⟩ (exo_ok hx)
  have eu : upd H e (exo e C none) = H := by
    funext b
    by_cases hb : b = e
    · rw [hb, upd_same, he]
    · rw [upd_ne hb]
  rw [eu] at I3
  first
    | exact ⟨rfl, I3⟩
    | exact ⟨True.intro, I3⟩
end
end Mi
namespace Mi
open PySem PySem.Spec L2

/-! ### an exception's __init__: super().__init__(text), then the fields -/
/-- a field: its name, the parameter's place, tuple(..) of it -/
abbrev ExF := List (Str × Nat × Bool)
abbrev rTup (K : PySem.W.Frag) : List V → Hp → VK → Prop := fun xs H Q => ∃ p ys, xs = [V.ref p] ∧ ((SqL K H p ys ∧ ∀ l, H l = none → Q (.ref l) (upd H l (.tup ys))) ∨ (SqT K H p ys ∧ Q (.ref p) H))
def tFl (K : PySem.W.Frag) (C : Addr) : ExF → TS
  | [] => fun D σ H => D.nx σ H
  | (f, i, tu) :: r => fun D σ H => tOstB K C f (tVar 0) (if tu = true then tCB (rTup K) (tCons (tVar i) tNil) else tVar i) { D with nx := tFl K C r D } σ H
/-- the statements that set the fields -/
def exFl (N : List Str) (scope : Scope) (x0 : Str) : List Stmt → Option ExF
  | [] => some []
  | .Assign [.Attribute (.Name y _) f _] (.Name p _) _ :: r =>
    if (decide (y = x0) && nameOk x0 && nameOk p && decide (scope.names.lookup p = some .local)) = true then (ixOf N p).bind fun i => (exFl N scope x0 r).map ((f, i, false) :: ·) else none
  | .Assign [.Attribute (.Name y _) f _] (.Call (.Name tn _) [.Name p _] [] _) _ :: r =>
    if (decide (y = x0) && nameOk x0 && decide (tn = "tuple") && glB scope tn && nameOk p && decide (scope.names.lookup p = some .local)) = true then (ixOf N p).bind fun i => (exFl N scope x0 r).map ((f, i, true) :: ·) else none
  | _ => none
section
variable {X : Cx} {C : Addr} {B newId initId : String} {bm : List Value} {N : List Str} {scope : Scope} {x0 : Str}
theorem exFl_ok (BF : BaseF B newId initId bm) (T : ExcK X.K C bm newId) (hN : X.N = N) (hs : X.env.scope = scope) (h0 : N[0]? = some x0) (k0 : scope.names.lookup x0 = some .local) (hm : X.mg "tuple" = none) : ∀ {l : List Stmt} {fl : ExF}, exFl N scope x0 l = some fl → PSs X l (tFl X.K C fl) := by
  intro l
  induction l with
  | nil => intro fl e; cases e; exact pss_nil
  | cons st r ih =>
    intro fl e
    unfold exFl at e
    split at e
    · rename_i heq; cases heq
    · rename_i y p1 f p2 p p3 p4 r' heq
      cases heq
      split at e
      · rename_i h
        simp only [Bool.and_eq_true, decide_eq_true_eq] at h
        obtain ⟨⟨⟨rfl, n0⟩, np⟩, lp⟩ := h
        simp only [Option.bind_eq_some_iff, Option.map_eq_some_iff] at e
        obtain ⟨i, ei, fl', e2, rfl⟩ := e
        obtain ⟨a1, a2, _⟩ := nameOk_of n0
        obtain ⟨b1, b2, _⟩ := nameOk_of np
        exact pss_cons (ps_ostB BF T (pe_var (by rw [hN]; exact h0) (.inl (by rw [hs]; exact k0)) a1 a2) (pe_var (by rw [hN]; exact ixOf_get ei) (.inl (by rw [hs]; exact lp)) b1 b2) rfl) (ih e2)
      · cases e
    · rename_i y p1 f p2 tn p5 p p3 p6 p4 r' heq
      cases heq
      split at e
      · rename_i h
        simp only [Bool.and_eq_true, decide_eq_true_eq] at h
        obtain ⟨⟨⟨⟨⟨rfl, n0⟩, rfl⟩, gt⟩, np⟩, lp⟩ := h
        simp only [Option.bind_eq_some_iff, Option.map_eq_some_iff] at e
        obtain ⟨i, ei, fl', e2, rfl⟩ := e
        obtain ⟨a1, a2, _⟩ := nameOk_of n0
        obtain ⟨b1, b2, _⟩ := nameOk_of np
        have hG : Gl X "tuple" := by
          show X.env.scope.names.lookup _ = _
          rw [hs]; exact of_decide_eq_true gt
        have pa : PA X [.Name p p3] (tCons (tVar i) tNil) := pa_cons (pe_var (by rw [hN]; exact ixOf_get ei) (.inl (by rw [hs]; exact lp)) b1 b2) pa_nil
        exact pss_cons (ps_ostB BF T (pe_var (by rw [hN]; exact h0) (.inl (by rw [hs]; exact k0)) a1 a2) (pe_callTy call_tuple_of hG hm PyProof.Rows.boot_tuple pa) rfl) (ih e2)
      · cases e
    · cases e
end
/-- what such an __init__ promises -/
def spE (K : PySem.W.Frag) (C : Addr) (N ps : List Str) (fl : ExF) : Sp := fun vs H Q E => ∃ e ws, vs = V.ref e :: ws ∧ vs.length = ps.length ∧ H e = some (exo e C none) ∧ tFl K C fl { nx := fun _ H' => Q .non H', rt := Q } (NdefX.startF N vs [some (.ref C)]) H
section
open PyProof.Rows hiding St in
theorem fnE_of {CX : CXT} {P : Program} {w : World} {K : PySem.W.Frag} {mg : Str → Option Value} {base : Heap} {k : Nat} {C cc cda f : Addr} {B newId initId : String} {bm : List Value} {name qual : Str} {params : Arguments} {rest : List Stmt} {scope : Scope} {x0 : Str} {N : List Str} {fl : ExF} {p0 p1 p2 p3 p4 p5 : Pos} {t : Str} {kk : Nat}
    (BF : BaseF B newId initId bm) (T : ExcK K C bm newId) (S : SupK K P mg C cc cda f B newId initId bm name qual params (.Expr (.Call (.Attribute (.Call (.Name "super" p0) [] [] p1) "__init__" p2) [.Constant (.str t) kk p3] [] p4) p5 :: rest) scope x0)
    (hcd : PySem.W.codeIn K (.ref cda) qual = true) (line : (p2.endLine == p4.line) = true) (NS : NdefX.NScope N ((params.posonlyargs ++ params.args).map (·.arg)) ["__class__"] scope) (h0 : N[0]? = some x0) (hm : mg "tuple" = none) (hfl : exFl N scope x0 rest = some fl) :
    ∃ fd : FuncData, FnG P w K mg base CX (k + 1) f fd ((params.posonlyargs ++ params.args).map (·.arg)) (spE K C N ((params.posonlyargs ++ params.args).map (·.arg)) fl) ∧ Binds K fd ((params.posonlyargs ++ params.args).map (·.arg)) [] := by
  obtain ⟨oc, dV, kV, doc, pm, ct, an, od, osl, lk, hbd⟩ := S.fn
  obtain ⟨clc, cld, csl, lcell⟩ := S.cell
  refine ⟨_, ⟨fun vs H Q E ⟨e, ws, ev, hl, _⟩ => hl, fun A outer s H args us vs Q E hr hgd e0 hb r hsp => ?_⟩, Binds.all fun us hl => hbd us (by simpa using hl)⟩
  obtain ⟨e, ws, ev, hl, he, ht⟩ := hsp
  have KX : K.In s.heap := e0.mod.kin.keeps fun b o e => (e0.bs b o e).1
  have lim : s.heap.NoLimit := e0.mod.nolimit.keeps fun b o e => (e0.bs b o e).1
  refine codeAny_call_function hr.depth (KX _ _ lk) rfl NS.co NS.gen rfl (PySem.W.codeRec_of KX hcd) (hb _ _ _ _ ?_)
  refine wpAny_newFunctionEnv NS.nocell (fun ⟨n, _⟩ hy => NS.par n (List.of_mem_zip hy).1) (fun h₁ hns hsb => ⟨lim.fresh _ hsb, ?_⟩) NS.kind
  have kp : ∀ b o, s.heap.get? b = some o → h₁.get? b = some o := fun b o e => hsb.extBut b o (Nat.ne_of_lt (Heap.lt_size e)) (Heap.get?_push_of_some _ e)
  have CA : NdefX.CellsAt [("__class__", cc)] ["__class__"] [some (V.ref C)] s.heap H := by
    obtain ⟨b1, b2⟩ := e0.bs cc _ (e0.mod.kin _ _ lcell)
    refine ⟨rfl, fun y c z => ?_, fun x y c z1 z2 => ?_, fun i y z => ?_⟩
    · have : c = cc := by
        simp only [List.lookup] at z
        split at z <;> cases z
        rfl
      subst this
      exact ⟨b2, _, _, b1, rfl⟩
    · simp only [List.lookup] at z1 z2
      split at z1
      · rename_i q1
        split at z2
        · rename_i q2; rw [beq_iff_eq.mp q1, beq_iff_eq.mp q2]
        · cases z2
      · cases z1
    · match i, z with
      | 0, z =>
        cases z
        refine ⟨cc, by simp [List.lookup], fun v ev => ?_⟩
        cases ev
        exact ⟨.ref C, rfl, _, b1, rfl⟩
      | i + 1, z => simp at z
  have I : Inv (NdefX.ncx CX P w K mg base N ⟨name, qual, params, .Expr (.Call (.Attribute (.Call (.Name "super" p0) [] [] p1) "__init__" p2) [.Constant (.str t) kk p3] [] p4) p5 :: rest, scope, [("__class__", cc)], cda⟩ f A outer s H E) [] (NdefX.startF N vs [some (V.ref C)]) H { s with heap := h₁, toks := s.toks + (((params.posonlyargs ++ params.args).map (·.arg)).zip us).length } :=
    NdefX.inv_startN (ws := [some (V.ref C)]) NS hr.hd e0 hl r CA hns kp
  refine PySem.ks_codeAny_funcAt (PySem.ks_wpAt_execs_cons (PySem.ks_wpAt_mono (superB (body' := _) BF T S (L := s.heap.objs.size) rfl h0 I (by subst ev; rfl) he line) (fun fl' s' hq => ?_) fun _ _ z => z))
  obtain ⟨rfl, I1⟩ := hq
  have hS := exFl_ok (X := NdefX.ncx CX P w K mg base N ⟨name, qual, params, .Expr (.Call (.Attribute (.Call (.Name "super" p0) [] [] p1) "__init__" p2) [.Constant (.str t) kk p3] [] p4) p5 :: rest, scope, [("__class__", cc)], cda⟩ f A outer s H E) BF T rfl rfl h0 S.ka hm hfl
  refine wpAt_of_wpAny (wpAny_mono (hS.run [] _ _ H _ I1 ht) (fun fl2 s2 hs => ?_) fun e s' hs => hs)
  cases fl2 with
  | ret u =>
    obtain ⟨v, σ', H', J, rv, q⟩ := hs
    exact ⟨v, H', J.os, J.bare, J.base, J.hok, rv, q⟩
  | next =>
    obtain ⟨σ', H', J, q⟩ := hs
    exact ⟨.non, H', J.os, J.bare, J.base, J.hok, rfl, q⟩
  | brk =>
    obtain ⟨_, _, _, q⟩ := hs
    exact False.elim q
  | cont =>
    obtain ⟨_, _, _, q⟩ := hs
    exact False.elim q
end
end Mi
namespace Mi
open PySem PySem.Spec L2

/-! ### an own exception made -/
section
open PyProof.Rows hiding St in
theorem run_mkE {X : Cx} {CX : CXT} {k : Nat} {fI C : Addr} {fd : FuncData} {ps : List Str} {sp : Sp} {E : XK} {B newId initId : String} {bm : List Value} {pins : List (Addr × Obj)} {σ : L2.St} {H : Hp} {s : Shared} {Q : VK} {us : List Value} {vs : List V}
    (BF : BaseF B newId initId bm) (T : ExcK X.K C bm newId) (iC : PySem.W.findIn X.K (.ref C) "__init__" = some (some (.ref fI))) (tI : PySem.W.typeIn X.K (.ref fI) = some (.type "function"))
    (F : FnG X.prog X.w X.K X.mg X.base CX k fI fd ps sp) (hb : Binds X.K fd ps []) (hr : Room (k + 1) X.A) (hgd : X.A.guards = some []) (hx : PassesAt CX X σ E) (I : Inv X pins σ H s) (r : Vals vs us) (hz : us.length ≤ sizeLine)
    (h : ∀ e, H e = none → sp (.ref e :: vs) (upd H e (exo e C none)) (fun v H2 => v = .non ∧ Q (.ref e) H2) E) : wpAny (model X.prog X.w) X.A (call (.ref C) us) (EP X pins σ Q) X.xe s := by
  obtain ⟨nm, N', qn, bs, bm', hdct, sn, sub, ab, col, dd, k0, k1, k2, k3, k5, hC, hT⟩ := PySem.W.excInit_of I.kIn T.q
  obtain ⟨hp, g, dr, tk, os⟩ := s
  have hsz : hp.objs.size ≤ hp.objs.size + 1 := Nat.le_succ _
  have hn : H (hp.objs.size + 1) = none := I.hok.fresh hsz
  have hq := h (hp.objs.size + 1) hn
  have kk : ∀ b o, hp.get? b = some o → ((hp.push (PySem.W.kdv_tup us)).push (PySem.HandSPX.excO C hp.objs.size)).get? b = some o := fun b o e => Heap.get?_push_of_some _ (Heap.get?_push_of_some _ e)
  have hget : ((hp.push (PySem.W.kdv_tup us)).push (PySem.HandSPX.excO C hp.objs.size)).get? (hp.objs.size + 1) = some (PySem.HandSPX.excO C hp.objs.size) := by heap_get
  have I2 : Inv X pins σ (upd H (hp.objs.size + 1) (exo (hp.objs.size + 1) C none)) ⟨(hp.push (PySem.W.kdv_tup us)).push (PySem.HandSPX.excO C hp.objs.size), g, dr, tk, os⟩ :=
    I.laid (t' := tk) (a := hp.objs.size + 1) (o := exo (hp.objs.size + 1) C none) (h' := (hp.push (PySem.W.kdv_tup us)).push (PySem.HandSPX.excO C hp.objs.size)) kk hsz (exo_ok hget)
  have r2 : Vals (V.ref (hp.objs.size + 1) :: vs) (Value.ref (hp.objs.size + 1) :: us) := .cons rfl r
  have hl : (Value.ref (hp.objs.size + 1) :: us ++ []).length = ps.length := by
    have e := r2.length
    rw [F.len _ _ _ _ hq] at e
    rw [List.append_nil]
    exact e.symm
  have hb' := hb _ (Value.ref (hp.objs.size + 1) :: us) I2.kIn hl
  rw [List.append_nil] at hb'
  refine wpAny_call (PySem.HandSPX.call_own BF.ex hT hC (PySem.W.looks_findIn I.kIn iC) (fun self => PySem.W.bind_fn I.kIn self tI) hz
    (codeAny_mono (F.run _ X.stack _ _ ⟨Value.ref (hp.objs.size + 1) :: us, []⟩ (Value.ref (hp.objs.size + 1) :: us) _ _ E (hr.make C us []) (make_guards hgd) (I2.env0.make C us []) hb' r2 hq) fun r s' hq' => ?_))
  cases r with
  | error er => exact hx pins _ _ er s' I2 hq'
  | ok fl =>
    cases fl with
    | ret u =>
      obtain ⟨v, H', I3, rv, ev, q3⟩ := I2.after hq'
      subst ev
      exact ⟨rv, ⟨V.ref (hp.objs.size + 1), H', I3, rfl, q3⟩⟩
    | next => exact False.elim hq'
    | brk => exact False.elim hq'
    | cont => exact False.elim hq'
end

/-! ### its meaning -/
def exVal (bx : Bx) (tu : Bool) (d : D) : Option D := if tu = true then (match dr bx d with
    | some (.lst ds) => some (.tup ds)
    | some (.rol ds) => some (.tup ds)
    | some (.tup ds) => some (.tup ds)
    | _ => none) else some d
/-- the fields, the last one first; ds: the arguments, places counted from self -/
def exAll (bx : Bx) (ds : List D) : ExF → List (Str × D) → Option (List (Str × D))
  | [], acc => some acc
  | (f, i, tu) :: r, acc => match i with
    | 0 => none
    | j + 1 => (ds[j]?).bind fun d => (exVal bx tu d).bind fun v => exAll bx ds r ((f, v) :: acc)
section
variable {r : Rn} {g : Gx} {sl : Sl} {bx : Bx} {σ : L2.St} {H : Hp}
/-- what nothing speaks of is changed -/
theorem Holds.upd0 {a : Addr} {o : HO} (h : Holds r g sl bx σ H) (hF : g.F a = none) (hb : ∀ n, bx n ≠ none → g.b n ≠ some a) (hG : r.G a = none) : Holds r g sl bx σ (upd H a o) := by
  refine ⟨⟨subH_upd h.hb.sub (rd_none hF), fun n c e => ?_, h.hb.inj, h.hb.top, dx_upd h.hb.dx hF⟩, ⟨h.kp.gs, fun b u e => ?_, h.kp.sb⟩, h.ss, h.len⟩
  · obtain ⟨x, h1, h2, h3⟩ := h.hb.bxs n c e
    have ne : x ≠ a := by
      rintro rfl
      exact hb n (by rw [e]; simp) h1
    exact ⟨x, h1, h2, h3.mono (SubH.refl _) (SubB.refl _) (upd_ne ne)⟩
  · have ne : b ≠ a := by rintro rfl; rw [hG] at e; cases e
    rw [upd_ne ne]; exact h.kp.keep b u e
/-- what stands, and nothing speaks of, joins the frozen part -/
theorem Holds.take {a : Addr} {o : HO} (h : Holds r g sl bx σ H) (hF : g.F a = none) (hb : ∀ n, bx n ≠ none → g.b n ≠ some a) (ho : H a = some o) : Le g (g.add a o) ∧ Holds r (g.add a o) sl bx σ H := by
  have le := Gx.le_add (o := o) hF
  have eu : upd H a o = H := by
    funext b
    by_cases hb : b = a
    · rw [hb, upd_same, ho]
    · rw [upd_ne hb]
  refine ⟨le, ⟨⟨?_, fun n c en => ?_, h.hb.inj, h.hb.top, ?_⟩, ⟨h.kp.gs.trans le.F, h.kp.keep, h.kp.sb⟩, h.ss.mono le, h.len⟩⟩
  · have q := subH_both (p := a) (o := o) h.hb.sub hF
    rw [eu] at q; exact q
  · obtain ⟨x, k1, k2, k3⟩ := h.hb.bxs n c en
    have ea : x ≠ a := by
      rintro rfl
      exact hb n (by rw [en]; simp) k1
    exact ⟨x, k1, (upd_ne ea).trans k2, k3.mono le.F le.b rfl⟩
  · have q := dx_both (p := a) (o := o) h.hb.dx
    rw [eu] at q; exact q
/-- at e: the exception that is being made, its fields -/
structure Raw (r : Rn) (g : Gx) (bx : Bx) (H : Hp) (e C : Addr) (fv : List (Str × V)) : Prop where
  F : g.F e = none
  b : ∀ n, bx n ≠ none → g.b n ≠ some e
  G : r.G e = none
  at_ : (fv = [] ∧ H e = some (exo e C none)) ∨ ∃ dx, H e = some (exo e C (some dx)) ∧ H dx = some (exd dx fv) ∧ g.F dx = none ∧ (∀ n, bx n ≠ none → g.b n ≠ some dx) ∧ r.G dx = none ∧ dx ≠ e
theorem fl_I {K : PySem.W.Frag} {C e : Addr} {vs : List V} {ds : List D} {σc : L2.St} {DD : Ends} {Q : Hp → Prop} (hK : K = r.R.K) (h0 : σc[0]? = some (some (.ref e))) (hσ : ∀ (i : Nat) (v : V), vs[i]? = some v → σc[i + 1]? = some (some v)) (hQ : ∀ H', Q H' → DD.nx σc H') :
    ∀ {fl : ExF} {g : Gx} {H : Hp} {fv : List (Str × V)} {fd : List D} {acc out : List (Str × D)}, (∀ f ∈ fl, PySem.W.takerIn K C f.1 = some none) → fl.length + fv.length ≤ 900 → Holds r g sl bx σ H → Raw r g bx H e C fv → RepsG r.R g vs ds → RepsG r.R g (fv.map (·.2)) fd → acc = (fv.map (·.1)).zip fd → exAll bx ds fl acc = some out →
      (∀ g' H' fv' fd', Le g g' → Holds r g' sl bx σ H' → Raw r g' bx H' e C fv' → RepsG r.R g' (fv'.map (·.2)) fd' → out = (fv'.map (·.1)).zip fd' → Q H') → tFl K C fl DD σc H := by
  intro fl
  induction fl with
  | nil =>
    intro g H fv fd acc out _ _ hh hr _ rf ea eo k
    cases eo
    exact hQ _ (k g H fv fd (Le.refl _) hh hr rf ea)
  | cons p fl ih =>
    intro g H fv fd acc out hT hl hh hr ra rf ea eo k
    obtain ⟨f, i, tu⟩ := p
    match i, eo with
    | j + 1, eo =>
      simp only [exAll, Option.bind_eq_some_iff] at eo
      obtain ⟨d, ed, v, ev, eo⟩ := eo
      obtain ⟨x, ex, rx⟩ := ra.get ed
      -- the store, at any heap that bears the value
      have store : ∀ (g1 : Gx) (H1 : Hp) (y : V), Le g g1 → Holds r g1 sl bx σ H1 → Raw r g1 bx H1 e C fv → RepG r.R g1 y v →
          ∃ a : Addr, V.ref e = .ref a ∧ PySem.W.takerIn K C f = some none ∧ ((H1 a = some (exo a C none) ∧ ∀ dx, H1 dx = none → dx ≠ a → tFl K C fl DD σc (upd (upd H1 dx (exd dx [(f, y)])) a (exo a C (some dx)))) ∨
            ∃ (dx : Addr) (fs : List (Str × V)), H1 a = some (exo a C (some dx)) ∧ H1 dx = some (exd dx fs) ∧ fs.length ≤ 900 ∧ tFl K C fl DD σc (upd H1 dx (exd dx ((f, y) :: fs)))) := by
        intro g1 H1 y l1 h1 r1 ry
        have hT' : ∀ f ∈ fl, PySem.W.takerIn K C f.1 = some none := fun q hq => hT q (List.mem_cons_of_mem _ hq)
        refine ⟨e, rfl, hT _ List.mem_cons_self, ?_⟩
        rcases r1.at_ with ⟨e0, he⟩ | ⟨dx, he, hd, hdF, hdb, hdG, hde⟩
        · subst e0
          refine .inl ⟨he, fun dx hn hne => ?_⟩
          have nF := h1.none_of hn
          have nb : ∀ n, bx n ≠ none → g1.b n ≠ some dx := fun n en q => by
            cases e' : bx n with
            | none => exact en e'
            | some c' =>
              obtain ⟨x', k1, _, k3⟩ := h1.hb.bxs n c' e'
              obtain ⟨u, hu, _⟩ := k3.isSome
              rw [q] at k1; cases k1
              rw [hn] at hu; cases hu
          have h2 := (h1.upd0 (o := exd dx [(f, y)]) nF.1 nb nF.2).upd0 (a := e) (o := exo e C (some dx)) r1.F r1.b r1.G
          have e1 : fd = [] := by
            have := rf.length
            cases fd with
            | nil => rfl
            | cons _ _ => simp at this
          subst e1
          refine ih (fv := [(f, y)]) (fd := [v]) hT' (by simp at hl ⊢; omega) h2 ⟨r1.F, r1.b, r1.G, .inr ⟨dx, upd_same, by rw [upd_ne hne, upd_same], nF.1, nb, nF.2, hne⟩⟩ (l1.reps ra) (.cons ry .nil) (by rw [ea]; rfl) eo fun g' H' fv' fd' l' => k g' H' fv' fd' (l1.trans l')
        · refine .inr ⟨dx, fv, he, hd, by omega, ?_⟩
          have h2 := h1.upd0 (o := exd dx ((f, y) :: fv)) hdF hdb hdG
          refine ih (fv := (f, y) :: fv) (fd := v :: fd) hT' (by simp at hl ⊢; omega) h2 ⟨r1.F, r1.b, r1.G, .inr ⟨dx, by rw [upd_ne (Ne.symm hde)]; exact he, upd_same, hdF, hdb, hdG, hde⟩⟩ (l1.reps ra) (.cons ry (l1.reps rf)) (by rw [ea]; rfl) eo fun g' H' fv' fd' l' => k g' H' fv' fd' (l1.trans l')
      cases tu with
      | false =>
        have ev' : v = d := by simpa [exVal] using ev.symm
        subst ev'
        exact ⟨x, hσ j x ex, .ref e, h0, store g H x (Le.refl _) hh hr rx⟩
      | true =>
        refine ⟨x, hσ j x ex, ?_⟩
        simp only [exVal, if_true] at ev
        have new : ∀ (es : List D) (a : Addr) (ys : List V), x = .ref a → SqL K H a ys → RepsG r.R g ys es → v = .tup es → rTup K [x] H fun y H1 => tVar 0 σc H1 fun x H2 => ∃ a : Addr, x = .ref a ∧ PySem.W.takerIn K C f = some none ∧ ((H2 a = some (exo a C none) ∧ ∀ dx, H2 dx = none → dx ≠ a → tFl K C fl DD σc (upd (upd H2 dx (exd dx [(f, y)])) a (exo a C (some dx)))) ∨
            ∃ (dx : Addr) (fs : List (Str × V)), H2 a = some (exo a C (some dx)) ∧ H2 dx = some (exd dx fs) ∧ fs.length ≤ 900 ∧ tFl K C fl DD σc (upd H2 dx (exd dx ((f, y) :: fs)))) := by
          intro es a ys e1 hs hr2 e2
          subst e1; subst e2
          refine ⟨a, ys, rfl, .inl ⟨hs, fun p hp => ⟨.ref e, h0, ?_⟩⟩⟩
          have nF := hh.none_of hp
          have le := Gx.le_add (o := .tup ys) nF.1
          have h2 := hh.lay (.tup ys) hp
          have pe : p ≠ e := by
            rintro rfl
            rcases hr.at_ with ⟨_, he⟩ | ⟨_, he, _⟩ <;> rw [hp] at he <;> cases he
          refine store _ _ _ le h2 ⟨by show upd g.F p _ e = none; rw [upd_ne (Ne.symm pe)]; exact hr.F, hr.b, hr.G, ?_⟩ (.tup (by show upd g.F p _ p = _; rw [upd_same]) (le.reps hr2))
          rcases hr.at_ with ⟨e0, he⟩ | ⟨dx, he, hd, hdF, hdb, hdG, hde⟩
          · exact .inl ⟨e0, by rw [upd_ne (Ne.symm pe)]; exact he⟩
          · have pd : p ≠ dx := by
              rintro rfl
              rw [hp] at hd; cases hd
            exact .inr ⟨dx, by rw [upd_ne (Ne.symm pe)]; exact he, by rw [upd_ne (Ne.symm pd)]; exact hd, by show upd g.F p _ dx = none; rw [upd_ne (Ne.symm pd)]; exact hdF, hdb, hdG, hde⟩
        split at ev
        · rename_i es ed2
          cases ev
          obtain ⟨a, ys, e1, q1, q2⟩ := hh.seqLAt (ds := es) hK rx ed2 rfl
          exact new es a ys e1 q1 q2 rfl
        · rename_i es ed2
          cases ev
          obtain ⟨a, ys, e1, q1, q2⟩ := hh.seqLAt (ds := es) hK rx ed2 rfl
          exact new es a ys e1 q1 q2 rfl
        · rename_i es ed2
          cases ev
          have e3 := dr_tup hh rx ed2
          subst e3
          obtain ⟨a, ys, e1, q1, q2⟩ := hh.tupAt rx (ds := es) rfl
          subst e1
          exact ⟨a, ys, rfl, .inr ⟨by rw [hK]; exact .inl (.inl q1), .ref e, h0, store g H _ (Le.refl _) hh hr rx⟩⟩
        · cases ev
end
end Mi
namespace Mi
open PySem PySem.Spec L2

/-! ### own exceptions in the language of data -/
/-- what is known of the exception class c -/
structure ExcRt (P : Program) (w : World) (K : PySem.W.Frag) (mg : Str → Option Value) (base : Heap) (R : Rt) (k : Nat) (c np : Nat) (fl : ExF) : Prop where
  go : ∃ (C fI : Addr) (B newId initId : String) (bm : List Value) (fd : FuncData) (N ps : List Str), R.cls c = some C ∧ BaseF B newId initId bm ∧ ExcK K C bm newId ∧ PySem.W.findIn K (.ref C) "__init__" = some (some (.ref fI)) ∧ PySem.W.typeIn K (.ref fI) = some (.type "function") ∧
    FnG P w K mg base (L2.CX P w) k fI fd ps (spE K C N ps fl) ∧ Binds K fd ps [] ∧ ps.length = np ∧ (∀ f ∈ fl, PySem.W.takerIn K C f.1 = some none) ∧ (∀ f ∈ fl, PySem.W.findIn K (.ref C) f.1 = some none) ∧ fl.length ≤ 800 ∧ np ≤ 1000 ∧
    PySem.W.findIn K (.ref C) "__getattribute__" = some (some (.builtin "BaseException.__getattribute__")) ∧ PySem.W.findIn K (.ref C) "__getattr__" = some none
def wMkE (c np : Nat) (fl : ExF) (ma : WA) : WE := fun sl bx Q X => ma sl bx (fun ds bx1 => ds.length + 1 = np ∧ ∃ fs, exAll bx1 ds fl [] = some fs ∧ Q (.exc c fs) bx1) X
section
variable {r : Rn} {X : Cx} {W : WXQ} {k c np : Nat} {fl : ExF} {C : Addr}
theorem run_excI {g : Gx} {sl : Sl} {bx : Bx} {ds : List D} {fs : List (Str × D)} {QD : VQ} {pins : List (Addr × Obj)} {σ : L2.St} {H : Hp} {s : Shared} {Q : VK} {us : List Value} {vs : List V} (hK : X.K = r.R.K) (T : ExcRt X.prog X.w X.K X.mg X.base r.R k c np fl) (hC : r.R.cls c = some C) (hr : Room (k + 1) X.A) (hgd : X.A.guards = some [])
    (tk : Takes X (wxI r W)) (I : Inv X pins σ H s) (rv : Vals vs us) (hh : Holds r g sl bx σ H) (rs : RepsG r.R g vs ds) (hl : ds.length + 1 = np) (ef : exAll bx ds fl [] = some fs) (q : QD (.exc c fs) bx) (cQ : Cont r g sl σ QD Q) :
    wpAny (model X.prog X.w) X.A (call (.ref C) us) (EP X pins σ Q) X.xe s := by
  obtain ⟨C', fI, B, newId, initId, bm, fd, N, ps, hC', BF, EK, iC, tI, F, hb, hps, hT, _, hfl, hnp, _, _⟩ := T.go
  rw [hC] at hC'; cases hC'
  have hlen : vs.length = ds.length := rs.length
  refine run_mkE (E := L2.WE (wxI r W) σ) BF EK iC tI F hb hr hgd (passAt tk σ) I rv (by rw [← rv.length, sizeLine_eq]; omega) fun e he => ?_
  have nF := hh.none_of he
  have nb : ∀ n, bx n ≠ none → g.b n ≠ some e := fun n en q => by
    cases e' : bx n with
    | none => exact en e'
    | some c' =>
      obtain ⟨x', k1, _, k3⟩ := hh.hb.bxs n c' e'
      obtain ⟨u, hu, _⟩ := k3.isSome
      rw [q] at k1; cases k1
      rw [he] at hu; cases hu
  have h1 := hh.lay0 (exo e C none) he
  refine ⟨e, vs, rfl, by rw [hps]; simp; omega, upd_same, ?_⟩
  refine fl_I (Q := fun H' => V.non = V.non ∧ Q (.ref e) H') hK rfl (fun i v hv => ?_) (fun H' z => z) (fd := []) hT (by simp; omega) h1 ⟨nF.1, nb, nF.2, .inl ⟨rfl, upd_same⟩⟩ rs .nil rfl ef fun g' H' fv' fd' l h' R' rf eo => ⟨rfl, ?_⟩
  · unfold NdefX.startF
    rw [List.map_cons, List.cons_append, List.getElem?_cons_succ, List.getElem?_append_left (by rw [List.length_map]; exact (List.getElem?_eq_some_iff.mp hv).1), List.getElem?_map, hv]; rfl
  · rcases R'.at_ with ⟨e0, h2⟩ | ⟨dx, h2, h3, dF, db, dG, dne⟩
    · subst e0
      have : fs = [] := by rw [eo]; rfl
      subst this
      obtain ⟨le, h4⟩ := h'.take R'.F R'.b h2
      exact cQ _ _ _ _ _ (l.trans le) h4 (.exc0 hC (by show upd g'.F e _ e = _; rw [upd_same])) q
    · obtain ⟨le, h4⟩ := h'.take dF db h3
      obtain ⟨le2, h5⟩ := h4.take (a := e) (by show upd g'.F dx _ e = none; rw [upd_ne (Ne.symm dne)]; exact R'.F) R'.b h2
      refine cQ _ _ _ _ _ ((l.trans le).trans le2) h5 ?_ q
      rw [eo]
      exact .excD hC (by show upd (upd g'.F dx _) e _ e = _; rw [upd_same]) (by show upd (upd g'.F dx _) e _ dx = _; rw [upd_ne dne, upd_same]) ((le.trans le2).reps rf)
theorem pem_mkE {x : Str} {p pos : Pos} {e : Expr} {es : List Expr} {ma : WA} (hK : X.K = r.R.K) (T : ExcRt X.prog X.w X.K X.mg X.base r.R k c np fl) (hC : r.R.cls c = some C) (hr : Room (k + 1) X.A) (hgd : X.A.guards = some []) (tk : Takes X (wxI r W)) (hg : Gl X x) (hm : X.mg x = some (.ref C))
    (hn : noStar (e :: es) = true) (ha : PAm r X W (e :: es) ma) (hdb : (x == ("__debug__" : Str)) = false) : PEm r X W (.Call (.Name x p) (e :: es) [] pos) (wMkE c np fl ma) := by
  refine ⟨fun pins s σ H Q I h => ?_⟩
  obtain ⟨g, sl, bx, QD, hh, q, cQ⟩ := h
  obtain ⟨C', fI, B, newId, initId, bm, fd, N, ps, hC', BF, EK, _⟩ := T.go
  rw [hC] at hC'; cases hC'
  refine wpAny_Call_Name_kw (ld_glob I hg hm ?_ hdb)
  refine PySem.W.callWith_K (h₀ := X.base) I.ok.mod.kin EK.kp (thn (ha.run pos pins s σ H (fun vs H1 => ∃ g1 bx1 ds, Le g g1 ∧ Holds r g1 sl bx1 σ H1 ∧ RepsG r.R g1 vs ds ∧ _) I ⟨g, sl, bx, _, hh, q, fun g1 bx1 H1 vs ds l h1 rs q1 => ⟨g1, bx1, ds, l, h1, rs, q1⟩⟩) fun us s1 ⟨vs, H1, I1, rv, g1, bx1, ds, l, h1, rs, q1⟩ => ⟨I1.kIn, ?_⟩) (starCons hn) (plainBack (noStar_tail hn))
  obtain ⟨hl, fs, ef, q2⟩ := q1
  exact run_excI hK T hC hr hgd tk I1 rv h1 rs hl ef q2 (cQ.le l)
theorem pem_mkE0 {x : Str} {p pos : Pos} (hK : X.K = r.R.K) (T : ExcRt X.prog X.w X.K X.mg X.base r.R k c np fl) (hC : r.R.cls c = some C) (hr : Room (k + 1) X.A) (hgd : X.A.guards = some []) (tk : Takes X (wxI r W)) (hg : Gl X x) (hm : X.mg x = some (.ref C))
    (hdb : (x == ("__debug__" : Str)) = false) : PEm r X W (.Call (.Name x p) [] [] pos) (wMkE c np fl wNil) := by
  refine ⟨fun pins s σ H Q I h => ?_⟩
  obtain ⟨g, sl, bx, QD, hh, q, cQ⟩ := h
  obtain ⟨C', fI, B, newId, initId, bm, fd, N, ps, hC', BF, EK, _⟩ := T.go
  rw [hC] at hC'; cases hC'
  refine wpAny_Call_Name_kw (ld_glob I hg hm ?_ hdb)
  obtain ⟨hl, fs, ef, q2⟩ := q
  exact PySem.W.callWith_K0 I.kIn EK.kp (run_excI (us := []) (vs := []) (ds := []) hK T hC hr hgd tk I .nil hh .nil hl ef q2 cQ)
/-- o.f: of an instance, of an exception -/
def wAttrX (attrs : Nat → List Str) (exf : Nat → Option (Nat × ExF)) (f : Str) (m : WE) : WE := fun sl bx Q X => m sl bx (fun d bx' => match dr bx' d with
  | some (.obj c fs) => f ∈ attrs c ∧ ∃ d', fs.lookup f = some d' ∧ Q d' bx'
  | some (.exc c fs) => ∃ np fl d', exf c = some (np, fl) ∧ f ∈ fl.map (·.1) ∧ fs.lookup f = some d' ∧ Q d' bx'
  | _ => False) X
theorem pem_attrX {o : Expr} {f : Str} {m : WE} {pos : Pos} {attrs : Nat → List Str} {exf : Nat → Option (Nat × ExF)} (hK : X.K = r.R.K) (T : ClsRt r.R X.K attrs) (TE : ∀ c np fl, exf c = some (np, fl) → ExcRt X.prog X.w X.K X.mg X.base r.R k c np fl) (hb : okBase o = true) (h : PEm r X W o m) : PEm r X W (.Attribute o f pos) (wAttrX attrs exf f m) := by
  refine ⟨fun pins s σ H Q I q => ?_⟩
  obtain ⟨g, sl, bx, QD, hh, q, c⟩ := q
  refine attr_of (base_of hb _) (thn (h.run pins s σ H (fun v H1 => ∃ g1 bx1 d, Le g g1 ∧ Holds r g1 sl bx1 σ H1 ∧ RepG r.R g1 v d ∧ _) I ⟨g, sl, bx, _, hh, q, fun g1 bx1 H1 v d l h1 rv q1 => ⟨g1, bx1, d, l, h1, rv, q1⟩⟩) fun u s1 ⟨x, H1, I1, rx, g1, bx1, d, l, h1, rv, q1⟩ => ?_)
  split at q1
  · rename_i cc fs e
    obtain ⟨hf, d', ef, q2⟩ := q1
    obtain ⟨a, C, dx, fv, ds, rfl, hC, hH, rs, rfl⟩ := h1.objAt rv e
    obtain ⟨v', e', rv'⟩ := lookup_zip rs ef
    obtain rfl : u = Value.ref a := rx
    exact getattr_ok I1 hH (T.cl cc C hC (List.ne_nil_of_mem hf)) (T.no cc C f hC hf) e' fun u' s2 I2 ru => ⟨v', H1, I2, ru, c _ _ _ _ _ l h1 rv' q2⟩
  · rename_i cc fs e
    obtain ⟨np, fl, d', ex, hf, ef, q2⟩ := q1
    have hh : ∃ a C dx fv ds, x = V.ref a ∧ r.R.cls cc = some C ∧ H1 a = some (L2.exo a C (some dx)) ∧ H1 dx = some (L2.exd dx fv) ∧ RepsG r.R g1 (fv.map (·.2)) ds ∧ fs = (fv.map (·.1)).zip ds := by
      cases rv with
      | exc0 hc h2 => simp [dr] at e; obtain ⟨rfl, rfl⟩ := e; cases ef
      | excD hc h2 h3 h4 => simp [dr] at e; obtain ⟨rfl, rfl⟩ := e; exact ⟨_, _, _, _, _, rfl, hc, h1.hb.sub.ls _ _ rfl h2, h1.hb.sub.ls _ _ rfl h3, h4, rfl⟩
      | box h2 => simp [dr] at e; obtain ⟨_, _, _, k3⟩ := h1.hb.bxs _ _ e; exact k3.elim
      | _ => simp [dr] at e
    obtain ⟨a, C, dx, fv, ds, rfl, hC, hH, hdx, rs, rfl⟩ := hh
    obtain ⟨v', e', rv'⟩ := lookup_zip rs ef
    obtain rfl : u = Value.ref a := rx
    obtain ⟨C', fI, B, newId, initId, bm, fd, N, ps, hC', BF, EK, iC, tI, F, hb, hps, hT, hT2, hfl, hnp, ga, gg⟩ := (TE cc np fl ex).go
    rw [hC] at hC'; cases hC'
    obtain ⟨t1, ho⟩ := L2.exo_at I1.hok hH
    obtain ⟨mA, hns, hr⟩ := L2.exd_at I1.hok hdx
    obtain ⟨od, hod, hl⟩ := lookIn_ns hns
    obtain ⟨u, hu, ru⟩ := RelO.some_of (v := v') (o := mA f) (by rw [← e']; exact hr f)
    have J : PySem.W.InstAt s1.heap a _ C (some od) := ⟨ho, rfl, rfl, hod⟩
    obtain ⟨p, hp, rfl⟩ := List.mem_map.mp hf
    exact HandSPX.exc_get I1.kIn J ga gg EK.ex (PySem.W.findObj_own EK.hd (hT2 p hp) rfl (by rw [hl, hu])) (handed_of ru) ⟨v', H1, I1.tok _, ru, c _ _ _ _ _ l h1 rv' q2⟩
  · exact q1.elim
end
end Mi
namespace Mi
open PySem PySem.Spec L2

/-! ### repr of data -/
def pdOf (bx : Bx) : Nat → D → Option PyData
  | 0, _ => none
  | _ + 1, .non => some .none
  | _ + 1, .bl b => some (.bool b)
  | _ + 1, .int i => some (.int i)
  | _ + 1, .str x => some (.str x)
  | k + 1, d => match dr bx d with
    | none => none
    | some e => match seqL e with
      | some ds => (ds.mapM (pdOf bx k)).map .list
      | none => (seqT e).bind fun ds => (ds.mapM (pdOf bx k)).map .tuple
section
variable {r : Rn} {X : Cx} {W : WXQ} {g : Gx} {sl : Sl} {bx : Bx} {σ : L2.St} {H : Hp} {pins : List (Addr × Obj)} {s : Shared}
theorem readsAll_of {f : D → Option PyData} {k : Nat} (ih : ∀ d v u p, RepG r.R g v d → RelV v u → f d = some p → ∃ as, Reads s.heap u p as ∧ p.hasDict = false ∧ p.depth ≤ k) :
    ∀ {ds : List D} {vs : List V} {us : List Value} {ps : List PyData}, RepsG r.R g vs ds → Vals vs us → ds.mapM f = some ps → ∃ as, ReadsAll s.heap us ps as ∧ PyData.hasDictAll ps = false ∧ PyData.depthAll ps ≤ k
  | [], _, _, ps, .nil, .nil, e => by
    simp only [List.mapM_nil] at e
    cases e
    exact ⟨_, .nil, rfl, by simp [PyData.depthAll]⟩
  | d :: ds, _, _, ps, .cons h t, .cons q z, e => by
    simp only [List.mapM_cons, Option.bind_eq_bind, Option.bind_eq_some_iff, Option.pure_def, Option.some.injEq] at e
    obtain ⟨p, e1, ps', e2, rfl⟩ := e
    obtain ⟨as, r1, n1, d1⟩ := ih d _ _ p h q e1
    obtain ⟨bs, r2, n2, d2⟩ := readsAll_of ih t z e2
    exact ⟨_, .cons r1 r2, by simp [PyData.hasDictAll, n1, n2], by simp only [PyData.depthAll]; omega⟩
theorem reads_of (hK : X.K = r.R.K) (I : Inv X pins σ H s) (h : Holds r g sl bx σ H) : ∀ k d v u p, RepG r.R g v d → RelV v u → pdOf bx k d = some p → ∃ as, Reads s.heap u p as ∧ p.hasDict = false ∧ p.depth ≤ k
  | 0, d, v, u, p, rv, ru, e => by cases e
  | k + 1, d, v, u, p, rv, ru, e => by
    have ih := reads_of hK I h k
    have core : ((match dr bx d with
      | none => none
      | some e => match seqL e with
        | some ds => (ds.mapM (pdOf bx k)).map .list
        | none => (seqT e).bind fun ds => (ds.mapM (pdOf bx k)).map .tuple) : Option PyData) = some p → ∃ as, Reads s.heap u p as ∧ p.hasDict = false ∧ p.depth ≤ k + 1 := by
      intro e
      split at e
      · cases e
      · rename_i d' ed
        split at e
        · rename_i ds el
          obtain ⟨ps, e1, rfl⟩ := Option.map_eq_some_iff.mp e
          obtain ⟨a, vs, rfl, hS, rs⟩ := h.seqLAt hK rv ed el
          obtain ⟨its, o, n, hv, ho, hc, hd⟩ := sqL_at I.hok I.kIn hS
          obtain ⟨as, q1, q2, q3⟩ := readsAll_of ih rs hv e1
          obtain rfl : u = Value.ref a := ru
          exact ⟨_, .list ho hc hd (by simpa using q1), by simpa [PyData.hasDict] using q2, by simp only [PyData.depth]; omega⟩
        · obtain ⟨ds, el, e⟩ := Option.bind_eq_some_iff.mp e
          obtain ⟨ps, e1, rfl⟩ := Option.map_eq_some_iff.mp e
          obtain ⟨a, vs, rfl, hS, rs⟩ := h.seqTAt hK rv ed el
          obtain ⟨its, o, n, hv, ho, hc, hd⟩ := sqT_at I.hok I.kIn hS
          obtain ⟨as, q1, q2, q3⟩ := readsAll_of ih rs hv e1
          obtain rfl : u = Value.ref a := ru
          exact ⟨_, .tuple ho hc hd (by simpa using q1), by simpa [PyData.hasDict] using q2, by simp only [PyData.depth]; omega⟩
    cases d with
    | non => cases e; cases rv; obtain rfl : u = Value.none := ru; exact ⟨_, .none, rfl, by simp [PyData.depth]⟩
    | bl b => cases e; cases rv; obtain rfl : u = Value.bool b := ru; exact ⟨_, .bool b, rfl, by simp [PyData.depth]⟩
    | int i => cases e; cases rv; obtain ⟨t, rfl⟩ := (show ∃ t, u = Value.int i t from ru); exact ⟨_, .int i t, rfl, by simp [PyData.depth]⟩
    | str x => cases e; cases rv; obtain ⟨t, rfl⟩ := (show ∃ t, u = Value.str x t from ru); exact ⟨_, .str x t, rfl, by simp [PyData.depth]⟩
    | _ => exact core e
end
def isSeqP : PyData → Bool
  | .list _ => true
  | .tuple _ => true
  | _ => false
/-- the text of repr -/
def reprD (bx : Bx) (d : D) : Option Str := (pdOf bx 40 d).bind fun p => if (isSeqP p && p.showable && decide (p.shown.length ≤ sizeLine)) = true then some p.shown else none
def dRepr : OB := fun bx ds => match ds with
  | [d] => (reprD bx d).map fun x => .val (.str x)
  | _ => none
section
variable {r : Rn} {X : Cx} {W : WXQ}
theorem vo_repr {b : Bool} (hK : X.K = r.R.K) (hu : X.A.units + 100 < cLine) (hgd : X.A.guards = some []) : VO r X W (cl (.builtin "repr")) (cOp b dRepr) := fun pins s σ H g sl bx ds us vs QD Q I rv hh rs ⟨x, e1, e2⟩ cQ => by
  match ds, e1, rs with
  | [d], e1, rs =>
    obtain ⟨v, rfl, r1⟩ := reps1 rs
    cases rv with
    | cons q1 t => cases t with
      | nil =>
        rename_i u
        simp only [dRepr, reprD, Option.map_eq_some_iff, Option.bind_eq_some_iff] at e1
        obtain ⟨y, ⟨p, ep, e3⟩, rfl⟩ := e1
        split at e3
        · rename_i hc
          cases e3
          simp only [Bool.and_eq_true, decide_eq_true_eq] at hc
          obtain ⟨⟨hs, hw⟩, hl⟩ := hc
          obtain ⟨as, R, hn, hd⟩ := reads_of hK I hh 40 d v u p r1 q1 ep
          have : ∃ a, u = .ref a := by cases R <;> first | exact ⟨_, rfl⟩ | cases hs
          obtain ⟨a, rfl⟩ := this
          exact repr_of_reads' R hw (PyData.noDict_hsm hn) hgd (by omega) (fun _ _ z => z) (fun h' w tk hk => ⟨.str p.shown, H, I.kept hk, ⟨w, rfl⟩, cQ.at hh (.str _) e2⟩) hl
        · cases e3
end
end Mi
namespace Mi
open PySem PySem.Spec L2

/-! ### raise C(e, ..) of an own exception -/
theorem del_same' {H : Hp} {a : Addr} : L2.del H a a = none := L2.del_same
section
open PyProof.Rows hiding St
variable {X : Cx}
/-- the end of C(e, ..) without fields: the exception is let go -/
theorem mk_endN {pins : List (Addr × Obj)} {σ : L2.St} {H1 H2 : Hp} {hp hp2 h2 : Heap} {g1 g2 : Array GenState} {d1 d2 : Drawn} {t1 t2 : Nat} {os1 os2 : OsState} {a C : Addr} (I1 : Inv X pins σ H1 ⟨hp, g1, d1, t1, os1⟩)
    (ha : hp.objs.size ≤ a) (k : ∀ b o, hp.get? b = some o → hp2.get? b = some o) (un : Un (frs X.stack) [] (upd H1 a (exo a C none)) H2 hp2 h2) (hok : HOk X.prog X.w H2 h2) (ho : os2 = os1) (hb : AllBare g2)
    (ea : H2 a = some (exo a C none)) :
    ∃ (t0 : Addr) (G : Heap), Inv X pins σ (L2.del H2 a) ⟨G, g2, d2, t2, os2⟩ ∧ (∀ b o, G.get? b = some o → h2.get? b = some o) ∧ G.get? a = none ∧
      h2.get? a = some ({ cls := .ref C, dict := none, data := .fields #[.ref t0, .none, .none, .none, .bool false, .none] } : Obj) ∧ (L2.del H2 a) a = none := by
  obtain ⟨t0, hoe⟩ := exo_at hok ea
  have hn : H1 a = none := I1.hok.fresh ha
  obtain ⟨G, g1', g2'⟩ := restrict h2 fun b => decide (b ≠ a)
  have gk : ∀ b, b ≠ a → G.get? b = h2.get? b := fun b hb => g1' b (decide_eq_true hb)
  have ge : G.get? a = none := g2' a (by simp)
  have nha : ∀ {b : Addr} {o : Obj}, hp.get? b = some o → b ≠ a := fun {b o} z => Nat.ne_of_lt (Nat.lt_of_lt_of_le (Heap.lt_size z) ha)
  have up : ∀ {b : Addr}, b ≠ a → H1 b = none → upd H1 a (exo a C none) b = none := fun {b} hb n => by rw [upd_ne hb]; exact n
  have U : Un (frs X.stack) [] H1 (L2.del H2 a) hp G := {
    keep := fun b o z n hf hx => by
      rw [gk b (nha z)]
      exact un.keep b o (k b o z) (up (nha z) n) hf hx
    slot := fun b o z n hf hx => by
      rw [gk b (nha z)]
      exact un.slot b o (k b o z) (up (nha z) n) hf hx
    free := fun b o z n hx => by
      rw [L2.del_ne (nha z)]
      exact un.free b o (k b o z) (up (nha z) n) hx
    there := fun b o z hx => by
      rw [gk b (nha z)]
      exact un.there b o (k b o z) hx
    tups := fun b xs z => by
      rw [L2.del_ne (ne_of_none z hn)]
      exact un.tups b xs (by rw [upd_ne (ne_of_none z hn)]; exact z)
    frzs := fun b o v z => by
      rw [L2.del_ne (ne_of_none z hn)]
      exact un.frzs b o v (by rw [upd_ne (ne_of_none z hn)]; exact z)
    tbls := fun b ps z => by
      rw [L2.del_ne (ne_of_none z hn)]
      exact un.tbls b ps (by rw [upd_ne (ne_of_none z hn)]; exact z) }
  have hok3 : HOk X.prog X.w (L2.del H2 a) G := fun b o z => by
    have hba : b ≠ a := fun e => by
      rw [e, L2.del_same] at z
      cases z
    rw [L2.del_ne hba] at z
    have noa : ∀ {c : Addr}, H2 c = some (.own b) → c ≠ a := fun {c} hc => at_ne ea hc exo_own
    exact (hok b o z).stay (fun c v hc y => by
        have hca : c ≠ a := by
          rcases hc with hc | hc
          · rw [hc]
            exact hba
          · exact noa hc
        rw [gk c hca]
        exact y)
      (fun c hc => by rw [L2.del_ne (noa hc)]; exact hc) (fun c xs hc => by rw [L2.del_ne (at_ne ea hc exo_tup)]; exact hc)
  have J : Inv X pins σ (L2.del H2 a) ⟨G, g2, d2, t2, os2⟩ := I1.call' (ch := []) ho U hok3 hb (fun b z => absurd z (by simp))
  refine ⟨t0, G, J, fun b o z => ?_, ge, hoe, L2.del_same⟩
  by_cases hba : b = a
  · rw [hba, ge] at z
    cases z
  · exact (gk b hba).symm.trans z
/-- C(e, ..) that is raised -/
theorem run_rsE {k : Nat} {fI C : Addr} {fd : FuncData} {ps : List Str} {sp : Sp} {E : XK} {B newId initId : String} {bm : List Value} {pins : List (Addr × Obj)} {σ : L2.St} {H : Hp} {s : Shared} {Q : XK} {us : List Value} {vs : List V} {CX : CXT}
    (BF : BaseF B newId initId bm) (T : ExcK X.K C bm newId) (iC : PySem.W.findIn X.K (.ref C) "__init__" = some (some (.ref fI))) (tI : PySem.W.typeIn X.K (.ref fI) = some (.type "function"))
    (F : FnG X.prog X.w X.K X.mg X.base CX k fI fd ps sp) (hb : Binds X.K fd ps []) (hr : Room (k + 1) X.A) (hgd : X.A.guards = some []) (hx : PassesAt CX X σ E) (I : Inv X pins σ H s) (r : Vals vs us) (hz : us.length ≤ sizeLine)
    (h : ∀ e, H e = none → sp (.ref e :: vs) (upd H e (exo e C none)) (fun v H2 => v = .non ∧ ((H2 e = some (exo e C none) ∧ Q (.ref C) none (L2.del H2 e)) ∨
      ∃ (d : Addr) (fs : List (Str × V)), H2 e = some (exo e C (some d)) ∧ H2 d = some (exd d fs) ∧ H d = none ∧ Q (.ref C) (some d) (upd (L2.del H2 e) d (.xd fs)))) E) : wpAny (model X.prog X.w) X.A (call (.ref C) us) (MkP X pins σ Q) X.xe s := by
  obtain ⟨nm, N', qn, bs, bm', hdct, sn, sub, ab, col, dd, k0, k1, k2, k3, k5, hC, hT⟩ := PySem.W.excInit_of I.kIn T.q
  obtain ⟨hp, g, dr, tk, os⟩ := s
  have hsz : hp.objs.size ≤ hp.objs.size + 1 := Nat.le_succ _
  have hn : H (hp.objs.size + 1) = none := I.hok.fresh hsz
  have hq := h (hp.objs.size + 1) hn
  have kk : ∀ b o, hp.get? b = some o → ((hp.push (PySem.W.kdv_tup us)).push (PySem.HandSPX.excO C hp.objs.size)).get? b = some o := fun b o e => Heap.get?_push_of_some _ (Heap.get?_push_of_some _ e)
  have hget : ((hp.push (PySem.W.kdv_tup us)).push (PySem.HandSPX.excO C hp.objs.size)).get? (hp.objs.size + 1) = some (PySem.HandSPX.excO C hp.objs.size) := by heap_get
  have I2 : Inv X pins σ (upd H (hp.objs.size + 1) (exo (hp.objs.size + 1) C none)) ⟨(hp.push (PySem.W.kdv_tup us)).push (PySem.HandSPX.excO C hp.objs.size), g, dr, tk, os⟩ :=
    I.laid (t' := tk) (a := hp.objs.size + 1) (o := exo (hp.objs.size + 1) C none) (h' := (hp.push (PySem.W.kdv_tup us)).push (PySem.HandSPX.excO C hp.objs.size)) kk hsz (exo_ok hget)
  have r2 : Vals (V.ref (hp.objs.size + 1) :: vs) (Value.ref (hp.objs.size + 1) :: us) := .cons rfl r
  have hl : (Value.ref (hp.objs.size + 1) :: us ++ []).length = ps.length := by
    have e := r2.length
    rw [F.len _ _ _ _ hq] at e
    rw [List.append_nil]
    exact e.symm
  have hb' := hb _ (Value.ref (hp.objs.size + 1) :: us) I2.kIn hl
  rw [List.append_nil] at hb'
  refine wpAny_call (PySem.HandSPX.call_own BF.ex hT hC (PySem.W.looks_findIn I.kIn iC) (fun self => PySem.W.bind_fn I.kIn self tI) hz
    (codeAny_mono (F.run _ X.stack _ _ ⟨Value.ref (hp.objs.size + 1) :: us, []⟩ (Value.ref (hp.objs.size + 1) :: us) _ _ E (hr.make C us []) (make_guards hgd) (I2.env0.make C us []) hb' r2 hq) fun r s' hq' => ?_))
  cases r with
  | error er => exact hx pins _ _ er s' I2 hq'
  | ok fl =>
    cases fl with
    | ret u =>
      obtain ⟨v, H2, os2, bare2, un2, hok2, rv, ev, q2⟩ := hq'
      subst ev
      obtain ⟨h2, g2, d2, t2, os'⟩ := s'
      refine ⟨rv, ?_⟩
      rcases q2 with ⟨ea, q3⟩ | ⟨d, fs, ea, ed, hd1, q3⟩
      · obtain ⟨t0, G, J, kG, ge, hoe, na⟩ := mk_endN (d2 := d2) (t2 := t2) I hsz kk un2 hok2 os2 bare2 ea
        exact ⟨_, _, _, ⟨G, g2, d2, t2, os'⟩, _, .ref C, none, rfl, J, kG, ge, hoe, ⟨rfl, rfl⟩, rfl, rfl, na, rfl, bare2, raises_own T.ex T.ty, q3⟩
      · exact mk_end (raises_own T.ex T.ty) I hsz kk un2 hok2 os2 bare2 ea ed hd1 q3
    | next => exact False.elim hq'
    | brk => exact False.elim hq'
    | cont => exact False.elim hq'
end
section
variable {r : Rn} {g : Gx} {sl : Sl} {bx : Bx} {σ : L2.St} {H : Hp}
theorem subH_del {F H : Hp} {p : Addr} (s : SubH F H) (hn : F p = none) : SubH F (L2.del H p) := by
  have nr := rd_none hn
  have ne : ∀ a, F a ≠ none → a ≠ p := fun a h e => h (e ▸ hn)
  have nr' : ∀ a u, Rd F a u → a ≠ p := fun a u h e => nr u (e ▸ h)
  refine ⟨fun a h => by rw [L2.del_ne (ne a h)]; exact s.dm a h, fun a u i h => ?_, fun a xs i h => by rw [L2.del_ne (ne a (by rw [h]; simp))]; exact s.ls a xs i h, fun a ps h => by rw [L2.del_ne (ne a (by rw [h]; simp))]; exact s.tb a ps h⟩
  have := nr' a u h
  rcases s.rd a u i h with q | ⟨x, q⟩
  · exact .inl (by rw [L2.del_ne this]; exact q)
  · exact .inr ⟨x, by rw [L2.del_ne this]; exact q⟩
/-- what nothing speaks of is let go -/
theorem Holds.del0 {a : Addr} (h : Holds r g sl bx σ H) (hF : g.F a = none) (hb : ∀ n, bx n ≠ none → g.b n ≠ some a) (hG : r.G a = none) : Holds r g sl bx σ (L2.del H a) := by
  refine ⟨⟨subH_del h.hb.sub hF, fun n c e => ?_, h.hb.inj, h.hb.top, fun b u i e => ?_⟩, ⟨h.kp.gs, fun b u e => ?_, h.kp.sb⟩, h.ss, h.len⟩
  · obtain ⟨x, h1, h2, h3⟩ := h.hb.bxs n c e
    have ne : x ≠ a := by
      rintro rfl
      exact hb n (by rw [e]; simp) h1
    exact ⟨x, h1, h2, h3.mono (SubH.refl _) (SubB.refl _) (L2.del_ne ne)⟩
  · have ne : b ≠ a := by rintro rfl; rw [hF] at e; cases e
    rw [L2.del_ne ne]; exact h.hb.dx b u i e
  · have ne : b ≠ a := by rintro rfl; rw [hG] at e; cases e
    rw [L2.del_ne ne]; exact h.kp.keep b u e
/-- seen from here on: all but the boxes stands -/
theorem Holds.sub (h : Holds r g sl bx σ H) : Holds (Rn.sub r.R g H bx) (g.all H bx) sl bx σ H :=
  ⟨h.hb.all, Back.start h.hb, h.ss.mono ⟨h.hb.subMask, SubB.refl _⟩, h.len⟩
theorem Holds.toBack {g0 : Gx} {H0 : Hp} {bx0 : Bx} (h : Holds (Rn.sub r.R g0 H0 bx0) g sl bx σ H) : Back r.R g0 bx0 H0 g bx H := ⟨h.hb, h.kp⟩
/-- back, the slots as they are now -/
theorem Holds.up {g0 : Gx} {H0 : Hp} {sl0 : Sl} {bx0 : Bx} {σ0 : L2.St} (h0 : Holds r g0 sl0 bx0 σ0 H0) (h : Holds (Rn.sub r.R g0 H0 bx0) g sl bx σ H) : Le g0 g ∧ Holds r g sl bx σ H := by
  obtain ⟨l, h1⟩ := h0.back h.toBack
  exact ⟨l, h1.hb, h1.kp, h.ss, h.len⟩
end
def wsRaise (c np : Nat) (fl : ExF) (ma : WA) : WS := fun _ W sl bx => ma sl bx (fun ds bx1 => ds.length + 1 = np ∧ ∃ fs, exAll bx1 ds fl [] = some fs ∧ W ⟨c, fs⟩ sl bx1) (fun x b => W x sl b)
section
variable {r : Rn} {X : Cx} {W : WXQ} {k c np : Nat} {fl : ExF} {C : Addr}
theorem run_excR {g : Gx} {sl : Sl} {bx : Bx} {ds : List D} {fs : List (Str × D)} {pins : List (Addr × Obj)} {σ : L2.St} {H : Hp} {s : Shared} {Q : XK} {us : List Value} {vs : List V} (hK : X.K = r.R.K) (T : ExcRt X.prog X.w X.K X.mg X.base r.R k c np fl) (hC : r.R.cls c = some C) (hr : Room (k + 1) X.A) (hgd : X.A.guards = some [])
    (tk : Takes X (wxI r W)) (I : Inv X pins σ H s) (rv : Vals vs us) (hh : Holds r g sl bx σ H) (rs : RepsG r.R g vs ds) (hl : ds.length + 1 = np) (ef : exAll bx ds fl [] = some fs) (q : W ⟨c, fs⟩ sl bx) (cQ : ∀ cls d H', wxI r W cls d σ H' → Q cls d H') :
    wpAny (model X.prog X.w) X.A (call (.ref C) us) (MkP X pins σ Q) X.xe s := by
  obtain ⟨C', fI, B, newId, initId, bm, fd, N, ps, hC', BF, EK, iC, tI, F, hb, hps, hT, _, hfl, hnp, _, _⟩ := T.go
  rw [hC] at hC'; cases hC'
  have hlen : vs.length = ds.length := rs.length
  refine run_rsE (E := L2.WE (wxI r W) σ) BF EK iC tI F hb hr hgd (passAt tk σ) I rv (by rw [← rv.length, sizeLine_eq]; omega) fun e he => ?_
  have hs := hh.sub
  have le0 : Le g (g.all H bx) := ⟨hh.hb.subMask, SubB.refl _⟩
  have nF := hs.none_of he
  have nb : ∀ n, bx n ≠ none → (g.all H bx).b n ≠ some e := fun n en q => by
    cases e' : bx n with
    | none => exact en e'
    | some c' =>
      obtain ⟨x', k1, _, k3⟩ := hs.hb.bxs n c' e'
      obtain ⟨u, hu, _⟩ := k3.isSome
      rw [q] at k1; cases k1
      rw [he] at hu; cases hu
  have h1 := hs.lay0 (exo e C none) he
  refine ⟨e, vs, rfl, by rw [hps]; simp; omega, upd_same, ?_⟩
  refine fl_I (r := Rn.sub r.R g H bx) (Q := fun H' => V.non = V.non ∧ ((H' e = some (exo e C none) ∧ Q (.ref C) none (L2.del H' e)) ∨
      ∃ (d : Addr) (fs : List (Str × V)), H' e = some (exo e C (some d)) ∧ H' d = some (exd d fs) ∧ H d = none ∧ Q (.ref C) (some d) (upd (L2.del H' e) d (.xd fs)))) hK rfl (fun i v hv => ?_) (fun H' z => z) (fd := []) hT (by simp; omega) h1 ⟨nF.1, nb, nF.2, .inl ⟨rfl, upd_same⟩⟩ (le0.reps rs) .nil rfl ef fun g' H' fv' fd' l h' R' rf eo => ⟨rfl, ?_⟩
  · unfold NdefX.startF
    rw [List.map_cons, List.cons_append, List.getElem?_cons_succ, List.getElem?_append_left (by rw [List.length_map]; exact (List.getElem?_eq_some_iff.mp hv).1), List.getElem?_map, hv]; rfl
  · rcases R'.at_ with ⟨e0, h2⟩ | ⟨dx, h2, h3, dF, db, dG, dne⟩
    · subst e0
      have : fs = [] := by rw [eo]; rfl
      subst this
      refine .inl ⟨h2, cQ _ _ _ ?_⟩
      have h4 := h'.del0 R'.F R'.b R'.G
      obtain ⟨le1, h5⟩ := hh.up h4
      exact ⟨g', sl, bx, _, h5, ⟨⟨C, hC, rfl⟩, .inl ⟨rfl, rfl⟩⟩, q⟩
    · refine .inr ⟨dx, fv', h2, h3, ?_, cQ _ _ _ ?_⟩
      · have dG' : mask H g bx dx = none := dG
        cases e1 : H dx with
        | none => rfl
        | some u =>
          by_cases hbx : ∃ n, bx n ≠ none ∧ g.b n = some dx
          · obtain ⟨n, n1, n2⟩ := hbx
            exact absurd (l.b n dx n2) (db n n1)
          · rw [mask_out hbx, e1] at dG'; cases dG'
      · have h4 := (h'.del0 R'.F R'.b R'.G).upd0 (o := .xd fv') dF db dG
        obtain ⟨le1, h5⟩ := hh.up h4
        exact ⟨g', sl, bx, _, h5, ⟨⟨C, hC, rfl⟩, .inr ⟨dx, fv', fd', rfl, upd_same, rf, eo⟩⟩, q⟩
theorem psm_raise {x : Str} {p pos rp : Pos} {e : Expr} {es : List Expr} {ma : WA} (hc : X.calm = true) (hK : X.K = r.R.K) (T : ExcRt X.prog X.w X.K X.mg X.base r.R k c np fl) (hC : r.R.cls c = some C) (hr : Room (k + 1) X.A) (hgd : X.A.guards = some []) (tk : Takes X (wxI r W)) (hg : Gl X x) (hm : X.mg x = some (.ref C))
    (hn : noStar (e :: es) = true) (ha : PAm r X W (e :: es) ma) (hdb : (x == ("__debug__" : Str)) = false) : PSm r X W (.Raise (some (.Call (.Name x p) (e :: es) [] pos)) none rp) (wsRaise c np fl ma) := by
  refine ps_imp (ps_raise (t := fun σ H Q => ∃ g sl bx, Holds r g sl bx σ H ∧ ma sl bx (fun ds bx1 => ds.length + 1 = np ∧ ∃ fs, exAll bx1 ds fl [] = some fs ∧ W ⟨c, fs⟩ sl bx1) (fun x b => W x sl b) ∧ (∀ cls d H', wxI r W cls d σ H' → Q cls d H')) hc tk fun pins s σ H Q I h => ?_) fun D σ H ⟨g, sl, bx, DD, hh, q, _⟩ => ⟨g, sl, bx, hh, q, fun _ _ _ z => z⟩
  obtain ⟨g, sl, bx, hh, q, cQ⟩ := h
  obtain ⟨C', fI, B, newId, initId, bm, fd, N, ps, hC', BF, EK, _⟩ := T.go
  rw [hC] at hC'; cases hC'
  refine wpAny_Call_Name_kw (ld_glob I hg hm ?_ hdb)
  refine PySem.W.callWith_K (h₀ := X.base) I.ok.mod.kin EK.kp (thn (ha.run pos pins s σ H (fun vs H1 => ∃ g1 bx1 ds, Le g g1 ∧ Holds r g1 sl bx1 σ H1 ∧ RepsG r.R g1 vs ds ∧ _) I ⟨g, sl, bx, _, hh, q, fun g1 bx1 H1 vs ds l h1 rs q1 => ⟨g1, bx1, ds, l, h1, rs, q1⟩⟩) fun us s1 ⟨vs, H1, I1, rv, g1, bx1, ds, l, h1, rs, q1⟩ => ⟨I1.kIn, ?_⟩) (starCons hn) (plainBack (noStar_tail hn))
  obtain ⟨hl, fs, ef, q2⟩ := q1
  exact run_excR hK T hC hr hgd tk I1 rv h1 rs hl ef q2 cQ
theorem psm_raise0 {x : Str} {p pos rp : Pos} (hc : X.calm = true) (hK : X.K = r.R.K) (T : ExcRt X.prog X.w X.K X.mg X.base r.R k c np fl) (hC : r.R.cls c = some C) (hr : Room (k + 1) X.A) (hgd : X.A.guards = some []) (tk : Takes X (wxI r W)) (hg : Gl X x) (hm : X.mg x = some (.ref C))
    (hdb : (x == ("__debug__" : Str)) = false) : PSm r X W (.Raise (some (.Call (.Name x p) [] [] pos)) none rp) (wsRaise c np fl wNil) := by
  refine ps_imp (ps_raise (t := fun σ H Q => ∃ g sl bx, Holds r g sl bx σ H ∧ wNil sl bx (fun ds bx1 => ds.length + 1 = np ∧ ∃ fs, exAll bx1 ds fl [] = some fs ∧ W ⟨c, fs⟩ sl bx1) (fun x b => W x sl b) ∧ (∀ cls d H', wxI r W cls d σ H' → Q cls d H')) hc tk fun pins s σ H Q I h => ?_) fun D σ H ⟨g, sl, bx, DD, hh, q, _⟩ => ⟨g, sl, bx, hh, q, fun _ _ _ z => z⟩
  obtain ⟨g, sl, bx, hh, q, cQ⟩ := h
  obtain ⟨C', fI, B, newId, initId, bm, fd, N, ps, hC', BF, EK, _⟩ := T.go
  rw [hC] at hC'; cases hC'
  refine wpAny_Call_Name_kw (ld_glob I hg hm ?_ hdb)
  obtain ⟨hl, fs, ef, q2⟩ := q
  exact PySem.W.callWith_K0 I.kIn EK.kp (run_excR (us := []) (vs := []) (ds := []) hK T hC hr hgd tk I .nil hh .nil hl ef q2 cQ)
end
end Mi
namespace Mi
open PySem PySem.Spec L2

/-! ### try with any clauses, with and without a name -/
abbrev SuT := Addr → Value → Option Addr → TS
/-- behind a suite whose name stood in slot i -/
def offD (i : Nat) (D : Ends) : Ends := ⟨fun σ H => D.nx (σ.set i none) H, D.rt, fun σ H => D.bk (σ.set i none) H, fun σ H => D.ct (σ.set i none) H⟩
def nmD (o : Option Nat) (D : Ends) : Ends := match o with
  | none => D
  | some i => offD i D
def nmS (o : Option Nat) (a : Addr) (σ : L2.St) : L2.St := match o with
  | none => σ
  | some i => σ.set i (some (.ref a))
def wNm (K : PySem.W.Frag) (Wout : WX) (D : Ends) : List (Value × Option Nat × SuT) → WX
  | [] => Wout
  | (c, o, ts) :: r => fun cls d σ H => ∃ b, PySem.W.exmOne K cls c = some b ∧ (b = true → ∀ a, H a = none → ts a cls d (nmD o D) (nmS o a σ) H) ∧ (b = false → wNm K Wout D r cls d σ H)
/-- a clause's suite, in all contexts in which it may run -/
def SuOk (X : Cx) (l : List Stmt) (ts : SuT) : Prop := ∀ (a : Addr) (oe : Obj) (cls : Value) (d : Option Addr) (pn : List (Addr × Obj)), Zc cls d oe → (∃ vs, oe.data = .fields vs) → PSs (X.suite a ((a, oe) :: pn)) l (ts a cls d)
def NmOk (X : Cx) : Option Nat → Option Str → Prop
  | none, none => True
  | some i, some n => X.N.Nodup ∧ X.N[i]? = some n ∧ X.env.kindOf n = some .local
  | _, _ => False
inductive HdN (X : Cx) : List ExceptHandler → List (Value × Option Nat × SuT) → Prop
  | nil : HdN X [] []
  | cons {x : Str} {c : Value} {ts : SuT} {b : Stmt} {su : List Stmt} {o : Option Nat} {n : Option Str} {p q : Pos} {hds : List ExceptHandler} {l : List (Value × Option Nat × SuT)} (hc : Names X x c) (hn : NmOk X o n) (hsu : SuOk X (b :: su) ts) (r : HdN X hds l) :
      HdN X (.ExceptHandler (some (.Name x p)) n (b :: su) q :: hds) ((c, o, ts) :: l)
section
open PyProof.Rows hiding St
variable {X : Cx}
/-- an exception that our frame has taken: s behind the body, h the heap as it is by now -/
structure Tkn (X : Cx) (pins : List (Addr × Obj)) (a : Addr) (B : Heap) (cls : Value) (d : Option Addr) (σ : L2.St) (H : Hp) (s : Shared) (h : Heap) : Prop where
  fly : HandSPX.FlyingZ B (X.env :: X.outer) a (Zc cls d) h
  cur : Inv X pins σ H { s with heap := h }
  back : ∀ h', HandSPX.FlyingZ B (X.env :: X.outer) a (Zc cls d) h' → h.UpToSlots h' → Inv X pins σ H { s with heap := h' }
  on : ∀ {W : WX}, W cls d σ H → ∀ h', HandSPX.HeldZ B (X.env :: X.outer) a (Zc cls d) X.env.locals h' → h.UpToSlots h' → XE X W (.ref a) { s with heap := h' }
  new : H a = none
  far : a ≠ X.env.locals ∧ a ∉ X.fs
theorem taken {pins : List (Addr × Obj)} {xe : Value → Shared → Prop} {Wt : WX} {u : Value} {s : Shared} {Q : Shared → Prop} {A : Around} {E : Value → Shared → Prop} (hs : X.stack = X.env :: X.outer) (hf : X.env.frame = some X.env.locals) (ok : X.Ok) (hfr : A.frames = some (X.env :: X.outer))
    (x : XE (X.tr (X.pn ++ pins) xe) Wt u s) (k : ∀ (a : Addr) (B : Heap) (cls : Value) (d : Option Addr) (σ : L2.St) (H : Hp) (h : Heap), u = .ref a → Tkn X pins a B cls d σ H s h → Wt cls d σ H → Q { s with heap := h }) :
    wpAny (model X.prog X.w) A (noteFrame u X.env) (fun _ s₂ => wpAny (model X.prog X.w) A (setFlight u none) (fun _ s₃ => Q s₃) E s₂) E s := by
  obtain ⟨a, B, s0, _, σ, H, cls, d, eu, I', kp, up0, sky, na, eo, bare, w⟩ := x
  subst eu
  have I := Inv.ofTry I' ok
  have st : X.stack = (X.tr (X.pn ++ pins) xe).stack := rfl
  refine Sky.land Zc.steady hfr hf (by rw [← hs]; exact sky) fun h fl up1 => k a B cls d σ H h rfl ?_ w
  have up := up0.trans up1
  obtain ⟨oe, vs, e1, _, e3⟩ := fl.there
  have out : a ∉ frs (X.env :: X.outer) := fun hm => by
    obtain ⟨_, o', e', hnf⟩ := fl.2.2.1.mem hm
    rw [e1] at e'; cases e'
    exact hnf _ e3
  refine ⟨fl, I.landed kp fl.1 up eo bare, fun h' f' u' => I.landed kp f'.1 (up.trans u') eo bare, fun w' h' f' u' => ?_, na, fun z => out ?_, fun hm => out ?_⟩
  · exact ⟨a, B, s0, pins, σ, H, cls, d, rfl, I, kp, up.trans u', .inr (.inr (by rw [hs]; exact f')), na, eo, bare, w'⟩
  · exact List.mem_filterMap.mpr ⟨X.env, List.mem_cons_self, by rw [hf, z]⟩
  · obtain ⟨e, he, q⟩ := List.mem_filterMap.mp hm
    exact List.mem_filterMap.mpr ⟨e, List.mem_cons_of_mem _ he, q⟩
variable {pins : List (Addr × Obj)} {a : Addr} {B : Heap} {cls : Value} {d : Option Addr} {σ : L2.St} {H : Hp} {s : Shared} {h : Heap}
/-- the suite's end is the try's end -/
theorem suite_end {oe : Obj} {D : Ends} (ok : X.Ok) {f : Flow} {s6 : Shared} (z : SP (X.suite a ((a, oe) :: (X.pn ++ pins))) [] D f s6) : SP X pins D f s6 := by
  cases f with
  | ret u => obtain ⟨v, σ6, H6, I6, r6, q6⟩ := z; exact ⟨v, σ6, H6, I6.unsuite ok, r6, q6⟩
  | _ => obtain ⟨σ6, H6, I6, q6⟩ := z; exact ⟨σ6, H6, I6.unsuite ok, q6⟩
theorem suite_endN {oe : Obj} {D : Ends} {i : Nat} {n : Str} {p : Pos} (ok : X.Ok) (hN : X.N.Nodup) (hi : X.N[i]? = some n) (hl : X.env.kindOf n = some .local) {f : Flow} {s6 : Shared} (z : SP (X.suite a ((a, oe) :: (X.pn ++ pins))) [] (offD i D) f s6) :
    wpAny (model X.prog X.w) X.A (do bindName X.env n .none; unbindBehindTheSuite X.env n p) (fun _ s7 => SP X pins D f s7) X.xe s6 := by
  cases f with
  | ret u => obtain ⟨v, σ6, H6, I6, r6, q6⟩ := z; exact gone_ok (I6.unsuite ok) hN hi hl fun s7 I7 => ⟨v, _, _, I7, r6, q6⟩
  | _ => obtain ⟨σ6, H6, I6, q6⟩ := z; exact gone_ok (I6.unsuite ok) hN hi hl fun s7 I7 => ⟨_, _, I7, q6⟩
/-- the clauses, one after the other -/
theorem clauses {D : Ends} {Wout : WX} (hf : X.env.frame = some X.env.locals) (ok : X.Ok) (tk : Takes X Wout) (T : Tkn X pins a B cls d σ H s h) : ∀ {hds : List ExceptHandler} {l : List (Value × Option Nat × SuT)}, HdN X hds l → wNm X.K Wout D l cls d σ H →
    wpAny (model X.prog X.w) X.A (handleBy (.ref a) X.env hds) (SP X pins D) X.xe { s with heap := h }
  | _, _, .nil, w => by
    refine wpAny_handleBy_nil ?_
    obtain ⟨_, _, _, oe, vs, Tb, oT, ts', he, _, hd, h1, _⟩ := id T.fly
    have up : wpAny (model X.prog X.w) X.A (setFlight (.ref a) X.env.frame) (fun _ s4 => wpAny (model X.prog X.w) X.A (throw (.ref a) : Sem Flow) (SP X pins D) X.xe s4) X.xe { s with heap := h } := by
      rw [hf]
      exact HandSPX.setFlight_upZ T.fly fun h' f' u' => wpAny_throw (tk _ _ (T.on w h' f' u'))
    unfold PySem.passOn
    refine wpAny_bind (wpAny_field he hd h1 ?_)
    have : ¬ ((Value.ref Tb == Value.none) = true) := by simp
    rw [if_neg this]
    first
      | exact wpAny_bind (wpAny_pure (wpAny_bind up))
      | exact wpAny_bind up
  | _, _, .cons (x := x) (c := c) (ts := ts) (b := b₀) (su := su) (o := o) (n := n) (p := p) (q := q) (hds := hds) hc hn hsu r, w => by
    obtain ⟨b, eb, yes, no⟩ := w
    obtain ⟨oe, vs, e1, e2, e3⟩ := T.fly.there
    have I3 := T.cur.suite e1 e3 T.new T.far.1 T.far.2
    have cl : PySem.W.Looks (model X.prog X.w) h (typeOf (.ref a)) cls := fun A Q E s k q => wpAny_typeOf_ref (k _ _ e1) (by rw [e2.1]; exact q)
    have LM := PySem.W.exm_one (M := model X.prog X.w) T.cur.kIn cl eb
    have nm : ∀ {Q : Value → Shared → Prop} {E : Value → Shared → Prop}, Q c { s with heap := h } → wpAny (model X.prog X.w) (X.A.mark (some (.ref a))) (eval (.Name x p) X.env) Q E { s with heap := h } := fun {Q E} q => by
      rcases hc with ⟨g1, g2, g3 | ⟨g3, g4, g5⟩⟩
      · exact ld_glob I3 g1 g3 q g2
      · exact ld_blt I3 g1 g3 g4 q g5 g2
    refine wpAny_handleBy_cons (codeAny_handlers_test (nm (LM.here ?_))) (by intro z; cases z)
    cases b with
    | false => exact clauses hf ok tk T r (no rfl)
    | true =>
      have z := yes rfl a T.new
      have run : ∀ {h' : Heap} {oe' : Obj} {vs' : Array Value}, h'.get? a = some oe' → Zc cls d oe' → oe'.data = .fields vs' → Inv X pins σ H { s with heap := h' } → ∀ {σ' : L2.St} {s' : Shared} {D' : Ends}, Inv (X.suite a ((a, oe') :: (X.pn ++ pins))) [] σ' H s' → ts a cls d D' σ' H →
          wpAny (model X.prog X.w) (X.A.mark (some (.ref a))) (execs (b₀ :: su) X.env) (SP (X.suite a ((a, oe') :: (X.pn ++ pins))) [] D') (fun _ _ => False) s' := fun {h' oe' vs'} k1 k2 k3 _ {σ' s' D'} J q => (hsu a oe' cls d (X.pn ++ pins) k2 ⟨_, k3⟩).run [] s' σ' H D' J q
      match o, n, hn, z with
      | none, none, _, z =>
        refine codeAny_handlers_suite (HandSPX.lands_againZ T.fly fun h' f' u' => ?_)
        obtain ⟨oe', vs', k1, k2, k3⟩ := f'.there
        have J := T.back h' f' u'
        exact wpAny_mono (run k1 k2 k3 J (J.suite k1 k3 T.new T.far.1 T.far.2) z) (fun f s6 q6 => suite_end ok q6) fun _ _ q => q.elim
      | some i, some nn, hn, z =>
        obtain ⟨n1, n2, n3⟩ := hn
        refine codeAny_handlers_suite_as (HandSPX.lands_againZ T.fly fun h' f' u' => ?_)
        obtain ⟨oe', vs', k1, k2, k3⟩ := f'.there
        have J := T.back h' f' u'
        refine store_ok (X := X.suite a ((a, oe') :: (X.pn ++ pins))) (v := .ref a) (J.suite k1 k3 T.new T.far.1 T.far.2) n1 n2 (.inl n3) rfl (fun s5 J5 => ?_) (.inr n3)
        exact wpAny_mono (run k1 k2 k3 J J5 z) (fun f s6 q6 => suite_endN ok n1 n2 n3 q6) fun _ _ q => q.elim
/-- try: body, except ..: suite, .. -/
theorem ps_tryN {body : List Stmt} {hd₀ : ExceptHandler} {hds : List ExceptHandler} {l : List (Value × Option Nat × SuT)} {pos : Pos} {tb : WX → TS} {Wout : WX} (hs : X.stack = X.env :: X.outer) (hf : X.env.frame = some X.env.locals) (tk : Takes X Wout)
    (hb : ∀ (W : WX) (pn : List (Addr × Obj)) (xe : Value → Shared → Prop), Takes (X.tr pn xe) W → PassesOwn (model X.prog X.w) X.A X.env xe → PSs (X.tr pn xe) body (tb W)) (hh : HdN X (hd₀ :: hds) l) :
    PS X (.Try body (hd₀ :: hds) [] [] pos) (fun D σ H => tb (wNm X.K Wout D l) D σ H) := ⟨fun pins s σ H D I q => by
  have hfr : X.A.frames = some (X.env :: X.outer) := I.ok.frames.trans (by rw [hs])
  refine wpAny_Try_except (wpAny_mono ((hb (wNm X.K Wout D l) (X.pn ++ pins) _ (fun u s' x => taken hs hf I.ok hfr x fun a B cls d σ H h eu T w => by rw [eu]; exact clauses (D := D) hf I.ok tk T hh w) PassesOwn.looking).run [] s σ H D (I.toTry _) q) (fun f s1 z => ?_) fun _ _ z => z)
  have ok := I.ok
  cases f with
  | next => obtain ⟨σ', H', J, q⟩ := z; exact wpAny_execs_nil ⟨σ', H', J.ofTry ok, q⟩
  | ret u => obtain ⟨v, σ', H', J, r, q⟩ := z; exact ⟨v, σ', H', J.ofTry ok, r, q⟩
  | _ => obtain ⟨σ', H', J, q⟩ := z; exact ⟨σ', H', J.ofTry ok, q⟩⟩
end
end Mi
namespace Mi
open PySem PySem.Spec L2

/-! ### try, in the language of data -/
def suEn (o : Option Nat) (D : En) : En := match o with
  | none => D
  | some i => ⟨fun sl bx => D.nx (sl.set i none) bx, D.rt, fun sl bx => D.bk (sl.set i none) bx, fun sl bx => D.ct (sl.set i none) bx⟩
def suSl (o : Option Nat) (n : Nat) (sl : Sl) : Sl := match o with
  | none => sl
  | some i => sl.set i (some (.box n))
/-- a clause: its class, the slot of its name, its suite (n: the exception's name among the boxes, x: the exception) -/
abbrev Cl := Nat × Option Nat × (Nat → XD → WS)
def tryW (isub : Nat → Nat → Option Bool) (D : En) (W : WXQ) : List Cl → WXQ
  | [] => W
  | (c, o, h) :: r => fun x sl bx => ∃ b, isub x.c c = some b ∧ if b = true then ∀ n, bx n = none → h n x (suEn o D) WF (suSl o n sl) bx else tryW isub D W r x sl bx
def wsTry (isub : Nat → Nat → Option Bool) (m : WS) (l : List Cl) : WS := fun D W sl bx => m D (tryW isub D W l) sl bx
/-- what is known of the exception that a suite holds -/
structure Hld (r : Rn) (n : Nat) (a : Addr) (x : XD) (cls : Value) (d : Option Addr) : Prop where
  b : r.b0 n = some a
  cls : ∃ C, r.R.cls x.c = some C ∧ cls = .ref C
  fs : ∀ f v, x.fs.lookup f = some v → ∃ dd fv ds, d = some dd ∧ r.G dd = some (.xd fv) ∧ Reps r.R r.G r.b0 (fv.map (·.2)) ds ∧ x.fs = (fv.map (·.1)).zip ds
def SuM (r : Rn) (X : Cx) (l : List Stmt) (h : Nat → XD → WS) : Prop := ∀ (r' : Rn) (n : Nat) (x : XD) (a : Addr) (oe : Obj) (cls : Value) (d : Option Addr) (pn : List (Addr × Obj)), r'.R = r.R → Zc cls d oe → (∃ vs, oe.data = .fields vs) → Hld r' n a x cls d →
  PSsm r' (X.suite a ((a, oe) :: pn)) WF l (h n x)
inductive HdM (r : Rn) (X : Cx) (isub : Nat → Nat → Option Bool) : List ExceptHandler → List Cl → Prop
  | nil : HdM r X isub [] []
  | cons {x : Str} {C : Addr} {c : Nat} {h : Nat → XD → WS} {b : Stmt} {su : List Stmt} {o : Option Nat} {n : Option Str} {p q : Pos} {hds : List ExceptHandler} {l : List Cl} (hc : Names X x (.ref C)) (hn : NmOk X o n) (hsu : SuM r X (b :: su) h)
      (ex : ∀ c' C' k, r.R.cls c' = some C' → isub c' c = some k → PySem.W.exmOne X.K (.ref C') (.ref C) = some k) (t : HdM r X isub hds l) : HdM r X isub (.ExceptHandler (some (.Name x p)) n (b :: su) q :: hds) ((c, o, h) :: l)
section
variable {r : Rn} {g : Gx} {sl : Sl} {bx : Bx} {σ : L2.St} {H : Hp}
/-- a name for what stands at a -/
theorem Holds.name {a : Addr} (h : Holds r g sl bx σ H) : Le g (g.addB a) ∧ Holds r (g.addB a) sl bx σ H := by
  have ht := h.hb.top g.top (Nat.le_refl _)
  have le := Gx.le_addB (p := a) ht
  have hb : ∀ n, bx n ≠ none → (g.addB a).b n = g.b n := fun n e => by
    have ne : n ≠ g.top := by rintro rfl; exact e h.topNone
    show (if n = g.top then some a else g.b n) = _
    rw [if_neg ne]
  refine ⟨le, ⟨h.hb.sub, fun n c e => ?_, fun n m x e1 e2 f1 f2 => ?_, fun n hn => ?_, h.hb.dx⟩, ⟨h.kp.gs, h.kp.keep, h.kp.sb.trans le.b⟩, h.ss.mono le, h.len⟩
  · obtain ⟨x, h1, h2, h3⟩ := h.hb.bxs n c e
    exact ⟨x, (hb n (by rw [e]; simp)).trans h1, h2, h3.mono le.F le.b rfl⟩
  · rw [hb n e1] at f1; rw [hb m e2] at f2
    exact h.hb.inj n m x e1 e2 f1 f2
  · have hn' : g.top + 1 ≤ n := hn
    show (if n = g.top then some a else g.b n) = none
    rw [if_neg (by omega)]
    exact h.hb.top n (by omega)
theorem addB_top {a : Addr} : (g.addB a).b g.top = some a := if_pos rfl
end
section
variable {r : Rn} {X : Cx} {W : WXQ}
theorem ContS.up {g : Gx} {sl : Sl} {bx : Bx} {σ : L2.St} {H : Hp} {DD : En} {D : Ends} (hh : Holds r g sl bx σ H) (c : ContS r g DD D) : ContS (Rn.sub r.R g H bx) (g.all H bx) DD D where
  nx := fun g' sl' bx' σ' H' _ h q => let ⟨l, h'⟩ := hh.up h; c.nx _ _ _ _ _ l h' q
  bk := fun g' sl' bx' σ' H' _ h q => let ⟨l, h'⟩ := hh.up h; c.bk _ _ _ _ _ l h' q
  ct := fun g' sl' bx' σ' H' _ h q => let ⟨l, h'⟩ := hh.up h; c.ct _ _ _ _ _ l h' q
  rt := fun g' sl' bx' σ' H' v d _ h rv q => let ⟨l, h'⟩ := hh.up h; c.rt _ _ _ _ _ _ _ l h' rv q
theorem ContS.off {g : Gx} {DD : En} {D : Ends} (o : Option Nat) (c : ContS r g DD D) : ContS r g (suEn o DD) (nmD o D) := by
  cases o with
  | none => exact c
  | some i => exact ⟨fun g' sl' bx' σ' H' l h q => c.nx _ _ _ _ _ l h.unset q, fun g' sl' bx' σ' H' l h q => c.bk _ _ _ _ _ l h.unset q, fun g' sl' bx' σ' H' l h q => c.ct _ _ _ _ _ l h.unset q, fun g' sl' bx' σ' H' v d l h rv q => c.rt _ _ _ _ _ _ _ l h rv q⟩
def toNm (r : Rn) (cls : Nat → Addr) : List Cl → List (Value × Option Nat × SuT)
  | [] => []
  | (c, o, h) :: t => (.ref (cls c), o, fun a cls d D σ H => ∃ r' n x, r'.R = r.R ∧ Hld r' n a x cls d ∧ tIS r' WF (h n x) D σ H) :: toNm r cls t
theorem hdM_cls {isub : Nat → Nat → Option Bool} {hds : List ExceptHandler} {l : List Cl} (h : HdM r X isub hds l) : ∃ l', HdN X hds l' ∧
    ∀ {Wout : WX} {D : Ends} {DD : En} {cls : Value} {d : Option Addr} {σ : L2.St} {H : Hp} {g : Gx} {sl : Sl} {bx : Bx} {x : XD}, Holds r g sl bx σ H → XRep r.R g H cls d x → ContS r g DD D → (∀ cls d σ H, wxI r W cls d σ H → Wout cls d σ H) → tryW isub DD W l x sl bx → wNm X.K Wout D l' cls d σ H := by
  induction h with
  | nil => exact ⟨[], .nil, fun {Wout D DD cls d σ H g sl bx x} hh xr c wo q => wo _ _ _ _ ⟨g, sl, bx, x, hh, xr, q⟩⟩
  | @cons x C c h b su o n p q hds l hc hn hsu ex t ih =>
    obtain ⟨l', h1, h2⟩ := ih
    refine ⟨(.ref C, o, fun a cls d D σ H => ∃ r' n x, r'.R = r.R ∧ Hld r' n a x cls d ∧ tIS r' WF (h n x) D σ H) :: l', .cons hc hn (fun a oe cls d pn hz hf => ?_) h1, fun {Wout D DD cls d σ H g sl bx x} hh xr cc wo w => ?_⟩
    · refine ⟨fun pins s σ H D I z => ?_⟩
      obtain ⟨r', n, x, eR, hl, z⟩ := z
      exact (hsu r' n x a oe cls d pn eR hz hf hl).run pins s σ H D I z
    · obtain ⟨k, ek, w⟩ := w
      obtain ⟨⟨C', eC, ecls⟩, xr2⟩ := xr
      subst ecls
      refine ⟨k, ex _ _ _ eC ek, fun e a ha => ?_, fun e => ?_⟩
      · subst e
        rw [if_pos rfl] at w
        obtain ⟨le, h3⟩ := hh.name (a := a)
        have h4 : Holds r (g.addB a) (suSl o g.top sl) bx (nmS o a σ) H := by
          cases o with
          | none => exact h3
          | some i => exact h3.set (.box addB_top)
        have le2 : Le g ((g.addB a).all H bx) := le.trans ⟨h4.hb.subMask, SubB.refl _⟩
        refine ⟨Rn.sub r.R (g.addB a) H bx, g.top, x, rfl, ⟨addB_top, ⟨C', eC, rfl⟩, fun f v ef => ?_⟩, (g.addB a).all H bx, _, bx, suEn o DD, h4.sub, w g.top hh.topNone, ((ContS.le cc le).up h4).off o⟩
        rcases xr2 with ⟨e0, _⟩ | ⟨dd, fv, ds, rfl, e1, e2, e3⟩
        · rw [e0] at ef; cases ef
        · refine ⟨dd, fv, ds, rfl, ?_, le2.reps e2, e3⟩
          show mask H (g.addB a) bx dd = _
          rw [mask_out, e1]
          rintro ⟨m, n1, n2⟩
          cases em : bx m with
          | none => exact n1 em
          | some cc =>
            obtain ⟨y, k1, _, k3⟩ := h4.hb.bxs m cc em
            rw [n2] at k1; cases k1
            obtain ⟨u, hu, hm⟩ := k3.isSome
            rw [e1] at hu; cases hu
            exact hm
      · subst e
        rw [if_neg Bool.false_ne_true] at w
        exact h2 hh ⟨⟨C', eC, rfl⟩, xr2⟩ cc wo w
theorem psm_try {isub : Nat → Nat → Option Bool} {body : List Stmt} {hd₀ : ExceptHandler} {hds : List ExceptHandler} {l : List Cl} {pos : Pos} {m : WS} (hs : X.stack = X.env :: X.outer) (hf : X.env.frame = some X.env.locals) (tk : Takes X (wxI r W))
    (hb : ∀ (r' : Rn) (W' : WXQ) (pn : List (Addr × Obj)) (xe : Value → Shared → Prop), r'.R = r.R → Takes (X.tr pn xe) (wxI r' W') → PassesOwn (model X.prog X.w) X.A X.env xe → PSsm r' (X.tr pn xe) W' body m)
    (hh : HdM r X isub (hd₀ :: hds) l) : PSm r X W (.Try body (hd₀ :: hds) [] [] pos) (wsTry isub m l) := by
  obtain ⟨l', h1, h2⟩ := hdM_cls (W := W) hh
  refine ps_imp (ps_tryN (tb := fun Wx D σ H => ∃ (r' : Rn) (W' : WXQ), r'.R = r.R ∧ (∀ cls d σ H, wxI r' W' cls d σ H → Wx cls d σ H) ∧ tIS r' W' m D σ H) hs hf tk (fun Wx pn xe tkx po => ?_) h1) fun D σ H q => ?_
  · refine ⟨fun pins s σ H D I z => ?_⟩
    obtain ⟨r', W', eR, im, z⟩ := z
    exact (hb r' W' pn xe eR (tkx.imp im) po).run pins s σ H D I z
  · obtain ⟨g, sl, bx, DD, h, q, c⟩ := q
    refine ⟨Rn.sub r.R g H bx, tryW isub DD W l, rfl, fun cls d σ1 H1 w => ?_, g.all H bx, sl, bx, DD, h.sub, q, c.up h⟩
    obtain ⟨g1, sl1, bx1, x, h3, xr, w⟩ := w
    obtain ⟨le, h4⟩ := h.up h3
    exact h2 h4 xr (c.le le) (fun _ _ _ _ z => z) w
end

/-! ### e.f of the exception that a suite holds -/
def wHld (i n : Nat) (x : XD) (f : Str) : WE := fun sl bx Q _ => sl[i]? = some (some (.box n)) ∧ ∃ d, x.fs.lookup f = some d ∧ Q d bx
theorem pem_hld {r : Rn} {X : Cx} {W : WXQ} {n i k np : Nat} {fl : ExF} {a : Addr} {x : XD} {cls : Value} {d : Option Addr} {oe : Obj} {pn : List (Addr × Obj)} {y f : Str} {p pos : Pos} (hK : X.K = r.R.K) (hl : Hld r n a x cls d) (T : ExcRt X.prog X.w X.K X.mg X.base r.R k x.c np fl) (hfl : f ∈ fl.map (·.1)) (hz : Zc cls d oe) (hf : ∃ vs, oe.data = .fields vs)
    (hN : X.N[i]? = some y) (hv : Vis X.env.scope y) (hd : (y == ("__debug__" : Str)) = false) (hcd : (y == ("__classdict__" : Str)) = false) : PEm r (X.suite a ((a, oe) :: pn)) W (.Attribute (.Name y p) f pos) (wHld i n x f) := by
  obtain ⟨C, eC, ec⟩ := hl.cls
  obtain ⟨C', fI, B, newId, initId, bm, fd, N, ps, hC', BF, EK, iC, tI, F, hb, hps, hT, hT2, hfl2, hnp, ga, gg⟩ := T.go
  rw [eC] at hC'; cases hC'
  obtain ⟨q, hq, rfl⟩ := List.mem_map.mp hfl
  have XF : XfC X.K C := ⟨ga, gg, EK.ex, EK.hd⟩
  have pv : PEm r (X.suite a ((a, oe) :: pn)) W (.Name y p) (wSlot i) := pem_slot (X := X.suite a ((a, oe) :: pn)) hN hv hd hcd
  refine pe_imp (pe_xf (X := X) (cls := cls) (d := d) XF (hT2 q hq) hz hf pv rfl) fun σ H Q z => ?_
  obtain ⟨g, sl, bx, QD, hh, ⟨e1, v, e2, e3⟩, cc⟩ := z
  refine ⟨g, sl, bx, fun d' bx' => d' = .box n ∧ bx' = bx, hh, ⟨_, e1, rfl, rfl⟩, fun g' bx' H' u d' le h' rv ⟨e4, e5⟩ => ?_⟩
  subst e4; subst e5
  obtain ⟨dd, fv, ds, rfl, k1, k2, k3⟩ := hl.fs _ _ e2
  cases rv with
  | box hb' =>
    have := h'.kp.sb n a hl.b
    rw [this] at hb'; cases hb'
    refine ⟨rfl, ec, dd, fv, ?_⟩
    rw [k3] at e2
    have l2 : SubH r.G g'.F := h'.kp.gs
    obtain ⟨u, ef, ru⟩ := lookup_zip k2 e2
    have kk := h'.kp.keep dd _ k1
    have e6 : H' dd = some (.xd fv) := by
      rcases kk with kk | ⟨kk, _⟩ | ⟨_, _, kk, _⟩
      · exact kk
      · cases kk
      · cases kk
    exact ⟨u, rfl, e6, ef, cc _ _ _ _ _ le h' (ru.mono l2 h'.kp.sb) e3⟩
end Mi
namespace Mi
open PySem PySem.Spec L2

/-! ### slices -/
def cutL {α : Type} (xs : List α) (lo hi : Option Int) : List α := (xs.drop (HT.sIx xs.length 0 lo)).take (HT.sIx xs.length xs.length hi - HT.sIx xs.length 0 lo)
def dSl (bx : Bx) (d : D) (lo hi : Option Int) : Option Rs := match dr bx d with
  | some (.lst ds) => some (.new (.lst (cutL ds lo hi)))
  | some (.rol ds) => some (.new (.lst (cutL ds lo hi)))
  | some (.tup ds) => some (.val (.tup (cutL ds lo hi)))
  | some (.str z) => if z.length ≤ sizeLine then some (.val (.str (L2.cutS z lo hi))) else none
  | _ => none
abbrev WO := Sl → Bx → (Option Int → Bx → Prop) → XQ → Prop
def woNone : WO := fun _ bx Q _ => Q none bx
def woSome (m : WE) : WO := fun sl bx Q X => m sl bx (fun d bx' => ∃ i, d = .int i ∧ Q (some i) bx') X
def wSl (b : Bool) (m : WE) (lo hi : WO) : WE := fun sl bx Q X => m sl bx (fun d bx1 => lo sl bx1 (fun l bx2 => hi sl bx2 (fun h bx3 => ∃ rs, dSl bx3 d l h = some rs ∧ fin b rs bx3 Q) X) X) X
def tIO (r : Rn) (W : WXQ) (m : WO) : TO := fun σ H Q => ∃ g sl bx QD, Holds r g sl bx σ H ∧ m sl bx QD (fun x b => W x sl b) ∧ ∀ g' bx' H' o, Le g g' → Holds r g' sl bx' σ H' → QD o bx' → Q o H'
abbrev POm (r : Rn) (X : Cx) (W : WXQ) (e : Option Expr) (m : WO) : Prop := PO X e (tIO r W m)
section
variable {r : Rn} {X : Cx} {W : WXQ}
theorem pom_none : POm r X W none woNone := ⟨fun pins s σ H Q I ⟨g, sl, bx, QD, hh, q, c⟩ => po_none.run pins s σ H Q I (c _ _ _ _ (Le.refl _) hh q)⟩
theorem pom_some {e : Expr} {m : WE} (h : PEm r X W e m) : POm r X W (some e) (woSome m) := ⟨fun pins s σ H Q I ⟨g, sl, bx, QD, hh, q, c⟩ => by
  refine (po_some h).run pins s σ H Q I ⟨g, sl, bx, _, hh, q, fun g' bx' H' v d l h' rv ⟨i, e1, q'⟩ => ?_⟩
  subst e1
  cases rv
  exact ⟨i, rfl, c _ _ _ _ l h' q'⟩⟩
def rSl (r : Rn) (b : Bool) : V → Option Int → Option Int → Hp → VK → Prop := fun x lo hi H Q => ∃ g sl bx σ d rs QD, Holds r g sl bx σ H ∧ RepG r.R g x d ∧ dSl bx d lo hi = some rs ∧ fin b rs bx QD ∧ Cont r g sl σ QD Q
theorem Reps.cut {R : Rt} {F : Hp} {b : Nat → Option Addr} {vs : List V} {ds : List D} (h : Reps R F b vs ds) (lo hi : Option Int) : Reps R F b (L2.cutV vs lo hi) (cutL ds lo hi) := by
  unfold L2.cutV cutL
  rw [h.length]
  exact (h.drop _).take _
theorem cut_whole {α : Type} {xs : List α} {lo hi : Option Int} (h : HT.sIx xs.length 0 lo = 0 ∧ HT.sIx xs.length xs.length hi = xs.length) : cutL xs lo hi = xs := by
  unfold cutL
  rw [h.1, h.2]
  simp
theorem slI {b : Bool} (hK : X.K = r.R.K) : SlR X (rSl r b) := by
  intro pins s σ0 H x v vl vu lo hi sp Q I rx hs pl pu q
  obtain ⟨g, sl, bx, σ, d, rs, QD, hh, rd, e, f, c⟩ := q
  unfold dSl at e
  split at e
  · rename_i ds ed
    cases e
    obtain ⟨a, vs, rfl, hH, rr⟩ := hh.lstAt rd ed
    exact sl_list pins s σ0 H _ v vl vu lo hi sp Q I rx hs pl pu ⟨a, vs, rfl, SqL.of hH, fin_lst hh (rr.cut lo hi) f c⟩
  · rename_i ds ed
    cases e
    obtain ⟨a, vs, rfl, hH, rr⟩ := hh.seqLAt hK rd ed rfl
    exact sl_list pins s σ0 H _ v vl vu lo hi sp Q I rx hs pl pu ⟨a, vs, rfl, hH, fin_lst hh (rr.cut lo hi) f c⟩
  · rename_i ds ed
    cases e
    obtain rfl := dr_tup hh rd ed
    obtain ⟨a, vs, rfl, hH, rr⟩ := hh.tupAt rd ed
    refine sl_tupA pins s σ0 H _ v vl vu lo hi sp Q I rx hs pl pu ⟨a, vs, rfl, SqT.of hH, fun hw => ?_, fun _ => fin_tup hh (rr.cut lo hi) f c⟩
    rw [rr.length] at hw
    have f' : QD (.tup (cutL ds lo hi)) bx := f
    rw [cut_whole hw] at f'
    exact c.at hh rd f'
  · rename_i z ed
    split at e
    · rename_i hl
      cases e
      obtain rfl := dr_str hh rd ed
      exact sl_str pins s σ0 H _ v vl vu lo hi sp Q I rx hs pl pu ⟨z, rfl, hl, c.at hh (.str _) f⟩
    · cases e
  · cases e
theorem pem_sl {b : Bool} {e : Expr} {lo hi : Option Expr} {m : WE} {ml mh : WO} {p pos : Pos} (hK : X.K = r.R.K) (h : PEm r X W e m) (hl : POm r X W lo ml) (hu : POm r X W hi mh) : PEm r X W (.Subscript e (.Slice lo hi none p) pos) (wSl b m ml mh) :=
  pe_imp (pe_slice (slI (b := b) hK) h hl hu) fun σ H Q z => by
    obtain ⟨g, sl, bx, QD, hh, q, c⟩ := z
    refine ⟨g, sl, bx, _, hh, q, fun g1 bx1 H1 x d l1 h1 r1 q1 => ?_⟩
    refine ⟨g1, sl, bx1, _, h1, q1, fun g2 bx2 H2 o l2 h2 q2 => ?_⟩
    refine ⟨g2, sl, bx2, _, h2, q2, fun g3 bx3 H3 o' l3 h3 q3 => ?_⟩
    obtain ⟨rs, e1, e2⟩ := q3
    exact ⟨g3, sl, bx3, σ, d, rs, QD, h3, (l2.trans l3).rep r1, e1, e2, c.le ((l1.trans l2).trans l3)⟩
/-! ### xs[::-1] -/
section
open PyProof.Rows hiding St
variable {prog : Program} {w : World} {A : Around} {E : Value → Shared → Prop} {s : Shared}
theorem rev_adjust (n : Nat) : Builtin.Slice.sliceAdjust none none (-1) (n : Int) = ((n : Int) - 1, -1) := by
  unfold Builtin.Slice.sliceAdjust
  simp
theorem rev_places (n : Nat) : Builtin.Slice.slicePlaces ((n : Int) - 1) (-1) (-1) = n := by
  unfold Builtin.Slice.slicePlaces
  simp only [show ¬ ((-1 : Int) > 0) by omega, if_false]
  split
  · have : ((n : Int) - 1 - -1 + - -1 - 1) = n := by omega
    simp; try omega
  · omega
theorem rev_pick (xs : Array Value) : ((List.range xs.size).filterMap fun (m : Nat) => xs[(((xs.size : Nat) : Int) - 1 + (m : Int) * -1).toNat]?).toArray = xs.toList.reverse.toArray := by
  obtain ⟨l⟩ := xs
  congr 1
  show (List.range l.length).filterMap _ = l.reverse
  have : ∀ k, k ≤ l.length → (List.range k).filterMap (fun (m : Nat) => l[((l.length : Int) - 1 + (m : Int) * -1).toNat]?) = l.reverse.take k := by
    intro k
    induction k with
    | zero => intro _; rfl
    | succ k ih =>
      intro hk
      rw [List.range_succ, List.filterMap_append, ih (by omega), List.take_succ]
      congr 1
      have e : ((l.length : Int) - 1 + (k : Int) * -1).toNat = l.length - 1 - k := by omega
      rw [List.getElem?_reverse (by omega), ← e]
      simp only [List.filterMap_cons, List.filterMap_nil]
      cases l[((l.length : Int) - 1 + (k : Int) * -1).toNat]? <;> rfl
  have h := this l.length (Nat.le_refl _)
  rw [List.take_of_length_le (by simp)] at h
  simpa using h
theorem applied_rev {sp : Addr} {t : Tok} {n : Nat} {Q : Int × Int × Nat → Shared → Prop} (hs : s.heap.IsSliceOf sp .none .none (.int (-1) t)) (h : Q ((n : Int) - 1, -1, n) s) : wpAny (model prog w) A (Builtin.Slice.sliceApplied (.ref sp) (pure (n : Int))) Q E s := by
  obtain ⟨o, ho, _, hd⟩ := id hs
  unfold Builtin.Slice.sliceApplied Builtin.Slice.sliceFields
  refine wpAny_bind (wpAny_bind (wpAny_field ho hd (x := .none) rfl (wpAny_bind (wpAny_field ho hd (x := .none) rfl (wpAny_bind (wpAny_field ho hd (x := .int (-1) t) rfl (wpAny_pure ?_)))))))
  refine wpAny_bind (slicePart_int ?_)
  show wpAny _ _ (if ((-1 : Int) == 0) = true then _ else _) _ _ s
  rw [if_neg (by decide)]
  refine wpAny_bind (slicePart_none (wpAny_bind (slicePart_none (wpAny_bind (wpAny_pure ?_)))))
  show wpAny _ _ (match Builtin.Slice.sliceAdjust none none (-1) (n : Int) with | (lo, hi) => pure (lo, (-1 : Int), Builtin.Slice.slicePlaces lo hi (-1))) _ _ s
  rw [rev_adjust]
  show wpAny _ _ (pure ((n : Int) - 1, (-1 : Int), Builtin.Slice.slicePlaces ((n : Int) - 1) (-1) (-1))) _ _ s
  rw [rev_places]
  exact wpAny_pure h
theorem tuple_rev {t sp : Addr} {items : Array Value} {k : Tok} {Q : Value → Shared → Prop} (ht : IsTup s.heap t items) (hs : s.heap.IsSliceOf sp .none .none (.int (-1) k))
    (h : Q (.ref s.heap.objs.size) { s with heap := s.heap.push { cls := .type "tuple", data := .seq items.toList.reverse.toArray } }) (hsz : items.size ≤ sizeLine) : wpAny (model prog w) A (getItem (.ref t) (.ref sp)) Q E s := by
  have hz : sizeOk (.seq items.toList.reverse.toArray) := by
    show items.toList.reverse.toArray.size ≤ sizeLine
    simpa using hsz
  obtain ⟨o, ho, hc, hd⟩ := id hs
  have hT : s.TypeIs (.ref sp) "slice" := ⟨o, ho, hc⟩
  unfold getItem
  try with_reducible refine wpAny_holding ?_
  first | refine wpAny_bind (wpAny_pure ?_) | skip
  refine wpAny_bind (wpAny_sequenceKey ht.typeIs (by decide) ?_)
  refine wpAny_bind (wpAny_callSpecial?_slot (name := Str.ofString "__getitem__") ht.typeIs PyProof.Rows.slot_tuple_getitem
    (wpAny_call_entry PyProof.Rows.slot_tuple_getitem ht.typeIs entry_tuple_getitem ?_ (args_tuple_getitem _ _)))
  show wpAny _ _ (Builtin.Tuple.tupleItemsOf (.ref t) >>= _) _ _ s
  refine wpAny_bind (tupleItemsOf_ ht (wpAny_bind (wpAny_typeOf hT ?_)))
  rw [if_pos (by decide)]
  refine wpAny_bind (applied_rev hs ?_)
  have hno : ¬ ((((items.size : Int) - 1) == 0 && (-1 : Int) == 1 && items.size == items.size) = true) := by simp
  show wpAny _ _ (if (((items.size : Int) - 1) == 0 && (-1 : Int) == 1 && items.size == items.size) = true then _ else _) _ _ s
  rw [if_neg hno, rev_pick]
  first
    | exact wpAny_bind (m := Builtin.Tuple.tupleExact _) (wpAny_newObj_type (wpAny_pure ⟨_, rfl, wpAny_pure h⟩) hz)
    | exact wpAny_bind (m := Builtin.Tuple.tupleExact _) (wpAny_newObj_type (wpAny_bind (wpAny_pure (wpAny_pure ⟨_, rfl, wpAny_pure h⟩))) hz)
    | exact wpAny_bind (wpAny_bind (m := Builtin.Tuple.tupleExact _) (wpAny_newObj_type (wpAny_pure (wpAny_pure ⟨_, rfl, wpAny_pure h⟩)) hz))
    | exact wpAny_bind (wpAny_bind (m := Builtin.Tuple.tupleExact _) (wpAny_newObj_type (wpAny_pure ⟨_, rfl, wpAny_pure h⟩) hz))
end
/-- xs[::-1] of a list, of a tuple -/
def dRev (bx : Bx) (d : D) : Option Rs := match dr bx d with
  | some (.lst ds) => some (.new (.lst ds.reverse))
  | some (.rol ds) => some (.new (.lst ds.reverse))
  | some (.tup ds) => some (.val (.tup ds.reverse))
  | _ => none
def wRev (b : Bool) (m : WE) : WE := fun sl bx Q X => m sl bx (fun d bx1 => ∃ rs, dRev bx1 d = some rs ∧ fin b rs bx1 Q) X
def tRevA (K : PySem.W.Frag) (te : TE) : TE := fun σ H Q => te σ H fun x H1 => (∃ a xs, x = .ref a ∧ SqL K H1 a xs ∧ ∀ p, H1 p = none → Q (.ref p) (upd H1 p (.lst xs.reverse))) ∨ (∃ a xs, x = .ref a ∧ SqT K H1 a xs ∧ ∀ p, H1 p = none → Q (.ref p) (upd H1 p (.tup xs.reverse)))
open PyProof.Rows hiding St in
theorem pe_revA {e : Expr} {te : TE} {k : Nat} {p1 p2 p3 pos : Pos} (he : PE X e te) : PE X (.Subscript e (.Slice none none (some (.UnaryOp .USub (.Constant (.int 1) k p1) p2)) p3) pos) (tRevA X.K te) := by
  have step : PO X (some (.UnaryOp .USub (.Constant (.int 1) k p1) p2)) (tPart (tUn (rU fun i => .int (-i)) (tC (.int 1)))) := po_some (pe_un un_neg pe_int)
  refine ⟨fun pins s σ H Q I h => Subscript_ (thn (he.run pins s σ H _ I h) fun v s1 ⟨x, H1, I1, r1, q1⟩ => ?_)⟩
  refine wpAny_Slice (thn (po_none.run pins s1 σ H1 (fun o H2 => o = none ∧ H2 = H1) I1 ⟨rfl, rfl⟩) fun vl s2 ⟨l, H2, I2, pl, el, e2⟩ => thn (po_none.run pins s2 σ H2 (fun o H3 => o = none ∧ H3 = H2) I2 ⟨rfl, rfl⟩) fun vu s3 ⟨u, H3, I3, pu, eu, e3⟩ =>
    thn (step.run pins s3 σ H3 (fun o H4 => o = some (-1) ∧ H4 = H3) I3 ⟨1, rfl, -1, rfl, rfl, rfl⟩) fun vs s4 ⟨o, H4, I4, ps, eo, e4⟩ => ?_)
  subst el e2 eu e3 eo e4
  cases pl
  cases pu
  obtain ⟨tk, rfl⟩ : ∃ tk, vs = Value.int (-1) tk := by cases ps; exact ⟨_, rfl⟩
  have I5 : L2.Inv X pins σ H4 { s4 with heap := s4.heap.push { cls := .type "slice", data := .fields #[.none, .none, .int (-1) tk] } } := I4.kept (t' := s4.toks) fun b ob q => Heap.get?_push_of_some _ q
  rcases q1 with ⟨a, xs, rfl, hx, q⟩ | ⟨a, xs, rfl, hx, q⟩
  · cases r1
    obtain ⟨its, r, ht, hz⟩ := I5.list hx
    have hlen := r.length
    show wpAny (model X.prog X.w) X.A (subscriptTail e (.Slice none none (some (.UnaryOp .USub (.Constant (.int 1) k p1) p2)) p3) (.ref a) (.ref s4.heap.objs.size)) (EP X pins σ Q) X.xe _
    refine tail_any (ops := [.ref a, .ref s4.heap.objs.size]) ht.isList.typeIs (PySem.slot_list_getitem.lookup) ?_ (by with_unfolding_all rfl)
    refine wpAny_getItem_list_slice ht.isList (Heap.IsSliceOf.new _ _ _ _) .none .none (.int _ _) (by decide) ?_ (by rw [List.size_toArray]; omega)
    rw [PySem.W.krv_pick]
    exact ⟨.ref _, _, I5.laid (t' := s4.toks) (o := .lst xs.reverse) (fun b ob q => Heap.get?_push_of_some _ q) (Nat.le_refl _) ⟨by rw [List.length_reverse]; exact hz, _, 0, r.reverse, Heap.get?_push_size _ rfl⟩, rfl, q _ (I5.hok.fresh (Nat.le_refl _))⟩
  · cases r1
    obtain ⟨its, r, ht, hz⟩ := I5.tuple hx
    have hlen := r.length
    show wpAny (model X.prog X.w) X.A (subscriptTail e (.Slice none none (some (.UnaryOp .USub (.Constant (.int 1) k p1) p2)) p3) (.ref a) (.ref s4.heap.objs.size)) (EP X pins σ Q) X.xe _
    refine tail_any (ops := [.ref a, .ref s4.heap.objs.size]) ht.typeIs (PyProof.Rows.slot_tuple_getitem.lookup) ?_ (by with_unfolding_all rfl)
    refine tuple_rev ht (Heap.IsSliceOf.new _ _ _ _) ?_ (by rw [List.size_toArray]; omega)
    exact ⟨.ref _, _, I5.laid (t' := s4.toks) (o := .tup xs.reverse) (fun b ob q => Heap.get?_push_of_some _ q) (Nat.le_refl _) ⟨by rw [List.length_reverse]; exact hz, _, r.reverse, _, Heap.get?_push_size _ rfl, rfl, _, rfl⟩, rfl, q _ (I5.hok.fresh (Nat.le_refl _))⟩
theorem Reps.reverse {R : Rt} {F : Hp} {b : Nat → Option Addr} : ∀ {vs : List V} {ds : List D}, Reps R F b vs ds → Reps R F b vs.reverse ds.reverse
  | _, _, .nil => .nil
  | _, _, .cons h t => by rw [List.reverse_cons, List.reverse_cons]; exact (Reps.reverse t).append (.cons h .nil)
theorem pem_rev {b : Bool} {e : Expr} {m : WE} {k : Nat} {p1 p2 p3 pos : Pos} (hK : X.K = r.R.K) (h : PEm r X W e m) : PEm r X W (.Subscript e (.Slice none none (some (.UnaryOp .USub (.Constant (.int 1) k p1) p2)) p3) pos) (wRev b m) :=
  pe_imp (pe_revA h) fun σ H Q z => by
    obtain ⟨g, sl, bx, QD, hh, q, c⟩ := z
    refine ⟨g, sl, bx, _, hh, q, fun g1 bx1 H1 x d l1 h1 r1 ⟨rs, e1, f⟩ => ?_⟩
    unfold dRev at e1
    split at e1
    · rename_i ds ed
      cases e1
      obtain ⟨a, vs, rfl, hH, rr⟩ := h1.seqLAt hK r1 ed rfl
      exact .inl ⟨a, vs, rfl, hH, fin_lst h1 rr.reverse f (c.le l1)⟩
    · rename_i ds ed
      cases e1
      obtain ⟨a, vs, rfl, hH, rr⟩ := h1.seqLAt hK r1 ed rfl
      exact .inl ⟨a, vs, rfl, hH, fin_lst h1 rr.reverse f (c.le l1)⟩
    · rename_i ds ed
      cases e1
      obtain ⟨a, vs, rfl, hH, rr⟩ := h1.tupAt r1 ed
      exact .inr ⟨a, vs, rfl, SqT.of hH, fin_tup h1 rr.reverse f (c.le l1)⟩
    · cases e1
end

/-! ### a < b < c -/
def wChain (o1 o2 : O2) (ma mb mc : WE) : WE := fun sl bx Q X => ma sl bx (fun d bx1 => mb sl bx1 (fun e bx2 => ∃ k, o1 bx2 d e = some (.val (.bl k)) ∧ if k = true then mc sl bx2 (fun f bx3 => ∃ rs, o2 bx3 e f = some rs ∧ fin false rs bx3 Q) X else Q (.bl false) bx2) X) X
section
variable {r : Rn} {X : Cx} {W : WXQ}
theorem tI_chain {o1 o2 : O2} {ma mb mc : WE} {σ : L2.St} {H : Hp} {Q : VK} (h : tI r W (wChain o1 o2 ma mb mc) σ H Q) : tChain (rI2 r false o1) (rI2 r false o2) (tI r W ma) (tI r W mb) (tI r W mc) σ H Q := by
  obtain ⟨g, sl, bx, QD, hh, q, c⟩ := h
  refine ⟨g, sl, bx, _, hh, q, fun g1 bx1 H1 x d l1 h1 r1 q1 => ?_⟩
  refine ⟨g1, sl, bx1, _, h1, q1, fun g2 bx2 H2 y e l2 h2 r2 ⟨k, e1, q2⟩ => ?_⟩
  refine ⟨g2, sl, bx2, σ, d, e, _, fun d' bx' => d' = .bl k ∧ bx' = bx2, h2, l2.rep r1, r2, e1, ⟨rfl, rfl⟩, fun g3 bx3 H3 z d' l3 h3 r3 ⟨e2, e3⟩ => ?_⟩
  subst e2; subst e3
  cases r3
  refine ⟨k, rfl, ?_⟩
  have l13 := (l1.trans l2).trans l3
  cases k with
  | false => rw [if_neg Bool.false_ne_true] at q2 ⊢; exact c _ _ _ _ _ l13 h3 (.bl false) q2
  | true =>
    rw [if_pos rfl] at q2 ⊢
    refine ⟨g3, sl, bx3, _, h3, q2, fun g4 bx4 H4 u f l4 h4 r4 ⟨rs, e4, e5⟩ => ?_⟩
    exact ⟨g4, sl, bx4, σ, e, f, rs, QD, h4, (l3.trans l4).rep r2, r4, e4, e5, c.le (l13.trans l4)⟩
theorem pem_chain {op op' : CmpOp} {o1 o2 : O2} {a b c : Expr} {ma mb mc : WE} {pos : Pos} (h1 : OpR X (compareOp op) (rI2 r false o1)) (h2 : OpR X (compareOp op') (rI2 r false o2)) (ha : PEm r X W a ma) (hb : PEm r X W b mb) (hc : PEm r X W c mc) (hm : lastMarks [op, op'] [b, c] = false) :
    PEm r X W (.Compare a [op, op'] [b, c] pos) (wChain o1 o2 ma mb mc) := pe_imp (pe_chain h1 h2 ha hb hc hm) fun σ H Q z => tI_chain z
theorem ptm_chain {op op' : CmpOp} {o1 o2 : O2} {a b c : Expr} {ma mb mc : WE} {pos : Pos} (h1 : OpR X (compareOp op) (rI2 r false o1)) (h2 : OpR X (compareOp op') (rI2 r false o2)) (ha : PEm r X W a ma) (hb : PEm r X W b mb) (hc : PEm r X W c mc) (hm : lastMarks [op, op'] [b, c] = false) :
    PTm r X W (.Compare a [op, op'] [b, c] pos) (wtB (wChain o1 o2 ma mb mc)) := pt_imp (pt_chain h1 h2 ha hb hc hm) fun σ H Q z => by
  obtain ⟨g, sl, bx, QD, hh, q, c⟩ := z
  exact tI_chain ⟨g, sl, bx, _, hh, q, fun g1 bx1 H1 x d l1 h1 r1 ⟨k, e1, q1⟩ => by subst e1; cases r1; exact ⟨k, rfl, c _ _ _ _ l1 h1 q1⟩⟩
end

/-! ### is True, is False -/
def dIsB (neg : Bool) : O2 := fun _ d e => match d, e with
  | .bl a, .bl b => some (.val (.bl (xor neg (decide (a = b)))))
  | _, _ => none
section
variable {r : Rn} {X : Cx} {W : WXQ}
theorem opI_isB {b : Bool} : OpR X (compareOp .Is) (rI2 r b (dIsB false)) := op_I fun g sl bx σ H x y d e rs QD Q hh rx ry eo f c => by
  unfold dIsB at eo
  split at eo
  · rename_i a b'
    cases eo
    cases rx; cases ry
    refine ⟨_, op_isBl, _, _, rfl, rfl, ?_⟩
    have := c.at hh (.bl _) f
    simpa using this
  · cases eo
theorem opI_isnotB {b : Bool} : OpR X (compareOp .IsNot) (rI2 r b (dIsB true)) := op_I fun g sl bx σ H x y d e rs QD Q hh rx ry eo f c => by
  unfold dIsB at eo
  split at eo
  · rename_i a b'
    cases eo
    cases rx; cases ry
    refine ⟨_, op_notBl, _, _, rfl, rfl, ?_⟩
    have := c.at hh (.bl _) f
    simpa using this
  · cases eo
end

/-! ### dict comprehensions -/
def dcW (n : Nat) (cond : Bx → Prop) (ct : CT) (vs : List Nat) (tt : WT) (tk tv : WE) (sl : Sl) (Q : Bx → Prop) : List D → Bx → Prop
  | [], bx => cond bx ∧ Q bx
  | d :: ds, bx => cond bx ∧ ∃ sl', ctD ct d (wipeD sl vs) = some sl' ∧ tt sl' bx (fun k bx1 => if k = true then
      tk sl' bx1 (fun y bx2 => tv sl' bx2 (fun z bx3 => ∃ acc, bx3 n = some (.dic false acc) ∧ okKey false y = true ∧ acc.length < sizeLine ∧ dcW n cond ct vs tt tk tv sl Q ds (upb bx3 n (.dic false (putD false y z acc)))) (fun _ _ => False)) (fun _ _ => False)
    else dcW n cond ct vs tt tk tv sl Q ds bx1) (fun _ _ => False)
def wDc (b : Bool) (ct : CT) (vs : List Nat) (it : WIt) (tt : WT) (tk tv : WE) : WE := fun sl bx Q X => it sl bx (fun ds cond bx1 => ∀ n, bx1 n = none →
  dcW n cond ct vs tt tk tv sl (fun bx2 => ∃ acc, bx2 n = some (.dic false acc) ∧ if b = true then Q (.box n) bx2 else Q (.dic false acc) (delb bx2 n)) ds (upb bx1 n (.dic false []))) X
section
variable {r : Rn} {X : Cx} {W : WXQ}
theorem wipe_outer {σ σ2 : L2.St} {vs : List Nat} (ew : wipe σ2 vs = wipe (wipe σ vs) vs) : wipe σ2 vs = wipe σ vs := by
  rw [ew]
  apply List.ext_getElem?
  intro j
  by_cases hj : j < σ.length
  · rw [wipe_get (by rw [wipe_length]; exact hj), wipe_get hj]
    by_cases hjv : j ∈ vs
    · simp [hjv]
    · simp [hjv]
  · rw [List.getElem?_eq_none (by rw [wipe_length, wipe_length]; simpa using hj), List.getElem?_eq_none (by rw [wipe_length]; simpa using hj)]
theorem dc_I {ct : CT} {vs : List Nat} {it : WIt} {tt : WT} {tk tv : WE} {b : Bool} (hK : X.K = r.R.K) (hv : ∀ i ∈ ctIs ct, i ∈ vs) {σ : L2.St} {H : Hp} {Q : VK} (h : tI r W (wDc b ct vs it tt tk tv) σ H Q) : tDc (tII r W it) (ctG X.K ct) (tIT r WF tt) (tI r WF tk) (tI r WF tv) vs σ H Q := by
  obtain ⟨g, sl, bx, QD, hh, q, c⟩ := h
  refine ⟨g, sl, bx, _, hh, q, fun g1 bx1 H1 J ds cond l1 h1 ys q1 => ?_⟩
  intro p hp
  have q1 := q1 _ h1.topNone
  have ht := h1.hb.top g1.top (Nat.le_refl _)
  have le := Gx.le_addB (p := p) ht
  have eb : (g1.addB p).b g1.top = some p := addB_top
  have h2 := h1.layB (o := .dK []) (c := .dic false []) hp ⟨[], [], upd_same, .nil, rfl⟩
  generalize hQ : (fun bx2 : Bx => ∃ acc, bx2 g1.top = some (.dic false acc) ∧ if b = true then QD (.box g1.top) bx2 else QD (.dic false acc) (delb bx2 g1.top)) = QQ at q1
  refine ⟨fun i m H' => i + m = ds.length ∧ ∃ g' bx', Le (g1.addB p) g' ∧ Holds r g' sl bx' σ H' ∧ dcW g1.top cond ct vs tt tk tv sl QQ (ds.drop i) bx',
    ⟨ds.length, by omega, _, _, Le.refl _, h2, by rw [List.drop_zero]; exact q1⟩, ?_⟩
  rintro i m H' ⟨em, g', bx', l', h', q'⟩
  have ebg := l'.b _ _ eb
  by_cases hi : i < ds.length
  · have ed := List.drop_eq_getElem_cons hi
    rw [ed] at q'
    obtain ⟨hc, sl', ec, q'⟩ := q'
    refine .inr ⟨ys.go i g' sl bx' σ H' (le.trans l') h' hc hi, fun H2 => ∃ g2 bx2, Le (g1.addB p) g2 ∧ Holds r g2 sl bx2 σ H2 ∧ dcW g1.top cond ct vs tt tk tv sl QQ (ds.drop (i + 1)) bx2,
      fun H2 ⟨g2, bx2, a1, a2, a3⟩ => ⟨m - 1, by omega, by omega, g2, bx2, a1, a2, a3⟩, fun x H2 hy => ?_⟩
    obtain ⟨g2, d, e2, l2, hh2, rd⟩ := ys.yld i g' sl bx' σ H' x H2 (le.trans l') h' hc hi hy
    rw [List.getElem?_eq_getElem hi] at e2; cases e2
    refine ct_I hK (hh2.wiped vs) rd ec hv fun σ2 h3 ew => ⟨wipe_outer ew, ?_⟩
    refine ⟨g2, sl', bx', _, h3, q', fun g3 bx3 H3 k l3 h4 q3 => ?_⟩
    cases k with
    | false =>
      rw [if_neg Bool.false_ne_true] at q3 ⊢
      exact ⟨g3, bx3, (l'.trans l2).trans l3, hh2.outer h4 l3, q3⟩
    | true =>
      rw [if_pos rfl] at q3 ⊢
      refine ⟨g3, sl', bx3, _, h4, q3, fun g4 bx4 H4 y e l4 h5 ry q4 => ?_⟩
      refine ⟨g4, sl', bx4, _, h5, q4, fun g5 bx5 H5 z f l5 h6 rz q5 => ?_⟩
      obtain ⟨acc, ea, ok, hl, q6⟩ := q5
      obtain ⟨a', k1, _, k3⟩ := h6.hb.bxs _ _ ea
      obtain ⟨kv, ws, k4, k5, k6⟩ := k3
      have l15 := ((l'.trans l2).trans (l3.trans l4)).trans l5
      have eb5 := l15.b _ _ eb
      rw [eb5] at k1; cases k1
      obtain ⟨kk, ekk⟩ := Option.isSome_iff_exists.mp (show (toKey e).isSome = true from ok)
      obtain rfl := rep_key (l5.rep ry) ekk
      have hlen : kv.length = acc.length := by
        have := k5.length
        rw [k6]; simp at this ⊢; omega
      obtain ⟨ws', w1, w2⟩ := put_rel keyD (eqK false) kk e (keyD_of ekk) (fun j => by simp [eqK, toKey_keyD, ekk]) rz k5
      refine ⟨kv, kk, rfl, k4, by omega, g5, _, l15, (hh2.outer h6 ((l3.trans l4).trans l5)).put (c' := .dic false (putD false e f acc)) ea eb5 (o := .dK (L2.putK kv kk z)) ⟨_, ws', upd_same, w1, ?_⟩, q6⟩
      rw [← w2, k6]
      rfl
  · have ed : ds.drop i = [] := List.drop_eq_nil_of_le (by omega)
    rw [ed] at q'
    obtain ⟨hc, q'⟩ := q'
    refine .inl ⟨ys.stop i g' sl bx' σ H' (le.trans l') h' hc (by omega), ?_⟩
    subst hQ
    obtain ⟨acc, ea, q'⟩ := q'
    obtain ⟨a', k1, _, kv, ws, k3, k4, k5⟩ := h'.hb.bxs _ _ ea
    rw [ebg] at k1; cases k1
    have l1' := (l1.trans le).trans l'
    cases b with
    | true => rw [if_pos rfl] at q'; exact c _ _ _ _ _ l1' h' (.box ebg) q'
    | false =>
      rw [if_neg Bool.false_ne_true] at q'
      obtain ⟨h7, l7⟩ := h'.freeze ea ebg k3
      refine c _ _ _ _ _ (l1'.trans l7) h7 ?_ q'
      rw [k5]
      exact .dicK (.inl (by show upd g'.F p _ p = _; rw [upd_same])) (l7.reps k4)
theorem pem_dc {b : Bool} {kx vx tg iter : Expr} {ifs : List Expr} {scope : Scope} {own : List (Str × Nat)} {pos : Pos} {ct : CT} {it : WIt} {tt : WT} {tk tv : WE} (hK : X.K = r.R.K) (hc : X.calm = true) (hN : X.N.Nodup) (hi : PIm r X W tg iter it) (ok : BlkOk X.N X.env.scope scope own) (hv : ∀ i ∈ ctIs ct, i ∈ own.map (·.2))
    (hg : ∀ (s : Shared) (H : Hp) (C : Addr) (cl : List (Str × Addr)) (fp : List Addr), PG (X.blk s H scope (compEnvC scope cl C X.env) fp) tg (ctG X.K ct)) (ht : ∀ (s : Shared) (H : Hp) (C : Addr) (cl : List (Str × Addr)) (fp : List Addr), PTsm r (X.blk s H scope (compEnvC scope cl C X.env) fp) WF ifs tt)
    (hk : ∀ (s : Shared) (H : Hp) (C : Addr) (cl : List (Str × Addr)) (fp : List Addr), PEm r (X.blk s H scope (compEnvC scope cl C X.env) fp) WF kx tk) (he : ∀ (s : Shared) (H : Hp) (C : Addr) (cl : List (Str × Addr)) (fp : List Addr), PEm r (X.blk s H scope (compEnvC scope cl C X.env) fp) WF vx tv)
    (hs : ∀ x, foldedSetIterable iter X.env x = pure x) : PEm r X W (.DictComp kx vx [⟨tg, iter, ifs, 0⟩] scope pos) (wDc b ct (own.map (·.2)) it tt tk tv) :=
  pe_imp (pe_dc hc hN hi ok hg ht hk he hs) fun σ H Q z => dc_I hK hv z
end
end Mi
namespace Mi
open PySem PySem.Spec L2

/-! ### repr of what is no sequence -/
def reprA (bx : Bx) (d : D) : Option Str := match d with
  | .non => some "None"
  | .bl b => some (if b then "True" else "False")
  | .int i => if i.natAbs.log2 < 1920 then some (toString i) else none
  | .str x => if (reprText x).length ≤ sizeLine then some (reprText x) else none
  | d => match dr bx d with
    | some (.dic false []) => some "{}"
    | _ => reprD bx d
def dReprA : OB := fun bx ds => match ds with
  | [d] => (reprA bx d).map fun x => .val (.str x)
  | _ => none
section
variable {r : Rn} {X : Cx} {W : WXQ}
open PyProof.Rows hiding St in
theorem vo_reprA {b : Bool} (hK : X.K = r.R.K) (hu : X.A.units + 100 < cLine) (hv : ∀ {k : Bool}, VO r X W (cl (.builtin "repr")) (cOp k dRepr)) (hgd : X.A.guards = some []) : VO r X W (cl (.builtin "repr")) (cOp b dReprA) := fun pins s σ H g sl bx ds us vs QD Q I rv hh rs ⟨x, e1, e2⟩ cQ => by
  match ds, e1, rs with
  | [d], e1, rs =>
    obtain ⟨v, rfl, r1⟩ := reps1 rs
    have e0 := e1
    simp only [dReprA, Option.map_eq_some_iff] at e1
    obtain ⟨y, ey, rfl⟩ := e1
    cases rv with
    | cons q1 t =>
      cases t with
      | nil =>
        rename_i u
        have done : ∀ {n : Nat}, EP X pins σ Q (.str y n) { s with toks := s.toks + 1 } := fun {n} => ⟨.str y, H, I.tok _, ⟨_, rfl⟩, cQ.at hh (.str _) e2⟩
        unfold reprA at ey
        split at ey
        · cases ey
          cases r1
          obtain rfl : u = Value.none := q1
          exact PySem.call_repr_gives (PySem.typeIs_none _) PySem.F.slot_NoneType_repr PySem.F.entry_NoneType_repr (PySem.F.args_NoneType_repr_1 _) PySem.gives_none_repr done
        · cases ey
          cases r1
          obtain rfl : u = Value.bool _ := q1
          exact PySem.call_repr_gives (PySem.typeIs_bool _ _) PySem.F.slot_bool_repr PySem.F.entry_bool_repr (PySem.F.args_bool_repr_1 _) (PySem.gives_bool_repr _) done (by rfl) (by split <;> rw [sizeLine_eq] <;> decide)
        · rename_i i
          split at ey
          · rename_i hz
            cases ey
            cases r1
            obtain ⟨t, rfl⟩ := q1
            exact PySem.P.repr_of_int hz done
          · cases ey
        · rename_i z
          split at ey
          · rename_i hz
            cases ey
            cases r1
            obtain ⟨t, rfl⟩ := q1
            exact PySem.call_repr_gives (PySem.typeIs_str _ _ _) PySem.F.slot_str_repr PySem.F.entry_str_repr (PySem.F.args_str_repr_1 _) (PySem.gives_str_repr _ _) done (by rfl) hz
          · cases ey
        · split at ey
          · rename_i ed
            cases ey
            obtain ⟨a, rfl, kv, ds', hr, hrep, hz⟩ := hh.dicAt r1 ed
            obtain rfl : u = Value.ref a := q1
            have hkv : kv = [] := by
              have hl := hrep.length
              cases kv with
              | nil => rfl
              | cons p t => cases ds' with
                | nil => simp at hl
                | cons d t' => simp at hz
            subst hkv
            obtain ⟨_, hs, ws, hw, o, es, ep, ho, hx, hd, hk, hp, _⟩ := dk_rd I.hok hr
            cases hw
            have he : es.toList = [] := by
              generalize es.toList = L at hp
              cases hp; rfl
            have R : Reads s.heap (.ref a) (.dict []) [a] := Reads.dict (as := []) (bs := []) ho hx.1 hd (by rw [he]; exact .nil) (by rw [he]; exact .nil)
            refine repr_of_reads' R rfl (fun _ => ?_) hgd (by show X.A.units + _ < _; have : (PyData.dict []).depth ≤ 2 := by decide
                                                              omega) (fun _ _ z => z) (fun h' w tk hk => ⟨.str _, H, I.kept hk, ⟨w, rfl⟩, cQ.at hh (.str _) e2⟩) (by rw [sizeLine_eq]; decide)
            simp only [List.mem_singleton]
            intro e
            rw [← e] at hs
            simp at hs
          · exact hv (k := b) pins s σ H g sl bx [d] [u] [v] QD Q I (.cons q1 .nil) hh rs ⟨.val (.str y), by simp only [dRepr, ey, Option.map_some], e2⟩ cQ
end

/-! ### own == with a built-in value -/
def cOwnB (isE : Nat → Bool) (tb : Ty → Ty → Option Bool) (mt : Nat → Option CallM) : CallM := fun ds bx Q X => ∃ d e c cm n, ds = [d, e] ∧ clsD bx d = some c ∧ tyD isE bx e = some (.ty n) ∧ tb (.ty n) (.cls c) = some false ∧ mt c = some cm ∧ cm [d, e] bx Q X
section
variable {r : Rn} {X : Cx} {W : WXQ} {k : Nat} {mt : Nat → Option CallM} {isE : Nat → Bool} {tb : Ty → Ty → Option Bool}
theorem vo_ownEqB (hK : X.K = r.R.K) (Ti : IsiRt r.R X.K isE tb) (T : OwnRt X.prog X.w X.K X.mg X.base r.R k (cmpInfo .Eq).2.1 mt) (B : Blw X k X.A) (tk : Takes X (wxI r W)) : VO r X W (bi (compareOp .Eq)) (cOwnB isE tb mt) := fun pins s σ H g sl bx ds us vs QD Q I rv hh rs ⟨d, e, c, cm, n, eds, e1, e2, en, em, q⟩ cQ => by
  subst eds
  obtain ⟨v, u, rfl, r1, r2⟩ := reps2 rs
  obtain ⟨fs, e1⟩ := clsD_at e1
  obtain ⟨x, C, dx, fv, ds1, rfl, hC, hx, _, _⟩ := hh.objAt r1 e1
  obtain ⟨a, np, F, hs, hf, hc⟩ := T.go c C cm hC em
  cases rv with | cons q1 t => cases t with | cons q2 t => cases t with | nil =>
  rename_i u2
  cases q1
  obtain ⟨mA, J, _⟩ := ins_get I.hok hx
  obtain ⟨od, J, _⟩ := J.look
  obtain ⟨m, hF⟩ := I.fr
  obtain ⟨tv, rt, P, KX, hP, _⟩ := kit_I Ti hK I hh r2 q2 e2 ⟨_, _, en⟩
  cases rt
  have k1 := Ti.go _ _ _ _ _ en (.ty n) (.cls hC)
  have k2 : PySem.W.notFirst X.K C (.type n) = true := by
    unfold PySem.W.kitOne at k1
    rw [if_neg (by simp)] at k1
    unfold PySem.W.kitCls at k1
    simp only at k1
    split at k1
    · simp [PySem.W.notFirst, k1]
    · cases k1
  show wpAny _ _ (richCompare .Eq (.ref x) u2) _ _ _
  exact PySem.W.cmp_K (op := .Eq) (tb := .type n) B.room.units0 hF I.ok.mod.kin J (KX.ty _ _ I.kIn hP) k2 hs hf (wpAny_mono (run_IA F B tk I (.cons (relRef x) (.cons q2 .nil)) hh rs q cQ) (fun _ _ z => cmpBack_of z) fun _ _ z => z)
end
end Mi
namespace Mi
open PySem PySem.Spec L2

/-! ### operators -/
def binC (S : Stat) (cm : CM) (b : Bool) : Operator → CallM
  | .Add => cSel 0 (cOwn2 (mthOf S cm (PySem.dunder Operator.Add.info.2))) (cOp b (o2 dAdd))
  | .Sub => cSel 0 (cOwn2 (mthOf S cm (PySem.dunder Operator.Sub.info.2))) (cOp b (o2 dSub))
  | .Mult => cOp b (o2 (orO dMul dSMul))
  | .Mod => cOp b (o2 dMod)
  | .FloorDiv => cOp b (o2 dDiv)
  | .Pow => cOp b (o2 dPow)
  | .BitOr => cSel 0 (cOwn2 (mthOf S cm (PySem.dunder Operator.BitOr.info.2))) cStuck
  | .BitAnd => cSel 0 (cOwn2 (mthOf S cm (PySem.dunder Operator.BitAnd.info.2))) cStuck
  | .RShift => cSel 0 (cOwn2 (mthOf S cm (PySem.dunder Operator.RShift.info.2))) cStuck
  | _ => cStuck
def cmpC (S : Stat) (cm : CM) (b : Bool) : CmpOp → CallM
  | .Eq => cSel 0 (cOr (cOwn2 (mthOf S cm "__eq__")) (cOwnB (isEx S) S.isi (mthOf S cm "__eq__"))) (cOp b (o2 dEq))
  | .NotEq => cSel 0 (cOwn2N (mthOf S cm "__eq__")) (cOp b (o2 dNe))
  | .Lt => cSel 0 (cOwn2 (mthOf S cm (cmpInfo .Lt).2.1)) (cOp b (o2 dLt))
  | .LtE => cSel 0 (cOwn2 (mthOf S cm (cmpInfo .LtE).2.1)) (cOp b (o2 dLe))
  | .Gt => cOp b (o2 dGt)
  | .GtE => cOp b (o2 dGe)
  | .In => cSel 1 (cOwnIn false (mthOf S cm "__contains__")) (cOp b (o2 (dIn false)))
  | .NotIn => cSel 1 (cOwnIn true (mthOf S cm "__contains__")) (cOp b (o2 (dIn true)))
  | .Is => cOp b (o2 (orO (dIsN false) (dIsB false)))
  | .IsNot => cOp b (o2 (orO (dIsN true) (dIsB true)))
/-- a built-in function, a built-in type, by its name -/
def bltC (S : Stat) (cm : CM) (b : Bool) (x : Str) : Option (Bool × String × CallM) :=
  if x = "len" then some (false, "len", cSel 0 (cOwnLen (mthOf S cm "__len__")) (cOp b dLen))
  else if x = "isinstance" then some (false, "isinstance", cOp b (dIsi (isEx S) S.isi))
  else if x = "abs" then some (false, "abs", cOp b dAbs)
  else if x = "all" then some (false, "all", cOp b (dAll true))
  else if x = "any" then some (false, "any", cOp b (dAll false))
  else if x = "repr" then some (false, "repr", cOp b dReprA)
  else if x = "int" then some (true, "int", cOp b dInt)
  else if x = "str" then some (true, "str", cOp b dStr)
  else if x = "list" then some (true, "list", cOp b dList)
  else if x = "tuple" then some (true, "tuple", cOp b dTuple)
  else none
/-- a method of a built-in type, by its name -/
def bmC (m : Str) : Option (String × String × CallM) :=
  if m = "append" then some ("list", "list.append", cAppend)
  else if m = "extend" then some ("list", "list.extend", cExtend)
  else if m = "pop" then some ("list", "list.pop", cOr cPop cPopAt)
  else if m = "clear" then some ("list", "list.clear", cClear)
  else none

/-! ### the facts -/
structure StatOk (S : Stat) (n : Nat) (cm : CM) (P : Program) (w : World) (K : PySem.W.Frag) (mg : Str → Option Value) (base : Heap) (R : Rt) : Prop where
  none : ∀ x v, bootBuiltins x = some v → dunN.contains x = false → S.glb.lookup x = none → mg x = none
  gfn : ∀ x j, S.glb.lookup x = some (.fn j) → ∃ a, R.fns j = some a ∧ mg x = some (.ref a)
  gcls : ∀ x c, S.glb.lookup x = some (.cls c) → ∃ a, R.cls c = some a ∧ mg x = some (.ref a)
  gval : ∀ x d, S.glb.lookup x = some (.val d) → ∃ v u, mg x = some u ∧ RelV v u ∧ ∀ g, RepG R g v d
  fns : ∀ j c, cm j = some c → ∃ a np, R.fns j = some a ∧ FnRt P w K mg base R (2 * n + 2) c a np
  mks : ∀ c m, mkOf S cm c = some m → ∃ C f np, R.cls c = some C ∧ FnRt P w K mg base R (2 * n + 2) m f np ∧ Mk K C f
  mth : ∀ m, MethRt P w K mg base R (2 * n + 2) m (mthOf S cm m)
  own : ∀ m, OwnRt P w K mg base R (2 * n + 2) m (mthOf S cm m)
  ne : OwnNe K R fun c => (mthOf S cm "__eq__" c).isSome
  isi : IsiRt R K (isEx S) S.isi
  att : ClsRt R K (attrsOf S)
  exs : ∀ c np fl, exOf S c = some (np, fl) → ExcRt P w K mg base R (2 * n + 2) c np fl
  exm : ∀ c c' C C' b, c ∈ S.hcl → R.cls c = some C → R.cls c' = some C' → S.isi (.cls c') (.cls c) = some b → PySem.W.exmOne K (.ref C') (.ref C) = some b
structure Okx (S : Stat) (n : Nat) (cm : CM) (r : Rn) (X : Cx) (W : WXQ) (N : List Str) (sc : Scope) (blk : Bool) : Prop where
  st : StatOk S n cm X.prog X.w X.K X.mg X.base r.R
  K : X.K = r.R.K
  hN : X.N = N
  hsc : X.env.scope = sc
  kind : sc.kind = .function
  calm : X.calm = true
  fn : blk = false → ∀ x, X.fn x = true
  gd : X.A.guards = some []
  room : Room (2 * n + 3) X.A
  tk : Takes X (wxI r W)
  nd : N.Nodup
  stk : blk = false → X.stack = X.env :: X.outer
  frm : blk = false → X.env.frame = some X.env.locals
section
variable {S : Stat} {n : Nat} {cm : CM} {r : Rn} {X : Cx} {W : WXQ} {N : List Str} {sc : Scope} {blk : Bool}
theorem Okx.u1 (o : Okx S n cm r X W N sc blk) : X.A.units + 1 < cLine := by have := o.room.un; omega
theorem Okx.u65 (o : Okx S n cm r X W N sc blk) : X.A.units + 65 < cLine := by have := o.room.un; omega
theorem Okx.u64 (o : Okx S n cm r X W N sc blk) : X.A.units + 64 < cLine := by have := o.room.un; omega
theorem Okx.B (o : Okx S n cm r X W N sc blk) : Blw X (2 * n + 2) X.A := .here (o.room.mono (by omega)) o.gd
theorem Okx.B1 (o : Okx S n cm r X W N sc blk) : Blw X (2 * n + 3) X.A := .here o.room o.gd
theorem Okx.gl (o : Okx S n cm r X W N sc blk) {x : Str} (h : glB sc x = true) : Gl X x := by
  show X.env.scope.names.lookup x = _
  rw [o.hsc]; exact of_decide_eq_true h
theorem Okx.loc (o : Okx S n cm r X W N sc blk) {x : Str} (h : locB sc blk x = true) : Loc X.env.scope x ∧ (X.fn x = true ∨ X.env.scope.names.lookup x = some .local) := by
  rw [o.hsc]
  unfold locB at h
  split at h
  · rename_i e; exact ⟨.inl e, .inr e⟩
  · rename_i e
    cases blk with
    | false => exact ⟨.inr e, .inl (o.fn rfl x)⟩
    | true => cases h
  · cases h
theorem binC_ok (o : Okx S n cm r X W N sc blk) (b : Bool) (op : Operator) : VO r X W (bi (binaryOp op)) (binC S cm b op) := by
  cases op with
  | Add => exact VO.sel (vo_own2 (o.st.own _) o.B o.tk) (vo_opR (opI_add o.K))
  | Sub => exact VO.sel (vo_own2 (o.st.own _) o.B o.tk) (vo_opR opI_sub)
  | Mult => exact vo_opR (opI_or opI_mul opI_smul)
  | Mod => exact vo_opR opI_mod
  | FloorDiv => exact vo_opR opI_div
  | Pow => exact vo_opR opI_pow
  | BitOr => exact VO.sel (vo_own2 (o.st.own _) o.B o.tk) vo_stuck
  | BitAnd => exact VO.sel (vo_own2 (o.st.own _) o.B o.tk) vo_stuck
  | RShift => exact VO.sel (vo_own2 (o.st.own _) o.B o.tk) vo_stuck
  | _ => exact vo_stuck
theorem cmpC_ok (o : Okx S n cm r X W N sc blk) (b : Bool) (op : CmpOp) : VO r X W (bi (compareOp op)) (cmpC S cm b op) := by
  cases op with
  | Eq => exact VO.sel (VO.or (vo_ownCmp rfl (o.st.own _) o.B o.tk) (vo_ownEqB o.K o.st.isi (o.st.own _) o.B o.tk)) (vo_opR (opI_eq o.K o.u64))
  | NotEq => exact VO.sel (vo_ownNe (o.st.own _) o.st.ne o.B1 o.tk) (vo_opR (opI_ne o.K o.u64))
  | Lt => exact VO.sel (vo_ownCmp rfl (o.st.own _) o.B o.tk) (vo_opR opI_lt)
  | LtE => exact VO.sel (vo_ownCmp rfl (o.st.own _) o.B o.tk) (vo_opR opI_le)
  | Gt => exact vo_opR opI_gt
  | GtE => exact vo_opR opI_ge
  | In => exact VO.sel (vo_ownIn (o.st.own _) o.B o.tk) (vo_opR (opI_in o.K o.u65))
  | NotIn => exact VO.sel (vo_ownNotIn (o.st.own _) o.B o.tk) (vo_opR (opI_notin o.K o.u65))
  | Is => exact vo_opR (opI_or opI_is opI_isB)
  | IsNot => exact vo_opR (opI_or opI_isnot opI_isnotB)
theorem bltC_ok (o : Okx S n cm r X W N sc blk) {b : Bool} {x : Str} {ty : Bool} {id : String} {c : CallM} (e : bltC S cm b x = some (ty, id, c)) :
    if ty = true then bootBuiltins x = some (.type id) ∧ VO r X W (cl (.type id)) c else bootBuiltins x = some (.builtin id) ∧ VO r X W (cl (.builtin id)) c := by
  unfold bltC at e
  split at e
  · rename_i h; cases e; subst h; rw [if_neg Bool.false_ne_true]; exact ⟨PySem.boot_len, VO.sel (vo_ownLen (o.st.own _) o.B1 o.tk) (vo_len o.K)⟩
  split at e
  · rename_i h; cases e; subst h; rw [if_neg Bool.false_ne_true]; exact ⟨PyProof.Rows.boot_isinstance, vo_isi o.st.isi o.K⟩
  split at e
  · rename_i h; cases e; subst h; rw [if_neg Bool.false_ne_true]; exact ⟨PyProof.Rows.boot_abs, vo_abs⟩
  split at e
  · rename_i h; cases e; subst h; rw [if_neg Bool.false_ne_true]; exact ⟨PyProof.Rows.boot_all, vo_all o.calm⟩
  split at e
  · rename_i h; cases e; subst h; rw [if_neg Bool.false_ne_true]; exact ⟨PyProof.Rows.boot_any, vo_any o.calm⟩
  split at e
  · rename_i h; cases e; subst h; rw [if_neg Bool.false_ne_true]; exact ⟨PyProof.Rows.boot_repr, vo_reprA o.K (by have := o.room.un; omega) (fun {k} => vo_repr o.K (by have := o.room.un; omega) o.gd) o.gd⟩
  split at e
  · rename_i h; cases e; subst h; rw [if_pos rfl]; exact ⟨PyProof.Rows.boot_int, vo_int⟩
  split at e
  · rename_i h; cases e; subst h; rw [if_pos rfl]; exact ⟨PyProof.Rows.boot_str, vo_str⟩
  split at e
  · rename_i h; cases e; subst h; rw [if_pos rfl]; exact ⟨PyProof.Rows.boot_list, vo_list o.K o.calm⟩
  split at e
  · rename_i h; cases e; subst h; rw [if_pos rfl]; exact ⟨PyProof.Rows.boot_tuple, vo_tuple o.K⟩
  cases e
theorem bmC_ok {m : Str} {T id : String} {c : CallM} (e : bmC m = some (T, id, c)) : MOn T m id ∧ VO r X W (cl (.builtin id)) c := by
  unfold bmC at e
  split at e
  · rename_i h; cases e; subst h; exact ⟨on_append, vo_append⟩
  split at e
  · rename_i h; cases e; subst h; exact ⟨on_extend, vo_extend⟩
  split at e
  · rename_i h; cases e; subst h; exact ⟨on_pop, vo_pop⟩
  split at e
  · rename_i h; cases e; subst h; exact ⟨on_clear, vo_clear⟩
  cases e
end
end Mi
namespace Mi
open PySem PySem.Spec L2

/-! ### what is seen of the syntax -/
def plainE : Expr → Bool
  | .ListComp .. => false
  | .SetComp .. => false
  | .DictComp .. => false
  | _ => true
theorem plain_swaps {e : Expr} {tg : Option Expr} {l : Nat} {env : Env} (h : plainE e = true) : swapsWith e tg l env = pure false := by
  cases e <;> first | rfl | cases h
def noSet : Expr → Bool
  | .Set .. => false
  | _ => true
theorem noSet_fold {e : Expr} {env : Env} (h : noSet e = true) : ∀ x, foldedSetIterable e env x = pure x := by
  intro x
  cases e <;> first | rfl | cases h
theorem noSet_marks {e : Expr} {op : CmpOp} (h : noSet e = true) : behindInMarks op e = false := by
  cases e <;> first | rfl | cases h
def plainIx : Expr → Bool
  | .Slice .. => false
  | _ => true
theorem plainIx_of {e : Expr} (h : plainIx e = true) : PlainIx e := by
  intro o i
  cases e <;> first | rfl | cases h
def plainT : Expr → Bool
  | .UnaryOp .Not _ _ => false
  | .BoolOp .. => false
  | .IfExp .. => false
  | .Compare .. => false
  | _ => true
theorem plainT_of {e : Expr} {env : Env} (h : plainT e = true) : ∀ whole, isTrue e env whole = (do let v ← whole; standAt e.pos; holding [v] (truthy v)) := by
  intro w
  cases e with
  | UnaryOp op _ _ => cases op <;> first | rfl | cases h
  | _ => first | rfl | cases h
theorem assignEach_of : ∀ {es : List Expr} {env : Env}, noStar es = true → assignEach es env = es.map fun e => (false, assign e env)
  | [], _, _ => rfl
  | e :: es, env, h => by
    have key : noStar es = true ∧ assignEach (e :: es) env = (false, assign e env) :: assignEach es env := by
      cases e <;> first | exact ⟨h, rfl⟩ | cases h
    rw [key.2, assignEach_of key.1]; rfl

/-! ### arguments -/
def dA (d : Dn) (N : List Str) (sc : Scope) (blk : Bool) : List Expr → WA
  | [] => wNil
  | e :: es => wCons (d.E N sc blk e) (dA d N sc blk es)
def dGs (f : Expr → WG) : List Expr → WGs
  | [] => wgNil
  | e :: es => wgCons (f e) (dGs f es)
def dSs (d : Dn) (N : List Str) (sc : Scope) (blk : Bool) : List Stmt → WS
  | [] => wsSkip
  | st :: r => wsSeq (d.S N sc blk st) (dSs d N sc blk r)
def wgStuck : WG := fun _ _ _ _ _ => False
def wiStuck : WIt := fun _ _ _ _ => False
def wtStuck : WT := fun _ _ _ _ => False

/-! ### comprehensions' names -/
/-- a name that the comprehension's block stores -/
def ownK (sc : Scope) (x : Str) : Bool := decide (sc.names.lookup x = some .local) || decide (sc.names.lookup x = some .cell)
def ctNames (N : List Str) (sc : Scope) : List Expr → Option (List Nat)
  | [] => some []
  | .Name x _ :: r => if ownK sc x = true then (ixOf N x).bind fun i => (ctNames N sc r).map (i :: ·) else none
  | _ => none
def ctOf (N : List Str) (sc : Scope) : Expr → Option CT
  | .Name x _ => if ownK sc x = true then (ixOf N x).map CT.one else none
  | .Tuple es _ _ => (ctNames N sc es).map CT.tup
  | _ => none
def ownOf (N : List Str) (scope : Scope) : List (Str × Nat) := scope.names.filterMap fun y => match y.2 with
  | .local => (ixOf N y.1).map fun i => (y.1, i)
  | .cell => (ixOf N y.1).map fun i => (y.1, i)
  | _ => none
section
variable {X : Cx} {N : List Str} {sc : Scope}
theorem ctNames_star : ∀ {es : List Expr} {is : List Nat}, ctNames N sc es = some is → noStar es = true ∧ es.length = is.length
  | [], is, e => by cases e; exact ⟨rfl, rfl⟩
  | e1 :: r, is, e => by
    cases e1 with
    | Name x p =>
      simp only [ctNames] at e
      split at e
      · simp only [Option.bind_eq_some_iff, Option.map_eq_some_iff] at e
        obtain ⟨i, _, js, e2, rfl⟩ := e
        obtain ⟨h1, h2⟩ := ctNames_star e2
        exact ⟨h1, by simp [h2]⟩
      · cases e
    | _ => cases e
/-- such names are stored there -/
def OwnSt (X : Cx) (sc : Scope) : Prop := ∀ x, ownK sc x = true → Loc X.env.scope x ∧ (X.fn x = true ∨ X.env.scope.names.lookup x = some .local)
theorem relS_lookup {scope sc : Scope} {x : Str} {k : NameKind} (hk : k ≠ .free) (h : scope.names.lookup x = some k) : (relS scope sc).names.lookup x = some k := by
  unfold relS
  have key : ∀ l : List (Str × NameKind), l.lookup x = some k → (l.map fun (n, k) => if (k == .free && sc.kind == .function && sc.names.lookup n == some .cell) then (n, .cell) else (n, k)).lookup x = some k := by
    intro l
    induction l with
    | nil => intro h; cases h
    | cons p l ih =>
      intro h
      obtain ⟨y, z⟩ := p
      rw [List.lookup_cons] at h
      rw [List.map_cons, List.lookup_cons]
      have e1 : (if (z == .free && sc.kind == .function && sc.names.lookup y == some .cell) = true then ((y, NameKind.cell) : Str × NameKind) else (y, z)).1 = y := by split <;> rfl
      cases e : x == y with
      | true =>
        rw [e] at h
        cases h
        have e2 : (k == NameKind.free) = false := by cases k <;> first | rfl | exact absurd rfl hk
        simp only [e2, Bool.false_and, Bool.false_eq_true, if_false, e]
      | false =>
        rw [e] at h
        rw [e1, e]
        exact ih h
  exact key _ h
theorem ownSt_of {X : Cx} {scope sc : Scope} (hs : X.env.scope = relS scope sc) (hf : X.fn = fun x => scope.names.lookup x == some .cell) : OwnSt X scope := fun x h => by
  rcases Bool.or_eq_true_iff.mp h with h | h
  · have := relS_lookup (sc := sc) (by simp) (of_decide_eq_true h)
    rw [hs]
    exact ⟨.inl this, .inr this⟩
  · have h := of_decide_eq_true h
    have := relS_lookup (sc := sc) (by simp) h
    rw [hs, hf]
    exact ⟨.inr this, .inl (by simp [h])⟩
theorem ctNames_pg (hN : X.N = N) (hs : OwnSt X sc) (nd : N.Nodup) : ∀ {es : List Expr} {is : List Nat}, ctNames N sc es = some is → PGs X es (gNames is)
  | [], is, e => by cases e; exact pgs_nil
  | e1 :: r, is, e => by
    cases e1 with
    | Name x p =>
      simp only [ctNames] at e
      split at e
      · rename_i hl
        simp only [Option.bind_eq_some_iff, Option.map_eq_some_iff] at e
        obtain ⟨i, ei, js, e2, rfl⟩ := e
        have hi : X.N[i]? = some x := by rw [hN]; exact ixOf_get ei
        exact pgs_cons (pg_name (by rw [hN]; exact nd) hi (hs x hl).1 (hs x hl).2) (ctNames_pg hN hs nd e2) rfl
      · cases e
    | _ => cases e
theorem ct_pg {tg : Expr} {ct : CT} (hN : X.N = N) (hs : OwnSt X sc) (nd : N.Nodup) (hc : X.calm = true) (e : ctOf N sc tg = some ct) : PG X tg (ctG X.K ct) := by
  cases tg with
  | Name x p =>
    simp only [ctOf] at e
    split at e
    · rename_i hl
      simp only [Option.map_eq_some_iff] at e
      obtain ⟨i, ei, rfl⟩ := e
      have hi : X.N[i]? = some x := by rw [hN]; exact ixOf_get ei
      exact pg_name (by rw [hN]; exact nd) hi (hs x hl).1 (hs x hl).2
    · cases e
  | Tuple es k p =>
    simp only [ctOf, Option.map_eq_some_iff] at e
    obtain ⟨is, ei, rfl⟩ := e
    obtain ⟨h1, h2⟩ := ctNames_star ei
    refine pg_tup hc (ctNames_pg hN hs nd ei) (by rw [assignEach_of h1]; simpa using h2) ?_
    rw [assignEach_of h1]
    simp [List.findIdx?_map, List.findIdx?_eq_none_iff]
  | _ => cases e
end

/-! ### and, or -/
def dAndT (f : Expr → WT) : List Expr → WT
  | [] => wtStuck
  | [a] => f a
  | a :: b :: r => wtAnd (f a) (dAndT f (b :: r))
def dOrT (f : Expr → WT) : List Expr → WT
  | [] => wtStuck
  | [a] => f a
  | a :: b :: r => wtOr (f a) (dOrT f (b :: r))
def dAndE (f : Expr → WE) : List Expr → WE
  | [] => wStuck
  | [a] => f a
  | a :: b :: r => wAnd (f a) (dAndE f (b :: r))
def dOrE (f : Expr → WE) : List Expr → WE
  | [] => wStuck
  | [a] => f a
  | a :: b :: r => wOr (f a) (dOrE f (b :: r))
/-! ### the step -/
section
variable (S : Stat) (cm : CM) (d : Dn) (N : List Str) (sc : Scope) (blk : Bool)
def dName (x : Str) (p : Pos) : WE :=
  if nameOk x = true then
    if visB sc x = true then match ixOf N x with
      | some i => if posIn S.frz p = true then wSlotF i else wSlot i
      | none => wStuck
    else if glB sc x = true then match S.glb.lookup x with
      | some (.val d) => wC d
      | some (.fn j) => wC (.fn j)
      | some (.cls c) => wC (.cls c)
      | none => match bltTys.lookup x with
        | some n => wC (.ty n)
        | none => wStuck
    else wStuck
  else wStuck
def dConst : Const → WE
  | .none => wC .non
  | .bool b => wC (.bl b)
  | .int i => wC (.int i)
  | .str x => wC (.str x)
  | _ => wStuck
def dAs (es : List Expr) : WA := if noStar es = true then dA d N sc blk es else wStuckA
/-- f(e, ..), f a global name -/
def dCall (f : Str) (es : List Expr) (p : Pos) : WE :=
  if (nameOk f && glB sc f && noStar es) = true then match S.glb.lookup f with
    | some (.fn j) => match cm j with
      | some c => wCall c (dA d N sc blk es)
      | none => wStuck
    | some (.cls c) => match exOf S c with
      | some (np, fl) => wMkE c np fl (dA d N sc blk es)
      | none => match mkOf S cm c with
        | some m => wMake (posIn S.bxp p) c m (dA d N sc blk es)
        | none => wStuck
    | some (.val _) => wStuck
    | none => match es with
      | [] => wStuck
      | e :: es => match bltC S cm (posIn S.bxp p) f with
        | some (_, _, c) => wCall c (dA d N sc blk (e :: es))
        | none => wStuck
  else wStuck
/-- o.m(e, ..) -/
def dMeth (o : Expr) (m : Str) (es : List Expr) (ap p : Pos) : WE :=
  if (okBase o && noStar es && decide (es.length < 30) && (ap.endLine == p.line)) = true then match bmC m with
    | some (T, _, c) => wBm T c (d.E N sc blk o) (dA d N sc blk es)
    | none => wMeth (mthOf S cm m) m (d.E N sc blk o) (dA d N sc blk es)
  else wStuck
def dI (it : Expr) : WIt := match it with
  | .Call (.Name f _) [a] [] _ => if (decide (f = "range") && glB sc f && (S.glb.lookup f).isNone && noStar [a]) = true then wiRng1 (dA d N sc blk [a]) else wiAny (d.E N sc blk it)
  | .Call (.Name f _) [a, b] [] _ => if (decide (f = "range") && glB sc f && (S.glb.lookup f).isNone && noStar [a, b]) = true then wiRng2 (dA d N sc blk [a, b]) else wiAny (d.E N sc blk it)
  | it => wiAny (d.E N sc blk it)
def dLc (elt tg it : Expr) (ifs : List Expr) (scope : Scope) (p : Pos) : WE :=
  if (blkC N sc scope (ownOf N scope) && noSet it) = true then match ctOf N scope tg with
    | some ct => if (ctIs ct).all (fun i => decide (i ∈ (ownOf N scope).map (·.2))) = true then
        wLc (posIn S.bxp p) ct ((ownOf N scope).map (·.2)) (dI S d N sc blk it) (match ifs with | [] => wtYes | [c] => d.T N (relS scope sc) true c | _ => wtStuck) (d.E N (relS scope sc) true elt)
      else wStuck
    | none => wStuck
  else wStuck
/-- {k: v for ..} -/
def dDc (kx vx tg it : Expr) (ifs : List Expr) (scope : Scope) (p : Pos) : WE :=
  if (blkC N sc scope (ownOf N scope) && noSet it) = true then match ctOf N scope tg with
    | some ct => if (ctIs ct).all (fun i => decide (i ∈ (ownOf N scope).map (·.2))) = true then
        wDc (posIn S.bxp p) ct ((ownOf N scope).map (·.2)) (dI S d N sc blk it) (match ifs with | [] => wtYes | [c] => d.T N (relS scope sc) true c | _ => wtStuck) (d.E N (relS scope sc) true kx) (d.E N (relS scope sc) true vx)
      else wStuck
    | none => wStuck
  else wStuck
def cmpO : CmpOp → Option O2
  | .Lt => some dLt
  | .LtE => some dLe
  | .Gt => some dGt
  | .GtE => some dGe
  | .Eq => some dEq
  | .NotEq => some dNe
  | _ => none
/-- a < b < c -/
def dChain (a : Expr) (o1 o2 : CmpOp) (b c : Expr) : WE := if lastMarks [o1, o2] [b, c] = false then match cmpO o1, cmpO o2 with
    | some p1, some p2 => wChain p1 p2 (d.E N sc blk a) (d.E N sc blk b) (d.E N sc blk c)
    | _, _ => wStuck
  else wStuck
def dPart : Option Expr → WO
  | none => woNone
  | some e => woSome (d.E N sc blk e)
def stepE (e : Expr) : WE := match e with
  | .Name x p => dName S N sc x p
  | .Constant c _ _ => dConst c
  | .BinOp a op b p => wOp2 (binC S cm (posIn S.bxp p) op) (d.E N sc blk a) (d.E N sc blk b)
  | .Compare a [op] [b] p => if noSet b = true then wOp2 (cmpC S cm (posIn S.bxp p) op) (d.E N sc blk a) (d.E N sc blk b) else wStuck
  | .UnaryOp op a _ => match op with
    | .Not => wNot (d.E N sc blk a)
    | .USub => wNeg (d.E N sc blk a)
    | .Invert => wOp1 (cOwn1 (mthOf S cm "__invert__")) (d.E N sc blk a)
    | .UAdd => wStuck
  | .BoolOp .And es p => dAndE (d.E N sc blk) es
  | .BoolOp .Or es p => dOrE (d.E N sc blk) es
  | .IfExp t a b _ => wIf (d.T N sc blk t) (d.E N sc blk a) (d.E N sc blk b)
  | .List es p => wLst (posIn S.bxp p) (dAs d N sc blk es)
  | .Tuple es _ _ => wTup (dAs d N sc blk es)
  | .Dict [] [] p => wDic0 (posIn S.dT p) (posIn S.bxp p)
  | .Dict ks vs p => if (decide (ks.length = vs.length) && decide (ks.length ≤ 15) && decide (ks ≠ []) && ks.all (·.isSome)) = true then
      wDisp (posIn S.bxp p) ((ks.zip vs).map fun kv => (match kv.1 with | some k => d.E N sc blk k | none => wStuck, d.E N sc blk kv.2)) else wStuck
  | .Compare a [o1, o2] [b, c] _ => dChain d N sc blk a o1 o2 b c
  | .Subscript a (.Slice lo hi none _) p => wSl (posIn S.bxp p) (d.E N sc blk a) (dPart d N sc blk lo) (dPart d N sc blk hi)
  | .Subscript a (.Slice none none (some (.UnaryOp .USub (.Constant (.int 1) _ _) _)) _) p => wRev (posIn S.bxp p) (d.E N sc blk a)
  | .DictComp kx vx [⟨tg, it, ifs, 0⟩] scope p => dDc S d N sc blk kx vx tg it ifs scope p
  | .Subscript a b _ => if plainIx b = true then wBin false dIx (d.E N sc blk a) (d.E N sc blk b) else wStuck
  | .Attribute o f _ => if okBase o = true then wAttrX (attrsOf S) (exOf S) f (d.E N sc blk o) else wStuck
  | .Call (.Name f _) es [] p => dCall S cm d N sc blk f es p
  | .Call (.Attribute o m ap) es [] p => dMeth S cm d N sc blk o m es ap p
  | .ListComp elt [⟨tg, it, ifs, 0⟩] scope p => dLc S d N sc blk elt tg it ifs scope p
  | _ => wStuck
def stepT (e : Expr) : WT := match e with
  | .Compare a [op] [b] p => if noSet b = true then wtB (wOp2 (cmpC S cm (posIn S.bxp p) op) (d.E N sc blk a) (d.E N sc blk b)) else wtStuck
  | .Compare a [o1, o2] [b, c] _ => wtB (dChain d N sc blk a o1 o2 b c)
  | .UnaryOp .Not a _ => wtNot (d.T N sc blk a)
  | .BoolOp .And es p => dAndT (d.T N sc blk) es
  | .BoolOp .Or es p => dOrT (d.T N sc blk) es
  | e => if plainT e = true then wTru (d.E N sc blk e) else wtStuck
end

/-! ### soundness of expressions -/
structure SndE (S : Stat) (n : Nat) (cm : CM) (d : Dn) : Prop where
  E : ∀ (r : Rn) (X : Cx) (W : WXQ) (N : List Str) (sc : Scope) (blk : Bool) (e : Expr), Okx S n cm r X W N sc blk → PEm r X W e (d.E N sc blk e)
  T : ∀ (r : Rn) (X : Cx) (W : WXQ) (N : List Str) (sc : Scope) (blk : Bool) (e : Expr), Okx S n cm r X W N sc blk → PTm r X W e (d.T N sc blk e)
section
variable {S : Stat} {n : Nat} {cm : CM} {d : Dn} {r : Rn} {X : Cx} {W : WXQ} {N : List Str} {sc : Scope} {blk : Bool}
theorem pim_stuck {tg e : Expr} : PIm r X W tg e wiStuck := ⟨fun _ _ _ _ _ _ h => by
  obtain ⟨_, _, _, _, _, z, _⟩ := h
  exact z.elim⟩
theorem ptm_stuck {e : Expr} : PTm r X W e wtStuck := ⟨fun _ _ _ _ _ _ h => by
  obtain ⟨_, _, _, _, _, z, _⟩ := h
  exact z.elim⟩
theorem pgm_stuck {e : Expr} : PGm r X W e wgStuck := ⟨fun _ _ _ _ _ _ _ _ _ h => by
  obtain ⟨_, _, _, _, _, _, _, z, _⟩ := h
  exact z.elim⟩
theorem dA_ok (s : SndE S n cm d) (o : Okx S n cm r X W N sc blk) : ∀ {es : List Expr}, noStar es = true → PAm r X W es (dA d N sc blk es)
  | [], _ => pam_nil
  | e :: es, h => pam_cons (s.E r X W N sc blk e o) (dA_ok s o (noStar_tail h)) (starCons h)
theorem dAs_ok (s : SndE S n cm d) (o : Okx S n cm r X W N sc blk) (es : List Expr) : PAm r X W es (dAs d N sc blk es) := by
  unfold dAs
  split
  · exact dA_ok s o (by assumption)
  · exact pam_stuck
theorem dName_ok (o : Okx S n cm r X W N sc blk) (x : Str) (p : Pos) : PEm r X W (.Name x p) (dName S N sc x p) := by
  unfold dName
  split
  · rename_i hn
    obtain ⟨h1, h2, h3⟩ := nameOk_of hn
    split
    · rename_i hv
      have hV : Vis X.env.scope x := by rw [o.hsc]; exact visB_of hv
      split
      · rename_i i ei
        have hi : X.N[i]? = some x := by rw [o.hN]; exact ixOf_get ei
        split
        · exact pem_slotF hi hV h1 h2
        · exact pem_slot hi hV h1 h2
      · exact pem_stuck
    · split
      · rename_i hg
        have hG := o.gl hg
        split
        · rename_i dd e1
          obtain ⟨v, u, k1, k2, k3⟩ := o.st.gval _ _ e1
          exact pem_const (pe_glob hG k1 k2 h1) k3
        · rename_i j e1
          obtain ⟨a, k1, k2⟩ := o.st.gfn _ _ e1
          exact pem_const (pe_glob (v := .ref a) hG k2 rfl h1) fun g => .fn k1
        · rename_i c e1
          obtain ⟨a, k1, k2⟩ := o.st.gcls _ _ e1
          exact pem_const (pe_glob (v := .ref a) hG k2 rfl h1) fun g => .cls k1
        · rename_i e1
          split
          · rename_i ty e2
            have hm : (x, ty) ∈ bltTys := by
              have key : ∀ {l : List (Str × String)}, l.lookup x = some ty → (x, ty) ∈ l := by
                intro l
                induction l with
                | nil => intro h; cases h
                | cons p l ih =>
                  intro h
                  obtain ⟨y, z⟩ := p
                  simp only [List.lookup] at h
                  split at h
                  · rename_i q; cases h; rw [beq_iff_eq.mp q]; exact List.mem_cons_self
                  · exact List.mem_cons_of_mem _ (ih h)
              exact key e2
            exact pem_const (pe_bltn (v := .ty ty) hG (o.st.none _ _ (bltTys_ok _ hm) (nameOk_dun hn) e1) (bltTys_ok _ hm) rfl h3 h1) fun g => .ty ty
          · exact pem_stuck
      · exact pem_stuck
  · exact pem_stuck
theorem dConst_ok (c : Const) (k : Nat) (p : Pos) : PEm r X W (.Constant c k p) (dConst c) := by
  cases c with
  | none => exact pem_const pe_non fun g => .non
  | bool b => exact pem_const pe_bl fun g => .bl b
  | int i => exact pem_const pe_int fun g => .int i
  | str x => exact pem_const pe_str fun g => .str x
  | _ => exact pem_stuck
theorem dCall_ok (s : SndE S n cm d) (o : Okx S n cm r X W N sc blk) (f : Str) (es : List Expr) (p pf : Pos) : PEm r X W (.Call (.Name f pf) es [] p) (dCall S cm d N sc blk f es p) := by
  unfold dCall
  split
  · rename_i h
    simp only [Bool.and_eq_true] at h
    obtain ⟨⟨hn, hg⟩, hs⟩ := h
    obtain ⟨h1, h2, h3⟩ := nameOk_of hn
    have hG := o.gl hg
    split
    · rename_i j e1
      obtain ⟨a, k1, k2⟩ := o.st.gfn _ _ e1
      split
      · rename_i c ec
        obtain ⟨a', np, k3, F⟩ := o.st.fns _ _ ec
        rw [k1] at k3; cases k3
        cases es with
        | nil =>
          have F0 : FnRt X.prog X.w X.K X.mg X.base r.R (2 * n + 2) c a np := F
          refine ⟨fun pins s' σ H Q I h => ?_⟩
          obtain ⟨g, sl, bx, QD, hh, q, cQ⟩ := h
          have en : np = 0 := by
            have := F.len [] bx QD (fun x b => W x sl b) q
            simpa using this.symm
          subst en
          exact (pem_call0 F (o.room.mono (by omega)) o.gd o.tk hG k2 h1).run pins s' σ H Q I ⟨g, sl, bx, QD, hh, q, cQ⟩
        | cons e es => exact pem_call F (o.room.mono (by omega)) o.gd o.tk hG k2 (dA_ok s o hs) h1 (starCons hs) (plainBack (noStar_tail hs))
      · exact pem_stuck
    · rename_i c e1
      obtain ⟨a, k1, k2⟩ := o.st.gcls _ _ e1
      split
      · rename_i np fl ex
        have TE := o.st.exs _ _ _ ex
        have hr : Room (2 * n + 2 + 1) X.A := o.room
        cases es with
        | nil => exact pem_mkE0 o.K TE k1 hr o.gd o.tk hG k2 h1
        | cons e es => exact pem_mkE o.K TE k1 hr o.gd o.tk hG k2 hs (dA_ok s o hs) h1
      split
      · rename_i m em
        obtain ⟨C, fa, np, k3, F, M⟩ := o.st.mks _ _ em
        rw [k1] at k3; cases k3
        cases es with
        | nil => exact pem_make0 F M k1 o.room o.gd o.tk hG k2 h1
        | cons e es => exact pem_make F M k1 o.room o.gd o.tk hG k2 hs (dA_ok s o hs) h1
      · exact pem_stuck
    · exact pem_stuck
    · rename_i e1
      cases es with
      | nil => exact pem_stuck
      | cons e es =>
        dsimp only
        split
        · rename_i ty id c ec
          have k := bltC_ok o ec
          cases ty with
          | true => rw [if_pos rfl] at k; exact pem_bltT k.2 hG (o.st.none _ _ k.1 (nameOk_dun hn) e1) k.1 (dA_ok s o hs) h3 h1 hs
          | false => rw [if_neg Bool.false_ne_true] at k; exact pem_blt k.2 hG (o.st.none _ _ k.1 (nameOk_dun hn) e1) k.1 (dA_ok s o hs) h3 h1 hs
        · exact pem_stuck
  · exact pem_stuck
theorem dMeth_ok (s : SndE S n cm d) (o : Okx S n cm r X W N sc blk) (e : Expr) (m : Str) (es : List Expr) (ap p : Pos) : PEm r X W (.Call (.Attribute e m ap) es [] p) (dMeth S cm d N sc blk e m es ap p) := by
  unfold dMeth
  split
  · rename_i h
    simp only [Bool.and_eq_true, decide_eq_true_eq] at h
    obtain ⟨⟨⟨hb, hs⟩, hl⟩, line⟩ := h
    split
    · rename_i T id c ec
      obtain ⟨M, V⟩ := bmC_ok (r := r) (X := X) (W := W) ec
      cases es with
      | nil => exact pem_bm0 o.K M V hb line (s.E r X W N sc blk e o)
      | cons e1 es => exact pem_bm o.K M V hb hs hl line (s.E r X W N sc blk e o) (dA_ok s o hs)
    · cases es with
      | nil => exact pem_meth0 (o.st.mth m) (o.room.mono (by omega)) o.gd o.tk hb line (s.E r X W N sc blk e o)
      | cons e1 es => exact pem_meth (o.st.mth m) (o.room.mono (by omega)) o.gd o.tk hb hs hl line (s.E r X W N sc blk e o) (dA_ok s o hs)
  · exact pem_stuck
theorem dI_ok (s : SndE S n cm d) (o : Okx S n cm r X W N sc blk) (tg it : Expr) : PIm r X W tg it (dI S d N sc blk it) := by
  have any : PIm r X W tg it (wiAny (d.E N sc blk it)) := pim_any o.K (s.E r X W N sc blk it o)
  unfold dI
  split
  · split
    · rename_i h
      simp only [Bool.and_eq_true, decide_eq_true_eq, Option.isNone_iff_eq_none] at h
      obtain ⟨⟨⟨hf, hg⟩, hn⟩, hs⟩ := h
      subst hf
      exact pim_range1 (o.gl hg) (o.st.none _ _ PyProof.Rows.boot_range (by decide) hn) (dA_ok s o hs) (starEach_of hs)
    · exact any
  · split
    · rename_i h
      simp only [Bool.and_eq_true, decide_eq_true_eq, Option.isNone_iff_eq_none] at h
      obtain ⟨⟨⟨hf, hg⟩, hn⟩, hs⟩ := h
      subst hf
      exact pim_range2 (o.gl hg) (o.st.none _ _ PyProof.Rows.boot_range (by decide) hn) (dA_ok s o hs) (starEach_of hs) (starEach_of (noStar_tail hs))
    · exact any
  · exact any
/-- a comprehension's block -/
theorem Okx.inner (o : Okx S n cm r X W N sc blk) {scope : Scope} (hk : scope.kind = .function) (s : Shared) (H : Hp) (C : Addr) (cl : List (Str × Addr)) (fp : List Addr) : Okx S n cm r (X.blk s H scope (compEnvC scope cl C X.env) fp) WF N (relS scope sc) true where
  st := o.st
  K := o.K
  hN := o.hN
  hsc := by rw [← o.hsc]; rfl
  kind := hk
  calm := o.calm
  fn := fun h => by cases h
  gd := o.gd
  room := o.room
  tk := fun u s' h => by
    obtain ⟨a, B, sI, pins, σ, H, cls, d, e, I, nb, up, sky, na, os, ag, w⟩ := h
    obtain ⟨_, _, _, _, _, _, z⟩ := w
    exact z.elim
  nd := o.nd
  stk := fun h => by cases h
  frm := fun h => by cases h
/-- a comprehension's parts -/
theorem dLc_parts (s : SndE S n cm d) (o : Okx S n cm r X W N sc blk) {elt tg it : Expr} {ifs : List Expr} {scope : Scope} {p : Pos} : dLc S d N sc blk elt tg it ifs scope p = wStuck ∨
    ∃ (ct : CT) (tt : WT), dLc S d N sc blk elt tg it ifs scope p = wLc (posIn S.bxp p) ct ((ownOf N scope).map (·.2)) (dI S d N sc blk it) tt (d.E N (relS scope sc) true elt) ∧ BlkOk X.N X.env.scope scope (ownOf N scope) ∧ (∀ i ∈ ctIs ct, i ∈ (ownOf N scope).map (·.2)) ∧
      (∀ (s : Shared) (H : Hp) (C : Addr) (cl : List (Str × Addr)) (fp : List Addr), PG (X.blk s H scope (compEnvC scope cl C X.env) fp) tg (ctG X.K ct)) ∧ (∀ (s : Shared) (H : Hp) (C : Addr) (cl : List (Str × Addr)) (fp : List Addr), PTsm r (X.blk s H scope (compEnvC scope cl C X.env) fp) WF ifs tt) ∧
      (∀ (s : Shared) (H : Hp) (C : Addr) (cl : List (Str × Addr)) (fp : List Addr), PEm r (X.blk s H scope (compEnvC scope cl C X.env) fp) WF elt (d.E N (relS scope sc) true elt)) ∧ noSet it = true := by
  unfold dLc
  split
  · rename_i h
    simp only [Bool.and_eq_true] at h
    split
    · rename_i ct ec
      split
      · rename_i hv
        refine .inr ⟨ct, _, rfl, ?_, ?_, ?_, ?_, ?_, h.2⟩
        · rw [o.hN, o.hsc]; exact blkOk_by h.1
        · intro i hi
          have := List.all_eq_true.mp hv i hi
          exact of_decide_eq_true this
        · intro s1 H C cl fp
          have ob := o.inner (blkOk_by h.1).kind s1 H C cl fp
          exact ct_pg (X := X.blk s1 H scope (compEnvC scope cl C X.env) fp) ob.hN (ownSt_of ob.hsc rfl) ob.nd ob.calm ec
        · intro s1 H C cl fp
          have ob := o.inner (blkOk_by h.1).kind s1 H C cl fp
          split
          · exact ptsm_nil
          · exact ptsm_one (s.T _ _ _ _ _ _ _ ob)
          · exact ⟨fun _ _ _ _ _ _ h => by
              obtain ⟨_, _, _, _, _, z, _⟩ := h
              exact z.elim⟩
        · intro s1 H C cl fp
          exact s.E _ _ _ _ _ _ _ (o.inner (blkOk_by h.1).kind s1 H C cl fp)
      · exact .inl rfl
    · exact .inl rfl
  · exact .inl rfl
theorem dLc_ok (s : SndE S n cm d) (o : Okx S n cm r X W N sc blk) (elt tg it : Expr) (ifs : List Expr) (scope : Scope) (p : Pos) : PEm r X W (.ListComp elt [⟨tg, it, ifs, 0⟩] scope p) (dLc S d N sc blk elt tg it ifs scope p) := by
  rcases dLc_parts (elt := elt) (tg := tg) (it := it) (ifs := ifs) (scope := scope) (p := p) s o with e | ⟨ct, tt, e, h1, h2, h3, h4, h5, h6⟩
  · rw [e]; exact pem_stuck
  · rw [e]; exact pem_lc o.K o.calm (by rw [o.hN]; exact o.nd) (dI_ok s o tg it) h1 h2 h3 h4 h5 (noSet_fold h6)
theorem dAndE_ok (s : SndE S n cm d) (o : Okx S n cm r X W N sc blk) (p : Pos) : ∀ es : List Expr, PEm r X W (.BoolOp .And es p) (dAndE (d.E N sc blk) es)
  | [] => pem_stuck
  | [a] => pem_one (s.E r X W N sc blk a o)
  | a :: b :: l => pem_and o.K (s.E r X W N sc blk a o) (dAndE_ok s o p (b :: l))
theorem dOrE_ok (s : SndE S n cm d) (o : Okx S n cm r X W N sc blk) (p : Pos) : ∀ es : List Expr, PEm r X W (.BoolOp .Or es p) (dOrE (d.E N sc blk) es)
  | [] => pem_stuck
  | [a] => pem_one (s.E r X W N sc blk a o)
  | a :: b :: l => pem_or o.K (s.E r X W N sc blk a o) (dOrE_ok s o p (b :: l))
theorem pwm_stuck {e : Expr} : PWm r X W e wtStuck := ⟨fun _ _ _ _ _ _ _ h => by
  obtain ⟨_, _, _, _, _, z, _⟩ := h
  exact z.elim⟩
theorem dAndT_ok (s : SndE S n cm d) (o : Okx S n cm r X W N sc blk) (p : Pos) : ∀ es : List Expr, PWm r X W (.BoolOp .And es p) (dAndT (d.T N sc blk) es)
  | [] => pwm_stuck
  | [a] => pwm_and1 (s.T r X W N sc blk a o)
  | a :: b :: l => pwm_and (s.T r X W N sc blk a o) (dAndT_ok s o p (b :: l))
theorem dOrT_ok (s : SndE S n cm d) (o : Okx S n cm r X W N sc blk) (p : Pos) : ∀ es : List Expr, PWm r X W (.BoolOp .Or es p) (dOrT (d.T N sc blk) es)
  | [] => pwm_stuck
  | [a] => pwm_or1 (s.T r X W N sc blk a o)
  | a :: b :: l => pwm_or (s.T r X W N sc blk a o) (dOrT_ok s o p (b :: l))
theorem pps_ok (s : SndE S n cm d) (o : Okx S n cm r X W N sc blk) (p : Pos) : ∀ {ks : List (Option Expr)} {vs : List Expr}, ks.length = vs.length → ks.all (·.isSome) = true →
    PPs X p ks vs (toPairs ((ks.zip vs).map fun kv => (match kv.1 with | some k => d.E N sc blk k | none => wStuck, d.E N sc blk kv.2)) r W)
  | [], [], _, _ => pps_nil
  | some k :: ks, v :: vs, h, ha => pps_cons (s.E r X W N sc blk k o) (s.E r X W N sc blk v o) (pps_ok s o p (by simpa using h) (by simpa using ha))
  | none :: ks, v :: vs, h, ha => by simp at ha
  | [], _ :: _, h, _ => by cases h
  | _ :: _, [], h, _ => by cases h
theorem dDc_ok (s : SndE S n cm d) (o : Okx S n cm r X W N sc blk) (kx vx tg it : Expr) (ifs : List Expr) (scope : Scope) (p : Pos) : PEm r X W (.DictComp kx vx [⟨tg, it, ifs, 0⟩] scope p) (dDc S d N sc blk kx vx tg it ifs scope p) := by
  unfold dDc
  split
  · rename_i h
    simp only [Bool.and_eq_true] at h
    split
    · rename_i ct ec
      split
      · rename_i hv
        have ob := fun s1 H C cl fp => o.inner (blkOk_by h.1).kind s1 H C cl fp
        refine pem_dc o.K o.calm (by rw [o.hN]; exact o.nd) (dI_ok s o tg it) (by rw [o.hN, o.hsc]; exact blkOk_by h.1) (fun i hi => of_decide_eq_true (List.all_eq_true.mp hv i hi)) (fun s1 H C cl fp => ?_) (fun s1 H C cl fp => ?_) (fun s1 H C cl fp => s.E _ _ _ _ _ _ _ (ob s1 H C cl fp)) (fun s1 H C cl fp => s.E _ _ _ _ _ _ _ (ob s1 H C cl fp)) (noSet_fold h.2)
        · have ob := ob s1 H C cl fp
          exact ct_pg (X := X.blk s1 H scope (compEnvC scope cl C X.env) fp) ob.hN (ownSt_of ob.hsc rfl) ob.nd ob.calm ec
        · have ob := ob s1 H C cl fp
          split
          · exact ptsm_nil
          · exact ptsm_one (s.T _ _ _ _ _ _ _ ob)
          · exact ⟨fun _ _ _ _ _ _ h => by
              obtain ⟨_, _, _, _, _, z, _⟩ := h
              exact z.elim⟩
      · exact pem_stuck
    · exact pem_stuck
  · exact pem_stuck
theorem cmpO_ok (o : Okx S n cm r X W N sc blk) {op : CmpOp} {p : O2} (e : cmpO op = some p) : OpR X (compareOp op) (rI2 r false p) := by
  cases op <;> simp only [cmpO, Option.some.injEq, reduceCtorEq] at e <;> subst e
  · exact opI_eq o.K o.u64
  · exact opI_ne o.K o.u64
  · exact opI_lt
  · exact opI_le
  · exact opI_gt
  · exact opI_ge
theorem dChain_ok (s : SndE S n cm d) (o : Okx S n cm r X W N sc blk) (a b c : Expr) (o1 o2 : CmpOp) (p : Pos) : PEm r X W (.Compare a [o1, o2] [b, c] p) (dChain d N sc blk a o1 o2 b c) ∧ PTm r X W (.Compare a [o1, o2] [b, c] p) (wtB (dChain d N sc blk a o1 o2 b c)) := by
  unfold dChain
  split
  · rename_i h
    split
    · rename_i p1 p2 e1 e2
      exact ⟨pem_chain (cmpO_ok o e1) (cmpO_ok o e2) (s.E _ _ _ _ _ _ _ o) (s.E _ _ _ _ _ _ _ o) (s.E _ _ _ _ _ _ _ o) h, ptm_chain (cmpO_ok o e1) (cmpO_ok o e2) (s.E _ _ _ _ _ _ _ o) (s.E _ _ _ _ _ _ _ o) (s.E _ _ _ _ _ _ _ o) h⟩
    · exact ⟨pem_stuck, ptm_stuck⟩
  · exact ⟨pem_stuck, ptm_stuck⟩
theorem dPart_ok (s : SndE S n cm d) (o : Okx S n cm r X W N sc blk) : ∀ e : Option Expr, POm r X W e (dPart d N sc blk e)
  | none => pom_none
  | some e => pom_some (s.E _ _ _ _ _ _ _ o)
theorem stepE_ok (s : SndE S n cm d) (o : Okx S n cm r X W N sc blk) (e : Expr) : PEm r X W e (stepE S cm d N sc blk e) := by
  unfold stepE
  split
  · exact dName_ok o _ _
  · exact dConst_ok _ _ _
  · exact pem_op2 (binC_ok o _ _) (s.E _ _ _ _ _ _ _ o) (s.E _ _ _ _ _ _ _ o)
  · split
    · rename_i h; exact pem_cmp2 (cmpC_ok o _ _) (s.E _ _ _ _ _ _ _ o) (s.E _ _ _ _ _ _ _ o) (noSet_marks h)
    · exact pem_stuck
  · split
    · exact pem_not o.K (s.E _ _ _ _ _ _ _ o)
    · exact pem_neg (s.E _ _ _ _ _ _ _ o)
    · exact pem_op1 (vo_ownInv (o.st.own _) o.B o.tk) (s.E _ _ _ _ _ _ _ o)
    · exact pem_stuck
  · exact dAndE_ok s o _ _
  · exact dOrE_ok s o _ _
  · exact pem_if (s.T _ _ _ _ _ _ _ o) (s.E _ _ _ _ _ _ _ o) (s.E _ _ _ _ _ _ _ o)
  · exact pem_lst (dAs_ok s o _)
  · exact pem_tup (dAs_ok s o _)
  · exact pem_dic0
  · split
    · rename_i h
      simp only [Bool.and_eq_true, decide_eq_true_eq] at h
      obtain ⟨⟨⟨h1, h2⟩, h3⟩, h4⟩ := h
      exact pem_disp (pps_ok s o _ h1 h4) h4 h1 h3 h2
    · exact pem_stuck
  · exact (dChain_ok s o _ _ _ _ _ _).1
  · exact pem_sl o.K (s.E _ _ _ _ _ _ _ o) (dPart_ok s o _) (dPart_ok s o _)
  · exact pem_rev o.K (s.E _ _ _ _ _ _ _ o)
  · exact dDc_ok s o _ _ _ _ _ _ _
  · split
    · rename_i h; exact pem_ix o.K o.u1 (s.E _ _ _ _ _ _ _ o) (s.E _ _ _ _ _ _ _ o) (plainIx_of h)
    · exact pem_stuck
  · split
    · rename_i h; exact pem_attrX o.K o.st.att o.st.exs h (s.E _ _ _ _ _ _ _ o)
    · exact pem_stuck
  · exact dCall_ok s o _ _ _ _
  · exact dMeth_ok s o _ _ _ _ _
  · exact dLc_ok s o _ _ _ _ _ _
  · exact pem_stuck
theorem stepT_ok (s : SndE S n cm d) (o : Okx S n cm r X W N sc blk) (e : Expr) : PTm r X W e (stepT S cm d N sc blk e) := by
  unfold stepT
  split
  · split
    · rename_i h; exact ptm_cmp2 (cmpC_ok o _ _) (s.E _ _ _ _ _ _ _ o) (s.E _ _ _ _ _ _ _ o) (noSet_marks h)
    · exact ptm_stuck
  · exact (dChain_ok s o _ _ _ _ _ _).2
  · exact ptm_not (s.T _ _ _ _ _ _ _ o)
  · exact (dAndT_ok s o _ _).pt
  · exact (dOrT_ok s o _ _).pt
  · split
    · rename_i h; exact ptm_tru o.K (s.E _ _ _ _ _ _ _ o) (plainT_of h)
    · exact ptm_stuck
end
end Mi
namespace Mi
open PySem PySem.Spec L2
def isTupX : Expr → Bool
  | .Tuple .. => true
  | _ => false

/-! ### except suites: the language that they may speak -/
section
variable (S : Stat) (N : List Str) (sc : Scope) (i : Option Nat) (m : Nat) (x : XD)
def hName (y : Str) : WE :=
  if nameOk y = true then
    if visB sc y = true then match ixOf N y with
      | some i => wSlot i
      | none => wStuck
    else if glB sc y = true then match S.glb.lookup y with
      | some (.val d) => wC d
      | _ => wStuck
    else wStuck
  else wStuck
/-- e.f of the held exception -/
def hFld (y f : Str) : WE := if (nameOk y && visB sc y) = true then match ixOf N y, i, exOf S x.c with
    | some j, some k, some (_, fl) => if (decide (j = k) && (fl.map (·.1)).contains f) = true then wHld j m x f else wStuck
    | _, _, _ => wStuck
  else wStuck
def hCmp (b : Bool) : CmpOp → CallM
  | .Eq => cOp b (o2 dEq)
  | .NotEq => cOp b (o2 dNe)
  | .In => cOp b (o2 (dIn false))
  | .NotIn => cOp b (o2 (dIn true))
  | .Is => cOp b (o2 (orO (dIsN false) (dIsB false)))
  | .IsNot => cOp b (o2 (orO (dIsN true) (dIsB true)))
  | .Lt => cOp b (o2 dLt)
  | .LtE => cOp b (o2 dLe)
  | .Gt => cOp b (o2 dGt)
  | .GtE => cOp b (o2 dGe)
def hA (E : Expr → WE) : List Expr → WA
  | [] => wNil
  | e :: es => wCons (E e) (hA E es)
def hE : Nat → Expr → WE
  | 0, _ => wStuck
  | k + 1, e => match e with
    | .Name y _ => hName S N sc y
    | .Constant c _ _ => dConst c
    | .Attribute (.Name y _) f _ => hFld S N sc i m x y f
    | .List es p => if noStar es = true then wLst (posIn S.bxp p) (hA (hE k) es) else wStuck
    | .Tuple es _ _ => if noStar es = true then wTup (hA (hE k) es) else wStuck
    | .BinOp a .Add b p => wOp2 (cOp (posIn S.bxp p) (o2 dAdd)) (hE k a) (hE k b)
    | .Compare a [op] [b] p => if noSet b = true then wOp2 (hCmp (posIn S.bxp p) op) (hE k a) (hE k b) else wStuck
    | .Call (.Name f _) [a] [] p => if (decide (f = "repr") && nameOk f && glB sc f && (S.glb.lookup f).isNone && noStar [a]) = true then wCall (cOp (posIn S.bxp p) dReprA) (wCons (hE k a) wNil) else wStuck
    | _ => wStuck
def hT : Nat → Expr → WT
  | 0, _ => wtStuck
  | k + 1, e => match e with
    | .Compare a [op] [b] p => if noSet b = true then wtB (wOp2 (hCmp (posIn S.bxp p) op) (hE S N sc i m x k a) (hE S N sc i m x k b)) else wtStuck
    | .UnaryOp .Not a _ => wtNot (hT k a)
    | .BoolOp .And es _ => dAndT (hT k) es
    | .BoolOp .Or es _ => dOrT (hT k) es
    | _ => wtStuck
def hSs (f : Stmt → WS) : List Stmt → WS
  | [] => wsSkip
  | st :: r => wsSeq (f st) (hSs f r)
def hS : Nat → Stmt → WS
  | 0, _ => wsStuck
  | k + 1, st => match st with
    | .Pass _ => wsSkip
    | .Break _ => wsBrk
    | .Continue _ => wsCont
    | .Return none _ => wsRetN
    | .Return (some e) _ => wsRet (hE S N sc i m x k e)
    | .If t a b _ => wsIf (hT S N sc i m x k t) (hSs (hS k) a) (hSs (hS k) b)
    | .Assign [.Name y _] e _ => if (plainE e && !isTupX e && locB sc false y) = true then match ixOf N y with
        | some j => wsAsg (hE S N sc i m x k e) (wgName j)
        | none => wsStuck
      else wsStuck
    | _ => wsStuck
end

theorem sole_swapsX {tg e : Expr} {l : Nat} {env : Env} (h : plainE e = true) : swapsWithSole [tg] e l env = pure false := by
  unfold swapsWithSole
  cases tg <;> first | exact plain_swaps h | rfl
theorem no_swappedX {y : Str} {p : Pos} {e : Expr} {env : Env} (h : isTupX e = false) : swappedStores [.Name y p] e env = pure none := by
  unfold swappedStores
  cases e <;> first | rfl | cases h
section
variable {S : Stat} {n : Nat} {cm : CM} {r r' : Rn} {X : Cx} {W : WXQ} {N : List Str} {sc : Scope}
/-- where a suite stands: the context around it, the exception that it holds -/
structure Okh (S : Stat) (n : Nat) (cm : CM) (r r' : Rn) (X : Cx) (W : WXQ) (N : List Str) (sc : Scope) (m : Nat) (a : Addr) (x : XD) (oe : Obj) (cls : Value) (d : Option Addr) : Prop where
  o : Okx S n cm r X W N sc false
  R : r'.R = r.R
  z : Zc cls d oe
  f : ∃ vs, oe.data = .fields vs
  h : Hld r' m a x cls d
variable {m : Nat} {a : Addr} {x : XD} {oe : Obj} {cls : Value} {d : Option Addr} {pn : List (Addr × Obj)} {i : Option Nat}
abbrev Sx (X : Cx) (a : Addr) (oe : Obj) (pn : List (Addr × Obj)) : Cx := X.suite a ((a, oe) :: pn)
theorem Okh.K (h : Okh S n cm r r' X W N sc m a x oe cls d) : (Sx X a oe pn).K = r'.R.K := by rw [h.R]; exact h.o.K
theorem Okh.gl (h : Okh S n cm r r' X W N sc m a x oe cls d) {y : Str} (e : glB sc y = true) : Gl (Sx X a oe pn) y := h.o.gl e
theorem hName_ok (h : Okh S n cm r r' X W N sc m a x oe cls d) (y : Str) (p : Pos) : PEm r' (Sx X a oe pn) WF (.Name y p) (hName S N sc y) := by
  unfold hName
  split
  · rename_i hn
    obtain ⟨h1, h2, h3⟩ := nameOk_of hn
    split
    · rename_i hv
      split
      · rename_i j ej
        exact pem_slot (X := Sx X a oe pn) (by show X.N[j]? = _; rw [h.o.hN]; exact ixOf_get ej) (by show Vis X.env.scope y; rw [h.o.hsc]; exact visB_of hv) h1 h2
      · exact pem_stuck
    · split
      · rename_i hg
        have hG := h.gl (pn := pn) hg
        split
        · rename_i dd e1
          obtain ⟨v, u, k1, k2, k3⟩ := h.o.st.gval _ _ e1
          exact pem_const (pe_glob hG k1 k2 h1) (by rw [h.R]; exact k3)
        · exact pem_stuck
      · exact pem_stuck
  · exact pem_stuck
theorem hFld_ok (h : Okh S n cm r r' X W N sc m a x oe cls d) (y f : Str) (p q : Pos) : PEm r' (Sx X a oe pn) WF (.Attribute (.Name y p) f q) (hFld S N sc i m x y f) := by
  unfold hFld
  split
  · rename_i hn
    simp only [Bool.and_eq_true] at hn
    obtain ⟨h1, h2, h3⟩ := nameOk_of hn.1
    split
    · rename_i j k np fl ej ex
      split
      · rename_i hc
        simp only [Bool.and_eq_true, decide_eq_true_eq, List.contains_iff_mem] at hc
        exact pem_hld (by rw [h.R]; exact h.o.K) h.h (by rw [h.R]; exact h.o.st.exs _ _ _ ex) hc.2 h.z h.f (by rw [h.o.hN]; exact ixOf_get ej) (by rw [h.o.hsc]; exact visB_of hn.2) h1 h2
      · exact pem_stuck
    · exact pem_stuck
  · exact pem_stuck
theorem hA_ok {E : Expr → WE} (hE : ∀ e, PEm r' X W e (E e)) : ∀ {es : List Expr}, noStar es = true → PAm r' X W es (hA E es)
  | [], _ => pam_nil
  | e :: es, hn => pam_cons (hE e) (hA_ok hE (noStar_tail hn)) (starCons hn)
theorem hCmp_ok (h : Okh S n cm r r' X W N sc m a x oe cls d) (b : Bool) (op : CmpOp) : VO r' (Sx X a oe pn) WF (bi (compareOp op)) (hCmp b op) := by
  have K := h.K (pn := pn)
  have u : (Sx X a oe pn).A.units + 65 < cLine := by have := h.o.room.un; show X.A.units + 65 < cLine; omega
  cases op with
  | Eq => exact vo_opR (opI_eq K (by omega))
  | NotEq => exact vo_opR (opI_ne K (by omega))
  | In => exact vo_opR (opI_in K u)
  | NotIn => exact vo_opR (opI_notin K u)
  | Is => exact vo_opR (opI_or opI_is opI_isB)
  | IsNot => exact vo_opR (opI_or opI_isnot opI_isnotB)
  | Lt => exact vo_opR opI_lt
  | LtE => exact vo_opR opI_le
  | Gt => exact vo_opR opI_gt
  | GtE => exact vo_opR opI_ge
theorem hE_ok (h : Okh S n cm r r' X W N sc m a x oe cls d) : ∀ (k : Nat) (e : Expr), PEm r' (Sx X a oe pn) WF e (hE S N sc i m x k e)
  | 0, e => pem_stuck
  | k + 1, e => by
    have ih := hE_ok h k
    unfold hE
    split
    · exact hName_ok h _ _
    · exact dConst_ok _ _ _
    · exact hFld_ok h _ _ _ _
    · split
      · rename_i hn; exact pem_lst (hA_ok ih hn)
      · exact pem_stuck
    · split
      · rename_i hn; exact pem_tup (hA_ok ih hn)
      · exact pem_stuck
    · exact pem_op2 (vo_opR (opI_add h.K)) (ih _) (ih _)
    · split
      · rename_i hn; exact pem_cmp2 (hCmp_ok h _ _) (ih _) (ih _) (noSet_marks hn)
      · exact pem_stuck
    · split
      · rename_i hc
        simp only [Bool.and_eq_true, decide_eq_true_eq, Option.isNone_iff_eq_none] at hc
        obtain ⟨⟨⟨⟨rfl, c2⟩, c3⟩, c4⟩, c5⟩ := hc
        obtain ⟨h1, h2, h3⟩ := nameOk_of c2
        have u : (Sx X a oe pn).A.units + 100 < cLine := by have := h.o.room.un; show X.A.units + 100 < cLine; omega
        exact pem_blt (X := Sx X a oe pn) (vo_reprA h.K u (fun {k} => vo_repr h.K u h.o.gd) h.o.gd) (h.gl c3) (h.o.st.none _ _ PyProof.Rows.boot_repr (nameOk_dun c2) c4) PyProof.Rows.boot_repr (hA_ok (E := hE S N sc i m x k) ih c5) h3 h1 c5
      · exact pem_stuck
    · exact pem_stuck
theorem hAndT_ok {X : Cx} {f : Expr → WT} (hf : ∀ e, PTm r' X W e (f e)) (p : Pos) : ∀ es : List Expr, PWm r' X W (.BoolOp .And es p) (dAndT f es)
  | [] => pwm_stuck
  | [a] => pwm_and1 (hf a)
  | a :: b :: l => pwm_and (hf a) (hAndT_ok hf p (b :: l))
theorem hOrT_ok {X : Cx} {f : Expr → WT} (hf : ∀ e, PTm r' X W e (f e)) (p : Pos) : ∀ es : List Expr, PWm r' X W (.BoolOp .Or es p) (dOrT f es)
  | [] => pwm_stuck
  | [a] => pwm_or1 (hf a)
  | a :: b :: l => pwm_or (hf a) (hOrT_ok hf p (b :: l))
theorem hT_ok (h : Okh S n cm r r' X W N sc m a x oe cls d) : ∀ (k : Nat) (e : Expr), PTm r' (Sx X a oe pn) WF e (hT S N sc i m x k e)
  | 0, e => ptm_stuck
  | k + 1, e => by
    have ih := hT_ok h k
    unfold hT
    split
    · split
      · rename_i hn; exact ptm_cmp2 (hCmp_ok h _ _) (hE_ok h _ _) (hE_ok h _ _) (noSet_marks hn)
      · exact ptm_stuck
    · exact ptm_not (ih _)
    · exact (hAndT_ok ih _ _).pt
    · exact (hOrT_ok ih _ _).pt
    · exact ptm_stuck
theorem hSs_ok {X : Cx} {f : Stmt → WS} (hf : ∀ st, PSm r' X W st (f st)) : ∀ l : List Stmt, PSsm r' X W l (hSs f l)
  | [] => pssm_nil
  | st :: l => pssm_cons (hf st) (hSs_ok hf l)
theorem hS_ok (h : Okh S n cm r r' X W N sc m a x oe cls d) : ∀ (k : Nat) (st : Stmt), PSm r' (Sx X a oe pn) WF st (hS S N sc i m x k st)
  | 0, st => psm_stuck
  | k + 1, st => by
    have ih := hS_ok h k
    unfold hS
    split
    · exact psm_pass
    · exact psm_brk
    · exact psm_cont
    · exact psm_retN
    · exact psm_ret (hE_ok h _ _)
    · exact psm_if (hT_ok h _ _) (hSs_ok ih _) (hSs_ok ih _)
    · split
      · rename_i hc
        simp only [Bool.and_eq_true, Bool.not_eq_true'] at hc
        obtain ⟨⟨c1, c2⟩, c3⟩ := hc
        split
        · rename_i j ej
          obtain ⟨l1, l2⟩ := h.o.loc c3
          exact psm_asg (hE_ok h _ _) (pgm_name (X := Sx X a oe pn) (by show X.N.Nodup; rw [h.o.hN]; exact h.o.nd) (by show X.N[j]? = _; rw [h.o.hN]; exact ixOf_get ej) l1 l2) (sole_swapsX c1) (no_swappedX c2) rfl
        · exact psm_stuck
      · exact psm_stuck
    · exact psm_stuck
end
end Mi
namespace Mi
open PySem PySem.Spec L2

/-! ### targets, statements -/
section
variable (S : Stat) (cm : CM) (d : Dn) (N : List Str) (sc : Scope) (blk : Bool)
def dG1 : Expr → WG
  | .Name x _ => if locB sc blk x = true then match ixOf N x with
      | some i => wgName i
      | none => wgStuck
    else wgStuck
  | .Subscript o i _ => if plainIx i = true then wgSub (d.E N sc blk o) (d.E N sc blk i) else wgStuck
  | _ => wgStuck
def dG2 : Expr → WG
  | .Tuple es k p => if noStar es = true then wgTup es.length (dGs (dG1 d N sc blk) es) else wgStuck
  | e => dG1 d N sc blk e
def dG : Expr → WG
  | .Tuple es k p => if noStar es = true then wgTup es.length (dGs (dG2 d N sc blk) es) else wgStuck
  | e => dG1 d N sc blk e
def isNameE : Expr → Bool
  | .Name .. => true
  | _ => false
def isTupE : Expr → Bool
  | .Tuple .. => true
  | _ => false
def isSeqT : Expr → Bool
  | .Tuple .. => true
  | .List .. => true
  | _ => false
/-- the names' places for swapped stores -/
def parIx (ts : List Expr) (vs : List Expr) : Option (List Nat) := match ts, vs with
  | [.Name x px, .Name y py], [a, b] =>
    if (decide (sc.names.lookup x = some .local) && decide (sc.names.lookup y = some .local) && decide (px.line = py.line) && decide (x ≠ y) && noStar [a, b] && !(List.all [a, b] (foldedForSure 8)) && !(List.all [a, b] (constantsAlone 8))) = true then
      match ixOf N x, ixOf N y with
      | some i, some j => some [i, j]
      | _, _ => none
    else none
  | [.Name x px, .Name y py, .Name z pz], [a, b, c] =>
    if (decide (sc.names.lookup x = some .local) && decide (sc.names.lookup y = some .local) && decide (sc.names.lookup z = some .local) && decide (px.line = py.line) && decide (px.line = pz.line) && decide (x ≠ y) && decide (x ≠ z) && decide (y ≠ z) && noStar [a, b, c] && !(List.all [a, b, c] (foldedForSure 8)) && !(List.all [a, b, c] (constantsAlone 8))) = true then
      match ixOf N x, ixOf N y, ixOf N z with
      | some i, some j, some l => some [i, j, l]
      | _, _, _ => none
    else none
  | _, _ => none
/-- name = [..]: stored ahead of the comprehension's end -/
def swapB (x : Str) (px : Pos) (scope : Scope) (p : Pos) : Bool :=
  decide (sc.names.lookup x = some .local) && (px.line == p.line) && !(scope.names.any fun (n, k) => n == x && (k == .local || k == .cell))
/-- one of the names is a cell -/
def cellT (ts : List Expr) : Bool := ts.any fun | .Name x _ => decide (sc.names.lookup x = some .cell) | _ => false
def dAsg (tg e : Expr) : WS := match tg, e with
  | .Attribute o f _, e => wsFld (attrsOf S) (d.E N sc blk o) (d.E N sc blk e) f
  | .Tuple ts kt pt, .Tuple vs k2 p2 => match parIx N sc ts vs with
    | some is => wsPar is (dA d N sc blk vs)
    | none => if (cellT sc ts && noStar ts) = true then wsAsg (d.E N sc blk (.Tuple vs k2 p2)) (dG d N sc blk (.Tuple ts kt pt)) else wsStuck
  | .Name x px, .ListComp elt [⟨tg', it, ifs, 0⟩] scope p => if swapB sc x px scope p = true then match ixOf N x with
      | some i => wsAsg (dLc S d N sc blk elt tg' it ifs scope p) (wgName i)
      | none => wsStuck
    else wsAsg (dLc S d N sc blk elt tg' it ifs scope p) (dG1 d N sc blk (.Name x px))
  | tg, e => if ((plainE e || !(isNameE tg)) && !(isSeqT tg && isTupE e) && noStar [tg]) = true then wsAsg (d.E N sc blk e) (dG d N sc blk tg) else wsStuck
def dRaise (f : Str) (es : List Expr) : WS := if (nameOk f && glB sc f && noStar es) = true then match S.glb.lookup f with
    | some (.cls c) => match exOf S c with
      | some (np, fl) => wsRaise c np fl (dA d N sc blk es)
      | none => wsStuck
    | _ => wsStuck
  else wsStuck
def isubOf (c' c : Nat) : Option Bool := S.isi (.cls c') (.cls c)
def dHd : List ExceptHandler → Option (List Cl)
  | [] => some []
  | .ExceptHandler (some (.Name x _)) n (b :: su) _ :: r => if (nameOk x && glB sc x) = true then match S.glb.lookup x with
      | some (.cls c) => if S.hcl.contains c = true then match n with
          | none => (dHd r).map ((c, none, fun m y => hSs (hS S N sc none m y 100) (b :: su)) :: ·)
          | some nm => if sc.names.lookup nm = some .local then (ixOf N nm).bind fun i => (dHd r).map ((c, some i, fun m y => hSs (hS S N sc (some i) m y 100) (b :: su)) :: ·) else none
        else none
      | _ => none
    else none
  | _ => none
def dTry (body : List Stmt) (hs : List ExceptHandler) : WS := if blk = false then match hs with
    | [] => wsStuck
    | h :: t => match dHd S N sc (h :: t) with
      | some l => wsTry (isubOf S) (dSs d N sc blk body) l
      | none => wsStuck
  else wsStuck
def stepS (st : Stmt) : WS := match st with
  | .Pass _ => wsSkip
  | .Break _ => wsBrk
  | .Continue _ => wsCont
  | .Return none _ => wsRetN
  | .Return (some e) _ => wsRet (d.E N sc blk e)
  | .Expr e _ => if plainE e = true then wsExpr (d.E N sc blk e) else wsStuck
  | .If t a b _ => wsIf (d.T N sc blk t) (dSs d N sc blk a) (dSs d N sc blk b)
  | .While t b [] _ => wsWhile (d.T N sc blk t) (dSs d N sc blk b)
  | .For tg it b [] _ => if noSet it = true then wsFor (dI S d N sc blk it) (dG d N sc blk tg) (dSs d N sc blk b) else wsStuck
  | .Assign [tg] e _ => dAsg S d N sc blk tg e
  | .Raise (some (.Call (.Name f _) es [] _)) none _ => dRaise S d N sc blk f es
  | .Try b hs [] [] _ => dTry S d N sc blk b hs
  | _ => wsStuck
end
structure Snd (S : Stat) (n : Nat) (cm : CM) (d : Dn) : Prop where
  e : SndE S n cm d
  S : ∀ (r : Rn) (X : Cx) (W : WXQ) (N : List Str) (sc : Scope) (blk : Bool) (st : Stmt), Okx S n cm r X W N sc blk → PassesOwn (model X.prog X.w) X.A X.env X.xe → PSm r X W st (d.S N sc blk st)
section
variable {S : Stat} {n : Nat} {cm : CM} {d : Dn} {r : Rn} {X : Cx} {W : WXQ} {N : List Str} {sc : Scope} {blk : Bool}
theorem pssm_stuck {st : List Stmt} : PSsm r X W st wsStuck := ⟨fun _ _ _ _ _ _ h => by
  obtain ⟨_, _, _, _, _, z, _⟩ := h
  exact z.elim⟩
theorem dSs_ok (s : Snd S n cm d) (o : Okx S n cm r X W N sc blk) (po : PassesOwn (model X.prog X.w) X.A X.env X.xe) : ∀ l : List Stmt, PSsm r X W l (dSs d N sc blk l)
  | [] => pssm_nil
  | st :: l => pssm_cons (s.S r X W N sc blk st o po) (dSs_ok s o po l)
theorem dGs_ok {f : Expr → WG} (h : ∀ e, PGm r X W e (f e)) : ∀ {es : List Expr}, noStar es = true → PGsm r X W es (dGs f es)
  | [], _ => pgsm_nil
  | e :: es, hs => pgsm_cons (h e) (dGs_ok h (noStar_tail hs)) (by rw [assignEach_of hs, assignEach_of (noStar_tail hs)]; rfl)
theorem tupG_ok (o : Okx S n cm r X W N sc blk) {f : Expr → WG} (h : ∀ e, PGm r X W e (f e)) {es : List Expr} {k : Nat} {p : Pos} (hs : noStar es = true) : PGm r X W (.Tuple es k p) (wgTup es.length (dGs f es)) :=
  pgm_tup o.K o.calm (dGs_ok h hs) (by rw [assignEach_of hs]; simp) (by rw [assignEach_of hs]; simp [List.findIdx?_map, List.findIdx?_eq_none_iff])
theorem dG1_ok (s : SndE S n cm d) (o : Okx S n cm r X W N sc blk) (e : Expr) : PGm r X W e (dG1 d N sc blk e) := by
  unfold dG1
  split
  · split
    · rename_i h
      obtain ⟨h1, h2⟩ := o.loc h
      split
      · rename_i i ei
        exact pgm_name (by rw [o.hN]; exact o.nd) (by rw [o.hN]; exact ixOf_get ei) h1 h2
      · exact pgm_stuck
    · exact pgm_stuck
  · rename_i e1 i p
    split
    · rename_i h
      refine pgm_sub o.u1 (s.E _ _ _ _ _ _ _ o) (s.E _ _ _ _ _ _ _ o) fun v => ?_
      cases i <;> first | rfl | cases h
    · exact pgm_stuck
  · exact pgm_stuck
theorem dG2_ok (s : SndE S n cm d) (o : Okx S n cm r X W N sc blk) (e : Expr) : PGm r X W e (dG2 d N sc blk e) := by
  unfold dG2
  split
  · split
    · rename_i h; exact tupG_ok o (dG1_ok s o) h
    · exact pgm_stuck
  · exact dG1_ok s o _
theorem dG_ok (s : SndE S n cm d) (o : Okx S n cm r X W N sc blk) (e : Expr) : PGm r X W e (dG d N sc blk e) := by
  unfold dG
  split
  · split
    · rename_i h; exact tupG_ok o (dG2_ok s o) h
    · exact pgm_stuck
  · exact dG1_ok s o _
theorem bk_of {env : Env} (h : env.scope.kind = .function) : env.blockKind = .function := by unfold Env.blockKind; rw [h]; rfl
theorem noStar_any : ∀ {es : List Expr}, noStar es = true → (es.any fun | .Starred .. => true | _ => false) = false
  | [], _ => rfl
  | e :: es, h => by
    have ih := noStar_any (noStar_tail h)
    cases e <;> first | exact ih | cases h
theorem par2_ok {x y : Str} {a b : Expr} {px py pt pt2 : Pos} {kt k2 : Nat} {env : Env} (hk : env.scope.kind = .function) (hx : env.scope.names.lookup x = some .local) (hy : env.scope.names.lookup y = some .local) (hl : px.line = py.line) (hxy : x ≠ y)
    (hs : noStar [a, b] = true) (h1 : List.all [a, b] (foldedForSure 8) = false) (h2 : List.all [a, b] (constantsAlone 8) = false) : swappedStores [.Tuple [.Name x px, .Name y py] kt pt] (.Tuple [a, b] k2 pt2) env = pure (some [x, y]) := by
  have kx : env.kindOf x = some .local := hx
  have ky : env.kindOf y = some .local := hy
  have hb := bk_of hk
  have e1 : (y == x) = false := beq_eq_false_iff_ne.mpr (Ne.symm hxy)
  unfold swappedStores
  simp only [hb, h1, h2, Expr.pos, hl, List.length_cons, List.length_nil]
  simp [kx, ky, hl, e1, List.filterMap, List.eraseDups, List.eraseDupsBy, List.eraseDupsBy.loop]
  rintro (h | h)
  · cases a <;> first | (cases h; done) | (cases hs; done)
  · have hs' := noStar_tail hs
    cases b <;> first | (cases h; done) | (cases hs'; done)
theorem par3_ok {x y z : Str} {a b c : Expr} {px py pz pt pt2 : Pos} {kt k2 : Nat} {env : Env} (hk : env.scope.kind = .function) (hx : env.scope.names.lookup x = some .local) (hy : env.scope.names.lookup y = some .local) (hz : env.scope.names.lookup z = some .local)
    (hl : px.line = py.line) (hl2 : px.line = pz.line) (hxy : x ≠ y) (hxz : x ≠ z) (hyz : y ≠ z)
    (hs : noStar [a, b, c] = true) (h1 : List.all [a, b, c] (foldedForSure 8) = false) (h2 : List.all [a, b, c] (constantsAlone 8) = false) : swappedStores [.Tuple [.Name x px, .Name y py, .Name z pz] kt pt] (.Tuple [a, b, c] k2 pt2) env = pure (some [x, y, z]) := by
  have kx : env.kindOf x = some .local := hx
  have ky : env.kindOf y = some .local := hy
  have kz : env.kindOf z = some .local := hz
  have hb := bk_of hk
  have e1 : (y == x) = false := beq_eq_false_iff_ne.mpr (Ne.symm hxy)
  have e2 : (z == x) = false := beq_eq_false_iff_ne.mpr (Ne.symm hxz)
  have e3 : (z == y) = false := beq_eq_false_iff_ne.mpr (Ne.symm hyz)
  have hl3 : py.line = pz.line := hl ▸ hl2
  unfold swappedStores
  simp only [hb, h1, h2, Expr.pos, hl, List.length_cons, List.length_nil]
  simp [kx, ky, kz, hl, hl3, e1, e2, e3, List.filterMap, List.eraseDups, List.eraseDupsBy, List.eraseDupsBy.loop]
  rintro (h | h | h)
  · cases a <;> first | (cases h; done) | (cases hs; done)
  · have hs' := noStar_tail hs
    cases b <;> first | (cases h; done) | (cases hs'; done)
  · have hs' := noStar_tail (noStar_tail hs)
    cases c <;> first | (cases h; done) | (cases hs'; done)
theorem swapB_ok {elt : Expr} {gs : List Comprehension} {scope : Scope} {x : Str} {px p : Pos} {l : Nat} {env : Env} (hs : env.scope = sc) (hk : sc.kind = .function) (h : swapB sc x px scope p = true) :
    env.scope.names.lookup x = some .local ∧ swapsWith (.ListComp elt gs scope p) (some (.Name x px)) l env = pure true := by
  unfold swapB at h
  simp only [Bool.and_eq_true, Bool.not_eq_true', decide_eq_true_eq] at h
  obtain ⟨⟨h1, h2⟩, h3⟩ := h
  subst hs
  exact ⟨h1, sw_true hk h1 h2 h3⟩
theorem swapB_no {elt : Expr} {gs : List Comprehension} {scope : Scope} {x : Str} {px p : Pos} {l : Nat} {env : Env} (hs : env.scope = sc) (hk : sc.kind = .function) (h : swapB sc x px scope p = false) :
    swapsWithSole [.Name x px] (.ListComp elt gs scope p) l env = pure false := by
  show swapsWith (.ListComp elt gs scope p) (some (.Name x px)) l env = pure false
  have hb : env.blockKind = .function := by unfold Env.blockKind; rw [hs, hk]; rfl
  unfold swapsWith
  have e : (env.blockKind == .function && env.kindOf x == some .local && px.line == p.line && !(scope.names.any fun (n, k) => n == x && (k == .local || k == .cell))) = swapB sc x px scope p := by
    unfold swapB
    rw [hb, show env.kindOf x = sc.names.lookup x by rw [← hs]; rfl]
    congr 2
    by_cases q : sc.names.lookup x = some .local
    · rw [q]; rfl
    · rw [decide_eq_false q, beq_eq_false_iff_ne.mpr q]; rfl
  rw [h] at e
  simp only [Expr.pos]
  exact congrArg pure e
theorem sole_swaps {tg e : Expr} {l : Nat} {env : Env} (h : (plainE e || !(isNameE tg)) = true) : swapsWithSole [tg] e l env = pure false := by
  show swapsWith e (some tg) l env = pure false
  cases tg with
  | Name x p =>
    have : plainE e = true := by simpa [isNameE] using h
    exact plain_swaps this
  | _ => cases e <;> rfl
theorem no_swapped {tg e : Expr} {env : Env} (h : (!(isSeqT tg && isTupE e)) = true) : swappedStores [tg] e env = pure none := by
  cases tg with
  | Tuple ts k p => cases e <;> first | rfl | cases h
  | List ts p => cases e <;> first | rfl | cases h
  | _ => cases e <;> rfl
theorem attr_swaps (e : Expr) {o : Expr} {f : Str} {p : Pos} {l : Nat} {env : Env} : swapsWith e (some (.Attribute o f p)) l env = pure false := by cases e <;> rfl
theorem cell_swapped {ts vs : List Expr} {kt k2 : Nat} {pt p2 : Pos} {env : Env} (h : cellT env.scope ts = true) : swappedStores [.Tuple ts kt pt] (.Tuple vs k2 p2) env = pure none := by
  have lt : ∀ (f : Expr → Option Str) (l : List Expr), (∃ e ∈ l, f e = none) → (l.filterMap f).length < l.length := by
    intro f l
    induction l with
    | nil => rintro ⟨e, he, _⟩; cases he
    | cons a l ih =>
      rintro ⟨e, he, hf⟩
      have le : (l.filterMap f).length ≤ l.length := List.length_filterMap_le f l
      rcases List.mem_cons.mp he with rfl | he
      · rw [List.filterMap_cons_none hf, List.length_cons]; omega
      · have := ih ⟨e, he, hf⟩
        cases ha : f a with
        | none => rw [List.filterMap_cons_none ha, List.length_cons]; omega
        | some b => rw [List.filterMap_cons_some ha, List.length_cons, List.length_cons]; omega
  obtain ⟨e, he, hc⟩ := List.any_eq_true.mp h
  unfold swappedStores
  simp only
  split
  · rfl
  split
  · rfl
  have hl := lt (fun
    | .Name id pos => if (env.kindOf id == some .local && pos.line == (ts.head?.map (·.pos.line)).getD 0) = true then some id else none
    | _ => none) ts ⟨e, he, by
      cases e with
      | Name x p =>
        have hx : env.scope.names.lookup x = some .cell := of_decide_eq_true hc
        have : env.kindOf x = some .cell := hx
        simp [this]
      | _ => rfl⟩
  split
  · rfl
  · rename_i hn
    exfalso
    apply hn
    simp only [Bool.or_eq_true, bne_iff_ne]
    exact .inl (Nat.ne_of_lt hl)
theorem dAsg_ok (s : Snd S n cm d) (o : Okx S n cm r X W N sc blk) (tg e : Expr) (p : Pos) : PSm r X W (.Assign [tg] e p) (dAsg S d N sc blk tg e) := by
  have gen : PSm r X W (.Assign [tg] e p) (if ((plainE e || !(isNameE tg)) && !(isSeqT tg && isTupE e) && noStar [tg]) = true then wsAsg (d.E N sc blk e) (dG d N sc blk tg) else wsStuck) := by
    split
    · rename_i h
      simp only [Bool.and_eq_true] at h
      obtain ⟨⟨h1, h2⟩, h3⟩ := h
      exact psm_asg (s.e.E _ _ _ _ _ _ _ o) (dG_ok s.e o _) (sole_swaps h1) (no_swapped h2) (by rw [assignEach_of h3]; rfl)
    · exact psm_stuck
  unfold dAsg
  split
  · exact psm_fld o.K o.st.att (s.e.E _ _ _ _ _ _ _ o) (s.e.E _ _ _ _ _ _ _ o) (attr_swaps _)
  · rename_i ts kt pt vs k2 pt2
    split
    · rename_i is ei
      unfold parIx at ei
      have hk : X.env.scope.kind = .function := by rw [o.hsc]; exact o.kind
      split at ei
      · split at ei
        · rename_i h
          simp only [Bool.and_eq_true, Bool.not_eq_true', decide_eq_true_eq] at h
          obtain ⟨⟨⟨⟨⟨⟨h1, h2⟩, h3⟩, h4⟩, h5⟩, h6⟩, h7⟩ := h
          rw [← o.hsc] at h1 h2
          split at ei
          · rename_i i j e1 e2
            cases ei
            have g1 := ixOf_get e1
            have g2 := ixOf_get e2
            rw [← o.hN] at g1 g2
            exact psm_par o.calm (by rw [o.hN]; exact o.nd) g1 g2 (by rintro rfl; rw [g1] at g2; cases g2; exact h4 rfl) h1 h2 (dA_ok s.e o h5) (par2_ok hk h1 h2 h3 h4 h5 h6 h7) rfl
          · cases ei
        · cases ei
      · split at ei
        · rename_i h
          simp only [Bool.and_eq_true, Bool.not_eq_true', decide_eq_true_eq] at h
          obtain ⟨⟨⟨⟨⟨⟨⟨⟨⟨⟨h1, h2⟩, h3⟩, h4⟩, h5⟩, h6⟩, h7⟩, h8⟩, h9⟩, h10⟩, h11⟩ := h
          rw [← o.hsc] at h1 h2 h3
          split at ei
          · rename_i i j l e1 e2 e3
            cases ei
            have g1 := ixOf_get e1
            have g2 := ixOf_get e2
            have g3 := ixOf_get e3
            rw [← o.hN] at g1 g2 g3
            exact psm_par3 o.calm (by rw [o.hN]; exact o.nd) g1 g2 g3 (by rintro rfl; rw [g1] at g2; cases g2; exact h6 rfl) (by rintro rfl; rw [g1] at g3; cases g3; exact h7 rfl) (by rintro rfl; rw [g2] at g3; cases g3; exact h8 rfl) h1 h2 h3 (dA_ok s.e o h9) (par3_ok hk h1 h2 h3 h4 h5 h6 h7 h8 h9 h10 h11) rfl
          · cases ei
        · cases ei
      · cases ei
    · split
      · rename_i h
        simp only [Bool.and_eq_true] at h
        exact psm_asg (s.e.E _ _ _ _ _ _ _ o) (dG_ok s.e o _) rfl (cell_swapped (by rw [o.hsc]; exact h.1)) rfl
      · exact psm_stuck
  · rename_i x px elt tg' it ifs scope p2
    split
    · rename_i h
      obtain ⟨h1, h2⟩ := swapB_ok (elt := elt) (gs := [⟨tg', it, ifs, 0⟩]) (l := p.line) o.hsc o.kind h
      split
      · rename_i i ei
        rcases dLc_parts (elt := elt) (tg := tg') (it := it) (ifs := ifs) (scope := scope) (p := p2) s.e o with e | ⟨ct, tt, e, k1, k2, k3, k4, k5, k6⟩
        · rw [e]
          exact ⟨fun _ _ _ _ _ _ h => by
            obtain ⟨_, _, _, _, _, z, _⟩ := h
            exact z.elim⟩
        · rw [e]
          exact psm_setLc o.K o.calm (by rw [o.hN]; exact o.nd) (by rw [o.hN]; exact ixOf_get ei) h1 h2 (dI_ok s.e o tg' it) k1 k2 k3 k4 k5 (noSet_fold k6)
      · exact psm_stuck
    · rename_i h
      exact psm_asg (dLc_ok s.e o _ _ _ _ _ _) (dG1_ok s.e o _) (swapB_no o.hsc o.kind (by simpa using h)) rfl rfl
  · exact gen
theorem Okx.tr (o : Okx S n cm r X W N sc false) {r' : Rn} {W' : WXQ} {pn : List (Addr × Obj)} {xe : Value → Shared → Prop} (e : r'.R = r.R) (tk : Takes (X.tr pn xe) (wxI r' W')) : Okx S n cm r' (X.tr pn xe) W' N sc false where
  st := by rw [e]; exact o.st
  K := by rw [e]; exact o.K
  hN := o.hN
  hsc := o.hsc
  kind := o.kind
  calm := o.calm
  fn := o.fn
  gd := o.gd
  room := o.room
  tk := tk
  nd := o.nd
  stk := o.stk
  frm := o.frm
theorem dRaise_ok (s : Snd S n cm d) (o : Okx S n cm r X W N sc blk) (f : Str) (es : List Expr) (p1 p2 p3 : Pos) : PSm r X W (.Raise (some (.Call (.Name f p1) es [] p2)) none p3) (dRaise S d N sc blk f es) := by
  unfold dRaise
  split
  · rename_i h
    simp only [Bool.and_eq_true] at h
    obtain ⟨⟨c1, c2⟩, c3⟩ := h
    obtain ⟨h1, h2, h3⟩ := nameOk_of c1
    split
    · rename_i c e1
      obtain ⟨a, k1, k2⟩ := o.st.gcls _ _ e1
      split
      · rename_i np fl e2
        have T := o.st.exs _ _ _ e2
        cases es with
        | nil => exact psm_raise0 o.calm o.K T k1 o.room o.gd o.tk (o.gl c2) k2 h1
        | cons e es => exact psm_raise o.calm o.K T k1 o.room o.gd o.tk (o.gl c2) k2 c3 (dA_ok s.e o c3) h1
      · exact psm_stuck
    · exact psm_stuck
  · exact psm_stuck
theorem dHd_ok (o : Okx S n cm r X W N sc false) : ∀ {hs : List ExceptHandler} {l : List Cl}, dHd S N sc hs = some l → HdM r X (isubOf S) hs l
  | [], l, e => by
    simp only [dHd, Option.some.injEq] at e
    subst e
    exact .nil
  | .ExceptHandler (some (.Name x p)) n' (b :: su) q :: t, l, e => by
    simp only [dHd] at e
    split at e
    · rename_i h
      simp only [Bool.and_eq_true] at h
      obtain ⟨h1, h2, h3⟩ := nameOk_of h.1
      split at e
      · rename_i c e1
        obtain ⟨a, k1, k2⟩ := o.st.gcls _ _ e1
        split at e
        · rename_i hc
          have hex : ∀ c' C' k, r.R.cls c' = some C' → isubOf S c' c = some k → PySem.W.exmOne X.K (.ref C') (.ref a) = some k := fun c' C' k e2 e3 => o.st.exm c c' a C' k (List.contains_iff_mem.mp hc) k1 e2 e3
          have hsu : ∀ i, SuM r X (b :: su) (fun m y => hSs (hS S N sc i m y 100) (b :: su)) := fun i r' m y a' oe cls dd pn eR hz hf hl => hSs_ok (hS_ok (pn := pn) ⟨o, eR, hz, hf, hl⟩ 100) _
          cases n' with
          | none =>
            simp only [Option.map_eq_some_iff] at e
            obtain ⟨l', e2, rfl⟩ := e
            exact .cons ⟨o.gl h.2, h1, .inl k2⟩ trivial (hsu none) hex (dHd_ok o e2)
          | some nm =>
            simp only at e
            split at e
            · rename_i hl
              simp only [Option.bind_eq_some_iff, Option.map_eq_some_iff] at e
              obtain ⟨i, e2, l', e3, rfl⟩ := e
              refine .cons ⟨o.gl h.2, h1, .inl k2⟩ ⟨by rw [o.hN]; exact o.nd, by rw [o.hN]; exact ixOf_get e2, ?_⟩ (hsu (some i)) hex (dHd_ok o e3)
              show X.env.scope.names.lookup nm = _
              rw [o.hsc]; exact hl
            · cases e
        · cases e
      · cases e
    · cases e
theorem dTry_ok (s : Snd S n cm d) (o : Okx S n cm r X W N sc blk) (po : PassesOwn (model X.prog X.w) X.A X.env X.xe) (b : List Stmt) (hs : List ExceptHandler) (p : Pos) : PSm r X W (.Try b hs [] [] p) (dTry S d N sc blk b hs) := by
  unfold dTry
  split
  · rename_i hb
    subst hb
    split
    · exact psm_stuck
    · split
      · rename_i l e
        exact psm_try (o.stk rfl) (o.frm rfl) o.tk (fun r' W' pn xe eR tk po' => dSs_ok s (o.tr eR tk) po' _) (dHd_ok o e)
      · exact psm_stuck
  · exact psm_stuck
theorem stepS_ok (s : Snd S n cm d) (o : Okx S n cm r X W N sc blk) (po : PassesOwn (model X.prog X.w) X.A X.env X.xe) (st : Stmt) : PSm r X W st (stepS S d N sc blk st) := by
  unfold stepS
  split
  · exact psm_pass
  · exact psm_brk
  · exact psm_cont
  · exact psm_retN
  · exact psm_ret (s.e.E _ _ _ _ _ _ _ o)
  · split
    · rename_i h; exact psm_expr (s.e.E _ _ _ _ _ _ _ o) (plain_swaps h)
    · exact psm_stuck
  · exact psm_if (s.e.T _ _ _ _ _ _ _ o) (dSs_ok s o po _) (dSs_ok s o po _)
  · exact psm_while po (s.e.T _ _ _ _ _ _ _ o) (dSs_ok s o po _)
  · split
    · rename_i h; exact psm_for po o.calm (dI_ok s.e o _ _) (dG_ok s.e o _) (dSs_ok s o po _) (noSet_fold h)
    · exact psm_stuck
  · exact dAsg_ok s o _ _ _
  · exact dRaise_ok s o _ _ _ _ _
  · exact dTry_ok s o po _ _ _
  · exact psm_stuck
end

/-! ### the meaning of a text -/
def den (S : Stat) (cm : CM) : Nat → Dn
  | 0 => ⟨fun _ _ _ _ => wStuck, fun _ _ _ _ => wtStuck, fun _ _ _ _ => wsStuck⟩
  | k + 1 => ⟨stepE S cm (den S cm k), stepT S cm (den S cm k), stepS S (den S cm k)⟩
theorem den_ok {S : Stat} {n : Nat} {cm : CM} : ∀ k, Snd S n cm (den S cm k)
  | 0 => ⟨⟨fun _ _ _ _ _ _ _ _ => pem_stuck, fun _ _ _ _ _ _ _ _ => ptm_stuck⟩, fun _ _ _ _ _ _ _ _ _ => psm_stuck⟩
  | k + 1 =>
    have ih := den_ok k
    ⟨⟨fun r X W N sc blk e o => stepE_ok ih.e o e, fun r X W N sc blk e o => stepT_ok ih.e o e⟩, fun r X W N sc blk st o po => stepS_ok ih o po st⟩
end Mi
namespace Mi
open PySem PySem.Spec L2

/-! ### the meanings of all defs, by the depth of calls -/
def cmAt (S : Stat) : Nat → CM
  | 0 => fun _ => none
  | n + 1 => fun j => (S.fns[j]?).map fun f => runM f.ps.length f.N.length (dSs (den S (cmAt S n) 100) f.N f.sc false f.body)
/-- a def of the program -/
structure FnFact (K : PySem.W.Frag) (f : FnI) (a : Addr) : Prop where
  go : ∃ (name qual : Str) (params : Arguments) (dV kV doc pm cdv ct oc : Value) (an od : Option Addr) (osl : Array (Option Value)),
    K.lookup a = some ⟨oc, od, .func (PySem.W.fnOf name qual params f.body f.sc dV kV doc pm an cdv ct), osl⟩ ∧ PySem.W.codeIn K cdv qual = true ∧
    (∀ us : List Value, us.length = f.ps.length → bindArgs (PySem.W.fnOf name qual params f.body f.sc dV kV doc pm an cdv ct) ⟨us, []⟩ = pure (f.ps.zip us))
  sc : FnScope f.N f.ps f.sc
  kp : PySem.W.keepIn K (.ref a) = true
/-- an exception class of the program: its __init__'s text -/
structure ExFact (P : Program) (K : PySem.W.Frag) (mg : Str → Option Value) (R : Rt) (c np : Nat) (fl : ExF) : Prop where
  go : ∃ (C cc cda f : Addr) (B newId initId : String) (bm : List Value) (name qual : Str) (params : Arguments) (rest : List Stmt) (scope : Scope) (x0 : Str) (N : List Str) (p0 p1 p2 p3 p4 p5 : Pos) (t : Str) (kk : Nat),
    R.cls c = some C ∧ BaseF B newId initId bm ∧ ExcK K C bm newId ∧ PySem.W.findIn K (.ref C) "__init__" = some (some (.ref f)) ∧ PySem.W.typeIn K (.ref f) = some (.type "function") ∧
    SupK K P mg C cc cda f B newId initId bm name qual params (.Expr (.Call (.Attribute (.Call (.Name "super" p0) [] [] p1) "__init__" p2) [.Constant (.str t) kk p3] [] p4) p5 :: rest) scope x0 ∧
    PySem.W.codeIn K (.ref cda) qual = true ∧ (p2.endLine == p4.line) = true ∧ NdefX.NScope N ((params.posonlyargs ++ params.args).map (·.arg)) ["__class__"] scope ∧ N[0]? = some x0 ∧ mg "tuple" = none ∧ exFl N scope x0 rest = some fl ∧
    (params.posonlyargs ++ params.args).length = np ∧ (∀ q ∈ fl, PySem.W.takerIn K C q.1 = some none) ∧ (∀ q ∈ fl, PySem.W.findIn K (.ref C) q.1 = some none) ∧ fl.length ≤ 800 ∧ np ≤ 1000 ∧
    PySem.W.findIn K (.ref C) "__getattribute__" = some (some (.builtin "BaseException.__getattribute__")) ∧ PySem.W.findIn K (.ref C) "__getattr__" = some none
theorem ExFact.rt {P : Program} {w : World} {K : PySem.W.Frag} {mg : Str → Option Value} {base : Heap} {R : Rt} {k c np : Nat} {fl : ExF} (E : ExFact P K mg R c np fl) : ExcRt P w K mg base R (k + 1) c np fl := by
  obtain ⟨C, cc, cda, f, B, newId, initId, bm, name, qual, params, rest, scope, x0, N, p0, p1, p2, p3, p4, p5, t, kk, e1, e2, e3, e4, e5, e6, e7, e8, e9, e10, e11, e12, e13, e14, e15, e16, e17, e18, e19⟩ := E.go
  obtain ⟨fd, F, hb⟩ := fnE_of (CX := L2.CX P w) (P := P) (w := w) (base := base) (k := k) e2 e3 e6 e7 e8 e9 e10 e11 e12
  exact ⟨C, f, B, newId, initId, bm, fd, N, _, e1, e2, e3, e4, e5, F, hb, by rw [List.length_map]; exact e13, e14, e15, e16, e17, e18, e19⟩
structure StatS (S : Stat) (P : Program) (K : PySem.W.Frag) (mg : Str → Option Value) (R : Rt) : Prop where
  none : ∀ x v, bootBuiltins x = some v → dunN.contains x = false → S.glb.lookup x = none → mg x = none
  gfn : ∀ x j, S.glb.lookup x = some (.fn j) → ∃ a, R.fns j = some a ∧ mg x = some (.ref a)
  gcls : ∀ x c, S.glb.lookup x = some (.cls c) → ∃ a, R.cls c = some a ∧ mg x = some (.ref a)
  gval : ∀ x d, S.glb.lookup x = some (.val d) → ∃ v u, mg x = some u ∧ RelV v u ∧ ∀ g, RepG R g v d
  fn : ∀ j f, S.fns[j]? = some f → ∃ a, R.fns j = some a ∧ FnFact K f a
  ini : ∀ c ci j, S.cls[c]? = some ci → ci.init = some j → ∃ C a, R.cls c = some C ∧ R.fns j = some a ∧ Mk K C a
  mth : ∀ c ci m j C, S.cls[c]? = some ci → ci.mths.lookup m = some j → R.cls c = some C → ∃ a, R.fns j = some a ∧ Cls K C ∧ Meth K C m a ∧ PySem.W.findIn K (.ref C) m = some (some (.ref a)) ∧ PySem.W.isFn K (.ref a) = true ∧ PySem.W.selfFirst K C = true
  ne : ∀ c ci C, S.cls[c]? = some ci → (ci.mths.lookup ("__eq__" : Str)).isSome = true → R.cls c = some C → PySem.W.findIn K (.ref C) "__ne__" = some (some (.builtin "object.__ne__")) ∧ PySem.W.mroIn K C (.type "object") = some true
  isi : IsiRt R K (isEx S) S.isi
  att : ClsRt R K (attrsOf S)
  exs : ∀ c np fl, exOf S c = some (np, fl) → ExFact P K mg R c np fl
  exm : ∀ c c' C C' b, c ∈ S.hcl → R.cls c = some C → R.cls c' = some C' → S.isi (.cls c') (.cls c) = some b → PySem.W.exmOne K (.ref C') (.ref C) = some b
section
variable {S : Stat} {P : Program} {w : World} {K : PySem.W.Frag} {mg : Str → Option Value} {base : Heap} {R : Rt}
theorem statOk_of (T : StatS S P K mg R) {n : Nat} {cm : CM} (h : ∀ j c, cm j = some c → ∃ a np, R.fns j = some a ∧ FnRt P w K mg base R (2 * n + 2) c a np) : StatOk S n cm P w K mg base R where
  none := T.none
  gfn := T.gfn
  gcls := T.gcls
  gval := T.gval
  fns := h
  mks := fun c m e => by
    simp only [mkOf, Option.bind_eq_some_iff] at e
    obtain ⟨j, ⟨ci, e1, e2⟩, e3⟩ := e
    obtain ⟨C, a, k1, k2, k3⟩ := T.ini c ci j e1 e2
    obtain ⟨a', np, k4, F⟩ := h j m e3
    rw [k2] at k4; cases k4
    exact ⟨C, a, np, k1, F, k3⟩
  mth := fun m c C cm' hC e => by
    simp only [mthOf, Option.bind_eq_some_iff] at e
    obtain ⟨j, ⟨ci, e1, e2⟩, e3⟩ := e
    obtain ⟨a, k1, k2, k3, _⟩ := T.mth c ci m j C e1 e2 hC
    obtain ⟨a', np, k4, F⟩ := h j cm' e3
    rw [k1] at k4; cases k4
    exact ⟨a, np, k2, k3, F⟩
  own := fun m => ⟨fun c C cm' hC e => by
    simp only [mthOf, Option.bind_eq_some_iff] at e
    obtain ⟨j, ⟨ci, e1, e2⟩, e3⟩ := e
    obtain ⟨a, k1, k2, k3, k5⟩ := T.mth c ci m j C e1 e2 hC
    obtain ⟨a', np, k4, F⟩ := h j cm' e3
    rw [k1] at k4; cases k4
    exact ⟨a, np, F, k5⟩⟩
  ne := ⟨fun c C hC e => by
    obtain ⟨x, e⟩ := Option.isSome_iff_exists.mp e
    simp only [mthOf, Option.bind_eq_some_iff] at e
    obtain ⟨j, ⟨ci, e1, e2⟩, e3⟩ := e
    exact T.ne c ci C e1 (by rw [e2]; rfl) hC⟩
  isi := T.isi
  att := T.att
  exs := fun c np fl e => (T.exs c np fl e).rt
  exm := T.exm
/-- every def keeps what its text means -/
theorem cmAt_ok (hK : R.K = K) (T : StatS S P K mg R) : ∀ n, ∀ j c, cmAt S n j = some c → ∃ a np, R.fns j = some a ∧ FnRt P w K mg base R (2 * n + 2) c a np
  | 0, j, c, e => by cases e
  | n + 1, j, c, e => by
    have ih := cmAt_ok hK T n
    have ok := statOk_of (P := P) (w := w) (base := base) T ih
    simp only [cmAt, Option.map_eq_some_iff] at e
    obtain ⟨f, ef, rfl⟩ := e
    obtain ⟨a, k1, F⟩ := T.fn j f ef
    obtain ⟨name, qual, params, dV, kV, doc, pm, cdv, ct, oc, an, od, osl, lk, hcd, hb⟩ := F.go
    have key : FnRt P w K mg base R (2 * n + 3 + 1) (runM f.ps.length f.N.length (dSs (den S (cmAt S n) 100) f.N f.sc false f.body)) a f.ps.length := fnRt_of lk hcd F.sc hb F.kp
      (fun r X W e1 e2 e3 e4 e5 e6 e7 e8 e9 e10 e11 e12 e13 e14 e15 e16 => by
        subst e1 e2 e3 e5 e6
        exact dSs_ok (den_ok (n := n) 100) ⟨by rw [e4]; exact ok, by rw [e4, hK], e7, e8, F.sc.kind, e9, fun _ => e10, e11, e12, e15, F.sc.nd, fun _ => e13, fun _ => e14⟩ e16 _)
    exact ⟨a, _, k1, key⟩
end
end Mi
namespace Mi
open PySem PySem.Spec L2

/-! ### the law's call behind the top -/
/-- the script's numbers -/
def scrD (ns : List Int) : D := .rol (ns.map .int)
def bx0 : Bx := fun _ => none
def b0 : Nat → Option Addr := fun _ => none
theorem reps_ints {R : Rt} {F : Hp} {b : Nat → Option Addr} : ∀ ns : List Int, Reps R F b (ns.map V.int) (ns.map D.int)
  | [] => .nil
  | n :: ns => .cons (.int n) (reps_ints ns)
theorem Only.hb {R : Rt} {H : Hp} (h : Only H) : Hb R ⟨H, b0, 0⟩ bx0 H where
  sub := SubH.refl _
  bxs := fun n c e => by cases e
  inj := fun n m a e => absurd rfl e
  top := fun n _ => rfl
  dx := fun a u i e => e
/-- from the law's meaning to its promise -/
theorem sp_law {R : Rt} {K : PySem.W.Frag} (hK : R.K = K) {c : CallM} {ns : List Int} (h : c [scrD ns] bx0 (fun d _ => d = .bl true) (fun _ _ => False)) {H : Hp} {a : Addr} (hO : Only H) (hS : SqL K H a (ns.map V.int)) :
    spI R 1 c [.ref a] H (fun v _ => v = .bl true) (fun _ _ _ => False) := by
  subst hK
  refine ⟨⟨H, b0, 0⟩, bx0, [scrD ns], _, _, rfl, Only.hb hO, .cons (.rol hS (reps_ints ns)) .nil, h, fun g' bx' H' v d bk rv e => ?_, fun g' bx' H' cls dd x bk rx e => e⟩
  subst e
  cases rv
  rfl
open PyProof.Rows hiding St in
theorem callG {P : Program} {w : World} {K : PySem.W.Frag} {mg mb : Str → Option Value} {CX : CXT} {k : Nat} {fa a : Addr} {sp : Sp} {s₁ : Shared} {vs : List Value} {ns : List Int}
    (KX : K.In s₁.heap) (hns : s₁.heap.Ns mainGlobals mg) (hb : s₁.heap.Ns builtinsNs mb) (hbb : ∀ x : Str, x ≠ "__name__" → mb x = bootBuiltins x) (hlim : s₁.heap.NoLimit) (hg : s₁.gens = #[])
    (ha : s₁.heap.get? a = some { cls := .type "list", data := .seq vs.toArray }) (hi : IntsAre vs ns) (hl : ns.length ≤ sizeLine) (hr : Room k callerA)
    (F : ∀ base : Heap, K.In base → ∃ fd ps, FnG P w K mg base CX k fa fd ps sp ∧ Binds K fd ps [])
    (hsp : ∀ H : Hp, Only H → SqL K H a (ns.map V.int) → sp [.ref a] H (fun v _ => v = .bl true) fun _ _ _ => False)
    (hCX : ∀ H e s', CX [] H s₁ (fun _ _ _ => False) e s' → False) :
    codeAny (model P w) callerA (.call (.ref fa) ⟨[.ref a], []⟩) (fun r s' => r = .ok (.ret (.bool true)) ∧ OldK s₁.heap s'.heap ∧ s'.os = s₁.os ∧ AllBare s'.gens) s₁ := by
  have rv := vals_ints hi
  have lenV := hi.length
  have core : ∀ H : Hp, Only H → SqL K H a (ns.map V.int) → HOk P w H s₁.heap → (∀ b, H b ≠ none → b = a) → (H a ≠ none → K.lookup a = none) →
      codeAny (model P w) callerA (.call (.ref fa) ⟨[.ref a], []⟩) (fun r s' => r = .ok (.ret (.bool true)) ∧ OldK s₁.heap s'.heap ∧ s'.os = s₁.os ∧ AllBare s'.gens) s₁ := by
    intro H hO hS hok hA hK
    have bof : ∀ {b : Addr} {o : Obj}, s₁.heap.get? b = some o → H b = none → (hidT s₁.heap H).get? b = some o := fun e n => hidT_get e n
    have noA : ∀ {b : Addr} {o : Obj} {es : Array DictEntry} {ep : Nat}, s₁.heap.get? b = some o → o.data = .dict es ep → H b = none := fun {b o es ep} e d => by
      cases q : H b with
      | none => rfl
      | some u =>
        have e' : b = a := hA b (by rw [q]; simp)
        subst e'
        rw [ha] at e; cases e
        cases (show Data.seq vs.toArray _ = Data.dict es ep from d)
    have nsK : ∀ {b : Addr} {m : Str → Option Value}, s₁.heap.Ns b m → (hidT s₁.heap H).Ns b m := fun {b m} ⟨o, es, ep, e, d, r⟩ => ⟨o, es, ep, bof e (noA e d), d, r⟩
    have hKb : K.In (hidT s₁.heap H) := fun b o e => bof (KX b o e) (by
      cases q : H b with
      | none => rfl
      | some u =>
        have e' : b = a := hA b (by rw [q]; simp)
        subst e'
        rw [hK (by rw [q]; simp)] at e; cases e)
    have hM : Mod K mg (hidT s₁.heap H) := ⟨hKb, nsK hns, ⟨mb, nsK hb, hbb⟩, let ⟨mc, h1, h2⟩ := hlim; ⟨mc, nsK h1, h2⟩⟩
    have e0 : Env0 P w K mg (hidT s₁.heap H) callerA [] s₁ H := ⟨rfl, hM, fun b o e => of_hidT e, Nat.le_of_eq (hidT_size _ _), trivial, fun b hb => absurd (show b ∈ ([] : List Addr) from hb) (by simp), hok, .of_eq hg⟩
    obtain ⟨fd, ps, FG, bd⟩ := F _ hKb
    have q0 := hsp H hO hS
    have hps := FG.len _ _ _ _ q0
    have bnd : BindsTo s₁ fd ⟨[.ref a], []⟩ (ps.zip [.ref a]) := by
      have := bd s₁ [.ref a] KX (by simpa using hps)
      simpa using this
    refine codeAny_mono (FG.run callerA [] s₁ H ⟨[.ref a], []⟩ [.ref a] [.ref a] _ _ hr rfl e0 bnd (.cons rfl .nil) q0) fun r s' h => ?_
    cases r with
    | error e => exact (hCX H e s' h).elim
    | ok fl =>
      cases fl with
      | next => exact False.elim h
      | brk => exact False.elim h
      | cont => exact False.elim h
      | ret u =>
        obtain ⟨v, H', os, bare, un, hok', r', q⟩ := h
        obtain rfl : v = .bl true := q
        obtain rfl : u = Value.bool true := r'
        refine ⟨rfl, OldK.of_keep fun b o e => ?_, os, bare⟩
        cases q : H b with
        | none => exact un.keep b o e q (by intro z; exact absurd (show b ∈ ([] : List Addr) from z) (by simp)) (by simp)
        | some u =>
          rcases hO b with z | ⟨ob, xs, z⟩
          · rw [q] at z; cases z
          · have z2 := un.frzs b ob _ z
            obtain ⟨e1, _⟩ := hok b _ z
            obtain ⟨e2, _⟩ := hok' b _ z2
            rw [e] at e1; cases e1
            exact e2
  cases hk : K.lookup a with
  | some o =>
    have e := KX a o hk
    rw [ha] at e
    cases e
    refine core (fun _ => none) (fun _ => .inl rfl) (.inr ⟨_, vs.toArray, _, hk, rfl, rfl, rfl, by rw [List.size_toArray, lenV]; exact hl, by simpa using rv⟩) (fun b u z => ?_) (fun b z => absurd rfl z) fun z => absurd rfl z
    cases (show (none : Option HO) = some u from z)
  | none =>
    refine core (fun b => if b = a then some (.frz { cls := .type "list", data := .seq vs.toArray } (.lst (ns.map V.int))) else none) (fun b => ?_) (.inl (.inr ⟨{ cls := .type "list", data := .seq vs.toArray }, if_pos rfl⟩)) (fun b u z => ?_) (fun b z => ?_) fun _ => hk
    · by_cases hb : b = a
      · exact .inr ⟨_, _, if_pos hb⟩
      · exact .inl (if_neg hb)
    · by_cases hb : b = a
      · have z' := (if_pos hb).symm.trans z
        cases z'
        subst hb
        exact ⟨ha, by rw [List.length_map]; exact hl, vs, _, rv, ha⟩
      · cases (if_neg hb).symm.trans z
    · by_cases hb : b = a
      · exact hb
      · exact absurd (if_neg hb) z
open PyProof.Rows hiding St in
/-- the goal that the head leaves, from the meanings of the program's defs -/
theorem walkI {l : PySem.W.OpenLaw} {q : Program} {loose : List Str} {XP : (Str → Option Value) → Heap → Prop} {YP : World → Heap → Prop} {d : DefRec} {K : Params → PySem.W.Frag} {S : Stat} {j n : Nat} {c : CallM}
    (hn : l.most = some 63) (hdf : d.params.defaults = []) (hr : Room (2 * n + 2) callerA) (hY : ∀ (w : World) (h : Heap), YP w h → (K w.params).In h) (hc : cmAt S n j = some c)
    (hT : ∀ (w : World) (mg : Str → Option Value) (fa : Addr) (h : Heap), (K w.params).In h → h.Ns mainGlobals mg → mg d.name = some (.ref fa) → ∃ R : Rt, R.K = K w.params ∧ StatS S l.prog (K w.params) mg R ∧ R.fns j = some fa)
    (law : ∀ ns : List Int, ns.length ≤ 63 → c [scrD ns] bx0 (fun d _ => d = .bl true) (fun _ _ => False)) :
    PySem.W.WalkO q loose XP YP l.row.toRowW d [] (fun f vs => PySem.call f vs) := by
  refine Att.attach_call hn hdf fun w s₀ s₁ mg mb fa o pm cd doc a vs ns G Y ho hd hcd hmg hobj hints hlen hg => ?_
  have KX := hY w _ Y
  obtain ⟨R, hK, T, hj⟩ := hT w mg fa _ KX G.T.g hmg
  refine callG (k := 2 * n + 2) (CX := L2.CX l.prog w) (sp := spI R 1 c) KX G.T.g G.T.b G.T.builtins G.T.nolimit hg hobj hints (Nat.le_trans hlen (by rw [sizeLine_eq]; decide)) hr (fun base hb => ?_) (fun H hO hS => sp_law hK (law ns hlen) hO hS) fun H e s' z => ?_
  · obtain ⟨a', np, k1, F⟩ := cmAt_ok (P := l.prog) (w := w) (base := base) hK T n j c hc
    rw [hj] at k1; cases k1
    have e1 : np = 1 := by
      have := F.len [scrD []] bx0 _ _ (law [] (by simp))
      simpa using this.symm
    subst e1
    obtain ⟨fd, ps, FG, bd⟩ := F.ok
    exact ⟨fd, ps, FG, bd⟩
  · obtain ⟨_, _, _, _, _, _, _, _, _, _, _, _, z⟩ := z
    exact z
end Mi
namespace Mi
open PySem PySem.Spec L2

/-! ### plain parameters -/
theorem lookup_zip_mem : ∀ {ps : List Str} {us : List Value}, ps.Nodup → us.length = ps.length → ps.filterMap (fun n => ((ps.zip us).lookup n).map (n, ·)) = ps.zip us
  | [], us, _, _ => rfl
  | p :: ps, [], nd, hl => by cases hl
  | p :: ps, u :: us, nd, hl => by
    have n1 := List.nodup_cons.mp nd
    have ih := lookup_zip_mem (us := us) n1.2 (by simpa using hl)
    rw [List.zip_cons_cons, List.filterMap_cons]
    simp only [List.lookup, beq_self_eq_true, Option.map_some]
    congr 1
    rw [← ih]
    have key : ∀ l : List Str, (∀ n ∈ l, n ≠ p) → l.filterMap (fun n => ((match n == p with | true => some u | false => (ps.zip us).lookup n) : Option Value).map (n, ·)) = l.filterMap (fun n => ((ps.zip us).lookup n).map (n, ·)) := by
      intro l
      induction l with
      | nil => intro _; rfl
      | cons y l il =>
        intro hy
        have : (y == p) = false := by rw [beq_eq_false_iff_ne]; exact hy y List.mem_cons_self
        rw [List.filterMap_cons, List.filterMap_cons, il fun n hn => hy n (List.mem_cons_of_mem _ hn)]
        simp only [this]
    have k2 := key ps fun n hn z => n1.1 (z ▸ hn)
    rw [ih] at k2 ⊢
    exact k2
theorem zip_isNone : ∀ {ps : List Str} {us : List Value}, us.length = ps.length → ∀ n ∈ ps, ((ps.zip us).lookup n).isNone = false
  | [], us, _, n, hn => by cases hn
  | p :: ps, [], hl, n, hn => by cases hl
  | p :: ps, u :: us, hl, n, hn => by
    rw [List.zip_cons_cons]
    simp only [List.lookup]
    cases q : n == p with
    | true => rfl
    | false =>
      rcases List.mem_cons.mp hn with rfl | hn
      · simp at q
      · exact zip_isNone (by simpa using hl) n hn
theorem seq_none : seqItems? Value.none = pure none := by rfl
theorem bind_plain {fd : FuncData} {ps : List Str} (h1 : fd.params.posonlyargs = []) (h2 : fd.params.kwonlyargs = []) (h3 : fd.params.vararg = none) (h4 : fd.params.kwarg = none) (h5 : fd.defaults = .none) (hp : fd.params.args.map (·.arg) = ps) (nd : ps.Nodup) (us : List Value) (hl : us.length = ps.length) :
    bindArgs fd ⟨us, []⟩ = pure (ps.zip us) := by
  unfold bindArgs
  simp only [h1, h2, h3, h4, h5, hp, seq_none]
  have e1 : ps.filterMap (fun n => ((ps.zip us).lookup n).map (n, ·)) = ps.zip us := lookup_zip_mem nd hl
  have e2 : ps.filter (fun n => ((ps.zip us).lookup n).isNone) = [] := by
    rw [List.filter_eq_nil_iff]
    intro n hn
    rw [zip_isNone hl n hn]; simp
  simp [hl, e1, e2]
def plainP (ps : List Str) (a : Arguments) (dV : Value) : Bool := a.posonlyargs.isEmpty && a.kwonlyargs.isEmpty && a.vararg.isNone && a.kwarg.isNone && dV == .none && decide (a.args.map (·.arg) = ps) && decide ps.Nodup

/-! ### the addresses, by the names -/
structure Nms where
  /-- a class's global name -/
  cl : List Str
  /-- a def's global name, or its class and its name -/
  fn : List (Option Nat × Str)
def refOf : Option (Option Value) → Option Addr
  | some (some (.ref a)) => some a
  | _ => none
def clA (K : PySem.W.Frag) (nm : Nms) (c : Nat) : Option Addr := (nm.cl[c]?).bind fun x => refOf (PySem.W.nsIn K mainGlobals x)
def fnA (K : PySem.W.Frag) (nm : Nms) (j : Nat) : Option Addr := (nm.fn[j]?).bind fun p => match p.1 with
  | none => refOf (PySem.W.nsIn K mainGlobals p.2)
  | some c => (clA K nm c).bind fun C => refOf (PySem.W.findIn K (.ref C) p.2)
def rtOf (K : PySem.W.Frag) (nm : Nms) : Rt := ⟨K, clA K nm, fnA K nm⟩
theorem refOf_eq {o : Option (Option Value)} {a : Addr} (h : refOf o = some a) : o = some (some (.ref a)) := by
  unfold refOf at h
  split at h
  · cases h; rfl
  · cases h

/-! ### defs -/
/-- the object, with this body and this scope -/
def rebuild (b : List Stmt) (sc : Scope) : Option Obj → Option Obj
  | some ⟨oc, od, .func fd, osl⟩ => some ⟨oc, od, .func (PySem.W.fnOf fd.name fd.qualname fd.params b sc fd.defaults fd.kwdefaults fd.doc fd.pyModule fd.annotations fd.code fd.closureTuple), osl⟩
  | _ => none
def fscB (N P : List Str) (sc : Scope) : Bool := decide (sc.kind = .function) && !sc.isCoroutine && !sc.isGenerator && decide N.Nodup && decide (N.take P.length = P) && P.all (fun x => decide (sc.names.lookup x = some .local) || decide (sc.names.lookup x = some .cell)) && sc.names.all fun y => !decide (y.2 = .free)
theorem fsc_by {N P : List Str} {sc : Scope} (h : fscB N P sc = true) : FnScope N P sc := by
  unfold fscB at h
  simp only [Bool.and_eq_true, Bool.not_eq_true', decide_eq_true_eq, List.all_eq_true, Bool.or_eq_true, decide_eq_false_iff_not] at h
  obtain ⟨⟨⟨⟨⟨⟨h1, h2⟩, h3⟩, h4⟩, h5⟩, h6⟩, h7⟩ := h
  exact ⟨h1, h2, h3, h4, h5, h6, h7⟩
def fnChk (K : PySem.W.Frag) (f : FnI) (a : Addr) : Bool := (match K.lookup a with
  | some ⟨_, _, .func fd, _⟩ => PySem.W.codeIn K fd.code fd.qualname && plainP f.ps fd.params fd.defaults
  | _ => false) && fscB f.N f.ps f.sc && PySem.W.keepIn K (.ref a)
theorem fnFact_of {K : PySem.W.Frag} {f : FnI} {a : Addr} (e : K.lookup a = rebuild f.body f.sc (K.lookup a)) (h : fnChk K f a = true) : FnFact K f a := by
  unfold fnChk at h
  simp only [Bool.and_eq_true] at h
  obtain ⟨⟨h1, h2⟩, h3⟩ := h
  refine ⟨?_, fsc_by h2, h3⟩
  split at h1
  · rename_i oc od fd osl q
    rw [q] at e
    simp only [Bool.and_eq_true] at h1
    obtain ⟨k1, k2⟩ := h1
    unfold plainP at k2
    simp only [Bool.and_eq_true, List.isEmpty_iff, Option.isNone_iff_eq_none, beq_iff_eq, decide_eq_true_eq] at k2
    obtain ⟨⟨⟨⟨⟨⟨p1, p2⟩, p3⟩, p4⟩, p5⟩, p6⟩, p7⟩ := k2
    refine ⟨fd.name, fd.qualname, fd.params, fd.defaults, fd.kwdefaults, fd.doc, fd.pyModule, fd.code, fd.closureTuple, oc, fd.annotations, od, osl, by rw [q, e]; rfl, k1, fun us hl => ?_⟩
    exact bind_plain p1 p2 p3 p4 p5 p6 p7 us hl
  · cases h1
end Mi
namespace Mi
open PySem PySem.Spec L2

/-! ### the facts of the head, by one check -/
def clsOkB (K : PySem.W.Frag) (C : Addr) : Bool := PySem.W.plainGet K C Str.empty && PySem.W.hasDictIn K C && PySem.W.plainOver K C && PySem.W.findIn K (.ref C) "__setattr__" == some (some (.builtin "object.__setattr__"))
theorem clsOk_of {K : PySem.W.Frag} {C : Addr} (h : clsOkB K C = true) : Cls K C := by
  unfold clsOkB at h
  simp only [Bool.and_eq_true, beq_iff_eq] at h
  exact ⟨h.1.1.1, h.1.1.2, h.1.2, h.2⟩
/-- own types and built-in ones: the table -/
def okT (m : Nat) (tys : List String) : Ty → Bool
  | .cls k => decide (k < m)
  | .ty n => tys.contains n
def ancs (up : List (List Ty)) : Ty → List Ty
  | .cls k => .cls k :: up.getD k []
  | .ty n => if n = "bool" then [.ty "bool", .ty "int", .ty "object"] else [.ty n, .ty "object"]
def isAb (ab : List Nat) : Ty → Bool
  | .cls k => ab.contains k
  | .ty _ => false
/-- ab: classes that have no instances of their own -/
def isiF (up : List (List Ty)) (tys : List String) (ab : List Nat) (t c : Ty) : Option Bool := if (okT up.length tys t && okT up.length tys c && !isAb ab t) = true then some (decide (c ∈ ancs up t)) else none
def allT (m : Nat) (tys : List String) : List Ty := (List.range m).map .cls ++ tys.map .ty
theorem allT_of {m : Nat} {tys : List String} {t : Ty} (h : okT m tys t = true) : t ∈ allT m tys := by
  cases t with
  | cls k => exact List.mem_append_left _ (List.mem_map.mpr ⟨k, List.mem_range.mpr (of_decide_eq_true h), rfl⟩)
  | ty n => exact List.mem_append_right _ (List.mem_map.mpr ⟨n, by simpa [okT] using h, rfl⟩)
def valT (K : PySem.W.Frag) (nm : Nms) : Ty → Option Value
  | .ty n => some (.type n)
  | .cls c => (clA K nm c).map .ref
theorem valT_of {K : PySem.W.Frag} {nm : Nms} {t : Ty} {v : Value} (h : RepTy (rtOf K nm) t v) : valT K nm t = some v := by
  cases h with
  | ty n => rfl
  | cls h => show (clA K nm _).map _ = _; rw [show clA K nm _ = some _ from h]; rfl
def isiC (K : PySem.W.Frag) (nm : Nms) (up : List (List Ty)) (tys : List String) (ab : List Nat) : Bool := (allT up.length tys).all fun t => (allT up.length tys).all fun c => match valT K nm t, valT K nm c with
  | some tv, some cv => isAb ab t || PySem.W.kitOne K tv cv == isiF up tys ab t c
  | _, _ => true
def ownC (K : PySem.W.Frag) (C : Addr) : Bool := clsOkB K C && PySem.W.findIn K (.ref C) "__class__" == some (some (.builtin "object.__class__")) && PySem.W.specialIn K (.builtin "object.__class__") "__get__" == some (some (.builtin "getset_descriptor.__get__")) &&
  PySem.W.takesIn K (.builtin "object.__class__") == some true && PySem.W.mroIn K C (.type "object") == some true
def ownEC (K : PySem.W.Frag) (C : Addr) : Bool := (PySem.W.clsIn K C).isSome && PySem.W.findIn K (.ref C) "__getattribute__" == some (some (.builtin "BaseException.__getattribute__")) && PySem.W.findIn K (.ref C) "__getattr__" == some none &&
    PySem.W.subIn K (.ref C) (.type "BaseException") == some true && PySem.W.findIn K (.ref C) "__class__" == some (some (.builtin "object.__class__")) && PySem.W.specialIn K (.builtin "object.__class__") "__get__" == some (some (.builtin "getset_descriptor.__get__")) &&
    PySem.W.takesIn K (.builtin "object.__class__") == some true && PySem.W.mroIn K C (.type "object") == some true
def ownsC (K : PySem.W.Frag) (nm : Nms) (isE : Nat → Bool) (m : Nat) (ab : List Nat) : Bool := (List.range m).all fun c => ab.contains c || match clA K nm c with
  | some C => if isE c = true then ownEC K C else ownC K C
  | none => true
theorem isi_of {K : PySem.W.Frag} {nm : Nms} {up : List (List Ty)} {tys : List String} {ab : List Nat} {isE : Nat → Bool} (h : isiC K nm up tys ab = true) (h2 : ownsC K nm isE up.length ab = true) : IsiRt (rtOf K nm) K isE (isiF up tys ab) where
  go := fun t c b tv cv e rt rc => by
    unfold isiC at h
    rw [List.all_eq_true] at h
    have e' := e
    unfold isiF at e
    split at e
    · rename_i k
      simp only [Bool.and_eq_true, Bool.not_eq_true'] at k
      obtain ⟨k, kn⟩ := k
      have := h t (allT_of k.1)
      rw [List.all_eq_true] at this
      have := this c (allT_of k.2)
      rw [valT_of rt, valT_of rc] at this
      rw [← e']
      simp only [kn, Bool.false_or] at this
      exact beq_iff_eq.mp this
    · cases e
  own := fun c C t b hC hE e => by
    unfold isiF at e
    split at e
    · rename_i k
      simp only [Bool.and_eq_true, Bool.not_eq_true'] at k
      obtain ⟨k, kn⟩ := k
      unfold ownsC at h2
      rw [List.all_eq_true] at h2
      have := h2 c (List.mem_range.mpr (of_decide_eq_true k.1))
      rw [show clA K nm c = some C from hC, show ab.contains c = false from kn, Bool.false_or] at this
      simp only [hE, Bool.false_eq_true, if_false] at this
      unfold ownC at this
      simp only [Bool.and_eq_true, beq_iff_eq] at this
      obtain ⟨⟨⟨⟨a1, a2⟩, a3⟩, a4⟩, a5⟩ := this
      exact ⟨clsOk_of a1, a2, a3, a4, a5⟩
    · cases e
  ownE := fun c C t b hC hE e => by
    unfold isiF at e
    split at e
    · rename_i k
      simp only [Bool.and_eq_true, Bool.not_eq_true'] at k
      obtain ⟨k, kn⟩ := k
      unfold ownsC at h2
      rw [List.all_eq_true] at h2
      have := h2 c (List.mem_range.mpr (of_decide_eq_true k.1))
      rw [show clA K nm c = some C from hC, show ab.contains c = false from kn, Bool.false_or] at this
      simp only [hE, if_true] at this
      unfold ownEC at this
      simp only [Bool.and_eq_true, beq_iff_eq] at this
      obtain ⟨⟨⟨⟨⟨⟨⟨a1, a2⟩, a3⟩, a4⟩, a5⟩, a6⟩, a7⟩, a8⟩ := this
      exact ⟨a1, a2, a3, a4, a5, a6, a7, a8⟩
    · cases e
/-- the classes' makers, methods, attributes -/
def clC (K : PySem.W.Frag) (nm : Nms) (c : Nat) (ci : ClI) : Bool := match clA K nm c with
  | none => false
  | some C => (ci.init.all fun j => match fnA K nm j with
      | some a => PySem.W.makesIn K C && PySem.W.findIn K (.ref C) "__init__" == some (some (.ref a)) && PySem.W.isFn K (.ref a) && PySem.W.keepIn K (.ref C)
      | none => false) &&
    (ci.mths.all fun p => match fnA K nm p.2 with
      | some a => clsOkB K C && PySem.W.findIn K (.ref C) p.1 == some (some (.ref a)) && PySem.W.isFn K (.ref a) && PySem.W.keepIn K (.ref a) && PySem.W.selfFirst K C
      | none => false) &&
    (!(ci.mths.lookup ("__eq__" : Str)).isSome || (PySem.W.findIn K (.ref C) "__ne__" == some (some (.builtin "object.__ne__")) && PySem.W.mroIn K C (.type "object") == some true)) &&
    (ci.attrs.isEmpty || (clsOkB K C && ci.attrs.all fun f => PySem.W.findIn K (.ref C) f == some none))
def clsC (K : PySem.W.Frag) (nm : Nms) (l : List ClI) : Bool := (List.range l.length).all fun c => match l[c]? with
  | some ci => clC K nm c ci
  | none => true
theorem clsC_at {K : PySem.W.Frag} {nm : Nms} {l : List ClI} (h : clsC K nm l = true) {c : Nat} {ci : ClI} (e : l[c]? = some ci) : clC K nm c ci = true := by
  unfold clsC at h
  rw [List.all_eq_true] at h
  have := h c (List.mem_range.mpr (List.getElem?_eq_some_iff.mp e).1)
  rw [e] at this
  exact this
/-- the global names -/
def glC (K : PySem.W.Frag) (nm : Nms) (p : Str × Gv) : Bool := match p.2 with
  | .fn j => (fnA K nm j).isSome && refOf (PySem.W.nsIn K mainGlobals p.1) == fnA K nm j
  | .cls c => (clA K nm c).isSome && refOf (PySem.W.nsIn K mainGlobals p.1) == clA K nm c
  | .val d => match d, PySem.W.nsIn K mainGlobals p.1 with
    | .int i, some (some (.int k _)) => i == k
    | .str x, some (some (.str y _)) => x == y
    | .bl b, some (some (.bool k)) => b == k
    | .non, some (some .none) => true
    | _, _ => false
def keyC (K : PySem.W.Frag) (glb : List (Str × Gv)) : Bool := match K.lookup mainGlobals with
  | some ⟨_, _, .dict es _, _⟩ => es.toList.all fun e => match e.key with
    | .str k _ => (glb.lookup k).isSome || (bootBuiltins k).isNone || dunN.contains k
    | _ => false
  | _ => false
theorem key_of {K : PySem.W.Frag} {glb : List (Str × Gv)} (h : keyC K glb = true) {x : Str} {v : Value} (hb : bootBuiltins x = some v) (hn : dunN.contains x = false) (e : glb.lookup x = none) : PySem.W.nsIn K mainGlobals x = some none := by
  unfold keyC at h
  unfold PySem.W.nsIn
  split at h
  · rename_i oc od es n sl q
    rw [q]
    rw [List.all_eq_true] at h
    have key : ∀ l : List DictEntry, (∀ d ∈ l, d ∈ es.toList) → l.find? (·.key.isStr x) = none ∧ l.any (·.refKey) = false := by
      intro l
      induction l with
      | nil => intro _; exact ⟨rfl, rfl⟩
      | cons d l ih =>
        intro hl
        obtain ⟨i1, i2⟩ := ih fun y hy => hl y (List.mem_cons_of_mem _ hy)
        have hd := h d (hl d List.mem_cons_self)
        split at hd
        · rename_i k t ek
          have hk : d.key.isStr x = false := by
            rw [ek]
            cases q : (Value.str k t).isStr x with
            | false => rfl
            | true =>
              exfalso
              have : k = x := by simpa [Value.isStr] using q
              subst this
              rw [e, hb] at hd
              rw [hn] at hd
              simp at hd
          have hr : d.refKey = false := by unfold DictEntry.refKey; rw [ek]
          exact ⟨by rw [List.find?_cons, hk]; exact i1, by rw [List.any_cons, hr, i2]; rfl⟩
        · cases hd
    obtain ⟨k1, k2⟩ := key es.toList fun _ z => z
    simp only [k1, k2]
    rfl
  · cases h
end Mi
namespace Mi
open PySem PySem.Spec L2

/-! ### own exceptions: the facts by one check -/
structure ExI where
  c : Nat
  le : Bool
  N : List Str
  ps : List Str
  sc : Scope
  body : List Stmt
abbrev SupP := (Pos × Pos × Pos × Pos × Pos × Pos) × Str × Nat × List Stmt
def supOf : List Stmt → Option SupP
  | .Expr (.Call (.Attribute (.Call (.Name n p0) [] [] p1) i p2) [.Constant (.str t) kk p3] [] p4) p5 :: rest => if n = "super" ∧ i = "__init__" then some ((p0, p1, p2, p3, p4, p5), t, kk, rest) else none
  | _ => none
theorem supOf_eq {b : List Stmt} {p0 p1 p2 p3 p4 p5 : Pos} {t : Str} {kk : Nat} {rest : List Stmt} (h : supOf b = some ((p0, p1, p2, p3, p4, p5), t, kk, rest)) :
    b = .Expr (.Call (.Attribute (.Call (.Name "super" p0) [] [] p1) "__init__" p2) [.Constant (.str t) kk p3] [] p4) p5 :: rest := by
  unfold supOf at h
  split at h
  · split at h
    · rename_i q
      obtain ⟨rfl, rfl⟩ := q
      cases h
      rfl
    · cases h
  · cases h
def ccOf (fd : FuncData) : Addr := match fd.closure with
  | [(_, c)] => c
  | _ => 0
def cdOf (fd : FuncData) : Addr := match fd.code with
  | .ref c => c
  | _ => 0
def rebuildX (b : List Stmt) (sc : Scope) : Option Obj → Option Obj
  | some ⟨oc, od, .func fd, osl⟩ => some ⟨oc, od, .func (PySem.W.fnX fd.name fd.qualname fd.params b sc [("__class__", ccOf fd)] fd.defaults fd.kwdefaults fd.doc fd.pyModule fd.annotations (.ref (cdOf fd)) fd.closureTuple), osl⟩
  | _ => none
def exB (le : Bool) : String × String × String × List Value := if le = true then ("LookupError", "LookupError.__new__", "LookupError.__init__", [.type "LookupError", .type "Exception", .type "BaseException", .type "object"]) else ("ValueError", "ValueError.__new__", "ValueError.__init__", [.type "ValueError", .type "Exception", .type "BaseException", .type "object"])
theorem exB_base (le : Bool) : BaseF (exB le).1 (exB le).2.1 (exB le).2.2.1 (exB le).2.2.2 := by
  cases le
  · exact base_VE
  · exact base_LE
def exFn (K : PySem.W.Frag) (nm : Nms) (x : ExI) : Option Addr := (clA K nm x.c).bind fun C => refOf (PySem.W.findIn K (.ref C) "__init__")
def exFd (K : PySem.W.Frag) (P : Program) (C : Addr) (x : ExI) (B initId : String) (fd : FuncData) : Bool :=
  plainP x.ps fd.params fd.defaults && PySem.W.codeIn K (.ref (cdOf fd)) fd.qualname &&
  (match K.lookup (cdOf fd) with
    | some ⟨_, _, .fields vs, _⟩ => (match vs[2]? with | some (Value.str file _) => P.main.file == file | _ => false)
    | _ => false) &&
  (match K.lookup (ccOf fd) with
    | some ⟨_, _, .cell (some (.ref C')), _⟩ => C' == C
    | _ => false)
def exC (K : PySem.W.Frag) (P : Program) (nm : Nms) (np : Nat) (fl : ExF) (x : ExI) : Bool := match clA K nm x.c, exB x.le, supOf x.body, x.ps.head? with
  | some C, (B, newId, initId, bm), some ((_, _, p2, _, p4, _), _, _, rest), some x0 =>
    PySem.W.excInitIn K C bm newId && PySem.W.excOver K C bm && PySem.W.findIn K (.ref C) "__setattr__" == some (some (.builtin "object.__setattr__")) && PySem.W.hasDictIn K C && PySem.W.subIn K (.ref C) (.type "BaseException") == some true &&
    PySem.W.typeIn K (.ref C) == some (.type "type") && PySem.W.keepIn K (.ref C) &&
    (match exFn K nm x with
      | some f => PySem.W.typeIn K (.ref f) == some (.type "function") && (match K.lookup f with
        | some ⟨_, _, .func fd, _⟩ => exFd K P C x B initId fd
        | _ => false)
      | none => false) &&
    PySem.W.mroIn K C (.ref C) == some true && PySem.W.ks_superIn K C C "__init__" == some (some (.builtin initId)) && PySem.W.subIn K (.ref C) (.type B) == some true && PySem.W.nsIn K cStatics "thirdparty.any" == some none &&
    !(P.main.scope.names.lookup ("super" : Str)).isSome && decide (x.sc.names.lookup ("super" : Str) = some .globalImplicit) &&
    (p2.endLine == p4.line) && NdefX.nscB x.N x.ps ["__class__"] x.sc && decide (x.N[0]? = some x0) && decide (exFl x.N x.sc x0 rest = some fl) && decide (x.ps.length = np) &&
    (fl.all fun q => PySem.W.takerIn K C q.1 == some none) && (fl.all fun q => PySem.W.findIn K (.ref C) q.1 == some none) && decide (fl.length ≤ 800) && decide (np ≤ 1000) &&
    PySem.W.findIn K (.ref C) "__getattribute__" == some (some (.builtin "BaseException.__getattribute__")) && PySem.W.findIn K (.ref C) "__getattr__" == some none
  | _, _, _, _ => false
theorem exFact_of {K : PySem.W.Frag} {P : Program} {nm : Nms} {mg : Str → Option Value} {np : Nat} {fl : ExF} {x : ExI} (h : exC K P nm np fl x = true) (e : ∀ f, exFn K nm x = some f → K.lookup f = rebuildX x.body x.sc (K.lookup f)) (hs : mg "super" = none) (ht : mg "tuple" = none) :
    ExFact P K mg (rtOf K nm) x.c np fl := by
  unfold exC at h
  split at h
  · rename_i C B newId initId bm p0 p1 p2 p3 p4 p5 t kk rest x0 hC hB hS hx
    have BF := exB_base x.le
    rw [hB] at BF
    simp only [Bool.and_eq_true, beq_iff_eq, decide_eq_true_eq, Bool.not_eq_true', List.all_eq_true] at h
    obtain ⟨⟨⟨⟨⟨⟨⟨⟨⟨⟨⟨⟨⟨⟨⟨⟨⟨⟨⟨⟨⟨⟨⟨⟨a1, a2⟩, a3⟩, a4⟩, a5⟩, a6⟩, a7⟩, a8⟩, a9⟩, a10⟩, a11⟩, a12⟩, a13⟩, a14⟩, a15⟩, a16⟩, a17⟩, a18⟩, a19⟩, a20⟩, a21⟩, a22⟩, a23⟩, a24⟩, a25⟩ := h
    split at a8
    · rename_i f ef
      simp only [Bool.and_eq_true, beq_iff_eq] at a8
      obtain ⟨b1, b2⟩ := a8
      have e' := e f ef
      have hf : PySem.W.findIn K (.ref C) "__init__" = some (some (.ref f)) := by
        unfold exFn at ef
        rw [hC] at ef
        exact refOf_eq ef
      split at b2
      · rename_i oc od fd osl q
        rw [q] at e'
        unfold exFd at b2
        simp only [Bool.and_eq_true] at b2
        obtain ⟨⟨⟨c1, c2⟩, c3⟩, c4⟩ := b2
        unfold plainP at c1
        simp only [Bool.and_eq_true, List.isEmpty_iff, Option.isNone_iff_eq_none, beq_iff_eq, decide_eq_true_eq] at c1
        obtain ⟨⟨⟨⟨⟨⟨d1, d2⟩, d3⟩, d4⟩, d5⟩, d6⟩, d7⟩ := c1
        have hp : (fd.params.posonlyargs ++ fd.params.args).map (·.arg) = x.ps := by rw [d1, List.nil_append]; exact d6
        have hl : (fd.params.posonlyargs ++ fd.params.args).length = x.ps.length := by rw [← hp, List.length_map]
        refine ⟨C, ccOf fd, cdOf fd, f, B, newId, initId, bm, fd.name, fd.qualname, fd.params, rest, x.sc, x0, x.N, p0, p1, p2, p3, p4, p5, t, kk, hC, BF, ⟨a1, a2, a3, a4, a5, a6, a7⟩, hf, b1, ?_, c2, by simpa using a15, by rw [hp]; exact NdefX.nscope_by a16, a17, ht, a18, by rw [hl]; exact a19, a20, a21, a22, a23, a24, a25⟩
        rw [← supOf_eq hS]
        have NS := NdefX.nscope_by a16
        refine ⟨⟨oc, fd.defaults, fd.kwdefaults, fd.doc, fd.pyModule, fd.closureTuple, fd.annotations, od, osl, by rw [q, e']; rfl, fun us hu => ?_⟩, ?_, ?_, a9, a10, a11, a12, hs, a13, ?_, a14, NS.frk _ (by simp), NS.par _ (List.mem_of_mem_head? hx), NS.kind⟩
        · rw [hp]
          exact bind_plain d1 d2 d3 d4 d5 d6 d7 us (by rw [hu, hl])
        · split at c3
          · rename_i ccl cdd vs ccs q1
            split at c3
            · rename_i file tf q2
              exact ⟨ccl, cdd, vs, ccs, file, tf, q1, q2, c3⟩
            · cases c3
          · cases c3
        · split at c4
          · rename_i cl cld C' csl q1
            rw [beq_iff_eq] at c4
            subst c4
            exact ⟨cl, cld, csl, q1⟩
          · cases c4
        · rw [← hp] at hx
          rw [List.head?_map] at hx
          obtain ⟨ar, k1, k2⟩ := Option.map_eq_some_iff.mp hx
          exact ⟨ar, k1, k2⟩
      · cases b2
    · cases a8
  · cases h
end Mi
namespace Mi
open PySem PySem.Spec L2

/-! ### the head's facts, all -/
structure Hd where
  nm : Nms
  exs : List ExI
  up : List (List Ty)
  tys : List String
  ab : List Nat
def fnsC (K : PySem.W.Frag) (nm : Nms) (l : List FnI) : Bool := l.zipIdx.all fun p => match fnA K nm p.2 with
  | some a => fnChk K p.1 a
  | none => false
def exsC (K : PySem.W.Frag) (P : Program) (S : Stat) (hd : Hd) : Bool := (List.range S.cls.length).all fun c => match exOf S c with
  | none => true
  | some (np, fl) => hd.exs.any fun x => decide (x.c = c) && exC K P hd.nm np fl x
/-- the classes of except clauses -/
def exmC (K : PySem.W.Frag) (S : Stat) (hd : Hd) : Bool := S.hcl.all fun c => (List.range hd.up.length).all fun c' => match clA K hd.nm c, clA K hd.nm c' with
  | some C, some C' => match S.isi (.cls c') (.cls c) with
    | some b => PySem.W.exmOne K (.ref C') (.ref C) == some b
    | none => true
  | _, _ => true
theorem exmC_at {K : PySem.W.Frag} {S : Stat} {hd : Hd} (hi : S.isi = isiF hd.up hd.tys hd.ab) (h : exmC K S hd = true) {c c' : Nat} {C C' : Addr} {b : Bool} (hc : c ∈ S.hcl) (h1 : clA K hd.nm c = some C) (h2 : clA K hd.nm c' = some C') (e : S.isi (.cls c') (.cls c) = some b) : PySem.W.exmOne K (.ref C') (.ref C) = some b := by
  unfold exmC at h
  have hr : c' < hd.up.length := by
    rw [hi] at e
    unfold isiF at e
    split at e
    · rename_i q
      simp only [Bool.and_eq_true] at q
      exact of_decide_eq_true q.1.1
    · cases e
  have := List.all_eq_true.mp (List.all_eq_true.mp h c hc) c' (List.mem_range.mpr hr)
  rw [h1, h2, e] at this
  simpa using this
def stC (K : PySem.W.Frag) (P : Program) (S : Stat) (hd : Hd) : Bool :=
  isiC K hd.nm hd.up hd.tys hd.ab && ownsC K hd.nm (isEx S) hd.up.length hd.ab && clsC K hd.nm S.cls && S.glb.all (glC K hd.nm) && keyC K S.glb && fnsC K hd.nm S.fns && exsC K P S hd && (S.glb.lookup ("super" : Str)).isNone && (S.glb.lookup ("tuple" : Str)).isNone && exmC K S hd
def fnObj (K : PySem.W.Frag) (nm : Nms) (j : Nat) : Option Obj := (fnA K nm j).bind fun a => List.lookup a K
def exObj (K : PySem.W.Frag) (nm : Nms) (x : ExI) : Option Obj := (exFn K nm x).bind fun a => List.lookup a K
structure HdOk (K : PySem.W.Frag) (P : Program) (S : Stat) (hd : Hd) : Prop where
  isi : S.isi = isiF hd.up hd.tys hd.ab
  ck : stC K P S hd = true
  fn : S.fns.zipIdx.map (fun p => fnObj K hd.nm p.2) = S.fns.zipIdx.map (fun p => rebuild p.1.body p.1.sc (fnObj K hd.nm p.2))
  ex : hd.exs.map (fun x => exObj K hd.nm x) = hd.exs.map (fun x => rebuildX x.body x.sc (exObj K hd.nm x))
theorem statS_of {K : PySem.W.Frag} {P : Program} {S : Stat} {hd : Hd} {mg : Str → Option Value} {h : Heap} (T : HdOk K P S hd) (KX : K.In h) (G : h.Ns mainGlobals mg) : StatS S P K mg (rtOf K hd.nm) := by
  have ck := T.ck
  unfold stC at ck
  simp only [Bool.and_eq_true, Option.isNone_iff_eq_none] at ck
  obtain ⟨⟨⟨⟨⟨⟨⟨⟨⟨c1, c2⟩, c3⟩, c4⟩, c5⟩, c6⟩, c7⟩, c8⟩, c9⟩, c10⟩ := ck
  rw [List.all_eq_true] at c4
  have hmem : ∀ {l : List (Str × Gv)} {x : Str} {g : Gv}, l.lookup x = some g → (x, g) ∈ l := by
    intro l x g
    induction l with
    | nil => intro h; cases h
    | cons p l ih =>
      intro h
      obtain ⟨y, z⟩ := p
      simp only [List.lookup] at h
      split at h
      · rename_i q; cases h; rw [beq_iff_eq.mp q]; exact List.mem_cons_self
      · exact List.mem_cons_of_mem _ (ih h)
  have hmem2 : ∀ {l : List (Str × Nat)} {x : Str} {g : Nat}, l.lookup x = some g → (x, g) ∈ l := by
    intro l x g
    induction l with
    | nil => intro h; cases h
    | cons p l ih =>
      intro h
      obtain ⟨y, z⟩ := p
      simp only [List.lookup] at h
      split at h
      · rename_i q; cases h; rw [beq_iff_eq.mp q]; exact List.mem_cons_self
      · exact List.mem_cons_of_mem _ (ih h)
  have hnone : ∀ x v, bootBuiltins x = some v → dunN.contains x = false → S.glb.lookup x = none → mg x = none := fun x v hb hn e => PySem.W.mg_none_of KX G (key_of c5 hb hn e)
  refine { none := hnone, gfn := ?_, gcls := ?_, gval := ?_, fn := ?_, ini := ?_, mth := ?_, ne := ?_, isi := ?_, att := ?_, exs := ?_, exm := fun c c' C C' b h h1 h2 h3 => exmC_at T.isi c10 h h1 h2 h3 }
  · intro x j e
    have := c4 _ (hmem e)
    simp only [glC, Bool.and_eq_true, beq_iff_eq] at this
    obtain ⟨k1, k2⟩ := this
    obtain ⟨a, ha⟩ := Option.isSome_iff_exists.mp k1
    rw [ha] at k2
    exact ⟨a, ha, PySem.W.mg_of KX G (refOf_eq k2)⟩
  · intro x c e
    have := c4 _ (hmem e)
    simp only [glC, Bool.and_eq_true, beq_iff_eq] at this
    obtain ⟨k1, k2⟩ := this
    obtain ⟨a, ha⟩ := Option.isSome_iff_exists.mp k1
    rw [ha] at k2
    exact ⟨a, ha, PySem.W.mg_of KX G (refOf_eq k2)⟩
  · intro x d e
    have := c4 _ (hmem e)
    simp only [glC] at this
    split at this
    · rename_i i k t q
      rw [beq_iff_eq] at this; subst this
      exact ⟨.int i, _, PySem.W.mg_of KX G q, ⟨t, rfl⟩, fun g => .int i⟩
    · rename_i i k t q
      rw [beq_iff_eq] at this; subst this
      exact ⟨.str i, _, PySem.W.mg_of KX G q, ⟨t, rfl⟩, fun g => .str i⟩
    · rename_i i k q
      rw [beq_iff_eq] at this; subst this
      exact ⟨.bl i, _, PySem.W.mg_of KX G q, rfl, fun g => .bl i⟩
    · rename_i q
      exact ⟨.non, _, PySem.W.mg_of KX G q, rfl, fun g => .non⟩
    · cases this
  · intro j f e
    unfold fnsC at c6
    rw [List.all_eq_true] at c6
    have hm : (f, j) ∈ S.fns.zipIdx := by rw [List.mem_zipIdx_iff_getElem?]; exact e
    have := c6 _ hm
    have e2 := List.map_inj_left.mp T.fn _ hm
    simp only [fnObj] at e2 this
    split at this
    · rename_i a ha
      rw [ha] at e2
      exact ⟨a, ha, fnFact_of e2 this⟩
    · cases this
  · intro c ci j e1 e2
    have := clsC_at c3 e1
    unfold clC at this
    split at this
    · cases this
    · rename_i C hC
      simp only [Bool.and_eq_true] at this
      obtain ⟨⟨⟨k1, _⟩, _⟩, _⟩ := this
      rw [e2, Option.all_some] at k1
      split at k1
      · rename_i a ha
        simp only [Bool.and_eq_true, beq_iff_eq] at k1
        obtain ⟨⟨⟨m1, m2⟩, m3⟩, m4⟩ := k1
        exact ⟨C, a, hC, ha, m1, m2, m3, m4⟩
      · cases k1
  · intro c ci m j C e1 e2 hC'
    have := clsC_at c3 e1
    unfold clC at this
    split at this
    · cases this
    · rename_i C1 hC
      rw [show clA K hd.nm c = some C from hC'] at hC; cases hC
      simp only [Bool.and_eq_true] at this
      obtain ⟨⟨⟨_, k1⟩, _⟩, _⟩ := this
      rw [List.all_eq_true] at k1
      have k1 := k1 _ (hmem2 e2)
      split at k1
      · rename_i a ha
        simp only [Bool.and_eq_true, beq_iff_eq] at k1
        obtain ⟨⟨⟨⟨m1, m2⟩, m3⟩, m4⟩, m5⟩ := k1
        exact ⟨a, ha, clsOk_of m1, ⟨m2, m3, m4⟩, m2, m3, m5⟩
      · cases k1
  · intro c ci C e1 e2 hC'
    have := clsC_at c3 e1
    unfold clC at this
    split at this
    · cases this
    · rename_i C1 hC
      rw [show clA K hd.nm c = some C from hC'] at hC; cases hC
      simp only [Bool.and_eq_true] at this
      obtain ⟨⟨_, k1⟩, _⟩ := this
      rw [e2] at k1
      simpa using k1
  · rw [T.isi]; exact isi_of c1 c2
  · have key : ∀ c C, (rtOf K hd.nm).cls c = some C → ∀ f ∈ attrsOf S c, clsOkB K C = true ∧ PySem.W.findIn K (.ref C) f = some none := by
      intro c C hC' f hf
      unfold attrsOf at hf
      split at hf
      · rename_i ci e1
        have := clsC_at c3 e1
        unfold clC at this
        split at this
        · cases this
        · rename_i C1 hC
          rw [show clA K hd.nm c = some C from hC'] at hC; cases hC
          simp only [Bool.and_eq_true] at this
          obtain ⟨_, k1⟩ := this
          rcases Bool.or_eq_true_iff.mp k1 with k1 | k1
          · rw [List.isEmpty_iff] at k1; rw [k1] at hf; cases hf
          · simp only [Bool.and_eq_true, List.all_eq_true, beq_iff_eq] at k1
            exact ⟨k1.1, k1.2 f hf⟩
      · cases hf
    refine ⟨fun c C hC hne => ?_, fun c C f hC hf => (key c C hC f hf).2⟩
    obtain ⟨f, hf⟩ := List.exists_mem_of_ne_nil _ hne
    exact clsOk_of (key c C hC f hf).1
  · intro c np fl e
    unfold exsC at c7
    rw [List.all_eq_true] at c7
    have hc : c < S.cls.length := by
      unfold exOf at e
      obtain ⟨ci, e1, _⟩ := Option.bind_eq_some_iff.mp e
      exact (List.getElem?_eq_some_iff.mp e1).1
    have := c7 c (List.mem_range.mpr hc)
    rw [e] at this
    simp only [List.any_eq_true, Bool.and_eq_true, decide_eq_true_eq] at this
    obtain ⟨x, hx, rfl, k⟩ := this
    have e2 := List.map_inj_left.mp T.ex x hx
    refine exFact_of k (fun f hf => ?_) (hnone _ _ boot_super (by decide) c8) (hnone _ _ PyProof.Rows.boot_tuple (by decide) c9)
    simp only [exObj] at e2
    rw [hf] at e2
    exact e2
/-- the whole walk -/
theorem walkS {l : PySem.W.OpenLaw} {q : Program} {loose : List Str} {XP : (Str → Option Value) → Heap → Prop} {YP : World → Heap → Prop} {d : DefRec} {K : Params → PySem.W.Frag} {S : Stat} {hd : Hd} {j n : Nat} {c : CallM}
    (hn : l.most = some 63) (hdf : d.params.defaults = []) (hr : Room (2 * n + 2) callerA) (hY : ∀ (w : World) (h : Heap), YP w h → (K w.params).In h) (hc : cmAt S n j = some c) (hj : S.glb.lookup d.name = some (.fn j))
    (hT : ∀ p : Params, HdOk (K p) l.prog S hd)
    (law : ∀ ns : List Int, ns.length ≤ 63 → c [scrD ns] bx0 (fun d _ => d = .bl true) (fun _ _ => False)) :
    PySem.W.WalkO q loose XP YP l.row.toRowW d [] (fun f vs => PySem.call f vs) :=
  walkI hn hdf hr hY hc (fun w mg fa h KX G e => by
    have T := statS_of (hT w.params) KX G
    obtain ⟨a, k1, k2⟩ := T.gfn _ _ hj
    rw [e] at k2
    cases k2
    exact ⟨rtOf (K w.params) hd.nm, rfl, T, k1⟩) law
end Mi
namespace Mi
open PySem PySem.Spec L2

/-! ### words for the printed terms -/
def findDef : List Stmt → Str → List Stmt × Scope
  | [], _ => ([], default)
  | .FunctionDef (name := n) (body := b) (scope := sc) .. :: r, x => if n = x then (b, sc) else findDef r x
  | _ :: r, x => findDef r x
def findMth : List Stmt → Str → Str → List Stmt × Scope
  | [], _, _ => ([], default)
  | .ClassDef (name := n) (body := b) .. :: r, c, x => if n = c then findDef b x else findMth r c x
  | _ :: r, c, x => findMth r c x
def callJ (cm : CM) (j : Nat) (m : WA) : WE := match cm j with
  | some c => wCall c m
  | none => wStuck
def makeJ (S : Stat) (cm : CM) (b : Bool) (c : Nat) (ma : WA) : WE := match mkOf S cm c with
  | some m => wMake b c m ma
  | none => wStuck
def bltJ (S : Stat) (cm : CM) (b : Bool) (x : Str) (ma : WA) : WE := match bltC S cm b x with
  | some (_, _, c) => wCall c ma
  | none => wStuck
end Mi
namespace Mi
open PySem PySem.Spec L2

/-! ### operators on plain data, as equations -/
section
variable {S : Stat} {cm : CM} {b : Bool} {bx : Bx} {Q : VQ} {X : XQ} {i j : Int}
theorem bin_add : binC S cm b .Add [.int i, .int j] bx Q X = Q (.int (i + j)) bx := by simp [binC, cSel, clsD, dr, cOp, o2, dAdd, fin]
theorem bin_sub : binC S cm b .Sub [.int i, .int j] bx Q X = Q (.int (i - j)) bx := by simp [binC, cSel, clsD, dr, cOp, o2, dSub, fin]
theorem bin_mul (h : (-(2 ^ 64) < i ∧ i < 2 ^ 64) ∨ (-(2 ^ 64) < j ∧ j < 2 ^ 64)) : binC S cm b .Mult [.int i, .int j] bx Q X = Q (.int (i * j)) bx := by
  simp only [binC, cOp, o2, orO, dMul, dr]
  rw [if_pos (.inr h)]
  simp [fin]
theorem bin_mod (h : j ≠ 0) : binC S cm b .Mod [.int i, .int j] bx Q X = Q (.int (i.fmod j)) bx := by simp [binC, cOp, o2, dMod, fin, h]
theorem bin_div (h : j ≠ 0) (h2 : j.natAbs < 1073741824) : binC S cm b .FloorDiv [.int i, .int j] bx Q X = Q (.int (i.fdiv j)) bx := by simp [binC, cOp, o2, dDiv, fin, h, h2]
theorem cmp_lt : cmpC S cm b .Lt [.int i, .int j] bx Q X = Q (.bl (decide (i < j))) bx := by simp [cmpC, cSel, clsD, dr, cOp, o2, dLt, fin]
theorem cmp_gt : cmpC S cm b .Gt [.int i, .int j] bx Q X = Q (.bl (decide (j < i))) bx := by simp [cmpC, cOp, o2, dGt, fin]
theorem cmp_le : cmpC S cm b .LtE [.int i, .int j] bx Q X = Q (.bl (decide (i ≤ j))) bx := by simp [cmpC, cSel, clsD, dr, cOp, o2, dLe, fin]
theorem cmp_ge : cmpC S cm b .GtE [.int i, .int j] bx Q X = Q (.bl (decide (j ≤ i))) bx := by simp [cmpC, cOp, o2, dGe, fin]
theorem blt_len {sl : Sl} {ma : WA} : bltJ S cm b "len" ma sl bx Q X = wCall (cSel 0 (cOwnLen (mthOf S cm "__len__")) (cOp b dLen)) ma sl bx Q X := rfl
theorem blt_int {sl : Sl} {ma : WA} : bltJ S cm b "int" ma sl bx Q X = wCall (cOp b dInt) ma sl bx Q X := rfl
theorem blt_abs {sl : Sl} {ma : WA} : bltJ S cm b "abs" ma sl bx Q X = wCall (cOp b dAbs) ma sl bx Q X := rfl
theorem blt_repr {sl : Sl} {ma : WA} : bltJ S cm b "repr" ma sl bx Q X = wCall (cOp b dReprA) ma sl bx Q X := rfl
theorem blt_isi {sl : Sl} {ma : WA} : bltJ S cm b "isinstance" ma sl bx Q X = wCall (cOp b (dIsi (isEx S) S.isi)) ma sl bx Q X := rfl
theorem blt_tuple {sl : Sl} {ma : WA} : bltJ S cm b "tuple" ma sl bx Q X = wCall (cOp b dTuple) ma sl bx Q X := rfl
theorem blt_list {sl : Sl} {ma : WA} : bltJ S cm b "list" ma sl bx Q X = wCall (cOp b dList) ma sl bx Q X := rfl
end
end Mi
namespace Mi
open PySem PySem.Spec L2
structure Src (bx : Bx) (b1 b2 : Nat) (cs : List Int) (l m t : Int) : Prop where
  s : bx b1 = some (.dic false [(.str "cells", .box b2), (.str "left", .int l), (.str "mixed", .int m), (.str "turn", .int t)])
  c : bx b2 = some (.lst (cs.map .int))
  ne : b1 ≠ b2
  len : cs.length ≤ 63
section
variable {bx : Bx} {b1 b2 : Nat} {cs : List Int} {l m t : Int}
theorem Src.cells (h : Src bx b1 b2 cs l m t) : dIx bx (.box b1) (.str "cells") = some (.val (.box b2)) := by
  simp only [dIx, dr, h.s]; rfl
theorem Src.left (h : Src bx b1 b2 cs l m t) : dIx bx (.box b1) (.str "left") = some (.val (.int l)) := by
  simp only [dIx, dr, h.s]; rfl
theorem Src.mixed (h : Src bx b1 b2 cs l m t) : dIx bx (.box b1) (.str "mixed") = some (.val (.int m)) := by
  simp only [dIx, dr, h.s]; rfl
theorem Src.turn (h : Src bx b1 b2 cs l m t) : dIx bx (.box b1) (.str "turn") = some (.val (.int t)) := by
  simp only [dIx, dr, h.s]; rfl
theorem Src.putL (h : Src bx b1 b2 cs l m t) (y : Int) : Src (upb bx b1 (.dic false (putD false (.str "left") (.int y) [(.str "cells", .box b2), (.str "left", .int l), (.str "mixed", .int m), (.str "turn", .int t)]))) b1 b2 cs y m t :=
  ⟨by simp [upb]; rfl, by simp [upb, Ne.symm h.ne, h.c], h.ne, h.len⟩
theorem Src.putT (h : Src bx b1 b2 cs l m t) (y : Int) : Src (upb bx b1 (.dic false (putD false (.str "turn") (.int y) [(.str "cells", .box b2), (.str "left", .int l), (.str "mixed", .int m), (.str "turn", .int t)]))) b1 b2 cs l m y :=
  ⟨by simp [upb]; rfl, by simp [upb, Ne.symm h.ne, h.c], h.ne, h.len⟩
end
def pkT (S : Stat) (cm : CM) : WT := (wtAnd (wtB (wOp2 (cmpC S cm false .Lt) (wBin false dIx (wSlot 0) (wC (.str "left"))) (wC (.int 2)))) (wtB (wOp2 (cmpC S cm false .Gt) (bltJ S cm false "len" (wCons (wSlot 2) wNil)) (wC (.int 0)))))
def pkB : WS := (wsSeq (wsAsg (wBm "list" (cOr cPop cPopAt) (wSlot 2) wNil) (wgSub (wSlot 0) (wC (.str "left"))))
  wsSkip)
def pkL (S : Stat) (cm : CM) : WS :=
  (wsSeq (wsAsg (wBin false dIx (wSlot 0) (wC (.str "left"))) (wgName 3))
  (wsSeq (wsIf (wtB (wOp2 (cmpC S cm false .Gt) (wSlot 3) (wC (.int 1)))) (wsSeq (wsAsg (wOp2 (binC S cm false .FloorDiv) (wSlot 3) (wSlot 1)) (wgSub (wSlot 0) (wC (.str "left"))))
  (wsSeq (wsRet (wOp2 (binC S cm false .Mod) (bltJ S cm false "int" (wCons (wSlot 3) wNil)) (wSlot 1)))
  wsSkip)) wsSkip)
  (wsSeq (wsAsg (wOp2 (binC S cm false .Add) (wBin false dIx (wSlot 0) (wC (.str "turn"))) (wC (.int 1))) (wgSub (wSlot 0) (wC (.str "turn"))))
  (wsSeq (wsAsg (wBin false dIx (wSlot 0) (wC (.str "turn"))) (wgName 4))
  (wsSeq (wsAsg (wOp2 (binC S cm false .Mod) (bltJ S cm false "int" (wCons (wOp2 (binC S cm false .Add) (wBin false dIx (wSlot 0) (wC (.str "mixed"))) (wOp2 (binC S cm false .Mult) (wSlot 4) (wC (.int 104729)))) wNil)) (wC (.int 998244353))) (wgName 5))
  (wsSeq (wsAsg (wOp2 (binC S cm false .Mod) (bltJ S cm false "int" (wCons (wOp2 (binC S cm false .Add) (wOp2 (binC S cm false .Mult) (wSlot 5) (wSlot 5)) (wOp2 (binC S cm false .Mult) (wSlot 4) (wC (.int 17)))) wNil)) (wC (.int 2147483647))) (wgName 5))
  (wsSeq (wsRet (wOp2 (binC S cm false .Mod) (bltJ S cm false "int" (wCons (wOp2 (binC S cm false .FloorDiv) (wSlot 5) (wC (.int 16))) wNil)) (wSlot 1)))
  wsSkip)))))))
def tPick (S : Stat) (cm : CM) : WS :=
  (wsSeq (wsIf (wtB (wOp2 (cmpC S cm false .Lt) (wSlot 1) (wC (.int 2)))) (wsSeq (wsRet (wC (.int 0)))
  wsSkip) wsSkip)
  (wsSeq (wsAsg (wBin false dIx (wSlot 0) (wC (.str "cells"))) (wgName 2))
  (wsSeq (wsWhile (pkT S cm) pkB) (pkL S cm))))
section
variable {S : Stat} {cm : CM} {b1 b2 : Nat} {k : Int} {Q : VQ} {X : XQ} {bx0 : Bx}
abbrev Same (bx0 : Bx) (b1 b2 : Nat) (bx : Bx) : Prop := ∀ n, n ≠ b1 → n ≠ b2 → bx n = bx0 n
theorem same_upb {bx : Bx} {d : D} (h : Same bx0 b1 b2 bx) : Same bx0 b1 b2 (upb bx b1 d) := fun n h1 h2 => by simp [upb, h1, h n h1 h2]
theorem same_upb2 {bx : Bx} {d : D} (h : Same bx0 b1 b2 bx) : Same bx0 b1 b2 (upb bx b2 d) := fun n h1 h2 => by simp [upb, h2, h n h1 h2]
abbrev Pk (Q : VQ) (bx0 : Bx) (b1 b2 : Nat) (k : Int) : Prop := ∀ bx' j cs' l' m' t', Src bx' b1 b2 cs' l' m' t' → Same bx0 b1 b2 bx' → 0 ≤ j → j < k → Q (.int j) bx'
theorem mod_bd {i k : Int} (h : 1 ≤ k) : 0 ≤ i.fmod k ∧ i.fmod k < k := ⟨Int.fmod_nonneg_of_pos _ (by omega), Int.fmod_lt_of_pos _ (by omega)⟩
theorem Src.setL {bx : Bx} {cs : List Int} {l m t : Int} {sl : Sl} {W : WXQ} {q : Sl → Bx → Prop} (h : Src bx b1 b2 cs l m t) (hs : Same bx0 b1 b2 bx) (e : sl[0]? = some (some (.box b1))) (y : Int) (hq : ∀ bx', Src bx' b1 b2 cs y m t → Same bx0 b1 b2 bx' → q sl bx') :
    wgSub (wSlot 0) (wC (.str "left")) (.int y) W sl bx q :=
  ⟨_, e, _, rfl, .inr ⟨_, _, h.s, rfl, by rw [sizeLine_eq]; simp, hq _ (h.putL y) (same_upb hs)⟩⟩
theorem Src.setT {bx : Bx} {cs : List Int} {l m t : Int} {sl : Sl} {W : WXQ} {q : Sl → Bx → Prop} (h : Src bx b1 b2 cs l m t) (hs : Same bx0 b1 b2 bx) (e : sl[0]? = some (some (.box b1))) (y : Int) (hq : ∀ bx', Src bx' b1 b2 cs l m y → Same bx0 b1 b2 bx' → q sl bx') :
    wgSub (wSlot 0) (wC (.str "turn")) (.int y) W sl bx q :=
  ⟨_, e, _, rfl, .inr ⟨_, _, h.s, rfl, by rw [sizeLine_eq]; simp, hq _ (h.putT y) (same_upb hs)⟩⟩
theorem fin_val {b : Bool} {d : D} {bx : Bx} {Q : VQ} : fin b (.val d) bx Q = Q d bx := rfl
theorem op_int {b : Bool} {bx : Bx} {i : Int} {Q : VQ} {X : XQ} : cOp b dInt [.int i] bx Q X = Q (.int i) bx := by simp [cOp, dInt, fin]
theorem pkL_ok {bx : Bx} {cs : List Int} {l m t : Int} {D' : En} {W : WXQ} (h : Src bx b1 b2 cs l m t) (hs : Same bx0 b1 b2 bx) (h1 : 1 ≤ k) (h2 : k < 1073741824) (hd : Pk D'.rt bx0 b1 b2 k) :
    pkL S cm D' W [some (.box b1), some (.int k), some (.box b2), none, none, none] bx := by
  have hk : k ≠ 0 := by omega
  have hk2 : k.natAbs < 1073741824 := by omega
  unfold pkL
  simp only [wsSeq, wsIf, wtB, wOp2, wSlot, wC, List.getElem?_cons_succ, List.getElem?_cons_zero, Option.some.injEq, exists_eq_left', wsRet, wsSkip, wsAsg, wgName, wBin, List.set_cons_succ, List.set_cons_zero, D.bl.injEq, decide_eq_true_eq, h.left, h.turn, fin_val, bin_div hk hk2, bin_mod hk, bin_add, cmp_gt, blt_int, wCall, wCons, wNil, op_int]
  split
  · exact h.setL hs rfl _ fun bx' h' hs' => by
      simp only [wsSeq, wsIf, wtB, wOp2, wSlot, wC, List.getElem?_cons_succ, List.getElem?_cons_zero, Option.some.injEq, exists_eq_left', wsRet, wsSkip, wsAsg, wgName, wBin, List.set_cons_succ, List.set_cons_zero, D.bl.injEq, decide_eq_true_eq, fin_val, bin_add, bin_sub, cmp_lt, cmp_gt, cmp_le, cmp_ge, blt_int, blt_len, wCall, wCons, wNil, op_int, bin_mod hk]
      exact hd _ _ _ _ _ _ h' hs' (mod_bd h1).1 (mod_bd h1).2
  · refine h.setT hs rfl _ fun bx' h' hs' => ?_
    have r1 : ∀ i : Int, (-(2 ^ 64) < i.fmod 998244353 ∧ i.fmod 998244353 < 2 ^ 64) := fun i => by
      have := mod_bd (i := i) (k := 998244353) (by decide)
      exact ⟨by omega, by omega⟩
    simp only [wsSeq, wsIf, wtB, wOp2, wSlot, wC, List.getElem?_cons_succ, List.getElem?_cons_zero, Option.some.injEq, exists_eq_left', wsRet, wsSkip, wsAsg, wgName, wBin, List.set_cons_succ, List.set_cons_zero, D.bl.injEq, decide_eq_true_eq, fin_val, bin_add, bin_sub, cmp_lt, cmp_gt, cmp_le, cmp_ge, blt_int, blt_len, wCall, wCons, wNil, op_int, h'.turn, h'.mixed, bin_mul (.inr (show -(2 ^ 64) < (104729 : Int) ∧ (104729 : Int) < 2 ^ 64 by decide)), bin_mul (.inr (show -(2 ^ 64) < (17 : Int) ∧ (17 : Int) < 2 ^ 64 by decide)), bin_mod (show (998244353 : Int) ≠ 0 by decide), bin_mod (show (2147483647 : Int) ≠ 0 by decide), bin_mul (.inl (r1 _)), bin_div (show (16 : Int) ≠ 0 by decide) (by decide), bin_mod hk, op_int]
    exact hd _ _ _ _ _ _ h' hs' (mod_bd h1).1 (mod_bd h1).2
end
theorem pick_ok {S : Stat} {cm : CM} {bx : Bx} {b1 b2 : Nat} {cs : List Int} {l m t k : Int} {Q : VQ} {X : XQ} (h : Src bx b1 b2 cs l m t) (h1 : 1 ≤ k) (h2 : k < 1073741824) (hq : Pk Q bx b1 b2 k) : runM 2 6 (tPick S cm) [.box b1, .int k] bx Q X := by
  refine ⟨rfl, ?_⟩
  unfold tPick
  have z : Pk (fun d => fgt (Q d)) bx b1 b2 k := fun bx' j cs' l' m' t' a1 a2 a3 a4 => ⟨bx', LeB.refl _, hq _ _ _ _ _ _ a1 a2 a3 a4⟩
  simp only [wsSeq, wsIf, wtB, wOp2, wSlot, wC, List.map_cons, List.map_nil, List.replicate, List.cons_append, List.nil_append, List.getElem?_cons_succ, List.getElem?_cons_zero, Option.some.injEq, exists_eq_left', cmp_lt, wsRet, wsSkip, wsAsg, wgName, wBin, List.set_cons_succ, List.set_cons_zero, D.bl.injEq, decide_eq_true_eq]
  split
  · exact z _ _ _ _ _ _ h (fun _ _ _ => rfl) (Int.le_refl 0) (by omega)
  refine ⟨_, h.cells, ?_⟩
  show wsWhile _ _ _ _ _ _
  have loop : ∀ (n : Nat) (cs : List Int) (l : Int) (bx' : Bx), cs.length ≤ n → Src bx' b1 b2 cs l m t → Same bx b1 b2 bx' → ∀ (D' : En) (W : WXQ), (∀ bx2 cs l, Src bx2 b1 b2 cs l m t → Same bx b1 b2 bx2 → D'.nx [some (.box b1), some (.int k), some (.box b2), none, none, none] bx2) →
      whileW (pkT S cm) pkB D' W (n + 1) [some (.box b1), some (.int k), some (.box b2), none, none, none] bx' := by
    intro n
    induction n with
    | zero =>
      intro cs l bx' hl h' hs' D' W hD
      obtain rfl : cs = [] := List.length_eq_zero_iff.mp (by omega)
      have e0 : dr bx' (.box b2) = some (.lst []) := h'.c
      simp only [whileW, pkT, wtAnd, wtB, wOp2, wBin, wSlot, wC, List.getElem?_cons_succ, List.getElem?_cons_zero, Option.some.injEq, exists_eq_left', h'.left, fin_val, cmp_lt, cmp_gt, D.bl.injEq, blt_len, wCall, wCons, wNil, cSel, clsD, e0, cOp, dLen, decide_eq_true_eq]
      split
      · simp only [List.length_nil, Int.ofNat_zero, Int.lt_irrefl, decide_false, Bool.false_eq_true, if_false]
        exact hD _ _ _ h' hs'
      · simp only [Bool.false_eq_true, if_false]
        exact hD _ _ _ h' hs'
    | succ n ih =>
      intro cs l bx' hl h' hs' D' W hD
      have e0 : dr bx' (.box b2) = some (.lst (cs.map .int)) := h'.c
      rw [whileW]
      simp only [pkT, wtAnd, wtB, wOp2, wBin, wSlot, wC, List.getElem?_cons_succ, List.getElem?_cons_zero, Option.some.injEq, exists_eq_left', h'.left, fin_val, cmp_lt, cmp_gt, D.bl.injEq, blt_len, wCall, wCons, wNil, cSel, clsD, e0, cOp, dLen, decide_eq_true_eq]
      split
      · split
        · rename_i hp
          have hne : cs ≠ [] := by rintro rfl; simp at hp
          have h2' : Src (upb bx' b2 (.lst (cs.dropLast.map .int))) b1 b2 cs.dropLast l m t :=
            ⟨by simp [upb, h'.ne, h'.s], by simp [upb], h'.ne, by have := h'.len; rw [List.length_dropLast]; omega⟩
          simp only [pkB, wsSeq, wsAsg, wsSkip]
          refine ⟨_, rfl, by simp [isTy, e0], .inl ⟨_, _, .int (cs.getLast hne), rfl, h'.c, ?_, ?_⟩⟩
          · rw [List.length_map, List.getElem?_map, ← List.getLast?_eq_getElem?, List.getLast?_eq_some_getLast hne]; rfl
          · rw [← List.map_dropLast]
            exact h2'.setL (same_upb2 hs') rfl _ fun bx3 h3 hs3 => ih _ _ bx3 (by rw [List.length_dropLast]; omega) h3 hs3 D' W hD
        · exact hD _ _ _ h' hs'
      · simp only [Bool.false_eq_true, if_false]
        exact hD _ _ _ h' hs'
  exact ⟨_, loop 63 cs l bx h.len h (fun _ _ _ => rfl) _ _ fun bx2 cs l a1 a2 => pkL_ok a1 a2 h1 h2 z⟩
end Mi
namespace Mi
open PySem PySem.Spec L2

/-! ### comprehensions whose items leave the boxes as they are -/
theorem upb_upb {bx : Bx} {n : Nat} {d e : D} : upb (upb bx n d) n e = upb bx n e := by funext m; simp only [upb]; split <;> rfl
theorem upb_at {bx : Bx} {n : Nat} {d : D} : upb bx n d n = some d := if_pos rfl
theorem delb_upb {bx : Bx} {n : Nat} {d : D} (h : bx n = none) : delb (upb bx n d) n = bx := by
  funext m
  simp only [delb, upb]
  by_cases e : m = n
  · subst e; simp [h]
  · simp [e]
theorem lcW_map {cond : Bx → Prop} {ct : CT} {vs : List Nat} {tt : WT} {te : WE} {sl : Sl} {n : Nat} {Q : Bx → Prop} {bx0 : Bx} (f : D → D) (p : D → Bool) (hc : ∀ d, cond (upb bx0 n d)) :
    ∀ {ds : List D}, (∀ d ∈ ds, ∃ sl', ctD ct d (wipeD sl vs) = some sl' ∧ ∀ (e : D), (∀ (Qt : Bool → Bx → Prop) (X : XQ), Qt (p d) (upb bx0 n e) → tt sl' (upb bx0 n e) Qt X) ∧ (p d = true → ∀ (Qe : VQ) (X : XQ), Qe (f d) (upb bx0 n e) → te sl' (upb bx0 n e) Qe X)) →
    ∀ (acc : List D), acc.length + ds.length ≤ sizeLine → Q (upb bx0 n (.lst (acc ++ (ds.filter p).map f))) → lcW n cond ct vs tt te sl Q ds (upb bx0 n (.lst acc))
  | [], _, acc, _, q => ⟨hc _, by simpa using q⟩
  | d :: ds, h, acc, hl, q => by
    obtain ⟨sl', e1, e2⟩ := h d List.mem_cons_self
    obtain ⟨k1, k2⟩ := e2 (.lst acc)
    refine ⟨hc _, sl', e1, k1 _ _ ?_⟩
    have hd := fun x hx => h x (List.mem_cons_of_mem d hx)
    simp only [List.length_cons] at hl
    cases hp : p d with
    | true =>
      rw [if_pos rfl]
      refine k2 hp _ _ ⟨acc, upb_at, by omega, ?_⟩
      rw [upb_upb]
      refine lcW_map f p hc hd (acc ++ [f d]) (by simp; omega) ?_
      rw [List.filter_cons_of_pos hp] at q
      simpa using q
    | false =>
      rw [if_neg Bool.false_ne_true]
      refine lcW_map f p hc hd acc (by omega) ?_
      rw [List.filter_cons_of_neg (by simp [hp])] at q
      exact q
/-- the list of f d, over the items ds with p d -/
theorem lc_map {b : Bool} {ct : CT} {vs : List Nat} {it : WIt} {tt : WT} {te : WE} {sl : Sl} {bx : Bx} {Q : VQ} {X : XQ} {ds : List D} {cond : Bx → Prop} (f : D → D) (p : D → Bool)
    (hi : ∀ (Qi : List D → (Bx → Prop) → Bx → Prop), Qi ds cond bx → it sl bx Qi X) (hc : ∀ n d, bx n = none → cond (upb bx n d)) (hl : ds.length ≤ sizeLine)
    (h : ∀ d ∈ ds, ∃ sl', ctD ct d (wipeD sl vs) = some sl' ∧ ∀ (n : Nat) (e : D), bx n = none → (∀ (Qt : Bool → Bx → Prop) (X : XQ), Qt (p d) (upb bx n e) → tt sl' (upb bx n e) Qt X) ∧ (p d = true → ∀ (Qe : VQ) (X : XQ), Qe (f d) (upb bx n e) → te sl' (upb bx n e) Qe X))
    (hq : if b = true then ∀ n, bx n = none → Q (.box n) (upb bx n (.lst ((ds.filter p).map f))) else Q (.lst ((ds.filter p).map f)) bx) : wLc b ct vs it tt te sl bx Q X := by
  refine hi _ fun n hn => ?_
  refine lcW_map f p (fun d => hc n d hn) (fun d hd => ?_) [] (by simpa using hl) ⟨_, upb_at, ?_⟩
  · obtain ⟨sl', e1, e2⟩ := h d hd
    exact ⟨sl', e1, fun e => e2 n e hn⟩
  · cases b with
    | true => rw [if_pos rfl] at hq ⊢; exact hq n hn
    | false => rw [if_neg Bool.false_ne_true] at hq ⊢; rw [delb_upb hn]; exact hq

/-! ### the laws' source -/
def srcB (S : Stat) (cm : CM) : WS := (wsSeq (wsAsg (wOp2 (binC S cm false .Mod) (bltJ S cm false "int" (wCons (wOp2 (binC S cm false .Add) (wOp2 (binC S cm false .Add) (wOp2 (binC S cm false .Mult) (wSlot 1) (wC (.int 69069))) (wOp2 (binC S cm false .Mult) (wSlot 2) (wC (.int 31)))) (wC (.int 5))) wNil)) (wC (.int 2147483629))) (wgName 1))
  wsSkip)
def srcL (S : Stat) (cm : CM) : WS :=
  (wsSeq (wsAsg (wLc false (.one 2) [2] (wiAny (wSlot 0)) wtYes (bltJ S cm false "abs" (wCons (wSlot 2) wNil))) (wgName 3))
  (wsSeq (wsRet (wDisp true [((wC (.str "cells")), (wLc true (.one 4) [4] (wiRng1 (wCons (bltJ S cm false "len" (wCons (wSlot 3) wNil)) wNil)) wtYes (wBin false dIx (wSlot 3) (wOp2 (binC S cm false .Sub) (wOp2 (binC S cm false .Sub) (bltJ S cm false "len" (wCons (wSlot 3) wNil)) (wC (.int 1))) (wSlot 4))))), ((wC (.str "left")), (wC (.int 1))), ((wC (.str "mixed")), (wSlot 1)), ((wC (.str "turn")), (wC (.int 0)))]))
  wsSkip))
def tSource (S : Stat) (cm : CM) : WS :=
  (wsSeq (wsAsg (wC (.int 11)) (wgName 1))
  (wsSeq (wsFor (wiAny (wSlot 0)) (wgName 2) (srcB S cm)) (srcL S cm)))
abbrev srcS (ns : List Int) (m : Int) (c : Option D) : Sl := [some (.rol (ns.map .int)), some (.int m), c, none, none]
theorem src_for {S : Stat} {cm : CM} {ns : List Int} {bx : Bx} {D' : En} {W : WXQ} (h1 : ∀ m c, D'.nx (srcS ns m c) bx) : ∀ (l : List Int) (m : Int) (c : Option D), forW always (wgName 2) (srcB S cm) D' W (l.map .int) (srcS ns m c) bx
  | [], m, c => ⟨trivial, h1 m c⟩
  | i :: l, m, c => by
    refine ⟨trivial, ?_⟩
    simp only [srcB, wsSeq, wsAsg, wgName, wC, wSlot, wOp2, wsSkip, srcS, List.getElem?_cons_succ, List.getElem?_cons_zero, Option.some.injEq, exists_eq_left', List.set_cons_succ, List.set_cons_zero, blt_int, wCall, wCons, wNil, op_int, bin_add, bin_mul (.inr (show -(2 ^ 64) < (69069 : Int) ∧ (69069 : Int) < 2 ^ 64 by decide)), bin_mul (.inr (show -(2 ^ 64) < (31 : Int) ∧ (31 : Int) < 2 ^ 64 by decide)), bin_mod (show (2147483629 : Int) ≠ 0 by decide)]
    exact src_for h1 l _ _
theorem op_abs {b : Bool} {bx : Bx} {i : Int} {Q : VQ} {X : XQ} : cOp b dAbs [.int i] bx Q X = Q (.int (if i < 0 then -i else i)) bx := by simp [cOp, dAbs, fin]
theorem len_lst {S : Stat} {cm : CM} {b : Bool} {bx : Bx} {l : List D} {Q : VQ} {X : XQ} : cSel 0 (cOwnLen (mthOf S cm "__len__")) (cOp b dLen) [.lst l] bx Q X = Q (.int l.length) bx := by simp [cSel, clsD, dr, cOp, dLen, fin]
theorem atI_map {bx : Bx} {cs : List Int} {k : Nat} (h : k < cs.length) : dIx bx (.lst (cs.map .int)) (.int k) = some (.val (.int (cs.getD k 0))) := by
  have e : atI (cs.map D.int) (k : Int) = some (.int (cs.getD k 0)) := by
    unfold atI ixN
    rw [if_pos (by omega), if_pos (by rw [List.length_map]; omega)]
    simp only [Int.toNat_natCast, Option.bind_some, List.getElem?_map]
    rw [List.getElem?_eq_getElem h, List.getD_eq_getElem?_getD, List.getElem?_eq_getElem h]
    rfl
  simp only [dIx, dr, e]
  rfl
theorem source_ok {S : Stat} {cm : CM} {bx : Bx} {ns : List Int} {Q : VQ} {X : XQ} (hn : ns.length ≤ 63)
    (hq : ∀ bx' b1 b2 cs m, Src bx' b1 b2 cs 1 m 0 → bx b1 = none → bx b2 = none → Same bx b1 b2 bx' → Q (.box b1) bx') : runM 1 5 (tSource S cm) [scrD ns] bx Q X := by
  refine ⟨rfl, ?_⟩
  unfold tSource scrD
  simp only [wsSeq, wsAsg, wgName, wC, wsFor, wiAny, wSlot, List.map_cons, List.map_nil, List.replicate, List.cons_append, List.nil_append, List.getElem?_cons_succ, List.getElem?_cons_zero, Option.some.injEq, exists_eq_left', List.set_cons_succ, List.set_cons_zero, itemsOf]
  refine src_for (fun m c => ?_) ns 11 none
  show srcL S cm _ _ _ _
  simp only [srcL, wsSeq, wsAsg, wgName, wsRet, wsSkip, srcS]
  refine lc_map (ds := ns.map .int) (cond := always) (fun d => match d with | .int i => .int (if i < 0 then -i else i) | d => d) (fun _ => true) (fun Qi q => ?_) (fun _ _ _ => trivial) (by rw [sizeLine_eq, List.length_map]; omega) (fun d hd => ?_) ?_
  · exact ⟨_, rfl, _, rfl, q⟩
  · obtain ⟨i, _, rfl⟩ := List.mem_map.mp hd
    refine ⟨_, rfl, fun n e hn => ⟨fun Qt X q => q, fun _ Qe X q => ?_⟩⟩
    simp only [blt_abs, wCall, wCons, wNil, wSlot, wipeD, List.set_cons_succ, List.set_cons_zero, List.getElem?_cons_succ, List.getElem?_cons_zero, Option.some.injEq, exists_eq_left', op_abs]
    exact q
  · rw [if_neg Bool.false_ne_true, List.filter_eq_self.mpr (fun _ _ => rfl)]
    generalize hcs : (List.map _ (List.map D.int ns)) = L
    have hL : ∃ cs : List Int, L = cs.map .int ∧ cs.length = ns.length := ⟨ns.map fun i => if i < 0 then -i else i, by rw [← hcs]; simp [Function.comp_def], by simp⟩
    obtain ⟨cs, rfl, hl⟩ := hL
    simp only [List.set_cons_succ, List.set_cons_zero]
    intro b1 h1
    simp only [wPairs, wC]
    refine lc_map (ds := (List.range cs.length).map fun (i : Nat) => .int (i : Int)) (cond := always) (fun d => match d with | .int i => .int (cs.getD (cs.length - 1 - i.toNat) 0) | d => d) (fun _ => true) (fun Qi q => ?_) (fun _ _ _ => trivial) (by rw [sizeLine_eq, List.length_map, List.length_range]; omega) (fun d hd => ?_) ?_
    · simp only [wiRng1, wCons, wNil, blt_len, wCall, wSlot, List.getElem?_cons_succ, List.getElem?_cons_zero, Option.some.injEq, exists_eq_left', len_lst, List.length_map]
      exact ⟨_, rfl, by omega, by omega, by simpa using q⟩
    · obtain ⟨i, hi, rfl⟩ := List.mem_map.mp hd
      rw [List.mem_range] at hi
      refine ⟨_, rfl, fun n e hn => ⟨fun Qt X q => q, fun _ Qe X q => ?_⟩⟩
      simp only [wBin, wOp2, blt_len, wCall, wCons, wNil, wSlot, wC, wipeD, List.set_cons_succ, List.set_cons_zero, List.getElem?_cons_succ, List.getElem?_cons_zero, Option.some.injEq, exists_eq_left', len_lst, bin_sub]
      refine ⟨.val (.int (cs.getD (cs.length - 1 - i) 0)), ?_, q⟩
      have e1 : (((cs.length : Nat) : Int) - 1 - (i : Int)) = ((cs.length - 1 - i : Nat) : Int) := by omega
      rw [List.length_map, e1]
      exact atI_map (by omega)
    · rw [if_pos rfl]
      intro b2 h2
      simp only [wSlot, List.getElem?_cons_succ, List.getElem?_cons_zero, Option.some.injEq, exists_eq_left']
      have hne : b1 ≠ b2 := by
        rintro rfl
        simp [upb] at h2
      have h2' : bx b2 = none := by simpa [upb, Ne.symm hne] using h2
      have hL : ∃ cs' : List Int, (List.map (fun d => match d with | .int i => D.int (cs.getD (cs.length - 1 - i.toNat) 0) | d => d) (List.filter (fun _ => true) (List.map (fun (i : Nat) => D.int (i : Int)) (List.range cs.length)))) = cs'.map .int ∧ cs'.length = cs.length :=
        ⟨(List.range cs.length).map fun i => cs.getD (cs.length - 1 - i) 0, by rw [List.filter_eq_self.mpr (fun _ _ => rfl)]; simp [Function.comp_def], by simp⟩
      obtain ⟨cs', e2, hl2⟩ := hL
      refine ⟨by rw [upb, if_neg hne]; exact upb_at, by simp, by rfl, ?_⟩
      rw [if_pos trivial]
      refine ⟨_, LeB.refl _, hq _ b1 b2 cs' _ ⟨upb_at, ?_, hne, by omega⟩ h1 h2' fun n n1 n2 => by simp [upb, n1, n2]⟩
      rw [upb, if_neg (Ne.symm hne), upb, if_pos rfl, e2]
end Mi
namespace Mi
open PySem PySem.Spec L2

/-! ### the head by one run in the kernel: the facts by a Hook -/
abbrev FnV : Type := Option (FuncBody × Scope × Addr × List Str × Addr × Bool)
def isRefV : Value → Bool
  | .ref _ => true
  | _ => false
def fnV : Option Obj → FnV
  | some ⟨_, _, .func fd, _⟩ => some (fd.body, fd.scope, fd.globals, fd.closure.map (·.1), fd.builtins, isRefV fd.code)
  | _ => none
abbrev AlM : Type := Bool × List FnV × List FnV
def obsM (P : Program) (S : Stat) (hd : Hd) (K : PySem.W.Frag) : AlM := (stC K P S hd, S.fns.zipIdx.map (fun p => fnV (fnObj K hd.nm p.2)), hd.exs.map (fun x => fnV (exObj K hd.nm x)))
def valM (S : Stat) (hd : Hd) : AlM := (true, S.fns.zipIdx.map (fun p => some (FuncBody.stmts p.1.body, p.1.sc, mainGlobals, [], builtinsNs, true)), hd.exs.map (fun x => some (FuncBody.stmts x.body, x.sc, mainGlobals, (["__class__"] : List Str), builtinsNs, true)))
def asM (g : Addr → Option Obj) : Nat → List Addr
  | 0 => [mainGlobals, cStatics]
  | n + 1 => He.growD g (asM g n)
def obsMG (n : Nat) (P : Program) (S : Stat) (hd : Hd) (g : Addr → Option Obj) : AlM := obsM P S hd (He.frG g (asM g n))
def hookM (n : Nat) (P : Program) (S : Stat) (hd : Hd) : PySem.W.Hook where
  α := AlM
  obs := fun s => obsMG n P S hd s.heap.get?
  val := fun _ => valM S hd
  says := fun _ h => ∃ K : PySem.W.Frag, K.In h ∧ obsM P S hd K = valM S hd
  of := fun _ _ e => ⟨_, He.frG_in, e⟩
  keeps := fun _ _ _ ⟨K, hK, c⟩ k => ⟨K, PySem.W.Frag.In.keeps hK k, c⟩
def obM (n : Nat) (P : Program) (S : Stat) (hd : Hd) (s : PySem.W.SharedT) : AlM := obsMG n P S hd (HandSHeadRun.getT s)
theorem obM_eq (n : Nat) (P : Program) (S : Stat) (hd : Hd) (s : PySem.W.SharedT) : obM n P S hd s = (hookM n P S hd).obs s.abs := by
  show obsMG n P S hd (HandSHeadRun.getT s) = obsMG n P S hd s.abs.heap.get?
  rw [show HandSHeadRun.getT s = s.abs.heap.get? from funext (HandSHeadRun.getT_eq s)]
theorem fnV_eq {o : Option Obj} {b : List Stmt} {sc : Scope} (h : fnV o = some (FuncBody.stmts b, sc, mainGlobals, [], builtinsNs, true)) : o = rebuild b sc o := by
  unfold fnV at h
  split at h
  · rename_i oc od fd osl
    obtain ⟨name, qual, params, body, scope, globals, closure, defaults, kwdefaults, doc, pm, an, code, ct, bn⟩ := fd
    simp only [Option.some.injEq, Prod.mk.injEq, List.map_eq_nil_iff] at h
    obtain ⟨rfl, rfl, rfl, rfl, rfl, _⟩ := h
    rfl
  · cases h
theorem fnV_eqX {o : Option Obj} {b : List Stmt} {sc : Scope} (h : fnV o = some (FuncBody.stmts b, sc, mainGlobals, (["__class__"] : List Str), builtinsNs, true)) : o = rebuildX b sc o := by
  unfold fnV at h
  split at h
  · rename_i oc od fd osl
    obtain ⟨name, qual, params, body, scope, globals, closure, defaults, kwdefaults, doc, pm, an, code, ct, bn⟩ := fd
    simp only [Option.some.injEq, Prod.mk.injEq] at h
    obtain ⟨rfl, rfl, rfl, hc, rfl, hr⟩ := h
    match closure, hc with
    | [(x, c)], hc =>
      simp only [List.map_cons, List.map_nil, List.cons.injEq, and_true] at hc
      subst hc
      cases code <;> first | rfl | cases hr
  · cases h
theorem hdOk_of {P : Program} {S : Stat} {hd : Hd} {K : PySem.W.Frag} (hi : S.isi = isiF hd.up hd.tys hd.ab) (c : obsM P S hd K = valM S hd) : HdOk K P S hd := by
  have c1 : stC K P S hd = true := congrArg Prod.fst c
  have c2 := congrArg (fun x : AlM => x.2.1) c
  have c3 := congrArg (fun x : AlM => x.2.2) c
  refine ⟨hi, c1, ?_, ?_⟩
  · refine List.map_inj_left.mpr fun p hp => ?_
    exact fnV_eq (List.map_inj_left.mp c2 p hp)
  · refine List.map_inj_left.mpr fun x hx => ?_
    exact fnV_eqX (List.map_inj_left.mp c3 x hx)
open PyProof.Rows hiding St in
theorem walkM {l : PySem.W.OpenLaw} {q : Program} {loose : List Str} {XP : (Str → Option Value) → Heap → Prop} {d : DefRec} {S : Stat} {hd : Hd} {j n m : Nat} {c : CallM}
    (hn : l.most = some 63) (hdf : d.params.defaults = []) (hr : Room (2 * n + 2) callerA) (hc : cmAt S n j = some c) (hj : S.glb.lookup d.name = some (.fn j)) (hi : S.isi = isiF hd.up hd.tys hd.ab)
    (law : ∀ ns : List Int, ns.length ≤ 63 → c [scrD ns] bx0 (fun d _ => d = .bl true) (fun _ _ => False)) :
    PySem.W.WalkO q loose XP (hookM m l.prog S hd).says l.row.toRowW d [] (fun f vs => PySem.call f vs) := by
  refine Att.attach_call hn hdf fun w s₀ s₁ mg mb fa o pm cd doc a vs ns G Y ho hd' hcd hmg hobj hints hlen hg => ?_
  obtain ⟨K, KX, cK⟩ := Y
  have T := statS_of (hdOk_of hi cK) KX G.T.g
  obtain ⟨a', k1, k2⟩ := T.gfn _ _ hj
  rw [hmg] at k2
  cases k2
  refine callG (k := 2 * n + 2) (CX := L2.CX l.prog w) (sp := spI (rtOf K hd.nm) 1 c) KX G.T.g G.T.b G.T.builtins G.T.nolimit hg hobj hints (Nat.le_trans hlen (by rw [sizeLine_eq]; decide)) hr (fun base hb => ?_) (fun H hO hS => sp_law (K := K) rfl (law ns hlen) hO hS) fun H e s' z => ?_
  · obtain ⟨a', np, k3, F⟩ := cmAt_ok (P := l.prog) (w := w) (base := base) (R := rtOf K hd.nm) rfl T n j c hc
    rw [k1] at k3; cases k3
    have e1 : np = 1 := by
      have := F.len [scrD []] bx0 _ _ (law [] (by simp))
      simpa using this.symm
    subst e1
    obtain ⟨fd, ps, FG, bd⟩ := F.ok
    exact ⟨fd, ps, FG, bd⟩
  · obtain ⟨_, _, _, _, _, _, _, _, _, _, _, _, z⟩ := z
    exact z
/-! ### the run in parts -/
def kOf (n : Nat) (s : PySem.W.SharedT) : PySem.W.Frag := He.frG (HandSHeadRun.getT s) (asM (HandSHeadRun.getT s) n)
def stR (K : PySem.W.Frag) (P : Program) (S : Stat) (hd : Hd) : Bool :=
  ownsC K hd.nm (isEx S) hd.up.length hd.ab && clsC K hd.nm S.cls && S.glb.all (glC K hd.nm) && keyC K S.glb && fnsC K hd.nm S.fns && exsC K P S hd && (S.glb.lookup ("super" : Str)).isNone && (S.glb.lookup ("tuple" : Str)).isNone && exmC K S hd
theorem stC_of {K : PySem.W.Frag} {P : Program} {S : Stat} {hd : Hd} (h1 : isiC K hd.nm hd.up hd.tys hd.ab = true) (h2 : stR K P S hd = true) : stC K P S hd = true := by
  unfold stR at h2
  unfold stC
  simp only [Bool.and_eq_true] at h2 ⊢
  obtain ⟨⟨⟨⟨⟨⟨⟨⟨a1, a2⟩, a3⟩, a4⟩, a5⟩, a6⟩, a7⟩, a8⟩, a9⟩ := h2
  exact ⟨⟨⟨⟨⟨⟨⟨⟨⟨h1, a1⟩, a2⟩, a3⟩, a4⟩, a5⟩, a6⟩, a7⟩, a8⟩, a9⟩
noncomputable abbrev EndM (r : PySem.W.OpenRow) (M : Nat) (w : World) (os : OsState) : Option PySem.W.SharedT := HandSHeadRun.endF (HandSHeadRun.stepQ (HandSHeadRun.denQ HandSHeadRun.tabQ) r.prog w) M r.prog w os
open PySem.W in
theorem runM_of {r : PySem.W.OpenRow} {q : Program} {names : List Str} {P : Program} {S : Stat} {hd : Hd} {n M : Nat} {w : World}
    (h1 : ∀ os, (EndM r M w os).map (fun s => (HandSHeadRun.looksF r.prog (boot_heap w.params) s.abs, HandSHeadRun.seenQ q names (importedModules r.prog.main.body) (fun s => xlAt q [] s && recOk r.toRowW.records s) s.abs, S.fns.zipIdx.map (fun p => fnV (fnObj (kOf n s) hd.nm p.2)), hd.exs.map (fun x => fnV (exObj (kOf n s) hd.nm x)))) = some (true, openGood q names, (valM S hd).2.1, (valM S hd).2.2))
    (h2 : ∀ os, (EndM r M w os).map (fun s => isiC (kOf n s) hd.nm hd.up hd.tys hd.ab) = some true) (h3 : ∀ os, (EndM r M w os).map (fun s => stR (kOf n s) P S hd) = some true) : HandSHeadRun.RunEq r q (hookM n P S hd) (obM n P S hd) M names w := by
  intro os
  have a1 := h1 os
  have a2 := h2 os
  have a3 := h3 os
  unfold EndM at a1 a2 a3
  cases e : HandSHeadRun.endF (HandSHeadRun.stepQ (HandSHeadRun.denQ HandSHeadRun.tabQ) r.prog w) M r.prog w os with
  | none => rw [e] at a2; cases a2
  | some s =>
    rw [e] at a1 a2 a3
    simp only [Option.map_some, Option.some.injEq, Prod.mk.injEq] at a1 a2 a3
    have ob : obM n P S hd s = valM S hd := by
      show obsM P S hd (kOf n s) = valM S hd
      unfold obsM
      rw [a1.2.2.1, a1.2.2.2, stC_of a2 a3]
      rfl
    rw [Option.map_some, a1.1, a1.2.1, ob]
    rfl
end Mi
namespace Mi
open PySem PySem.Spec L2

/-! ### loops -/
theorem forW_ind {cond : Bx → Prop} {g : WG} {b : WS} {DD : En} {W : WXQ} (P : List D → Sl → Bx → Prop) (h0 : ∀ sl bx, P [] sl bx → cond bx ∧ DD.nx sl bx)
    (h1 : ∀ d ds, (∀ sl bx, P ds sl bx → forW cond g b DD W ds sl bx) → ∀ sl bx, P (d :: ds) sl bx → forW cond g b DD W (d :: ds) sl bx) : ∀ ds sl bx, P ds sl bx → forW cond g b DD W ds sl bx
  | [], sl, bx, h => h0 sl bx h
  | d :: ds, sl, bx, h => h1 d ds (forW_ind P h0 h1 ds) sl bx h

/-! ### plain data: None, ints, texts, tuples and lists of such -/
inductive Pl : Nat → D → Prop
  | non {n : Nat} : Pl (n + 1) .non
  | int {n : Nat} {i : Int} : Pl (n + 1) (.int i)
  | str {n : Nat} {x : Str} (h : PyData.strOk x = true) : Pl (n + 1) (.str x)
  | tup {n : Nat} {ds : List D} (h : ∀ d ∈ ds, Pl n d) : Pl (n + 1) (.tup ds)
  | lst {n : Nat} {ds : List D} (h : ∀ d ∈ ds, Pl n d) : Pl (n + 1) (.lst ds)
theorem Pl.mono {n m : Nat} {d : D} (h : Pl n d) (l : n ≤ m) : Pl m d := by
  induction h generalizing m with
  | non => obtain ⟨k, rfl⟩ : ∃ k, m = k + 1 := ⟨m - 1, by omega⟩; exact .non
  | int => obtain ⟨k, rfl⟩ : ∃ k, m = k + 1 := ⟨m - 1, by omega⟩; exact .int
  | str h => obtain ⟨k, rfl⟩ : ∃ k, m = k + 1 := ⟨m - 1, by omega⟩; exact .str h
  | tup h ih => obtain ⟨k, rfl⟩ : ∃ k, m = k + 1 := ⟨m - 1, by omega⟩; exact .tup fun d hd => ih d hd (by omega)
  | lst h ih => obtain ⟨k, rfl⟩ : ∃ k, m = k + 1 := ⟨m - 1, by omega⟩; exact .lst fun d hd => ih d hd (by omega)
mutual
def pyF : D → PyData
  | .int i => .int i
  | .str x => .str x
  | .tup ds => .tuple (pyFs ds)
  | .lst ds => .list (pyFs ds)
  | _ => .none
def pyFs : List D → List PyData
  | [] => []
  | d :: ds => pyF d :: pyFs ds
end
theorem mapM_py {f : D → Option PyData} : ∀ {ds : List D}, (∀ d ∈ ds, f d = some (pyF d)) → ds.mapM f = some (pyFs ds)
  | [], _ => rfl
  | d :: ds, h => by
    rw [List.mapM_cons, h d List.mem_cons_self, mapM_py fun e he => h e (List.mem_cons_of_mem _ he)]
    rfl
theorem Pl.py {bx : Bx} {n : Nat} {d : D} (h : Pl n d) : pyD bx n d = some (pyF d) := by
  induction h with
  | non => rfl
  | int => rfl
  | str h => simp [pyD, h, pyF]
  | tup h ih => simp only [pyD, mapM_py ih, Option.map_some, pyF]
  | lst h ih => simp only [pyD, mapM_py ih, Option.map_some, pyF]
open Classical in
theorem eqvs_dec : ∀ {ds es : List D}, (∀ d ∈ ds, ∀ e ∈ es, PyData.eqv (pyF d) (pyF e) = decide (d = e)) → PyData.eqvAll (pyFs ds) (pyFs es) = decide (ds = es)
  | [], [], _ => by simp [pyFs, PyData.eqvAll]
  | [], e :: es, _ => by simp [pyFs, PyData.eqvAll]
  | d :: ds, [], _ => by simp [pyFs, PyData.eqvAll]
  | d :: ds, e :: es, h => by
    simp only [pyFs, PyData.eqvAll]
    rw [h d List.mem_cons_self e List.mem_cons_self, eqvs_dec fun a ha b hb => h a (List.mem_cons_of_mem _ ha) b (List.mem_cons_of_mem _ hb)]
    simp [Bool.decide_and]
open Classical in
theorem Pl.eqv {n m : Nat} {d e : D} (h : Pl n d) (h' : Pl m e) : PyData.eqv (pyF d) (pyF e) = decide (d = e) := by
  induction h generalizing m e with
  | non => cases h' <;> simp [pyF, PyData.eqv]
  | int => cases h' <;> rw [Bool.eq_iff_iff] <;> simp [pyF, PyData.eqv]
  | str h => cases h' <;> rw [Bool.eq_iff_iff] <;> simp [pyF, PyData.eqv]
  | tup h ih =>
    cases h' with
    | tup h2 => simp only [pyF, PyData.eqv, D.tup.injEq]; exact eqvs_dec fun a ha b hb => ih a ha (h2 b hb)
    | _ => simp [pyF, PyData.eqv]
  | lst h ih =>
    cases h' with
    | lst h2 => simp only [pyF, PyData.eqv, D.lst.injEq]; exact eqvs_dec fun a ha b hb => ih a ha (h2 b hb)
    | _ => simp [pyF, PyData.eqv]

/-! ### the same content, boxes opened -/
mutual
inductive Sm (bx : Bx) : D → D → Prop
  | rfl {d : D} : Sm bx d d
  | box {n : Nat} {ds es : List D} (h : bx n = some (.lst ds)) (t : Sms bx ds es) : Sm bx (.box n) (.lst es)
  | lst {ds es : List D} (t : Sms bx ds es) : Sm bx (.lst ds) (.lst es)
  | tup {ds es : List D} (t : Sms bx ds es) : Sm bx (.tup ds) (.tup es)
inductive Sms (bx : Bx) : List D → List D → Prop
  | nil : Sms bx [] []
  | cons {d e : D} {ds es : List D} (h : Sm bx d e) (t : Sms bx ds es) : Sms bx (d :: ds) (e :: es)
end
theorem Sms.refl {bx : Bx} : ∀ ds : List D, Sms bx ds ds
  | [] => .nil
  | d :: ds => .cons .rfl (Sms.refl ds)
mutual
theorem Sm.py {bx : Bx} {d e : D} (h : Sm bx d e) (n : Nat) : pyD bx n d = pyD bx n e := match n with
  | 0 => by rfl
  | n + 1 => match h with
    | .rfl => rfl
    | .box h t => by simp only [pyD, h, Sms.py t n]
    | .lst t => by simp only [pyD, Sms.py t n]
    | .tup t => by simp only [pyD, Sms.py t n]
theorem Sms.py {bx : Bx} {ds es : List D} (h : Sms bx ds es) (n : Nat) : ds.mapM (pyD bx n) = es.mapM (pyD bx n) := match h with
  | .nil => rfl
  | .cons h t => by rw [List.mapM_cons, List.mapM_cons, Sm.py h n, Sms.py t n]
end
theorem Sm.str {bx : Bx} {x : Str} {e : D} (h : Sm bx (.str x) e) : e = .str x := by cases h; rfl
theorem Sm.str' {bx : Bx} {x : Str} {d : D} (h : Sm bx d (.str x)) : d = .str x := by cases h; rfl
section
variable {bx : Bx} {d e d' e' : D} {b : Bool} {Q : VQ} {X : XQ} {S : Stat} {cm : CM} {es : List D}
open Classical in
theorem dEq_pl (h : Pl 40 d') (h' : Pl 40 e') (s1 : Sm bx d d') (s2 : Sm bx e e') : dEq bx d e = some (.val (.bl (decide (d' = e')))) := by
  unfold dEq
  split
  · rename_i x y
    rw [s1.str, s2.str]
    simp only [D.str.injEq]
  · unfold dEqP
    rw [s1.py, s2.py, h.py, h'.py]
    simp only [h.eqv h']
open Classical in
theorem dNe_pl (h : Pl 40 d') (h' : Pl 40 e') (s1 : Sm bx d d') (s2 : Sm bx e e') : dNe bx d e = some (.val (.bl (!decide (d' = e')))) := by
  unfold dNe
  split
  · rename_i x y
    rw [s1.str, s2.str]
    simp only [D.str.injEq]
  · unfold dNeP
    rw [s1.py, s2.py, h.py, h'.py]
    simp only [h.eqv h']
theorem Sm.cls (s : Sm bx d d') (h : Pl 40 d') : clsD bx d = none := by
  cases s with
  | rfl => cases h <;> rfl
  | box h1 t => simp [clsD, dr, h1]
  | lst t => rfl
  | tup t => rfl
open Classical in
theorem cmp_eq (h : Pl 40 d') (h' : Pl 40 e') (s1 : Sm bx d d') (s2 : Sm bx e e') : cmpC S cm b .Eq [d, e] bx Q X = Q (.bl (decide (d' = e'))) bx := by
  simp [cmpC, cSel, s1.cls h, cOp, o2, dEq_pl h h' s1 s2, fin]
open Classical in
theorem cmp_ne (h : Pl 40 d') (h' : Pl 40 e') (s1 : Sm bx d d') (s2 : Sm bx e e') : cmpC S cm b .NotEq [d, e] bx Q X = Q (.bl (!decide (d' = e'))) bx := by
  simp [cmpC, cSel, s1.cls h, cOp, o2, dNe_pl h h' s1 s2, fin]
theorem any_eqv {x : D} (h : Pl 40 x) : ∀ {l : List D}, (∀ y ∈ l, Pl 40 y) → (((pyFs l).any fun z => PyData.eqv z (pyF x)) = true ↔ x ∈ l)
  | [], _ => by simp [pyFs]
  | y :: l, hl => by
    have ih := any_eqv h (l := l) fun z hz => hl z (List.mem_cons_of_mem _ hz)
    simp only [pyFs, List.any_cons, Bool.or_eq_true, (hl y List.mem_cons_self).eqv h, decide_eq_true_eq, List.mem_cons, ih]
    exact ⟨fun h => h.elim (fun e => .inl e.symm) .inr, fun h => h.elim (fun e => .inl e.symm) .inr⟩
open Classical in
theorem dIn_lst {neg : Bool} (h : Pl 40 d) (e1 : dr bx e = some (.lst es)) (h' : ∀ y ∈ es, Pl 39 y) : dIn neg bx d e = some (.val (.bl (xor neg (decide (d ∈ es))))) := by
  unfold dIn
  rw [e1]
  have p1 : pyD bx 40 (.lst es) = some (.list (pyFs es)) := (Pl.lst h').py
  simp only [h.py, p1]
  have := any_eqv h (l := es) fun y hy => (h' y hy).mono (by omega)
  congr 4
  rw [Bool.eq_iff_iff, this, decide_eq_true_eq]
open Classical in
theorem dIn_tup {neg : Bool} (h : Pl 40 d) (h' : ∀ y ∈ es, Pl 39 y) : dIn neg bx d (.tup es) = some (.val (.bl (xor neg (decide (d ∈ es))))) := by
  unfold dIn
  have p1 : pyD bx 40 (.tup es) = some (.tuple (pyFs es)) := (Pl.tup h').py
  simp only [dr, h.py, p1]
  have := any_eqv h (l := es) fun y hy => (h' y hy).mono (by omega)
  congr 4
  rw [Bool.eq_iff_iff, this, decide_eq_true_eq]
theorem dIn_chr {neg : Bool} {c : Nat} {y : Str} : dIn neg bx (.str ⟨#[c]⟩) (.str y) = some (.val (.bl (xor neg (decide (c ∈ y.cps.toList))))) := rfl
theorem cmp_in (e1 : clsD bx e = none) : cmpC S cm b .In [d, e] bx Q X = ∃ rs, dIn false bx d e = some rs ∧ fin b rs bx Q := by
  simp [cmpC, cSel, e1, cOp, o2]
theorem cmp_notin (e1 : clsD bx e = none) : cmpC S cm b .NotIn [d, e] bx Q X = ∃ rs, dIn true bx d e = some rs ∧ fin b rs bx Q := by
  simp [cmpC, cSel, e1, cOp, o2]
open Classical in
theorem in_lst (h : Pl 40 d) (e1 : dr bx e = some (.lst es)) (h' : ∀ y ∈ es, Pl 39 y) : cmpC S cm b .In [d, e] bx Q X = Q (.bl (decide (d ∈ es))) bx := by
  have e2 : clsD bx e = none := by simp [clsD, e1]
  simp [cmp_in e2, dIn_lst h e1 h', fin]
open Classical in
theorem notin_lst (h : Pl 40 d) (e1 : dr bx e = some (.lst es)) (h' : ∀ y ∈ es, Pl 39 y) : cmpC S cm b .NotIn [d, e] bx Q X = Q (.bl (!decide (d ∈ es))) bx := by
  have e2 : clsD bx e = none := by simp [clsD, e1]
  simp [cmp_notin e2, dIn_lst h e1 h', fin]
open Classical in
theorem in_tup (h : Pl 40 d) (h' : ∀ y ∈ es, Pl 39 y) : cmpC S cm b .In [d, .tup es] bx Q X = Q (.bl (decide (d ∈ es))) bx := by
  have e2 : clsD bx (.tup es) = none := rfl
  simp [cmp_in e2, dIn_tup h h', fin]
open Classical in
theorem notin_tup (h : Pl 40 d) (h' : ∀ y ∈ es, Pl 39 y) : cmpC S cm b .NotIn [d, .tup es] bx Q X = Q (.bl (!decide (d ∈ es))) bx := by
  have e2 : clsD bx (.tup es) = none := rfl
  simp [cmp_notin e2, dIn_tup h h', fin]
theorem in_chr {c : Nat} {y : Str} : cmpC S cm b .In [.str ⟨#[c]⟩, .str y] bx Q X = Q (.bl (decide (c ∈ y.cps.toList))) bx := by
  have e2 : clsD bx (.str y) = none := rfl
  simp [cmp_in e2, dIn_chr, fin]
theorem notin_chr {c : Nat} {y : Str} : cmpC S cm b .NotIn [.str ⟨#[c]⟩, .str y] bx Q X = Q (.bl (!decide (c ∈ y.cps.toList))) bx := by
  have e2 : clsD bx (.str y) = none := rfl
  simp [cmp_notin e2, dIn_chr, fin]
/-- dicts by text keys, by keys of texts -/
theorem lookK_str {α : Type} {f : α → D} {x : Str} : ∀ {l : List (Str × α)}, lookK false (l.map fun p => (.str p.1, f p.2)) (.str x) = (l.lookup x).map f
  | [] => rfl
  | (y, a) :: l => by
    have ih := lookK_str (f := f) (x := x) (l := l)
    simp only [lookK, List.map_cons, List.find?_cons, List.lookup_cons, eqK, toKey, Bool.false_eq_true, if_false, Option.some.injEq, Sum.inr.injEq] at ih ⊢
    by_cases e : y = x
    · subst e; simp
    · have e' : (x == y) = false := by simpa using Ne.symm e
      simp only [e, decide_false, e']
      exact ih
theorem in_dic {t : Bool} {kvs : List (D × D)} (e1 : dr bx e = some (.dic t kvs)) (ok : okKey t d = true) : cmpC S cm b .In [d, e] bx Q X = Q (.bl (lookK t kvs d).isSome) bx := by
  have e2 : clsD bx e = none := by simp [clsD, e1]
  simp [cmp_in e2, dIn, e1, ok, fin]
end
end Mi
namespace Mi
open PySem PySem.Spec L2
/-! ### more equations -/
section
variable {S : Stat} {cm : CM} {b : Bool} {bx : Bx} {Q : VQ} {X : XQ} {sl : Sl}
theorem lst_new {m : WA} : wLst false m sl bx Q X = m sl bx (fun ds bx' => ds.length ≤ sizeLine ∧ Q (.lst ds) bx') X := rfl
theorem lst_box {m : WA} : wLst true m sl bx Q X = m sl bx (fun ds bx' => ds.length ≤ sizeLine ∧ ∀ n, bx' n = none → Q (.box n) (upb bx' n (.lst ds))) X := rfl
theorem callJ_at {j : Nat} {c : CallM} {m : WA} (h : cm j = some c) : callJ cm j m = wCall c m := by unfold callJ; rw [h]
theorem makeJ_at {c : Nat} {m : CallM} {ma : WA} (h : mkOf S cm c = some m) : makeJ S cm b c ma = wMake b c m ma := by unfold makeJ; rw [h]
theorem blt_all {ma : WA} : bltJ S cm b "all" ma sl bx Q X = wCall (cOp b (dAll true)) ma sl bx Q X := rfl
theorem blt_any {ma : WA} : bltJ S cm b "any" ma sl bx Q X = wCall (cOp b (dAll false)) ma sl bx Q X := rfl
theorem blt_str {ma : WA} : bltJ S cm b "str" ma sl bx Q X = wCall (cOp b dStr) ma sl bx Q X := rfl
theorem len_str {x : Str} (h : x.length ≤ sizeLine) : cSel 0 (cOwnLen (mthOf S cm "__len__")) (cOp b dLen) [.str x] bx Q X = Q (.int x.length) bx := by simp [cSel, clsD, dr, cOp, dLen, fin, h]
theorem len_at {d : D} {l : List D} (e : dr bx d = some (.lst l)) : cSel 0 (cOwnLen (mthOf S cm "__len__")) (cOp b dLen) [d] bx Q X = Q (.int l.length) bx := by simp [cSel, clsD, e, cOp, dLen, fin]
theorem len_tup {l : List D} : cSel 0 (cOwnLen (mthOf S cm "__len__")) (cOp b dLen) [.tup l] bx Q X = Q (.int l.length) bx := by simp [cSel, clsD, dr, cOp, dLen, fin]
theorem list_tup {l : List D} : cOp false dList [.tup l] bx Q X = Q (.lst l) bx := by simp [cOp, dList, dr, fin]
theorem list_at {d : D} {l : List D} (e : dr bx d = some (.lst l)) : cOp false dList [d] bx Q X = Q (.lst l) bx := by simp [cOp, dList, e, fin]
theorem list_tupB {l : List D} : cOp true dList [.tup l] bx Q X = ∀ n, bx n = none → Q (.box n) (upb bx n (.lst l)) := by simp [cOp, dList, dr, fin]
theorem tuple_at {d : D} {l : List D} (e : dr bx d = some (.lst l)) : cOp b dTuple [d] bx Q X = Q (.tup l) bx := by simp [cOp, dTuple, e, fin]
theorem tuple_tup {l : List D} : cOp b dTuple [.tup l] bx Q X = Q (.tup l) bx := by simp [cOp, dTuple, dr, fin]
theorem boolsD_map {α : Type} {p : α → Bool} : ∀ {l : List α}, boolsD (l.map fun x => .bl (p x)) = some (l.map p)
  | [] => rfl
  | x :: l => by simp [boolsD, boolsD_map (p := p) (l := l)]
theorem all_map {α : Type} {p : α → Bool} {l : List α} {neg : Bool} : cOp b (dAll neg) [.lst (l.map fun x => .bl (p x))] bx Q X = Q (.bl (if neg = true then l.all p else l.any p)) bx := by
  simp only [cOp, dAll, dr, boolsD_map, Option.map_some, Option.some.injEq, exists_eq_left', fin]
  cases neg <;> simp [List.all_map, List.any_map, Function.comp_def]
theorem add_at {d e : D} {x y : List D} (e1 : dr bx d = some (.lst x)) (e2 : dr bx e = some (.lst y)) (h : x.length + y.length ≤ sizeLine) : binC S cm false .Add [d, e] bx Q X = Q (.lst (x ++ y)) bx := by
  have e3 : clsD bx d = none := by simp [clsD, e1]
  simp [binC, cSel, e3, cOp, o2, dAdd, e1, e2, fin, h]
theorem add_str {x y : Str} (h : x.length + y.length ≤ sizeLine) : binC S cm false .Add [.str x, .str y] bx Q X = Q (.str (x ++ y)) bx := by simp [binC, cSel, clsD, dr, cOp, o2, dAdd, fin, h]
theorem add_tup {x y : List D} (h : x.length + y.length ≤ sizeLine) : binC S cm false .Add [.tup x, .tup y] bx Q X = Q (.tup (x ++ y)) bx := by simp [binC, cSel, clsD, dr, cOp, o2, dAdd, fin, h]
theorem le_int {i j : Int} : dLe bx (.int i) (.int j) = some (.val (.bl (decide (i ≤ j)))) := rfl
theorem lt_int {i j : Int} : dLt bx (.int i) (.int j) = some (.val (.bl (decide (i < j)))) := rfl
theorem is_non {d : D} : cmpC S cm b .Is [d, .non] bx Q X = Q (.bl (isNon d)) bx := by simp [cmpC, cOp, o2, orO, dIsN, fin]
theorem isnot_non {d : D} : cmpC S cm b .IsNot [d, .non] bx Q X = Q (.bl (!isNon d)) bx := by simp [cmpC, cOp, o2, orO, dIsN, fin]
theorem isnot_bl {k l : Bool} : cmpC S cm b .IsNot [.bl k, .bl l] bx Q X = Q (.bl (!decide (k = l))) bx := by simp [cmpC, cOp, o2, orO, dIsN, dIsB, fin]
theorem ix_lst {d : D} {l : List D} {k : Nat} {x : D} (e : dr bx d = some (.lst l)) (h : l[k]? = some x) : dIx bx d (.int (k : Int)) = some (.val x) := by
  have hk : k < l.length := (List.getElem?_eq_some_iff.mp h).1
  have e2 : atI l (k : Int) = some x := by
    unfold atI ixN
    rw [if_pos (by omega), if_pos (by omega)]
    simpa using h
  simp [dIx, e, e2]
theorem ix_tup {l : List D} {k : Nat} {x : D} (h : l[k]? = some x) : dIx bx (.tup l) (.int (k : Int)) = some (.val x) := by
  have hk : k < l.length := (List.getElem?_eq_some_iff.mp h).1
  have e2 : atI l (k : Int) = some x := by
    unfold atI ixN
    rw [if_pos (by omega), if_pos (by omega)]
    simpa using h
  simp [dIx, dr, e2]
theorem ix_str {z : Str} {k c : Nat} (hz : z.length ≤ sizeLine) (h : z.cps.toList[k]? = some c) : dIx bx (.str z) (.int (k : Int)) = some (.val (.str ⟨#[c]⟩)) := by
  have hk : k < z.cps.toList.length := (List.getElem?_eq_some_iff.mp h).1
  have e2 : atI z.cps.toList (k : Int) = some c := by
    unfold atI ixN
    rw [if_pos (by omega), if_pos (by omega)]
    simpa using h
  simp [dIx, dr, hz, e2]
theorem ix_dic {d : D} {α : Type} {f : α → D} {x : Str} {a : α} {l : List (Str × α)} (e : dr bx d = some (.dic false (l.map fun p => (.str p.1, f p.2)))) (h : l.lookup x = some a) : dIx bx d (.str x) = some (.val (f a)) := by
  simp [dIx, e, okKey, toKey, lookK_str, h]
end
/-- one comprehension over the items ds, each kept or left, the boxes as they are -/
theorem lc_at {b : Bool} {ct : CT} {vs : List Nat} {it : WIt} {tt : WT} {te : WE} {sl : Sl} {bx : Bx} {Q : VQ} {X : XQ} {α : Type} {f : α → D} {p : α → Bool} {g : α → D} {l : List α} {cond : Bx → Prop}
    (hi : ∀ (Qi : List D → (Bx → Prop) → Bx → Prop), Qi (l.map g) cond bx → it sl bx Qi X) (hc : ∀ n d, bx n = none → cond (upb bx n d)) (hl : l.length ≤ sizeLine)
    (h : ∀ a ∈ l, ∃ sl', ctD ct (g a) (wipeD sl vs) = some sl' ∧ ∀ (n : Nat) (e : D), bx n = none → (∀ (Qt : Bool → Bx → Prop) (X : XQ), Qt (p a) (upb bx n e) → tt sl' (upb bx n e) Qt X) ∧ (p a = true → ∀ (Qe : VQ) (X : XQ), Qe (f a) (upb bx n e) → te sl' (upb bx n e) Qe X))
    (hq : if b = true then ∀ n, bx n = none → Q (.box n) (upb bx n (.lst ((l.filter p).map f))) else Q (.lst ((l.filter p).map f)) bx) : wLc b ct vs it tt te sl bx Q X := by
  refine hi _ fun n hn => ?_
  have key : ∀ (l : List α) (acc : List D), (∀ a ∈ l, ∃ sl', ctD ct (g a) (wipeD sl vs) = some sl' ∧ ∀ (n : Nat) (e : D), bx n = none → (∀ (Qt : Bool → Bx → Prop) (X : XQ), Qt (p a) (upb bx n e) → tt sl' (upb bx n e) Qt X) ∧ (p a = true → ∀ (Qe : VQ) (X : XQ), Qe (f a) (upb bx n e) → te sl' (upb bx n e) Qe X)) →
      acc.length + l.length ≤ sizeLine → ∀ QQ : Bx → Prop, QQ (upb bx n (.lst (acc ++ (l.filter p).map f))) → lcW n cond ct vs tt te sl QQ (l.map g) (upb bx n (.lst acc)) := by
    intro l
    induction l with
    | nil => intro acc _ _ QQ q; exact ⟨hc _ _ hn, by simpa using q⟩
    | cons a l ih =>
      intro acc h hl QQ q
      obtain ⟨sl', e1, e2⟩ := h a List.mem_cons_self
      obtain ⟨k1, k2⟩ := e2 n (.lst acc) hn
      simp only [List.length_cons] at hl
      refine ⟨hc _ _ hn, sl', e1, k1 _ _ ?_⟩
      cases hp : p a with
      | true =>
        rw [if_pos rfl]
        refine k2 hp _ _ ⟨acc, upb_at, by omega, ?_⟩
        rw [upb_upb]
        refine ih (acc ++ [f a]) (fun x hx => h x (List.mem_cons_of_mem a hx)) (by simp; omega) QQ ?_
        rw [List.filter_cons_of_pos hp] at q
        simpa using q
      | false =>
        rw [if_neg Bool.false_ne_true]
        refine ih acc (fun x hx => h x (List.mem_cons_of_mem a hx)) (by omega) QQ ?_
        rw [List.filter_cons_of_neg (by simp [hp])] at q
        exact q
  refine key l [] h (by simpa using hl) _ ⟨_, upb_at, ?_⟩
  cases b with
  | true => rw [if_pos rfl] at hq ⊢; simpa using hq n hn
  | false => rw [if_neg Bool.false_ne_true] at hq ⊢; rw [delb_upb hn]; simpa using hq
/-- .. without a test -/
theorem lc_all {b : Bool} {ct : CT} {vs : List Nat} {it : WIt} {te : WE} {sl : Sl} {bx : Bx} {Q : VQ} {X : XQ} {α : Type} {f : α → D} {g : α → D} {l : List α} {cond : Bx → Prop}
    (hi : ∀ (Qi : List D → (Bx → Prop) → Bx → Prop), Qi (l.map g) cond bx → it sl bx Qi X) (hc : ∀ n d, bx n = none → cond (upb bx n d)) (hl : l.length ≤ sizeLine)
    (h : ∀ a ∈ l, ∃ sl', ctD ct (g a) (wipeD sl vs) = some sl' ∧ ∀ (n : Nat) (e : D), bx n = none → ∀ (Qe : VQ) (X : XQ), Qe (f a) (upb bx n e) → te sl' (upb bx n e) Qe X)
    (hq : if b = true then ∀ n, bx n = none → Q (.box n) (upb bx n (.lst (l.map f))) else Q (.lst (l.map f)) bx) : wLc b ct vs it wtYes te sl bx Q X := by
  refine lc_at (f := f) (p := fun _ => true) hi hc hl (fun a ha => ?_) ?_
  · obtain ⟨sl', e1, e2⟩ := h a ha
    exact ⟨sl', e1, fun n e hn => ⟨fun Qt X q => q, fun _ => e2 n e hn⟩⟩
  · rw [List.filter_eq_self.mpr (fun _ _ => rfl)]; exact hq
/-- the walked value: a list, by whatever name -/
theorem it_at {i : Nat} {sl : Sl} {bx : Bx} {d : D} {l : List D} {X : XQ} {c : Bx → Prop} (e : sl[i]? = some (some d)) (e2 : itemsOf bx d = some (l, c)) (Qi : List D → (Bx → Prop) → Bx → Prop) (q : Qi l c bx) : wiAny (wSlot i) sl bx Qi X := ⟨_, e, _, e2, q⟩
/-- .. it stays -/
def stays (bx : Bx) : D → Bx → Prop
  | .box n => fun b => b n = bx n
  | _ => fun _ => True
theorem items_at {bx : Bx} {d : D} {l : List D} (e : dr bx d = some (.lst l)) : ∃ c, itemsOf bx d = some (l, c) ∧ (∀ bx', LeB bx bx' → c bx') := by
  cases d with
  | lst ds => simp [dr] at e; subst e; exact ⟨_, rfl, fun _ _ => trivial⟩
  | box n =>
    have e' : bx n = some (.lst l) := e
    exact ⟨_, by simp [itemsOf, e'], fun bx' h => h n _ e'⟩
  | _ => simp [dr] at e
theorem leB_up {bx : Bx} {n : Nat} {d : D} (h : bx n = none) : LeB bx (upb bx n d) := fun m e h' => by
  by_cases q : m = n
  · subst q; rw [h] at h'; cases h'
  · simp [upb, q, h']
theorem LeB.trans {a b c : Bx} (h : LeB a b) (h' : LeB b c) : LeB a c := fun n d e => h' n d (h n d e)
theorem dr_le {bx bx' : Bx} (h : LeB bx bx') {d e : D} (k : dr bx d = some e) : dr bx' d = some e := by
  cases d with
  | box n => exact h n e k
  | _ => exact k
/-- for .. in ..: the items typed; k: what follows the turn -/
theorem for_each {α : Type} {G : α → D} {cond : Bx → Prop} {g : WG} {b : WS} {DD : En} {W : WXQ} (P : List α → Sl → Bx → Prop) (h0 : ∀ sl bx, P [] sl bx → cond bx ∧ DD.nx sl bx)
    (h1 : ∀ a as sl bx, P (a :: as) sl bx → cond bx ∧ ∀ (k : Sl → Bx → Prop), (∀ sl bx, P as sl bx → k sl bx) → g (G a) W sl bx (fun sl1 bx1 => b { DD with nx := k, ct := k, bk := DD.nx } W sl1 bx1)) :
    ∀ (l : List α) (sl : Sl) (bx : Bx), P l sl bx → forW cond g b DD W (l.map G) sl bx
  | [], sl, bx, h => h0 sl bx h
  | a :: as, sl, bx, h => ⟨(h1 a as sl bx h).1, (h1 a as sl bx h).2 _ fun sl bx q => for_each P h0 h1 as sl bx q⟩
/-! ### sequences: a list by any name, a tuple -/
def Sq (bx : Bx) (d : D) (l : List D) : Prop := dr bx d = some (.lst l) ∨ d = .tup l
theorem Sq.items {bx : Bx} {d : D} {l : List D} (h : Sq bx d l) : ∃ c, itemsOf bx d = some (l, c) ∧ (∀ bx', LeB bx bx' → c bx') := by
  rcases h with h | rfl
  · exact items_at h
  · exact ⟨_, rfl, fun _ _ => trivial⟩
theorem Sq.le {bx bx' : Bx} {d : D} {l : List D} (h : Sq bx d l) (k : LeB bx bx') : Sq bx' d l := h.imp (dr_le k) id
section
variable {S : Stat} {cm : CM} {b : Bool} {bx : Bx} {Q : VQ} {X : XQ} {sl : Sl} {d : D} {l : List D}
theorem Sq.list (h : Sq bx d l) : cOp false dList [d] bx Q X = Q (.lst l) bx := by
  rcases h with h | rfl
  · exact list_at h
  · exact list_tup
theorem Sq.tuple (h : Sq bx d l) : cOp b dTuple [d] bx Q X = Q (.tup l) bx := by
  rcases h with h | rfl
  · exact tuple_at h
  · exact tuple_tup
theorem tg2 {i j : Nat} {a c : D} {W : WXQ} {Qs : Sl → Bx → Prop} (q : Qs ((sl.set i (some a)).set j (some c)) bx) : wgTup 2 (wgCons (wgName i) (wgCons (wgName j) wgNil)) (.tup [a, c]) W sl bx Qs := ⟨_, .inl rfl, rfl, _, _, rfl, _, _, rfl, rfl, q⟩
theorem tg3 {i j k : Nat} {a c e : D} {W : WXQ} {Qs : Sl → Bx → Prop} (q : Qs (((sl.set i (some a)).set j (some c)).set k (some e)) bx) : wgTup 3 (wgCons (wgName i) (wgCons (wgName j) (wgCons (wgName k) wgNil))) (.tup [a, c, e]) W sl bx Qs := ⟨_, .inl rfl, rfl, _, _, rfl, _, _, rfl, _, _, rfl, rfl, q⟩
end
/-- what must stay while d is walked -/
def cnd (d : D) (l : List D) : Bx → Prop := match d with
  | .box n => fun b => b n = some (.lst l)
  | _ => always
theorem Sq.it {bx : Bx} {d : D} {l : List D} (h : Sq bx d l) : itemsOf bx d = some (l, cnd d l) := by
  rcases h with h | rfl
  · cases d with
    | lst ds => simp [dr] at h; subst h; rfl
    | box n =>
      have e : bx n = some (.lst l) := h
      simp [itemsOf, e, cnd]
    | _ => simp [dr] at h
  · rfl
theorem Sq.cd {bx : Bx} {d : D} {l : List D} (h : Sq bx d l) : cnd d l bx := by
  rcases h with h | rfl
  · cases d with
    | box n => exact h
    | _ => trivial
  · trivial
theorem leB_put {bx bx' : Bx} {n : Nat} {d : D} (h : LeB bx bx') (hn : bx n = none) : LeB bx (upb bx' n d) := fun m e h' => by
  have : m ≠ n := by rintro rfl; rw [hn] at h'; cases h'
  simp only [upb, this, if_false]
  exact h m e h'
end Mi
namespace Mi
open PySem PySem.Spec
theorem putD_new {v : D} {k : D} {kvs : List (D × D)} (h : ∀ p ∈ kvs, eqK false p.1 k = false) : putD false k v kvs = kvs ++ [(k, v)] := by
  have e : (kvs.any fun p => eqK false p.1 k) = false := by
    rw [List.any_eq_false]
    intro p hp
    simp [h p hp]
  unfold putD
  rw [e]
  simp
theorem eqK_str {x y : Str} : eqK false (.str x) (.str y) = decide (x = y) := by simp [eqK, toKey]
/-- new keys of texts, one behind another -/
theorem foldl_put {α : Type} {kf : α → Str} {vf : α → D} : ∀ (l : List α) (acc : List (D × D)), (∀ a ∈ l, ∀ p ∈ acc, p.1 = .str (kf a) → False) → (∀ p ∈ acc, ∃ x, p.1 = .str x) → (l.map kf).Nodup →
    l.foldl (fun acc a => putD false (.str (kf a)) (vf a) acc) acc = acc ++ l.map fun a => (.str (kf a), vf a)
  | [], acc, _, _, _ => by simp
  | a :: l, acc, h1, h2, h3 => by
    rw [List.map_cons, List.nodup_cons] at h3
    rw [List.foldl_cons, putD_new fun p hp => by
      obtain ⟨x, hx⟩ := h2 p hp
      rw [hx, eqK_str, decide_eq_false_iff_not]
      rintro rfl
      exact h1 a List.mem_cons_self p hp hx]
    rw [foldl_put (kf := kf) (vf := vf) l (acc ++ [(D.str (kf a), vf a)]) (fun c hc p hp q => ?_) (fun p hp => ?_) h3.2]
    · simp
    · rcases List.mem_append.mp hp with hp | hp
      · exact h1 c (List.mem_cons_of_mem _ hc) p hp q
      · rw [List.mem_singleton] at hp
        subst hp
        simp only [D.str.injEq] at q
        exact h3.1 (q ▸ List.mem_map.mpr ⟨c, hc, rfl⟩)
    · rcases List.mem_append.mp hp with hp | hp
      · exact h2 p hp
      · rw [List.mem_singleton] at hp
        subst hp
        exact ⟨_, rfl⟩
/-- the field of an object -/
theorem attr_at {attrs : Nat → List Str} {exf : Nat → Option (Nat × ExF)} {f : Str} {i c : Nat} {d0 : D} {fs : List (Str × D)} {d : D} {sl : Sl} {bx : Bx} {Q : VQ} {X : XQ} (e : sl[i]? = some (some d0)) (e2 : dr bx d0 = some (.obj c fs)) (h : f ∈ attrs c) (hl : fs.lookup f = some d) (q : Q d bx) : wAttrX attrs exf f (wSlot i) sl bx Q X := by
  refine ⟨_, e, ?_⟩
  show (match dr bx d0 with | some (.obj c fs) => f ∈ attrs c ∧ ∃ d', fs.lookup f = some d' ∧ Q d' bx | some (.exc c fs) => _ | _ => False)
  rw [e2]
  exact ⟨h, _, hl, q⟩
/-- a dict comprehension without a test -/
theorem dc_all {b : Bool} {ct : CT} {vs : List Nat} {it : WIt} {tk tv : WE} {sl : Sl} {bx : Bx} {Q : VQ} {X : XQ} {α : Type} {kf vf g : α → D} {l : List α} {cond : Bx → Prop}
    (hi : ∀ (Qi : List D → (Bx → Prop) → Bx → Prop), Qi (l.map g) cond bx → it sl bx Qi X) (hc : ∀ n d, bx n = none → cond (upb bx n d)) (hl : l.length ≤ sizeLine)
    (h : ∀ a ∈ l, okKey false (kf a) = true ∧ ∃ sl', ctD ct (g a) (wipeD sl vs) = some sl' ∧ ∀ (n : Nat) (e : D), bx n = none → (∀ (Qe : VQ) (X : XQ), Qe (kf a) (upb bx n e) → tk sl' (upb bx n e) Qe X) ∧ (∀ (Qe : VQ) (X : XQ), Qe (vf a) (upb bx n e) → tv sl' (upb bx n e) Qe X))
    (hq : if b = true then ∀ n, bx n = none → Q (.box n) (upb bx n (.dic false (l.foldl (fun acc a => putD false (kf a) (vf a) acc) []))) else Q (.dic false (l.foldl (fun acc a => putD false (kf a) (vf a) acc) [])) bx) : wDc b ct vs it wtYes tk tv sl bx Q X := by
  refine hi _ fun n hn => ?_
  have key : ∀ (l : List α) (acc : List (D × D)), (∀ a ∈ l, okKey false (kf a) = true ∧ ∃ sl', ctD ct (g a) (wipeD sl vs) = some sl' ∧ ∀ (n : Nat) (e : D), bx n = none → (∀ (Qe : VQ) (X : XQ), Qe (kf a) (upb bx n e) → tk sl' (upb bx n e) Qe X) ∧ (∀ (Qe : VQ) (X : XQ), Qe (vf a) (upb bx n e) → tv sl' (upb bx n e) Qe X)) →
      acc.length + l.length ≤ sizeLine → ∀ QQ : Bx → Prop, QQ (upb bx n (.dic false (l.foldl (fun acc a => putD false (kf a) (vf a) acc) acc))) → dcW n cond ct vs wtYes tk tv sl QQ (l.map g) (upb bx n (.dic false acc)) := by
    intro l
    induction l with
    | nil => intro acc _ _ QQ q; exact ⟨hc _ _ hn, q⟩
    | cons a l ih =>
      intro acc h hl QQ q
      obtain ⟨ok, sl', e1, e2⟩ := h a List.mem_cons_self
      obtain ⟨k1, k2⟩ := e2 n (.dic false acc) hn
      simp only [List.length_cons] at hl
      refine ⟨hc _ _ hn, sl', e1, ?_⟩
      simp only [wtYes, if_true]
      refine k1 _ _ (k2 _ _ ⟨acc, upb_at, ok, by omega, ?_⟩)
      rw [upb_upb]
      refine ih _ (fun x hx => h x (List.mem_cons_of_mem a hx)) ?_ QQ q
      have : (putD false (kf a) (vf a) acc).length ≤ acc.length + 1 := by
        unfold putD
        split
        · rw [List.length_map]; omega
        · rw [List.length_append]; simp
      omega
  refine key l [] h (by simpa using hl) _ ⟨_, upb_at, ?_⟩
  cases b with
  | true => rw [if_pos rfl] at hq ⊢; exact hq n hn
  | false => rw [if_neg Bool.false_ne_true] at hq ⊢; rw [delb_upb hn]; exact hq
theorem len_l {S : Stat} {cm : CM} {b : Bool} {bx : Bx} {Q : VQ} {X : XQ} {l : List D} : cSel 0 (cOwnLen (mthOf S cm "__len__")) (cOp b dLen) [.lst l] bx Q X = Q (.int l.length) bx := len_at rfl
theorem callJ_f {cm : CM} {j : Nat} {c : CallM} {m : WA} {sl : Sl} {bx : Bx} {Q : VQ} {X : XQ} (h : cm j = some c) : callJ cm j m sl bx Q X = m sl bx (fun ds bx1 => c ds bx1 Q X) X := by unfold callJ; rw [h]; rfl
end Mi
namespace Mi
open PySem PySem.Spec
def pkL2 (S : Stat) (cm : CM) : WS :=
  (wsSeq (wsAsg (wBin false dIx (wSlot 0) (wC (.str "left"))) (wgName 3))
  (wsSeq (wsIf (wtB (wOp2 (cmpC S cm false .Gt) (wSlot 3) (wC (.int 1)))) (wsSeq (wsAsg (wOp2 (binC S cm false .FloorDiv) (wSlot 3) (wSlot 1)) (wgSub (wSlot 0) (wC (.str "left"))))
  (wsSeq (wsRet (wOp2 (binC S cm false .Mod) (bltJ S cm false "int" (wCons (wSlot 3) wNil)) (wSlot 1)))
  wsSkip)) wsSkip)
  (wsSeq (wsAsg (wOp2 (binC S cm false .Add) (wBin false dIx (wSlot 0) (wC (.str "turn"))) (wC (.int 1))) (wgSub (wSlot 0) (wC (.str "turn"))))
  (wsSeq (wsAsg (wBin false dIx (wSlot 0) (wC (.str "turn"))) (wgName 4))
  (wsSeq (wsAsg (wOp2 (binC S cm false .Mod) (bltJ S cm false "int" (wCons (wOp2 (binC S cm false .Add) (wBin false dIx (wSlot 0) (wC (.str "mixed"))) (wOp2 (binC S cm false .Mult) (wSlot 4) (wC (.int 104729)))) wNil)) (wC (.int 998244353))) (wgName 5))
  (wsSeq (wsAsg (wOp2 (binC S cm false .Mod) (bltJ S cm false "int" (wCons (wOp2 (binC S cm false .Add) (wOp2 (binC S cm false .Mult) (wSlot 5) (wSlot 5)) (wOp2 (binC S cm false .Mult) (wSlot 4) (wC (.int 17)))) wNil)) (wC (.int 2147483647))) (wgName 5))
  (wsSeq (wsIf (wtB (wOp2 (cmpC S cm false .Gt) (wSlot 1) (wOp2 (binC S cm false .Pow) (wC (.int 10)) (wC (.int 7))))) (wsSeq (wsAsg (wOp2 (binC S cm false .Pow) (bltJ S cm false "int" (wCons (wOp2 (binC S cm false .Add) (wOp2 (binC S cm false .Mult) (wSlot 5) (wC (.int 48271))) (wSlot 4)) wNil)) (wC (.int 9))) (wgName 5))
  wsSkip) wsSkip)
  (wsSeq (wsRet (wOp2 (binC S cm false .Mod) (bltJ S cm false "int" (wCons (wOp2 (binC S cm false .FloorDiv) (wSlot 5) (wC (.int 16))) wNil)) (wSlot 1)))
  wsSkip))))))))
def tPick2 (S : Stat) (cm : CM) : WS :=
  (wsSeq (wsIf (wtB (wOp2 (cmpC S cm false .Lt) (wSlot 1) (wC (.int 2)))) (wsSeq (wsRet (wC (.int 0)))
  wsSkip) wsSkip)
  (wsSeq (wsAsg (wBin false dIx (wSlot 0) (wC (.str "cells"))) (wgName 2))
  (wsSeq (wsWhile (pkT S cm) pkB) (pkL2 S cm))))
section
variable {S : Stat} {cm : CM} {b1 b2 : Nat} {k : Int} {Q : VQ} {X : XQ} {bx0 : Bx}
theorem pkL2_ok {bx : Bx} {cs : List Int} {l m t : Int} {D' : En} {W : WXQ} (h : Src bx b1 b2 cs l m t) (hs : Same bx0 b1 b2 bx) (h1 : 1 ≤ k) (h2 : k ≤ 10000000) (hd : Pk D'.rt bx0 b1 b2 k) :
    pkL2 S cm D' W [some (.box b1), some (.int k), some (.box b2), none, none, none] bx := by
  have hk : k ≠ 0 := by omega
  have hk2 : k.natAbs < 1073741824 := by omega
  have hk3 : ¬ (10000000 : Int) < k := by omega
  have hp : ∀ (bx : Bx) (Q : VQ) (X : XQ), binC S cm false .Pow [.int 10, .int 7] bx Q X = Q (.int 10000000) bx := fun bx Q X => by simp [binC, cOp, o2, dPow, fin]
  unfold pkL2
  simp only [wsSeq, wsIf, wtB, wOp2, wSlot, wC, List.getElem?_cons_succ, List.getElem?_cons_zero, Option.some.injEq, exists_eq_left', wsRet, wsSkip, wsAsg, wgName, wBin, List.set_cons_succ, List.set_cons_zero, D.bl.injEq, decide_eq_true_eq, h.left, h.turn, fin_val, bin_div hk hk2, bin_mod hk, bin_add, cmp_gt, blt_int, wCall, wCons, wNil, op_int]
  split
  · exact h.setL hs rfl _ fun bx' h' hs' => by
      simp only [wsSeq, wsIf, wtB, wOp2, wSlot, wC, List.getElem?_cons_succ, List.getElem?_cons_zero, Option.some.injEq, exists_eq_left', wsRet, wsSkip, wsAsg, wgName, wBin, List.set_cons_succ, List.set_cons_zero, D.bl.injEq, decide_eq_true_eq, fin_val, bin_add, bin_sub, cmp_lt, cmp_gt, cmp_le, cmp_ge, blt_int, blt_len, wCall, wCons, wNil, op_int, bin_mod hk]
      exact hd _ _ _ _ _ _ h' hs' (mod_bd h1).1 (mod_bd h1).2
  · refine h.setT hs rfl _ fun bx' h' hs' => ?_
    have r1 : ∀ i : Int, (-(2 ^ 64) < i.fmod 998244353 ∧ i.fmod 998244353 < 2 ^ 64) := fun i => by
      have := mod_bd (i := i) (k := 998244353) (by decide)
      exact ⟨by omega, by omega⟩
    simp only [wsSeq, wsIf, wtB, wOp2, wSlot, wC, List.getElem?_cons_succ, List.getElem?_cons_zero, Option.some.injEq, exists_eq_left', wsRet, wsSkip, wsAsg, wgName, wBin, List.set_cons_succ, List.set_cons_zero, D.bl.injEq, decide_eq_true_eq, fin_val, bin_add, bin_sub, cmp_lt, cmp_gt, cmp_le, cmp_ge, blt_int, blt_len, wCall, wCons, wNil, op_int, h'.turn, h'.mixed, bin_mul (.inr (show -(2 ^ 64) < (104729 : Int) ∧ (104729 : Int) < 2 ^ 64 by decide)), bin_mul (.inr (show -(2 ^ 64) < (17 : Int) ∧ (17 : Int) < 2 ^ 64 by decide)), bin_mod (show (998244353 : Int) ≠ 0 by decide), bin_mod (show (2147483647 : Int) ≠ 0 by decide), bin_mul (.inl (r1 _)), bin_div (show (16 : Int) ≠ 0 by decide) (by decide), bin_mod hk, op_int, hp, hk3, if_false]
    exact hd _ _ _ _ _ _ h' hs' (mod_bd h1).1 (mod_bd h1).2
end
theorem pick2_ok {S : Stat} {cm : CM} {bx : Bx} {b1 b2 : Nat} {cs : List Int} {l m t k : Int} {Q : VQ} {X : XQ} (h : Src bx b1 b2 cs l m t) (h1 : 1 ≤ k) (h2 : k ≤ 10000000) (hq : Pk Q bx b1 b2 k) : runM 2 6 (tPick2 S cm) [.box b1, .int k] bx Q X := by
  refine ⟨rfl, ?_⟩
  unfold tPick2
  have z : Pk (fun d => fgt (Q d)) bx b1 b2 k := fun bx' j cs' l' m' t' a1 a2 a3 a4 => ⟨bx', LeB.refl _, hq _ _ _ _ _ _ a1 a2 a3 a4⟩
  simp only [wsSeq, wsIf, wtB, wOp2, wSlot, wC, List.map_cons, List.map_nil, List.replicate, List.cons_append, List.nil_append, List.getElem?_cons_succ, List.getElem?_cons_zero, Option.some.injEq, exists_eq_left', cmp_lt, wsRet, wsSkip, wsAsg, wgName, wBin, List.set_cons_succ, List.set_cons_zero, D.bl.injEq, decide_eq_true_eq]
  split
  · exact z _ _ _ _ _ _ h (fun _ _ _ => rfl) (Int.le_refl 0) (by omega)
  refine ⟨_, h.cells, ?_⟩
  show wsWhile _ _ _ _ _ _
  have loop : ∀ (n : Nat) (cs : List Int) (l : Int) (bx' : Bx), cs.length ≤ n → Src bx' b1 b2 cs l m t → Same bx b1 b2 bx' → ∀ (D' : En) (W : WXQ), (∀ bx2 cs l, Src bx2 b1 b2 cs l m t → Same bx b1 b2 bx2 → D'.nx [some (.box b1), some (.int k), some (.box b2), none, none, none] bx2) →
      whileW (pkT S cm) pkB D' W (n + 1) [some (.box b1), some (.int k), some (.box b2), none, none, none] bx' := by
    intro n
    induction n with
    | zero =>
      intro cs l bx' hl h' hs' D' W hD
      obtain rfl : cs = [] := List.length_eq_zero_iff.mp (by omega)
      have e0 : dr bx' (.box b2) = some (.lst []) := h'.c
      simp only [whileW, pkT, wtAnd, wtB, wOp2, wBin, wSlot, wC, List.getElem?_cons_succ, List.getElem?_cons_zero, Option.some.injEq, exists_eq_left', h'.left, fin_val, cmp_lt, cmp_gt, D.bl.injEq, blt_len, wCall, wCons, wNil, cSel, clsD, e0, cOp, dLen, decide_eq_true_eq]
      split
      · simp only [List.length_nil, Int.ofNat_zero, Int.lt_irrefl, decide_false, Bool.false_eq_true, if_false]
        exact hD _ _ _ h' hs'
      · simp only [Bool.false_eq_true, if_false]
        exact hD _ _ _ h' hs'
    | succ n ih =>
      intro cs l bx' hl h' hs' D' W hD
      have e0 : dr bx' (.box b2) = some (.lst (cs.map .int)) := h'.c
      rw [whileW]
      simp only [pkT, wtAnd, wtB, wOp2, wBin, wSlot, wC, List.getElem?_cons_succ, List.getElem?_cons_zero, Option.some.injEq, exists_eq_left', h'.left, fin_val, cmp_lt, cmp_gt, D.bl.injEq, blt_len, wCall, wCons, wNil, cSel, clsD, e0, cOp, dLen, decide_eq_true_eq]
      split
      · split
        · rename_i hp
          have hne : cs ≠ [] := by rintro rfl; simp at hp
          have h2' : Src (upb bx' b2 (.lst (cs.dropLast.map .int))) b1 b2 cs.dropLast l m t :=
            ⟨by simp [upb, h'.ne, h'.s], by simp [upb], h'.ne, by have := h'.len; rw [List.length_dropLast]; omega⟩
          simp only [pkB, wsSeq, wsAsg, wsSkip]
          refine ⟨_, rfl, by simp [isTy, e0], .inl ⟨_, _, .int (cs.getLast hne), rfl, h'.c, ?_, ?_⟩⟩
          · rw [List.length_map, List.getElem?_map, ← List.getLast?_eq_getElem?, List.getLast?_eq_some_getLast hne]; rfl
          · rw [← List.map_dropLast]
            exact h2'.setL (same_upb2 hs') rfl _ fun bx3 h3 hs3 => ih _ _ bx3 (by rw [List.length_dropLast]; omega) h3 hs3 D' W hD
        · exact hD _ _ _ h' hs'
      · simp only [Bool.false_eq_true, if_false]
        exact hD _ _ _ h' hs'
  exact ⟨_, loop 63 cs l bx h.len h (fun _ _ _ => rfl) _ _ fun bx2 cs l a1 a2 => pkL2_ok a1 a2 h1 h2 z⟩
/-- the source, whatever it holds -/
def Sr (bx : Bx) (b1 b2 : Nat) : Prop := ∃ cs l m t, Src bx b1 b2 cs l m t
theorem Sr.le {bx bx' : Bx} {b1 b2 : Nat} (h : Sr bx b1 b2) (e1 : bx' b1 = bx b1) (e2 : bx' b2 = bx b2) : Sr bx' b1 b2 := by
  obtain ⟨cs, l, m, t, h⟩ := h
  exact ⟨cs, l, m, t, e1.trans h.s, e2.trans h.c, h.ne, h.len⟩
theorem Sr.ne1 {bx : Bx} {b1 b2 n : Nat} (h : Sr bx b1 b2) (e : bx n = none) : n ≠ b1 := by
  obtain ⟨cs, l, m, t, h⟩ := h
  rintro rfl
  rw [h.s] at e; cases e
theorem Sr.ne2 {bx : Bx} {b1 b2 n : Nat} (h : Sr bx b1 b2) (e : bx n = none) : n ≠ b2 := by
  obtain ⟨cs, l, m, t, h⟩ := h
  rintro rfl
  rw [h.c] at e; cases e
theorem Sr.up {bx : Bx} {b1 b2 n : Nat} {d : D} (h : Sr bx b1 b2) (e : bx n = none) : Sr (upb bx n d) b1 b2 := h.le (by simp [upb, (h.ne1 e).symm]) (by simp [upb, (h.ne2 e).symm])
theorem pickR {S : Stat} {cm : CM} {bx : Bx} {b1 b2 : Nat} {k : Int} {Q : VQ} {X : XQ} (h : Sr bx b1 b2) (h1 : 1 ≤ k) (h2 : k ≤ 10000000) (hq : ∀ bx' (j : Nat), Sr bx' b1 b2 → Same bx b1 b2 bx' → (j : Int) < k → Q (.int j) bx') : runM 2 6 (tPick2 S cm) [.box b1, .int k] bx Q X := by
  obtain ⟨cs, l, m, t, h⟩ := h
  refine pick2_ok h h1 h2 fun bx' j cs' l' m' t' a1 a2 a3 a4 => ?_
  obtain ⟨j, rfl⟩ := Int.eq_ofNat_of_zero_le a3
  exact hq bx' j ⟨_, _, _, _, a1⟩ a2 a4
theorem sourceR {S : Stat} {cm : CM} {bx : Bx} {ns : List Int} {Q : VQ} {X : XQ} (hn : ns.length ≤ 63)
    (hq : ∀ bx' b1 b2, Sr bx' b1 b2 → bx b1 = none → bx b2 = none → Same bx b1 b2 bx' → Q (.box b1) bx') : runM 1 5 (tSource S cm) [scrD ns] bx Q X :=
  source_ok hn fun bx' b1 b2 cs m a1 a2 a3 a4 => hq bx' b1 b2 ⟨_, _, _, _, a1⟩ a2 a3 a4
end Mi
namespace Mi
open PySem PySem.Spec
section
variable {α : Type} {xs : List α}
theorem cut_take (k : Nat) : cutL xs none (some (k : Int)) = xs.take k := by
  simp only [cutL, HT.sIx_none, HT.sIx_nat, List.drop_zero, Nat.sub_zero]
  by_cases h : k ≤ xs.length
  · rw [Nat.min_eq_left h]
  · rw [Nat.min_eq_right (by omega), List.take_of_length_le (Nat.le_refl _), List.take_of_length_le (by omega)]
theorem cut_drop (k : Nat) : cutL xs (some (k : Int)) none = xs.drop k := by
  simp only [cutL, HT.sIx_none, HT.sIx_nat]
  by_cases h : k ≤ xs.length
  · rw [Nat.min_eq_left h, List.take_of_length_le (by simp)]
  · rw [Nat.min_eq_right (by omega), List.drop_of_length_le (Nat.le_refl _), List.drop_of_length_le (by omega)]; simp
theorem cut_last : cutL xs none (some (-1 : Int)) = xs.dropLast := by
  simp only [cutL, HT.sIx, List.drop_zero, Nat.sub_zero]
  rw [if_pos (by decide), List.dropLast_eq_take]
  congr 1
  omega
end
section
variable {S : Stat} {cm : CM} {b : Bool} {bx : Bx} {Q : VQ} {X : XQ} {sl : Sl} {d : D} {l : List D}
theorem sl_take (e : dr bx d = some (.lst l)) (k : Nat) : dSl bx d none (some (k : Int)) = some (.new (.lst (l.take k))) := by simp [dSl, e, cut_take]
theorem sl_drop (e : dr bx d = some (.lst l)) (k : Nat) : dSl bx d (some (k : Int)) none = some (.new (.lst (l.drop k))) := by simp [dSl, e, cut_drop]
theorem sl_drop1 (e : dr bx d = some (.lst l)) : dSl bx d (some 1) none = some (.new (.lst (l.drop 1))) := sl_drop e 1
theorem sl_last (e : dr bx d = some (.lst l)) : dSl bx d none (some (-1)) = some (.new (.lst l.dropLast)) := by simp [dSl, e, cut_last]
theorem sl_tdrop (k : Nat) : dSl bx (.tup l) (some (k : Int)) none = some (.val (.tup (l.drop k))) := by simp [dSl, dr, cut_drop]
theorem sl_ttake (k : Nat) : dSl bx (.tup l) none (some (k : Int)) = some (.val (.tup (l.take k))) := by simp [dSl, dr, cut_take]
theorem fin_new {d : D} : fin false (.new d) bx Q = Q d bx := rfl
theorem fin_newB {d : D} : fin true (.new d) bx Q = ∀ n, bx n = none → Q (.box n) (upb bx n d) := rfl
/-- for i in range(j) -/
theorem for_rng {g : WG} {b : WS} {DD : En} {W : WXQ} (j : Nat) (P : Nat → Sl → Bx → Prop) (h0 : ∀ sl bx, P j sl bx → DD.nx sl bx)
    (h1 : ∀ k sl bx, k < j → P k sl bx → ∀ (f : Sl → Bx → Prop), (∀ sl bx, P (k + 1) sl bx → f sl bx) → g (.int (k : Int)) W sl bx (fun sl1 bx1 => b { DD with nx := f, ct := f, bk := DD.nx } W sl1 bx1)) (sl : Sl) (bx : Bx) (h : P 0 sl bx) :
    forW always g b DD W ((List.range j).map fun (i : Nat) => .int (i : Int)) sl bx := by
  refine for_each (α := Nat) (G := fun i => .int (i : Int)) (fun as sl bx => ∃ k, k ≤ j ∧ as = List.range' k (j - k) ∧ P k sl bx) (fun sl bx ⟨k, e1, e2, e3⟩ => ?_) (fun a as sl bx ⟨k, e1, e2, e3⟩ => ?_) (List.range j) sl bx ⟨0, Nat.zero_le _, by rw [List.range_eq_range', Nat.sub_zero], h⟩
  · have : j - k = 0 := by
      have := congrArg List.length e2
      rw [List.length_range'] at this
      exact this.symm
    obtain rfl : k = j := by omega
    exact ⟨trivial, h0 _ _ e3⟩
  · have hk : k < j := by
      have := congrArg List.length e2
      rw [List.length_range', List.length_cons] at this
      omega
    rw [show j - k = (j - (k + 1)) + 1 by omega, List.range'_succ] at e2
    injection e2 with e4 e5
    subst e4
    exact ⟨trivial, fun f hf => h1 _ _ _ hk e3 f fun sl bx q => hf sl bx ⟨_, hk, e5, q⟩⟩
theorem iRng {m : WA} {j : Nat} {R : List D → (Bx → Prop) → Bx → Prop} (hj : j < 1000000000) (h : ∀ (Q : List D → Bx → Prop) (X : XQ), Q [.int (j : Int)] bx → m sl bx Q X) (q : R ((List.range j).map fun (i : Nat) => .int (i : Int)) always bx) : wiRng1 m sl bx R X :=
  h _ _ ⟨_, rfl, by omega, by omega, by simpa using q⟩
end
end Mi
namespace Mi
open PySem PySem.Spec
/-! ### the text of repr: that there is one -/
def rp (bx : Bx) (d : D) : Str := (reprA bx d).getD ""
def rpOk (bx : Bx) (d : D) : Prop := (reprA bx d).isSome = true
theorem op_rp {b : Bool} {bx : Bx} {d : D} {Q : VQ} {X : XQ} (h : rpOk bx d) : cOp b dReprA [d] bx Q X = Q (.str (rp bx d)) bx := by
  obtain ⟨t, e⟩ := Option.isSome_iff_exists.mp h
  simp [cOp, dReprA, rp, e, fin]
theorem rp_bl {bx : Bx} {k : Bool} : rpOk bx (.bl k) := rfl
def Shw (bx : Bx) (n : Nat) (d : D) (B : Nat) : Prop := ∃ p, pdOf bx n d = some p ∧ p.showable = true ∧ p.shown.length ≤ B
theorem Shw.le {bx : Bx} {n : Nat} {d : D} {B C : Nat} (h : Shw bx n d B) (l : B ≤ C) : Shw bx n d C := by
  obtain ⟨p, h1, h2, h3⟩ := h
  exact ⟨p, h1, h2, by omega⟩
theorem shw_str {bx : Bx} {n : Nat} {x : Str} (h : PyData.strOk x = true) : Shw bx (n + 1) (.str x) (10 * x.length + 2) := by
  refine ⟨.str x, rfl, rfl, PySem.StrLaws.reprText_len x fun c hc => ?_⟩
  have h' : (x.cps.all fun c => decide (c < 0x110000)) = true := h
  rw [← Array.all_toList, List.all_eq_true] at h'
  have := of_decide_eq_true (h' c hc)
  omega
theorem textFrom_le {B : Nat} : ∀ (ts : List Str) (k : Nat) (acc : Str), (∀ t ∈ ts, t.length ≤ B) → (textFrom k acc ts).length ≤ acc.length + ts.length * (B + 2)
  | [], k, acc, _ => by show acc.length ≤ _; omega
  | t :: r, k, acc, h => by
    have i2 := textFrom_le r (k + 1) (acc ++ (if k > 0 then ", " else "" : String) ++ t) (fun t ht => h t (List.mem_cons_of_mem _ ht))
    refine Nat.le_trans i2 ?_
    have e1 : (((if k > 0 then ", " else "" : String) : Str)).length ≤ 2 := by split <;> decide +kernel
    have e2 := h t List.mem_cons_self
    rw [strLen_append, strLen_append, List.length_cons, Nat.succ_mul]
    omega
theorem shownAll_map : ∀ (ps : List PyData), PyData.shownAll ps = ps.map PyData.shown
  | [] => rfl
  | p :: ps => by rw [PyData.shownAll, shownAll_map ps]; rfl
theorem showableAll_of : ∀ {ps : List PyData}, (∀ p ∈ ps, p.showable = true) → PyData.showableAll ps = true
  | [], _ => rfl
  | p :: ps, h => by
    rw [PyData.showableAll, h p List.mem_cons_self, showableAll_of fun q hq => h q (List.mem_cons_of_mem _ hq)]
    rfl
theorem shw_all {bx : Bx} {n B : Nat} : ∀ {ds : List D}, (∀ d ∈ ds, Shw bx n d B) → ∃ ps, ds.mapM (pdOf bx n) = some ps ∧ ps.length = ds.length ∧ ∀ p ∈ ps, p.showable = true ∧ p.shown.length ≤ B
  | [], _ => ⟨[], rfl, rfl, by simp⟩
  | d :: ds, h => by
    obtain ⟨p, h1, h2, h3⟩ := h d List.mem_cons_self
    obtain ⟨ps, k1, k2, k3⟩ := shw_all fun e he => h e (List.mem_cons_of_mem _ he)
    refine ⟨p :: ps, by rw [List.mapM_cons, h1, k1]; rfl, by simp [k2], fun q hq => ?_⟩
    rcases List.mem_cons.mp hq with rfl | hq
    · exact ⟨h2, h3⟩
    · exact k3 q hq
theorem shw_lst {bx : Bx} {n B : Nat} {d : D} {ds : List D} (e : dr bx d = some (.lst ds)) (h : ∀ d ∈ ds, Shw bx n d B) : Shw bx (n + 1) d (2 + ds.length * (B + 2)) := by
  obtain ⟨ps, k1, k2, k3⟩ := shw_all h
  refine ⟨.list ps, ?_, showableAll_of fun p hp => (k3 p hp).1, ?_⟩
  · cases d with
    | lst l => simp [dr] at e; subst e; simp [pdOf, dr, seqL, k1]
    | box m => simp [pdOf, e, seqL, k1]
    | _ => simp [dr] at e
  · simp only [PyData.shown, listText]
    rw [strLen_append, shownAll_map]
    have := textFrom_le (B := B) (ps.map PyData.shown) 0 "[" (fun t ht => by
      obtain ⟨p, hp, rfl⟩ := List.mem_map.mp ht
      exact (k3 p hp).2)
    rw [List.length_map, k2] at this
    have a1 : (("[" : String) : Str).length = 1 := rfl
    have a2 : (("]" : String) : Str).length = 1 := rfl
    omega
theorem join_le {B : Nat} : ∀ (ts : List Str), (∀ t ∈ ts, t.length ≤ B) → (Str.join ", " ts).length ≤ ts.length * (B + 2)
  | [], _ => by show 0 ≤ _; omega
  | [x], h => by
    have := h x List.mem_cons_self
    show x.length ≤ _
    simp only [List.length_cons, List.length_nil]
    omega
  | x :: y :: r, h => by
    have ih := join_le (y :: r) fun t ht => h t (List.mem_cons_of_mem _ ht)
    have := h x List.mem_cons_self
    have e : Str.join ", " (x :: y :: r) = x ++ ", " ++ Str.join ", " (y :: r) := rfl
    rw [e, strLen_append, strLen_append, List.length_cons, Nat.succ_mul]
    have a2 : ((", " : String) : Str).length = 2 := rfl
    omega
theorem shw_tup {bx : Bx} {n B : Nat} {ds : List D} (h : ∀ d ∈ ds, Shw bx n d B) : Shw bx (n + 1) (.tup ds) (3 + ds.length * (B + 2)) := by
  obtain ⟨ps, k1, k2, k3⟩ := shw_all h
  refine ⟨.tuple ps, by simp [pdOf, dr, seqL, seqT, k1], showableAll_of fun p hp => (k3 p hp).1, ?_⟩
  simp only [PyData.shown, tupleText]
  rw [strLen_append, strLen_append, shownAll_map]
  have := join_le (B := B) (ps.map PyData.shown) (fun t ht => by
    obtain ⟨p, hp, rfl⟩ := List.mem_map.mp ht
    exact (k3 p hp).2)
  rw [List.length_map, k2] at this
  have a1 : (("(" : String) : Str).length = 1 := rfl
  have a2 : ((if (List.map PyData.shown ps).length == 1 then ",)" else ")" : String) : Str).length ≤ 2 := by split <;> decide +kernel
  omega
theorem rp_seq {bx : Bx} {d : D} {B : Nat} (h : Shw bx 40 d B) (hB : B ≤ 16000000) (hs : (∃ ds, dr bx d = some (.lst ds)) ∨ ∃ ds, d = .tup ds) : rpOk bx d := by
  obtain ⟨p, h1, h2, h3⟩ := h
  have key : (reprD bx d).isSome = true := by
    have hp : isSeqP p = true := by
      rcases hs with ⟨ds, e⟩ | ⟨ds, rfl⟩
      · cases d with
        | lst l =>
          simp only [pdOf, dr, seqL] at h1
          obtain ⟨ps, _, rfl⟩ := Option.map_eq_some_iff.mp h1
          rfl
        | box m =>
          simp only [pdOf, e, seqL] at h1
          obtain ⟨ps, _, rfl⟩ := Option.map_eq_some_iff.mp h1
          rfl
        | _ => simp [dr] at e
      · simp only [pdOf, dr, seqL, seqT, Option.bind_some] at h1
        obtain ⟨ps, _, rfl⟩ := Option.map_eq_some_iff.mp h1
        rfl
    unfold reprD
    rw [h1, Option.bind_some, if_pos (by rw [hp, h2]; simp [sizeLine_eq]; omega)]
    rfl
  rcases hs with ⟨ds, e⟩ | ⟨ds, rfl⟩
  · cases d with
    | lst l => exact key
    | box m =>
      have : reprA bx (.box m) = reprD bx (.box m) := by simp [reprA, e]
      rw [rpOk, this]; exact key
    | _ => simp [dr] at e
  · exact key
/-- by whatever name -/
theorem rp_dr {bx : Bx} {d : D} {ds : List D} (e : dr bx d = some (.lst ds)) : rp bx d = rp bx (.lst ds) := by
  cases d with
  | lst l => simp [dr] at e; subst e; rfl
  | box m =>
    have h1 : reprA bx (.box m) = reprD bx (.box m) := by simp [reprA, e]
    have h2 : reprA bx (.lst ds) = reprD bx (.lst ds) := rfl
    have h3 : pdOf bx 40 (.box m) = pdOf bx 40 (.lst ds) := by simp only [pdOf, e]; rfl
    unfold rp
    rw [h1, h2]
    unfold reprD
    rw [h3]
  | _ => simp [dr] at e
end Mi
namespace Mi
open PySem PySem.Spec
theorem wsSeq_a (m n : WS) (D : _) (W : _) (sl : _) (bx : _) : wsSeq m n D W sl bx = m { D with nx := n D W } W sl bx := rfl
theorem wsIf_a (t : WT) (m n : WS) (D : _) (W : _) (sl : _) (bx : _) : wsIf t m n D W sl bx = t sl bx (fun k bx' => if k = true then m D W sl bx' else n D W sl bx') (fun x b => W x sl b) := rfl
theorem wtB_a (m : WE) (sl : _) (bx : _) (Q : _) (X : _) : wtB m sl bx Q X = m sl bx (fun d bx' => ∃ k, d = .bl k ∧ Q k bx') X := rfl
theorem wtNot_a (m : WT) (sl : _) (bx : _) (Q : _) (X : _) : wtNot m sl bx Q X = m sl bx (fun k bx' => Q (!k) bx') X := rfl
theorem wtAnd_a (m n : WT) (sl : _) (bx : _) (Q : _) (X : _) : wtAnd m n sl bx Q X = m sl bx (fun k bx' => if k = true then n sl bx' Q X else Q false bx') X := rfl
theorem wtOr_a (m n : WT) (sl : _) (bx : _) (Q : _) (X : _) : wtOr m n sl bx Q X = m sl bx (fun k bx' => if k = true then Q true bx' else n sl bx' Q X) X := rfl
theorem wTru_a (m : WE) (sl : _) (bx : _) (Q : _) (X : _) : wTru m sl bx Q X = m sl bx (fun d bx' => ∃ k, dTru bx' d = some k ∧ Q k bx') X := rfl
theorem wNot_a (m : WE) (sl : _) (bx : _) (Q : _) (X : _) : wNot m sl bx Q X = m sl bx (fun d bx' => ∃ k, dTru bx' d = some k ∧ Q (.bl (!k)) bx') X := rfl
theorem wAnd_a (m n : WE) (sl : _) (bx : _) (Q : _) (X : _) : wAnd m n sl bx Q X = m sl bx (fun d bx' => ∃ k, dTru bx' d = some k ∧ if k = true then n sl bx' Q X else Q d bx') X := rfl
theorem wOr_a (m n : WE) (sl : _) (bx : _) (Q : _) (X : _) : wOr m n sl bx Q X = m sl bx (fun d bx' => ∃ k, dTru bx' d = some k ∧ if k = true then Q d bx' else n sl bx' Q X) X := rfl
theorem wIf_a (t : WT) (a b : WE) (sl : _) (bx : _) (Q : _) (X : _) : wIf t a b sl bx Q X = t sl bx (fun k bx' => if k = true then a sl bx' Q X else b sl bx' Q X) X := rfl
theorem wOp2_a (c : CallM) (ma mb : WE) (sl : _) (bx : _) (Q : _) (X : _) : wOp2 c ma mb sl bx Q X = ma sl bx (fun d bx1 => mb sl bx1 (fun e bx2 => c [d, e] bx2 Q X) X) X := rfl
-- no wSlot
theorem wC_a (d : D) (z0 : _) (bx : _) (Q : _) (z3 : _) : wC d z0 bx Q z3 = Q d bx := rfl
theorem wsRet_a (m : WE) (D : _) (W : _) (sl : _) (bx : _) : wsRet m D W sl bx = m sl bx D.rt (fun x b => W x sl b) := rfl
theorem wsRetN_a  (D : _) (z1 : _) (z2 : _) (bx : _) : wsRetN  D z1 z2 bx = D.rt .non bx := rfl
theorem wsSkip_a  (D : _) (z1 : _) (sl : _) (bx : _) : wsSkip  D z1 sl bx = D.nx sl bx := rfl
theorem wsAsg_a (m : WE) (g : WG) (D : _) (W : _) (sl : _) (bx : _) : wsAsg m g D W sl bx = m sl bx (fun d bx' => g d W sl bx' D.nx) (fun x b => W x sl b) := rfl
theorem wsExpr_a (m : WE) (D : _) (W : _) (sl : _) (bx : _) : wsExpr m D W sl bx = m sl bx (fun _ bx' => D.nx sl bx') (fun x b => W x sl b) := rfl
theorem wgName_a (i : Nat) (d : _) (z1 : _) (sl : _) (bx : _) (Q : _) : wgName i d z1 sl bx Q = Q (sl.set i (some d)) bx := rfl
theorem wBin_a (b : Bool) (op : O2) (ma mb : WE) (sl : _) (bx : _) (Q : _) (X : _) : wBin b op ma mb sl bx Q X = ma sl bx (fun d bx1 => mb sl bx1 (fun e bx2 => ∃ rs, op bx2 d e = some rs ∧ fin b rs bx2 Q) X) X := rfl
theorem wCall_a (c : CallM) (m : WA) (sl : _) (bx : _) (Q : _) (X : _) : wCall c m sl bx Q X = m sl bx (fun ds bx1 => c ds bx1 Q X) X := rfl
theorem wCons_a (m : WE) (n : WA) (sl : _) (bx : _) (Q : _) (X : _) : wCons m n sl bx Q X = m sl bx (fun d bx1 => n sl bx1 (fun ds bx2 => Q (d :: ds) bx2) X) X := rfl
theorem wNil_a  (z0 : _) (bx : _) (Q : _) (z3 : _) : wNil  z0 bx Q z3 = Q [] bx := rfl
theorem wTup_a (m : WA) (sl : _) (bx : _) (Q : _) (X : _) : wTup m sl bx Q X = m sl bx (fun ds bx' => ds.length ≤ sizeLine ∧ Q (.tup ds) bx') X := rfl
theorem wAttrX_a (attrs : Nat → List Str) (exf : Nat → Option (Nat × ExF)) (f : Str) (m : WE) (sl : _) (bx : _) (Q : _) (X : _) : wAttrX attrs exf f m sl bx Q X = m sl bx (fun d bx' => match dr bx' d with
  | some (.obj c fs) => f ∈ attrs c ∧ ∃ d', fs.lookup f = some d' ∧ Q d' bx'
  | some (.exc c fs) => ∃ np fl d', exf c = some (np, fl) ∧ f ∈ fl.map (·.1) ∧ fs.lookup f = some d' ∧ Q d' bx'
  | _ => False) X := rfl
theorem wsFor_a (it : WIt) (g : WG) (b : WS) (D : _) (W : _) (sl : _) (bx : _) : wsFor it g b D W sl bx = it sl bx (fun ds cond bx' => forW cond g b D W ds sl bx') (fun x b => W x sl b) := rfl
theorem wiAny_a (m : WE) (sl : _) (bx : _) (Q : _) (X : _) : wiAny m sl bx Q X = m sl bx (fun d bx' => ∃ p, itemsOf bx' d = some p ∧ Q p.1 p.2 bx') X := rfl
theorem wMeth_a (mt : Nat → Option CallM) (m : Str) (mo : WE) (ma : WA) (sl : _) (bx : _) (Q : _) (X : _) : wMeth mt m mo ma sl bx Q X = mo sl bx (fun d bx1 => ∃ c fs cm, dr bx1 d = some (.obj c fs) ∧ fs.lookup m = none ∧ mt c = some cm ∧ ma sl bx1 (fun ds bx2 => cm (d :: ds) bx2 Q X) X) X := rfl
theorem wSl_a (b : Bool) (m : WE) (lo hi : WO) (sl : _) (bx : _) (Q : _) (X : _) : wSl b m lo hi sl bx Q X = m sl bx (fun d bx1 => lo sl bx1 (fun l bx2 => hi sl bx2 (fun h bx3 => ∃ rs, dSl bx3 d l h = some rs ∧ fin b rs bx3 Q) X) X) X := rfl
theorem woSome_a (m : WE) (sl : _) (bx : _) (Q : _) (X : _) : woSome m sl bx Q X = m sl bx (fun d bx' => ∃ i, d = .int i ∧ Q (some i) bx') X := rfl
theorem woNone_a  (z0 : _) (bx : _) (Q : _) (z3 : _) : woNone  z0 bx Q z3 = Q none bx := rfl
theorem wBm_a (T : String) (c : CallM) (mo : WE) (ma : WA) (sl : _) (bx : _) (Q : _) (X : _) : wBm T c mo ma sl bx Q X = mo sl bx (fun d bx1 => isTy T bx1 d ∧ ma sl bx1 (fun ds bx2 => c (d :: ds) bx2 Q X) X) X := rfl
theorem wsTry_a (isub : Nat → Nat → Option Bool) (m : WS) (l : List Cl) (D : _) (W : _) (sl : _) (bx : _) : wsTry isub m l D W sl bx = m D (tryW isub D W l) sl bx := rfl
theorem wNeg_a (m : WE) (sl : _) (bx : _) (Q : _) (X : _) : wNeg m sl bx Q X = m sl bx (fun d bx' => ∃ i, d = .int i ∧ Q (.int (-i)) bx') X := rfl
theorem wRev_a (b : Bool) (m : WE) (sl : _) (bx : _) (Q : _) (X : _) : wRev b m sl bx Q X = m sl bx (fun d bx1 => ∃ rs, dRev bx1 d = some rs ∧ fin b rs bx1 Q) X := rfl
theorem wSlotF_a (i : Nat) (sl : _) (bx : _) (Q : _) (z3 : _) : wSlotF i sl bx Q z3 = ∃ n d, sl[i]? = some (some (.box n)) ∧ bx n = some d ∧ Q d (delb bx n) := rfl
theorem wsPar_a (is : List Nat) (m : WA) (D : _) (W : _) (sl : _) (bx : _) : wsPar is m D W sl bx = m sl bx (fun ds bx' => ∃ sl', setsD is ds sl = some sl' ∧ D.nx sl' bx') (fun x b => W x sl b) := rfl
theorem wMake_a (b : Bool) (c : Nat) (cm : CallM) (ma : WA) (sl : _) (bx : _) (Q : _) (X : _) : wMake b c cm ma sl bx Q X = ma sl bx (fun ds bx1 => ∀ n, bx1 n = none → cm (.box n :: ds) (upb bx1 n (.obj c [])) (fun v bx2 => v = .non ∧ ∃ d, bx2 n = some d ∧ if b = true then Q (.box n) bx2 else Q d (delb bx2 n)) X) X := rfl
theorem wsRaise_a (c np : Nat) (fl : ExF) (ma : WA) (z0 : _) (W : _) (sl : _) (bx : _) : wsRaise c np fl ma z0 W sl bx = ma sl bx (fun ds bx1 => ds.length + 1 = np ∧ ∃ fs, exAll bx1 ds fl [] = some fs ∧ W ⟨c, fs⟩ sl bx1) (fun x b => W x sl b) := rfl
theorem wSlot_a (i : Nat) (sl : _) (bx : _) (Q : _) (X : _) : wSlot i sl bx Q X = ∃ d, sl[i]? = some (some d) ∧ Q d bx := rfl
theorem lst_a (m : WA) (sl : _) (bx : _) (Q : _) (X : _) : wLst false m sl bx Q X = m sl bx (fun ds bx1 => ds.length ≤ sizeLine ∧ Q (.lst ds) bx1) X := rfl
theorem lst_c (d : D) (m : WA) (sl : _) (bx : _) (Q : _) (X : _) : wCons (wC d) m sl bx Q X = m sl bx (fun ds bx1 => Q (d :: ds) bx1) X := rfl
end Mi
namespace Mi
open PySem PySem.Spec
/-- boxes side by side with what they hold -/
inductive BxsP (P : Nat → Prop) {α : Type} (c : α → List D) (b : Bx) : List Nat → List α → Prop
  | nil : BxsP P c b [] []
  | cons {m : Nat} {a : α} {ms : List Nat} {l : List α} (h : b m = some (.lst (c a))) (p : P m) (t : BxsP P c b ms l) : BxsP P c b (m :: ms) (a :: l)
theorem BxsP.imp {P P' : Nat → Prop} {α : Type} {c : α → List D} {b b' : Bx} (hb : ∀ m l, b m = some (.lst l) → P m → b' m = some (.lst l)) (hp : ∀ m, P m → P' m) : ∀ {ms : List Nat} {l : List α}, BxsP P c b ms l → BxsP P' c b' ms l
  | _, _, .nil => .nil
  | _, _, .cons h p t => .cons (hb _ _ h p) (hp _ p) (t.imp hb hp)
theorem BxsP.append {P : Nat → Prop} {α : Type} {c : α → List D} {b : Bx} : ∀ {ms ms' : List Nat} {l l' : List α}, BxsP P c b ms l → BxsP P c b ms' l' → BxsP P c b (ms ++ ms') (l ++ l')
  | _, _, _, _, .nil, t' => t'
  | _, _, _, _, .cons h p t, t' => .cons h p (t.append t')
theorem lc_new {ct : CT} {vs : List Nat} {it : WIt} {te : WE} {sl : Sl} {bx : Bx} {Q : VQ} {X : XQ} {α : Type} {g : α → D} {c : α → List D} {l : List α} {cond : Bx → Prop}
    (hi : ∀ (Qi : List D → (Bx → Prop) → Bx → Prop), Qi (l.map g) cond bx → it sl bx Qi X) (hc : ∀ b', LeB bx b' → cond b') (hl : l.length ≤ sizeLine)
    (h : ∀ a ∈ l, ∃ sl', ctD ct (g a) (wipeD sl vs) = some sl' ∧ ∀ b', LeB bx b' → ∀ (Qe : VQ) (X : XQ), (∀ m, b' m = none → Qe (.box m) (upb b' m (.lst (c a)))) → te sl' b' Qe X)
    (hq : ∀ b' ms, LeB bx b' → BxsP (fun m => bx m = none) c b' ms l → Q (.lst (ms.map .box)) b') : wLc false ct vs it wtYes te sl bx Q X := by
  refine hi _ fun n hn => ?_
  have key : ∀ (as : List α) (done : List α) (ms : List Nat) (b : Bx), (∀ a ∈ as, a ∈ l) → done ++ as = l → LeB bx b → BxsP (fun m => bx m = none ∧ m ≠ n) c b ms done → ms.length + as.length ≤ sizeLine → b n = some (.lst (ms.map .box)) →
      lcW n cond ct vs wtYes te sl (fun bx2 => ∃ acc, bx2 n = some (.lst acc) ∧ if false = true then Q (.box n) bx2 else Q (.lst acc) (delb bx2 n)) (as.map g) b := by
    intro as
    induction as with
    | nil =>
      intro done ms b _ e1 le B _ eb
      rw [List.append_nil] at e1
      subst e1
      refine ⟨hc _ le, _, eb, ?_⟩
      rw [if_neg Bool.false_ne_true]
      refine hq _ _ (fun i d e => ?_) (B.imp (fun m l e p => by simp [delb, p.2, e]) fun m p => p.1)
      have : i ≠ n := by rintro rfl; rw [hn] at e; cases e
      simpa [delb, this] using le _ _ e
    | cons a as ih =>
      intro done ms b hm e1 le B hlen eb
      obtain ⟨sl', e2, e3⟩ := h a (hm a List.mem_cons_self)
      refine ⟨hc _ le, sl', e2, ?_⟩
      simp only [wtYes, if_true]
      refine e3 b le _ _ fun m hm0 => ?_
      have hmn : m ≠ n := by rintro rfl; rw [hm0] at eb; cases eb
      have hbm : bx m = none := by
        cases e : bx m with
        | none => rfl
        | some d => rw [le _ _ e] at hm0; cases hm0
      simp only [List.length_cons] at hlen
      refine ⟨ms.map .box, by simp [upb, hmn.symm, eb], by rw [List.length_map]; omega, ?_⟩
      refine ih (done ++ [a]) (ms ++ [m]) _ (fun x hx => hm x (List.mem_cons_of_mem _ hx)) (by rw [← e1]; simp) (fun i d e => ?_) ?_ (by simp only [List.length_append, List.length_cons, List.length_nil]; omega) (by simp [upb])
      · have i1 : i ≠ n := by rintro rfl; rw [hn] at e; cases e
        have i2 : i ≠ m := by rintro rfl; rw [hbm] at e; cases e
        simpa [upb, i1, i2] using le _ _ e
      · refine (B.imp (fun k l e p => ?_) fun _ p => p).append (.cons (by simp [upb, hmn]) ⟨hbm, hmn⟩ .nil)
        have i2 : k ≠ m := by rintro rfl; rw [hm0] at e; cases e
        simp [upb, p.2, i2, e]
  refine key l [] [] _ (fun _ h => h) rfl (leB_up hn) .nil (by simpa using hl) upb_at
end Mi
namespace Mk22
open PySem PySem.Spec L2 Mi
def up : List (List Ty) := [[Ty.ty "ValueError", Ty.ty "Exception", Ty.ty "object"], [Ty.ty "LookupError", Ty.ty "Exception", Ty.ty "object"], [Ty.cls 0, Ty.ty "ValueError", Ty.ty "Exception", Ty.ty "object"], [Ty.cls 0, Ty.ty "ValueError", Ty.ty "Exception", Ty.ty "object"], [Ty.cls 0, Ty.ty "ValueError", Ty.ty "Exception", Ty.ty "object"], [Ty.cls 0, Ty.ty "ValueError", Ty.ty "Exception", Ty.ty "object"], [Ty.cls 1, Ty.ty "LookupError", Ty.ty "Exception", Ty.ty "object"], [Ty.ty "object"]]
def tys : List String := ["int", "bool", "str", "list", "tuple", "dict", "NoneType", "ValueError", "LookupError"]
def ab : List Nat := [0, 1]
def f0 : FnI := ⟨["value"], ["value", "sign"], (findDef PySem.Challenge.pw_pairlaws_k22_frames.main.body "is_word").2, (findDef PySem.Challenge.pw_pairlaws_k22_frames.main.body "is_word").1⟩
def f1 : FnI := ⟨["rows"], ["rows", "names", "name", "met"], (findDef PySem.Challenge.pw_pairlaws_k22_frames.main.body "look_at_words").2, (findDef PySem.Challenge.pw_pairlaws_k22_frames.main.body "look_at_words").1⟩
def f2 : FnI := ⟨["sorts", "letters", "totals"], ["sorts", "letters", "totals", "name", "one", "other", "sort", "names", "word", "letter"], (findDef PySem.Challenge.pw_pairlaws_k22_frames.main.body "look_at_ends").2, (findDef PySem.Challenge.pw_pairlaws_k22_frames.main.body "look_at_ends").1⟩
def f3 : FnI := ⟨["totals"], ["totals", "met", "name", "word"], (findDef PySem.Challenge.pw_pairlaws_k22_frames.main.body "look_at_totals").2, (findDef PySem.Challenge.pw_pairlaws_k22_frames.main.body "look_at_totals").1⟩
def f4 : FnI := ⟨["ends", "word"], ["ends", "word"], (findDef PySem.Challenge.pw_pairlaws_k22_frames.main.body "step_of").2, (findDef PySem.Challenge.pw_pairlaws_k22_frames.main.body "step_of").1⟩
def f5 : FnI := ⟨["sorts", "steps"], ["sorts", "steps", "left", "before", "sort", "one", "other"], (findDef PySem.Challenge.pw_pairlaws_k22_frames.main.body "sorts_coming_round").2, (findDef PySem.Challenge.pw_pairlaws_k22_frames.main.body "sorts_coming_round").1⟩
def f6 : FnI := ⟨["self", "sorts", "letters", "totals"], ["self", "sorts", "letters", "totals", "steps", "members", "letter", "name", "one", "other", "word"], (findMth PySem.Challenge.pw_pairlaws_k22_frames.main.body "Frame" "__init__").2, (findMth PySem.Challenge.pw_pairlaws_k22_frames.main.body "Frame" "__init__").1⟩
def f7 : FnI := ⟨["self"], ["self"], (findMth PySem.Challenge.pw_pairlaws_k22_frames.main.body "Frame" "sorts").2, (findMth PySem.Challenge.pw_pairlaws_k22_frames.main.body "Frame" "sorts").1⟩
def f8 : FnI := ⟨["self"], ["self"], (findMth PySem.Challenge.pw_pairlaws_k22_frames.main.body "Frame" "letters").2, (findMth PySem.Challenge.pw_pairlaws_k22_frames.main.body "Frame" "letters").1⟩
def f9 : FnI := ⟨["self"], ["self"], (findMth PySem.Challenge.pw_pairlaws_k22_frames.main.body "Frame" "totals").2, (findMth PySem.Challenge.pw_pairlaws_k22_frames.main.body "Frame" "totals").1⟩
def f10 : FnI := ⟨["self", "value"], ["self", "value"], (findMth PySem.Challenge.pw_pairlaws_k22_frames.main.body "Frame" "has_sort").2, (findMth PySem.Challenge.pw_pairlaws_k22_frames.main.body "Frame" "has_sort").1⟩
def f11 : FnI := ⟨["self", "value"], ["self", "value"], (findMth PySem.Challenge.pw_pairlaws_k22_frames.main.body "Frame" "has_letter").2, (findMth PySem.Challenge.pw_pairlaws_k22_frames.main.body "Frame" "has_letter").1⟩
def f12 : FnI := ⟨["self", "name"], ["self", "name"], (findMth PySem.Challenge.pw_pairlaws_k22_frames.main.body "Frame" "ends").2, (findMth PySem.Challenge.pw_pairlaws_k22_frames.main.body "Frame" "ends").1⟩
def f13 : FnI := ⟨["self", "sort"], ["self", "sort", "name", "word"], (findMth PySem.Challenge.pw_pairlaws_k22_frames.main.body "Frame" "totals_from").2, (findMth PySem.Challenge.pw_pairlaws_k22_frames.main.body "Frame" "totals_from").1⟩
def f14 : FnI := ⟨["self", "fellow"], ["self", "fellow"], (findMth PySem.Challenge.pw_pairlaws_k22_frames.main.body "Frame" "__eq__").2, (findMth PySem.Challenge.pw_pairlaws_k22_frames.main.body "Frame" "__eq__").1⟩
def f15 : FnI := ⟨["script"], ["script", "mixed", "cell", "cells", "k"], (findDef PySem.Challenge.pw_pairlaws_k22_frames.main.body "_law_source").2, (findDef PySem.Challenge.pw_pairlaws_k22_frames.main.body "_law_source").1⟩
def f16 : FnI := ⟨["source", "many"], ["source", "many", "cells", "left", "turn", "mixed"], (findDef PySem.Challenge.pw_pairlaws_k22_frames.main.body "_law_pick").2, (findDef PySem.Challenge.pw_pairlaws_k22_frames.main.body "_law_pick").1⟩
def f17 : FnI := ⟨["source", "many"], ["source", "many", "shift", "names", "k", "letter"], (findDef PySem.Challenge.pw_pairlaws_k22_frames.main.body "_law_names").2, (findDef PySem.Challenge.pw_pairlaws_k22_frames.main.body "_law_names").1⟩
def f18 : FnI := ⟨["source", "sorts", "letters"], ["source", "sorts", "letters", "every", "order", "found", "name"], (findDef PySem.Challenge.pw_pairlaws_k22_frames.main.body "_law_frame").2, (findDef PySem.Challenge.pw_pairlaws_k22_frames.main.body "_law_frame").1⟩
def f19 : FnI := ⟨["every", "order", "letters", "totals"], ["every", "order", "letters", "totals", "built", "name"], (findDef PySem.Challenge.pw_pairlaws_k22_frames.main.body "_law_framed").2, (findDef PySem.Challenge.pw_pairlaws_k22_frames.main.body "_law_framed").1⟩
def f20 : FnI := ⟨["source", "frame"], ["source", "frame", "totals", "name", "ends"], (findDef PySem.Challenge.pw_pairlaws_k22_frames.main.body "_law_with_totals").2, (findDef PySem.Challenge.pw_pairlaws_k22_frames.main.body "_law_with_totals").1⟩
def f21 : FnI := ⟨["value"], ["value", "sign"], (findDef PySem.Challenge.pw_pairlaws_k22_frames.main.body "_law_is_word").2, (findDef PySem.Challenge.pw_pairlaws_k22_frames.main.body "_law_is_word").1⟩
def f22 : FnI := ⟨["names"], ["names", "at"], (findDef PySem.Challenge.pw_pairlaws_k22_frames.main.body "_law_twice").2, (findDef PySem.Challenge.pw_pairlaws_k22_frames.main.body "_law_twice").1⟩
def f23 : FnI := ⟨["sorts", "steps"], ["sorts", "steps", "left", "turn", "sort", "step"], (findDef PySem.Challenge.pw_pairlaws_k22_frames.main.body "_law_round").2, (findDef PySem.Challenge.pw_pairlaws_k22_frames.main.body "_law_round").1⟩
def f24 : FnI := ⟨["sorts", "letters", "totals"], ["sorts", "letters", "totals", "names", "name", "some", "letter", "word", "at", "steps", "ends", "left"], (findDef PySem.Challenge.pw_pairlaws_k22_frames.main.body "_law_due").2, (findDef PySem.Challenge.pw_pairlaws_k22_frames.main.body "_law_due").1⟩
def f25 : FnI := ⟨["sorts", "letters", "totals"], ["sorts", "letters", "totals", "error"], (findDef PySem.Challenge.pw_pairlaws_k22_frames.main.body "_law_told").2, (findDef PySem.Challenge.pw_pairlaws_k22_frames.main.body "_law_told").1⟩
def f26 : FnI := ⟨["source", "sorts", "letters", "totals"], ["source", "sorts", "letters", "totals", "odd", "way", "at", "name", "one", "other", "turned", "word"], (findDef PySem.Challenge.pw_pairlaws_k22_frames.main.body "_law_bent").2, (findDef PySem.Challenge.pw_pairlaws_k22_frames.main.body "_law_bent").1⟩
def f27 : FnI := ⟨["built", "name"], ["built", "name", "way", "error"], (findDef PySem.Challenge.pw_pairlaws_k22_frames.main.body "_law_refused").2, (findDef PySem.Challenge.pw_pairlaws_k22_frames.main.body "_law_refused").1⟩
def f28 : FnI := ⟨["built", "sorts", "letters", "totals"], ["built", "sorts", "letters", "totals", "name", "one", "other", "sort", "due", "word", "ends", "odd"], (findDef PySem.Challenge.pw_pairlaws_k22_frames.main.body "_law_right").2, (findDef PySem.Challenge.pw_pairlaws_k22_frames.main.body "_law_right").1⟩
def f29 : FnI := ⟨["built", "sorts", "names"], ["built", "sorts", "names", "name", "error", "sort"], (findDef PySem.Challenge.pw_pairlaws_k22_frames.main.body "_law_is_apart").2, (findDef PySem.Challenge.pw_pairlaws_k22_frames.main.body "_law_is_apart").1⟩
def f30 : FnI := ⟨["sorts", "letters", "totals"], ["sorts", "letters", "totals", "due", "told", "letter"], (findDef PySem.Challenge.pw_pairlaws_k22_frames.main.body "_law_lists_right").2, (findDef PySem.Challenge.pw_pairlaws_k22_frames.main.body "_law_lists_right").1⟩
def f31 : FnI := ⟨["source"], ["source", "sorts", "letters", "totals", "name", "one", "other", "built", "others", "at", "some", "more"], (findDef PySem.Challenge.pw_pairlaws_k22_frames.main.body "_law_great_right").2, (findDef PySem.Challenge.pw_pairlaws_k22_frames.main.body "_law_great_right").1⟩
def f32 : FnI := ⟨["source"], ["source", "sorts", "letters", "totals", "lap", "way", "at"], (findDef PySem.Challenge.pw_pairlaws_k22_frames.main.body "_law_faulty_right").2, (findDef PySem.Challenge.pw_pairlaws_k22_frames.main.body "_law_faulty_right").1⟩
def f33 : FnI := ⟨["script"], ["script", "source", "frame", "lists", "stays", "change", "printed", "due", "told", "given", "built", "some", "other", "name"], (findDef PySem.Challenge.pw_pairlaws_k22_frames.main.body "law").2, (findDef PySem.Challenge.pw_pairlaws_k22_frames.main.body "law").1⟩
def S : Stat := {
  glb := [(Str.ofString "PairError", Gv.cls 0), (Str.ofString "NameMissing", Gv.cls 1), (Str.ofString "BadName", Gv.cls 2), (Str.ofString "TwiceTold", Gv.cls 3), (Str.ofString "BadFrame", Gv.cls 4), (Str.ofString "ComesRound", Gv.cls 5), (Str.ofString "UnknownName", Gv.cls 6), (Str.ofString "is_word", Gv.fn 0), (Str.ofString "look_at_words", Gv.fn 1), (Str.ofString "look_at_ends", Gv.fn 2), (Str.ofString "look_at_totals", Gv.fn 3), (Str.ofString "step_of", Gv.fn 4), (Str.ofString "sorts_coming_round", Gv.fn 5), (Str.ofString "Frame", Gv.cls 7), (Str.ofString "_law_source", Gv.fn 15), (Str.ofString "_law_pick", Gv.fn 16), (Str.ofString "_law_names", Gv.fn 17), (Str.ofString "_law_frame", Gv.fn 18), (Str.ofString "_law_framed", Gv.fn 19), (Str.ofString "_law_with_totals", Gv.fn 20), (Str.ofString "_law_is_word", Gv.fn 21), (Str.ofString "_law_twice", Gv.fn 22), (Str.ofString "_law_round", Gv.fn 23), (Str.ofString "_law_due", Gv.fn 24), (Str.ofString "_law_told", Gv.fn 25), (Str.ofString "_law_bent", Gv.fn 26), (Str.ofString "_law_refused", Gv.fn 27), (Str.ofString "_law_right", Gv.fn 28), (Str.ofString "_law_is_apart", Gv.fn 29), (Str.ofString "_law_lists_right", Gv.fn 30), (Str.ofString "_law_great_right", Gv.fn 31), (Str.ofString "_law_faulty_right", Gv.fn 32), (Str.ofString "law", Gv.fn 33), (Str.ofString "FIRSTS", Gv.val (.str "abcdefghijklmnopqrstuvwxyz")), (Str.ofString "SIGNS", Gv.val (.str "abcdefghijklmnopqrstuvwxyz0123456789")), (Str.ofString "MOST_SIGNS", Gv.val (.int 12)), (Str.ofString "ON", Gv.val (.str "on")), (Str.ofString "BACK", Gv.val (.str "back"))],
  fns := [f0, f1, f2, f3, f4, f5, f6, f7, f8, f9, f10, f11, f12, f13, f14, f15, f16, f17, f18, f19, f20, f21, f22, f23, f24, f25, f26, f27, f28, f29, f30, f31, f32, f33],
  cls := [({ init := none, mths := [], attrs := [] } : ClI), ({ init := none, mths := [], attrs := [] } : ClI), ({ init := none, mths := [], attrs := [], ex := some (2, [("name", 1, false)]) } : ClI), ({ init := none, mths := [], attrs := [], ex := some (2, [("name", 1, false)]) } : ClI), ({ init := none, mths := [], attrs := [], ex := some (2, [("name", 1, false)]) } : ClI), ({ init := none, mths := [], attrs := [], ex := some (2, [("members", 1, true)]) } : ClI), ({ init := none, mths := [], attrs := [], ex := some (2, [("name", 1, false)]) } : ClI), ({ init := some 6, mths := [("sorts", 7), ("letters", 8), ("totals", 9), ("has_sort", 10), ("has_letter", 11), ("ends", 12), ("totals_from", 13), ("__eq__", 14)], attrs := ["ends_by", "letter_row", "sort_row", "total_row"] } : ClI)],
  isi := isiF up tys ab,
  bxp := [((48 : Nat), (14 : Nat)), ((63 : Nat), (10 : Nat)), ((92 : Nat), (15 : Nat)), ((95 : Nat), (15 : Nat)), ((98 : Nat), (15 : Nat)), ((114 : Nat), (15 : Nat)), ((128 : Nat), (11 : Nat)), ((128 : Nat), (21 : Nat)), ((148 : Nat), (12 : Nat)), ((156 : Nat), (12 : Nat)), ((164 : Nat), (13 : Nat)), ((202 : Nat), (12 : Nat)), ((289 : Nat), (23 : Nat)), ((297 : Nat), (13 : Nat)), ((323 : Nat), (12 : Nat)), ((337 : Nat), (13 : Nat))], frz := [(152, 11), (159, 37), (169, 73), (206, 29)], dT := [(63, 10)], hcl := [2, 3, 4, 5, 6] }
def exs : List ExI := [(⟨2, false, ["self", "name", "__class__"], ["self", "name"], (findMth PySem.Challenge.pw_pairlaws_k22_frames.main.body "BadName" "__init__").2, (findMth PySem.Challenge.pw_pairlaws_k22_frames.main.body "BadName" "__init__").1⟩ : ExI), (⟨3, false, ["self", "name", "__class__"], ["self", "name"], (findMth PySem.Challenge.pw_pairlaws_k22_frames.main.body "TwiceTold" "__init__").2, (findMth PySem.Challenge.pw_pairlaws_k22_frames.main.body "TwiceTold" "__init__").1⟩ : ExI), (⟨4, false, ["self", "name", "__class__"], ["self", "name"], (findMth PySem.Challenge.pw_pairlaws_k22_frames.main.body "BadFrame" "__init__").2, (findMth PySem.Challenge.pw_pairlaws_k22_frames.main.body "BadFrame" "__init__").1⟩ : ExI), (⟨5, false, ["self", "members", "__class__"], ["self", "members"], (findMth PySem.Challenge.pw_pairlaws_k22_frames.main.body "ComesRound" "__init__").2, (findMth PySem.Challenge.pw_pairlaws_k22_frames.main.body "ComesRound" "__init__").1⟩ : ExI), (⟨6, true, ["self", "name", "__class__"], ["self", "name"], (findMth PySem.Challenge.pw_pairlaws_k22_frames.main.body "UnknownName" "__init__").2, (findMth PySem.Challenge.pw_pairlaws_k22_frames.main.body "UnknownName" "__init__").1⟩ : ExI)]
def hd : Hd := ⟨⟨[Str.ofString "PairError", Str.ofString "NameMissing", Str.ofString "BadName", Str.ofString "TwiceTold", Str.ofString "BadFrame", Str.ofString "ComesRound", Str.ofString "UnknownName", Str.ofString "Frame"], [((none : Option Nat), Str.ofString "is_word"), ((none : Option Nat), Str.ofString "look_at_words"), ((none : Option Nat), Str.ofString "look_at_ends"), ((none : Option Nat), Str.ofString "look_at_totals"), ((none : Option Nat), Str.ofString "step_of"), ((none : Option Nat), Str.ofString "sorts_coming_round"), ((some 7 : Option Nat), Str.ofString "__init__"), ((some 7 : Option Nat), Str.ofString "sorts"), ((some 7 : Option Nat), Str.ofString "letters"), ((some 7 : Option Nat), Str.ofString "totals"), ((some 7 : Option Nat), Str.ofString "has_sort"), ((some 7 : Option Nat), Str.ofString "has_letter"), ((some 7 : Option Nat), Str.ofString "ends"), ((some 7 : Option Nat), Str.ofString "totals_from"), ((some 7 : Option Nat), Str.ofString "__eq__"), ((none : Option Nat), Str.ofString "_law_source"), ((none : Option Nat), Str.ofString "_law_pick"), ((none : Option Nat), Str.ofString "_law_names"), ((none : Option Nat), Str.ofString "_law_frame"), ((none : Option Nat), Str.ofString "_law_framed"), ((none : Option Nat), Str.ofString "_law_with_totals"), ((none : Option Nat), Str.ofString "_law_is_word"), ((none : Option Nat), Str.ofString "_law_twice"), ((none : Option Nat), Str.ofString "_law_round"), ((none : Option Nat), Str.ofString "_law_due"), ((none : Option Nat), Str.ofString "_law_told"), ((none : Option Nat), Str.ofString "_law_bent"), ((none : Option Nat), Str.ofString "_law_refused"), ((none : Option Nat), Str.ofString "_law_right"), ((none : Option Nat), Str.ofString "_law_is_apart"), ((none : Option Nat), Str.ofString "_law_lists_right"), ((none : Option Nat), Str.ofString "_law_great_right"), ((none : Option Nat), Str.ofString "_law_faulty_right"), ((none : Option Nat), Str.ofString "law")]⟩, exs, up, tys, ab⟩
/-- is_word -/
def t0 (cm : CM) : WS :=
  (wsSeq (wsIf (wtOr (wtNot (wTru (bltJ S cm false "isinstance" (wCons (wSlot 0) (wCons (wC (.ty "str")) wNil))))) (wtOr (wtNot (wtB (wChain dLe dLe (wC (.int 1)) (bltJ S cm false "len" (wCons (wSlot 0) wNil)) (wC (.int 12))))) (wtB (wOp2 (cmpC S cm false .NotIn) (wBin false dIx (wSlot 0) (wC (.int 0))) (wC (.str "abcdefghijklmnopqrstuvwxyz")))))) (wsSeq (wsRet (wC (.bl false)))
  wsSkip) wsSkip)
  (wsSeq (wsRet (bltJ S cm false "all" (wCons (wLc false (.one 1) [1] (wiAny (wSlot 0)) wtYes (wOp2 (cmpC S cm false .In) (wSlot 1) (wC (.str "abcdefghijklmnopqrstuvwxyz0123456789")))) wNil)))
  wsSkip))
theorem c0 (n : Nat) : cmAt S (n + 1) 0 = some (runM 1 2 (t0 (cmAt S n))) := by kernel_rfl
/-- look_at_words -/
def t1 (cm : CM) : WS :=
  (wsSeq (wsFor (wiAny (wSlot 0)) (wgName 1) (wsSeq (wsFor (wiAny (wSlot 1)) (wgName 2) (wsSeq (wsIf (wtNot (wTru (callJ cm 0 (wCons (wSlot 2) wNil)))) (wsSeq (wsRaise 2 2 [("name", 1, false)] (wCons (wSlot 2) wNil))
  wsSkip) wsSkip)
  wsSkip))
  wsSkip))
  (wsSeq (wsFor (wiAny (wSlot 0)) (wgName 1) (wsSeq (wsAsg (wDic0 false true) (wgName 3))
  (wsSeq (wsFor (wiAny (wSlot 1)) (wgName 2) (wsSeq (wsIf (wtB (wOp2 (cmpC S cm false .In) (wSlot 2) (wSlot 3))) (wsSeq (wsRaise 3 2 [("name", 1, false)] (wCons (wSlot 2) wNil))
  wsSkip) wsSkip)
  (wsSeq (wsAsg (wC (.bl true)) (wgSub (wSlot 3) (wSlot 2)))
  wsSkip)))
  wsSkip)))
  wsSkip))
theorem c1 (n : Nat) : cmAt S (n + 1) 1 = some (runM 1 4 (t1 (cmAt S n))) := by kernel_rfl
/-- look_at_ends -/
def t2 (cm : CM) : WS :=
  (wsSeq (wsFor (wiAny (wSlot 1)) (wgTup 3 (wgCons (wgName 3) (wgCons (wgName 4) (wgCons (wgName 5) wgNil)))) (wsSeq (wsFor (wiAny (wTup (wCons (wSlot 4) (wCons (wSlot 5) wNil)))) (wgName 6) (wsSeq (wsIf (wtB (wOp2 (cmpC S cm false .NotIn) (wSlot 6) (wSlot 0))) (wsSeq (wsRaise 6 2 [("name", 1, false)] (wCons (wSlot 6) wNil))
  wsSkip) wsSkip)
  wsSkip))
  wsSkip))
  (wsSeq (wsAsg (wLc false (.one 9) [9] (wiAny (wSlot 1)) wtYes (wBin false dIx (wSlot 9) (wC (.int 0)))) (wgName 7))
  (wsSeq (wsFor (wiAny (wSlot 2)) (wgTup 2 (wgCons (wgName 3) (wgCons (wgName 8) wgNil))) (wsSeq (wsIf (wtB (wOp2 (cmpC S cm false .NotIn) (wSlot 3) (wSlot 7))) (wsSeq (wsRaise 6 2 [("name", 1, false)] (wCons (wSlot 3) wNil))
  wsSkip) wsSkip)
  wsSkip))
  wsSkip)))
theorem c2 (n : Nat) : cmAt S (n + 1) 2 = some (runM 3 10 (t2 (cmAt S n))) := by kernel_rfl
/-- look_at_totals -/
def t3 (cm : CM) : WS :=
  (wsSeq (wsAsg (wDic0 true true) (wgName 1))
  (wsSeq (wsFor (wiAny (wSlot 0)) (wgTup 2 (wgCons (wgName 2) (wgCons (wgName 3) wgNil))) (wsSeq (wsIf (wtOr (wtB (wOp2 (cmpC S cm false .NotIn) (wSlot 3) (wTup (wCons (wC (.str "on")) (wCons (wC (.str "back")) wNil))))) (wtB (wOp2 (cmpC S cm false .In) (wTup (wCons (wSlot 2) (wCons (wSlot 3) wNil))) (wSlot 1)))) (wsSeq (wsRaise 4 2 [("name", 1, false)] (wCons (wSlot 2) wNil))
  wsSkip) wsSkip)
  (wsSeq (wsAsg (wC (.bl true)) (wgSub (wSlot 1) (wTup (wCons (wSlot 2) (wCons (wSlot 3) wNil)))))
  wsSkip)))
  wsSkip))
theorem c3 (n : Nat) : cmAt S (n + 1) 3 = some (runM 1 4 (t3 (cmAt S n))) := by kernel_rfl
/-- step_of -/
def t4 (cm : CM) : WS :=
  (wsSeq (wsRet (wIf (wtB (wOp2 (cmpC S cm false .Eq) (wSlot 1) (wC (.str "on")))) (wSlot 0) (wTup (wCons (wBin false dIx (wSlot 0) (wC (.int 1))) (wCons (wBin false dIx (wSlot 0) (wC (.int 0))) wNil)))))
  wsSkip)
theorem c4 (n : Nat) : cmAt S (n + 1) 4 = some (runM 2 2 (t4 (cmAt S n))) := by kernel_rfl
/-- sorts_coming_round -/
def t5 (cm : CM) : WS :=
  (wsSeq (wsAsg (wTup (wCons (bltJ S cm false "list" (wCons (wSlot 0) wNil)) (wCons (wC .non) wNil))) (wgTup 2 (wgCons (wgName 2) (wgCons (wgName 3) wgNil))))
  (wsSeq (wsWhile (wtB (wOp2 (cmpC S cm false .NotEq) (wSlot 2) (wSlot 3))) (wsSeq (wsAsg (wSlot 2) (wgName 3))
  (wsSeq (wsAsg (wLc false (.one 4) [4] (wiAny (wSlot 3)) (wTru (bltJ S cm false "any" (wCons (wLc false (.tup [5, 6]) [5, 6] (wiAny (wSlot 1)) wtYes (wAnd (wOp2 (cmpC S cm false .Eq) (wSlot 5) (wSlot 4)) (wOp2 (cmpC S cm false .In) (wSlot 6) (wSlot 3)))) wNil))) (wSlot 4)) (wgName 2))
  wsSkip)))
  (wsSeq (wsRet (wSlot 2))
  wsSkip)))
theorem c5 (n : Nat) : cmAt S (n + 1) 5 = some (runM 2 7 (t5 (cmAt S n))) := by kernel_rfl
/-- __init__ -/
def t6 (cm : CM) : WS :=
  (wsSeq (wsExpr (callJ cm 1 (wCons (wLst false (wCons (bltJ S cm false "list" (wCons (wSlot 1) wNil)) (wCons (wLc false (.one 6) [6] (wiAny (wSlot 2)) wtYes (wBin false dIx (wSlot 6) (wC (.int 0)))) wNil))) wNil)))
  (wsSeq (wsExpr (callJ cm 2 (wCons (bltJ S cm false "list" (wCons (wSlot 1) wNil)) (wCons (wSlot 2) (wCons (wSlot 3) wNil)))))
  (wsSeq (wsExpr (callJ cm 3 (wCons (wSlot 3) wNil)))
  (wsSeq (wsFld (attrsOf S) (wSlot 0) (bltJ S cm false "tuple" (wCons (wSlot 1) wNil)) "sort_row")
  (wsSeq (wsFld (attrsOf S) (wSlot 0) (bltJ S cm false "tuple" (wCons (wLc false (.tup [7, 8, 9]) [7, 8, 9] (wiAny (wSlot 2)) wtYes (wTup (wCons (wSlot 7) (wCons (wSlot 8) (wCons (wSlot 9) wNil))))) wNil)) "letter_row")
  (wsSeq (wsFld (attrsOf S) (wSlot 0) (bltJ S cm false "tuple" (wCons (wLc false (.tup [7, 10]) [7, 10] (wiAny (wSlot 3)) wtYes (wTup (wCons (wSlot 7) (wCons (wSlot 10) wNil)))) wNil)) "total_row")
  (wsSeq (wsFld (attrsOf S) (wSlot 0) (wDc false (.tup [7, 8, 9]) [7, 8, 9] (wiAny (wAttrX (attrsOf S) (exOf S) "letter_row" (wSlot 0))) wtYes (wSlot 7) (wTup (wCons (wSlot 8) (wCons (wSlot 9) wNil)))) "ends_by")
  (wsSeq (wsAsg (wLc false (.tup [7, 10]) [7, 10] (wiAny (wAttrX (attrsOf S) (exOf S) "total_row" (wSlot 0))) wtYes (callJ cm 4 (wCons (wBin false dIx (wAttrX (attrsOf S) (exOf S) "ends_by" (wSlot 0)) (wSlot 7)) (wCons (wSlot 10) wNil)))) (wgName 4))
  (wsSeq (wsAsg (callJ cm 5 (wCons (wAttrX (attrsOf S) (exOf S) "sort_row" (wSlot 0)) (wCons (wSlot 4) wNil))) (wgName 5))
  (wsSeq (wsIf (wtB (wOp2 (cmpC S cm false .NotEq) (wSlot 5) (wLst false wNil))) (wsSeq (wsRaise 5 2 [("members", 1, true)] (wCons (wSlot 5) wNil))
  wsSkip) wsSkip)
  wsSkip))))))))))
theorem c6 (n : Nat) : cmAt S (n + 1) 6 = some (runM 4 11 (t6 (cmAt S n))) := by kernel_rfl
/-- sorts -/
def t7 (cm : CM) : WS :=
  (wsSeq (wsRet (bltJ S cm true "list" (wCons (wAttrX (attrsOf S) (exOf S) "sort_row" (wSlot 0)) wNil)))
  wsSkip)
theorem c7 (n : Nat) : cmAt S (n + 1) 7 = some (runM 1 1 (t7 (cmAt S n))) := by kernel_rfl
/-- letters -/
def t8 (cm : CM) : WS :=
  (wsSeq (wsRet (bltJ S cm true "list" (wCons (wAttrX (attrsOf S) (exOf S) "letter_row" (wSlot 0)) wNil)))
  wsSkip)
theorem c8 (n : Nat) : cmAt S (n + 1) 8 = some (runM 1 1 (t8 (cmAt S n))) := by kernel_rfl
/-- totals -/
def t9 (cm : CM) : WS :=
  (wsSeq (wsRet (bltJ S cm true "list" (wCons (wAttrX (attrsOf S) (exOf S) "total_row" (wSlot 0)) wNil)))
  wsSkip)
theorem c9 (n : Nat) : cmAt S (n + 1) 9 = some (runM 1 1 (t9 (cmAt S n))) := by kernel_rfl
/-- has_sort -/
def t10 (cm : CM) : WS :=
  (wsSeq (wsRet (wAnd (bltJ S cm false "isinstance" (wCons (wSlot 1) (wCons (wC (.ty "str")) wNil))) (wOp2 (cmpC S cm false .In) (wSlot 1) (wAttrX (attrsOf S) (exOf S) "sort_row" (wSlot 0)))))
  wsSkip)
theorem c10 (n : Nat) : cmAt S (n + 1) 10 = some (runM 2 2 (t10 (cmAt S n))) := by kernel_rfl
/-- has_letter -/
def t11 (cm : CM) : WS :=
  (wsSeq (wsRet (wAnd (bltJ S cm false "isinstance" (wCons (wSlot 1) (wCons (wC (.ty "str")) wNil))) (wOp2 (cmpC S cm false .In) (wSlot 1) (wAttrX (attrsOf S) (exOf S) "ends_by" (wSlot 0)))))
  wsSkip)
theorem c11 (n : Nat) : cmAt S (n + 1) 11 = some (runM 2 2 (t11 (cmAt S n))) := by kernel_rfl
/-- ends -/
def t12 (cm : CM) : WS :=
  (wsSeq (wsIf (wtNot (wTru (wMeth (mthOf S cm "has_letter") "has_letter" (wSlot 0) (wCons (wSlot 1) wNil)))) (wsSeq (wsRaise 6 2 [("name", 1, false)] (wCons (wSlot 1) wNil))
  wsSkip) wsSkip)
  (wsSeq (wsRet (wBin false dIx (wAttrX (attrsOf S) (exOf S) "ends_by" (wSlot 0)) (wSlot 1)))
  wsSkip))
theorem c12 (n : Nat) : cmAt S (n + 1) 12 = some (runM 2 2 (t12 (cmAt S n))) := by kernel_rfl
/-- totals_from -/
def t13 (cm : CM) : WS :=
  (wsSeq (wsIf (wtNot (wTru (wMeth (mthOf S cm "has_sort") "has_sort" (wSlot 0) (wCons (wSlot 1) wNil)))) (wsSeq (wsRaise 6 2 [("name", 1, false)] (wCons (wSlot 1) wNil))
  wsSkip) wsSkip)
  (wsSeq (wsRet (wLc true (.tup [2, 3]) [2, 3] (wiAny (wAttrX (attrsOf S) (exOf S) "total_row" (wSlot 0))) (wtB (wOp2 (cmpC S cm false .Eq) (wBin false dIx (callJ cm 4 (wCons (wBin false dIx (wAttrX (attrsOf S) (exOf S) "ends_by" (wSlot 0)) (wSlot 2)) (wCons (wSlot 3) wNil))) (wC (.int 0))) (wSlot 1))) (wTup (wCons (wSlot 2) (wCons (wSlot 3) wNil)))))
  wsSkip))
theorem c13 (n : Nat) : cmAt S (n + 1) 13 = some (runM 2 4 (t13 (cmAt S n))) := by kernel_rfl
/-- __eq__ -/
def t14 (cm : CM) : WS :=
  (wsSeq (wsIf (wtNot (wTru (bltJ S cm false "isinstance" (wCons (wSlot 1) (wCons (wC (.cls 7)) wNil))))) (wsSeq (wsRet (wC (.bl false)))
  wsSkip) wsSkip)
  (wsSeq (wsIf (wtB (wOp2 (cmpC S cm false .NotEq) (wAttrX (attrsOf S) (exOf S) "sort_row" (wSlot 0)) (wAttrX (attrsOf S) (exOf S) "sort_row" (wSlot 1)))) (wsSeq (wsRet (wC (.bl false)))
  wsSkip) wsSkip)
  (wsSeq (wsRet (wAnd (wOp2 (cmpC S cm false .Eq) (wAttrX (attrsOf S) (exOf S) "letter_row" (wSlot 0)) (wAttrX (attrsOf S) (exOf S) "letter_row" (wSlot 1))) (wOp2 (cmpC S cm false .Eq) (wAttrX (attrsOf S) (exOf S) "total_row" (wSlot 0)) (wAttrX (attrsOf S) (exOf S) "total_row" (wSlot 1)))))
  wsSkip)))
theorem c14 (n : Nat) : cmAt S (n + 1) 14 = some (runM 2 2 (t14 (cmAt S n))) := by kernel_rfl
/-- _law_source -/
def t15 (cm : CM) : WS :=
  (wsSeq (wsAsg (wC (.int 11)) (wgName 1))
  (wsSeq (wsFor (wiAny (wSlot 0)) (wgName 2) (wsSeq (wsAsg (wOp2 (binC S cm false .Mod) (bltJ S cm false "int" (wCons (wOp2 (binC S cm false .Add) (wOp2 (binC S cm false .Add) (wOp2 (binC S cm false .Mult) (wSlot 1) (wC (.int 69069))) (wOp2 (binC S cm false .Mult) (wSlot 2) (wC (.int 31)))) (wC (.int 5))) wNil)) (wC (.int 2147483629))) (wgName 1))
  wsSkip))
  (wsSeq (wsAsg (wLc false (.one 2) [2] (wiAny (wSlot 0)) wtYes (bltJ S cm false "abs" (wCons (wSlot 2) wNil))) (wgName 3))
  (wsSeq (wsRet (wDisp true [((wC (.str "cells")), (wLc true (.one 4) [4] (wiRng1 (wCons (bltJ S cm false "len" (wCons (wSlot 3) wNil)) wNil)) wtYes (wBin false dIx (wSlot 3) (wOp2 (binC S cm false .Sub) (wOp2 (binC S cm false .Sub) (bltJ S cm false "len" (wCons (wSlot 3) wNil)) (wC (.int 1))) (wSlot 4))))), ((wC (.str "left")), (wC (.int 1))), ((wC (.str "mixed")), (wSlot 1)), ((wC (.str "turn")), (wC (.int 0)))]))
  wsSkip))))
theorem c15 (n : Nat) : cmAt S (n + 1) 15 = some (runM 1 5 (t15 (cmAt S n))) := by kernel_rfl
/-- _law_pick -/
def t16 (cm : CM) : WS :=
  (wsSeq (wsIf (wtB (wOp2 (cmpC S cm false .Lt) (wSlot 1) (wC (.int 2)))) (wsSeq (wsRet (wC (.int 0)))
  wsSkip) wsSkip)
  (wsSeq (wsAsg (wBin false dIx (wSlot 0) (wC (.str "cells"))) (wgName 2))
  (wsSeq (wsWhile (wtAnd (wtB (wOp2 (cmpC S cm false .Lt) (wBin false dIx (wSlot 0) (wC (.str "left"))) (wC (.int 2)))) (wtB (wOp2 (cmpC S cm false .Gt) (bltJ S cm false "len" (wCons (wSlot 2) wNil)) (wC (.int 0))))) (wsSeq (wsAsg (wBm "list" (cOr cPop cPopAt) (wSlot 2) wNil) (wgSub (wSlot 0) (wC (.str "left"))))
  wsSkip))
  (wsSeq (wsAsg (wBin false dIx (wSlot 0) (wC (.str "left"))) (wgName 3))
  (wsSeq (wsIf (wtB (wOp2 (cmpC S cm false .Gt) (wSlot 3) (wC (.int 1)))) (wsSeq (wsAsg (wOp2 (binC S cm false .FloorDiv) (wSlot 3) (wSlot 1)) (wgSub (wSlot 0) (wC (.str "left"))))
  (wsSeq (wsRet (wOp2 (binC S cm false .Mod) (bltJ S cm false "int" (wCons (wSlot 3) wNil)) (wSlot 1)))
  wsSkip)) wsSkip)
  (wsSeq (wsAsg (wOp2 (binC S cm false .Add) (wBin false dIx (wSlot 0) (wC (.str "turn"))) (wC (.int 1))) (wgSub (wSlot 0) (wC (.str "turn"))))
  (wsSeq (wsAsg (wBin false dIx (wSlot 0) (wC (.str "turn"))) (wgName 4))
  (wsSeq (wsAsg (wOp2 (binC S cm false .Mod) (bltJ S cm false "int" (wCons (wOp2 (binC S cm false .Add) (wBin false dIx (wSlot 0) (wC (.str "mixed"))) (wOp2 (binC S cm false .Mult) (wSlot 4) (wC (.int 104729)))) wNil)) (wC (.int 998244353))) (wgName 5))
  (wsSeq (wsAsg (wOp2 (binC S cm false .Mod) (bltJ S cm false "int" (wCons (wOp2 (binC S cm false .Add) (wOp2 (binC S cm false .Mult) (wSlot 5) (wSlot 5)) (wOp2 (binC S cm false .Mult) (wSlot 4) (wC (.int 17)))) wNil)) (wC (.int 2147483647))) (wgName 5))
  (wsSeq (wsIf (wtB (wOp2 (cmpC S cm false .Gt) (wSlot 1) (wOp2 (binC S cm false .Pow) (wC (.int 10)) (wC (.int 7))))) (wsSeq (wsAsg (wOp2 (binC S cm false .Pow) (bltJ S cm false "int" (wCons (wOp2 (binC S cm false .Add) (wOp2 (binC S cm false .Mult) (wSlot 5) (wC (.int 48271))) (wSlot 4)) wNil)) (wC (.int 9))) (wgName 5))
  wsSkip) wsSkip)
  (wsSeq (wsRet (wOp2 (binC S cm false .Mod) (bltJ S cm false "int" (wCons (wOp2 (binC S cm false .FloorDiv) (wSlot 5) (wC (.int 16))) wNil)) (wSlot 1)))
  wsSkip)))))))))))
theorem c16 (n : Nat) : cmAt S (n + 1) 16 = some (runM 2 6 (t16 (cmAt S n))) := by kernel_rfl
/-- _law_names -/
def t17 (cm : CM) : WS :=
  (wsSeq (wsAsg (callJ cm 16 (wCons (wSlot 0) (wCons (wC (.int 100)) wNil))) (wgName 2))
  (wsSeq (wsAsg (wLst true wNil) (wgName 3))
  (wsSeq (wsFor (wiRng1 (wCons (wSlot 1) wNil)) (wgName 4) (wsSeq (wsAsg (wBin false dIx (wC (.str "abcdefghijklmnopqrstuvwxyz")) (callJ cm 16 (wCons (wSlot 0) (wCons (wC (.int 26)) wNil)))) (wgName 5))
  (wsSeq (wsExpr (wBm "list" cAppend (wSlot 3) (wCons (wOp2 (binC S cm false .Add) (wSlot 5) (wSl false (bltJ S cm false "str" (wCons (wOp2 (binC S cm false .Add) (wC (.int 100)) (wOp2 (binC S cm false .Mod) (bltJ S cm false "int" (wCons (wOp2 (binC S cm false .Add) (wSlot 2) (wOp2 (binC S cm false .Mult) (wC (.int 37)) (wSlot 4))) wNil)) (wC (.int 100)))) wNil)) (woSome (wC (.int 1))) woNone)) wNil)))
  wsSkip)))
  (wsSeq (wsRet (wSlotF 3))
  wsSkip))))
theorem c17 (n : Nat) : cmAt S (n + 1) 17 = some (runM 2 6 (t17 (cmAt S n))) := by kernel_rfl
/-- _law_frame -/
def t18 (cm : CM) : WS :=
  (wsSeq (wsAsg (wSl false (wLst false (wCons (wC (.str "a")) (wCons (wC (.str "b")) (wCons (wC (.str "c")) wNil)))) woNone (woSome (wSlot 1))) (wgName 3))
  (wsSeq (wsAsg (callJ cm 17 (wCons (wSlot 0) (wCons (wSlot 2) wNil))) (wgName 4))
  (wsSeq (wsAsg (wDic0 false true) (wgName 5))
  (wsSeq (wsFor (wiAny (wSlot 4)) (wgName 6) (wsSeq (wsAsg (wTup (wCons (wBin false dIx (wSlot 3) (callJ cm 16 (wCons (wSlot 0) (wCons (wSlot 1) wNil)))) (wCons (wBin false dIx (wSlot 3) (callJ cm 16 (wCons (wSlot 0) (wCons (wSlot 1) wNil)))) wNil))) (wgSub (wSlot 5) (wSlot 6)))
  wsSkip))
  (wsSeq (wsRet (callJ cm 19 (wCons (wSlot 3) (wCons (wSlot 4) (wCons (wSlotF 5) (wCons (wLst false wNil) wNil))))))
  wsSkip)))))
theorem c18 (n : Nat) : cmAt S (n + 1) 18 = some (runM 3 7 (t18 (cmAt S n))) := by kernel_rfl
/-- _law_framed -/
def t19 (cm : CM) : WS :=
  (wsSeq (wsAsg (makeJ S cm false 7 (wCons (wSlot 0) (wCons (wLc false (.one 5) [5] (wiAny (wSlot 1)) wtYes (wTup (wCons (wSlot 5) (wCons (wBin false dIx (wBin false dIx (wSlot 2) (wSlot 5)) (wC (.int 0))) (wCons (wBin false dIx (wBin false dIx (wSlot 2) (wSlot 5)) (wC (.int 1))) wNil))))) (wCons (wSlot 3) wNil)))) (wgName 4))
  (wsSeq (wsRet (wDisp false [((wC (.str "sorts")), (wSlot 0)), ((wC (.str "letters")), (wSlot 2)), ((wC (.str "order")), (wSlot 1)), ((wC (.str "totals")), (wSlot 3)), ((wC (.str "made")), (wSlot 4))]))
  wsSkip))
theorem c19 (n : Nat) : cmAt S (n + 1) 19 = some (runM 4 6 (t19 (cmAt S n))) := by kernel_rfl
/-- _law_with_totals -/
def t20 (cm : CM) : WS :=
  (wsSeq (wsAsg (wLst true wNil) (wgName 2))
  (wsSeq (wsFor (wiAny (wBin false dIx (wSlot 1) (wC (.str "order")))) (wgName 3) (wsSeq (wsAsg (wBin false dIx (wBin false dIx (wSlot 1) (wC (.str "letters"))) (wSlot 3)) (wgName 4))
  (wsSeq (wsIf (wtAnd (wtB (wOp2 (cmpC S cm false .NotEq) (wBin false dIx (wSlot 4) (wC (.int 0))) (wBin false dIx (wSlot 4) (wC (.int 1))))) (wtB (wOp2 (cmpC S cm false .Eq) (callJ cm 16 (wCons (wSlot 0) (wCons (wC (.int 2)) wNil))) (wC (.int 0))))) (wsSeq (wsExpr (wBm "list" cAppend (wSlot 2) (wCons (wTup (wCons (wSlot 3) (wCons (wBin false dIx (wLst false (wCons (wC (.str "on")) (wCons (wC (.str "back")) wNil))) (bltJ S cm false "int" (wCons (wOp2 (cmpC S cm false .Gt) (wBin false dIx (wSlot 4) (wC (.int 0))) (wBin false dIx (wSlot 4) (wC (.int 1)))) wNil))) wNil))) wNil)))
  wsSkip) wsSkip)
  wsSkip)))
  (wsSeq (wsRet (callJ cm 19 (wCons (wBin false dIx (wSlot 1) (wC (.str "sorts"))) (wCons (wBin false dIx (wSlot 1) (wC (.str "order"))) (wCons (wBin false dIx (wSlot 1) (wC (.str "letters"))) (wCons (wSlotF 2) wNil))))))
  wsSkip)))
theorem c20 (n : Nat) : cmAt S (n + 1) 20 = some (runM 2 5 (t20 (cmAt S n))) := by kernel_rfl
/-- _law_is_word -/
def t21 (cm : CM) : WS :=
  (wsSeq (wsIf (wtOr (wtNot (wTru (bltJ S cm false "isinstance" (wCons (wSlot 0) (wCons (wC (.ty "str")) wNil))))) (wtOr (wtNot (wtB (wChain dLt dLt (wC (.int 0)) (bltJ S cm false "len" (wCons (wSlot 0) wNil)) (wC (.int 13))))) (wtB (wOp2 (cmpC S cm false .NotIn) (wBin false dIx (wSlot 0) (wC (.int 0))) (wC (.str "abcdefghijklmnopqrstuvwxyz")))))) (wsSeq (wsRet (wC (.bl false)))
  wsSkip) wsSkip)
  (wsSeq (wsRet (wOp2 (cmpC S cm false .Eq) (wLc false (.one 1) [1] (wiAny (wSlot 0)) (wtB (wOp2 (cmpC S cm false .NotIn) (wSlot 1) (wC (.str "abcdefghijklmnopqrstuvwxyz0123456789")))) (wSlot 1)) (wLst false wNil)))
  wsSkip))
theorem c21 (n : Nat) : cmAt S (n + 1) 21 = some (runM 1 2 (t21 (cmAt S n))) := by kernel_rfl
/-- _law_twice -/
def t22 (cm : CM) : WS :=
  (wsSeq (wsFor (wiRng1 (wCons (bltJ S cm false "len" (wCons (wSlot 0) wNil)) wNil)) (wgName 1) (wsSeq (wsIf (wtB (wOp2 (cmpC S cm false .In) (wBin false dIx (wSlot 0) (wSlot 1)) (wSl false (wSlot 0) woNone (woSome (wSlot 1))))) (wsSeq (wsRet (wBin false dIx (wSlot 0) (wSlot 1)))
  wsSkip) wsSkip)
  wsSkip))
  (wsSeq (wsRet (wC .non))
  wsSkip))
theorem c22 (n : Nat) : cmAt S (n + 1) 22 = some (runM 1 2 (t22 (cmAt S n))) := by kernel_rfl
/-- _law_round -/
def t23 (cm : CM) : WS :=
  (wsSeq (wsAsg (bltJ S cm false "list" (wCons (wSlot 0) wNil)) (wgName 2))
  (wsSeq (wsFor (wiRng1 (wCons (bltJ S cm false "len" (wCons (wSlot 0) wNil)) wNil)) (wgName 3) (wsSeq (wsAsg (wLc false (.one 4) [4] (wiAny (wSlot 2)) (wtB (wOp2 (cmpC S cm false .NotEq) (wLc false (.one 5) [5] (wiAny (wSlot 1)) (wtAnd (wtB (wOp2 (cmpC S cm false .Eq) (wBin false dIx (wSlot 5) (wC (.int 0))) (wSlot 4))) (wtB (wOp2 (cmpC S cm false .In) (wBin false dIx (wSlot 5) (wC (.int 1))) (wSlot 2)))) (wSlot 5)) (wLst false wNil))) (wSlot 4)) (wgName 2))
  wsSkip))
  (wsSeq (wsRet (wSlot 2))
  wsSkip)))
theorem c23 (n : Nat) : cmAt S (n + 1) 23 = some (runM 2 6 (t23 (cmAt S n))) := by kernel_rfl
/-- _law_due -/
def t24 (cm : CM) : WS :=
  (wsSeq (wsAsg (wLc false (.one 6) [6] (wiAny (wSlot 1)) wtYes (wBin false dIx (wSlot 6) (wC (.int 0)))) (wgName 3))
  (wsSeq (wsFor (wiAny (wOp2 (binC S cm false .Add) (wSlot 0) (wSlot 3))) (wgName 4) (wsSeq (wsIf (wtNot (wTru (callJ cm 21 (wCons (wSlot 4) wNil)))) (wsSeq (wsRet (wLst false (wCons (wC (.str "name")) (wCons (wSlot 4) wNil))))
  wsSkip) wsSkip)
  wsSkip))
  (wsSeq (wsFor (wiAny (wTup (wCons (wSlot 0) (wCons (wSlot 3) wNil)))) (wgName 5) (wsSeq (wsIf (wtB (wOp2 (cmpC S cm false .IsNot) (callJ cm 22 (wCons (wSlot 5) wNil)) (wC .non))) (wsSeq (wsRet (wLst false (wCons (wC (.str "twice")) (wCons (callJ cm 22 (wCons (wSlot 5) wNil)) wNil))))
  wsSkip) wsSkip)
  wsSkip))
  (wsSeq (wsFor (wiAny (wSlot 1)) (wgName 6) (wsSeq (wsFor (wiAny (wSl false (wSlot 6) (woSome (wC (.int 1))) woNone)) (wgName 4) (wsSeq (wsIf (wtB (wOp2 (cmpC S cm false .NotIn) (wSlot 4) (wSlot 0))) (wsSeq (wsRet (wLst false (wCons (wC (.str "unknown")) (wCons (wSlot 4) wNil))))
  wsSkip) wsSkip)
  wsSkip))
  wsSkip))
  (wsSeq (wsFor (wiAny (wSlot 2)) (wgTup 2 (wgCons (wgName 4) (wgCons (wgName 7) wgNil))) (wsSeq (wsIf (wtB (wOp2 (cmpC S cm false .NotIn) (wSlot 4) (wSlot 3))) (wsSeq (wsRet (wLst false (wCons (wC (.str "unknown")) (wCons (wSlot 4) wNil))))
  wsSkip) wsSkip)
  wsSkip))
  (wsSeq (wsFor (wiRng1 (wCons (bltJ S cm false "len" (wCons (wSlot 2) wNil)) wNil)) (wgName 8) (wsSeq (wsIf (wtOr (wtB (wOp2 (cmpC S cm false .NotIn) (wBin false dIx (wBin false dIx (wSlot 2) (wSlot 8)) (wC (.int 1))) (wLst false (wCons (wC (.str "on")) (wCons (wC (.str "back")) wNil))))) (wtB (wOp2 (cmpC S cm false .In) (wBin false dIx (wSlot 2) (wSlot 8)) (wSl false (wSlot 2) woNone (woSome (wSlot 8)))))) (wsSeq (wsRet (wLst false (wCons (wC (.str "frame")) (wCons (wBin false dIx (wBin false dIx (wSlot 2) (wSlot 8)) (wC (.int 0))) wNil))))
  wsSkip) wsSkip)
  wsSkip))
  (wsSeq (wsAsg (wLst true wNil) (wgName 9))
  (wsSeq (wsFor (wiAny (wSlot 2)) (wgTup 2 (wgCons (wgName 4) (wgCons (wgName 7) wgNil))) (wsSeq (wsAsg (wBin false dIx (wLc false (.one 6) [6] (wiAny (wSlot 1)) (wtB (wOp2 (cmpC S cm false .Eq) (wBin false dIx (wSlot 6) (wC (.int 0))) (wSlot 4))) (wSl false (wSlot 6) (woSome (wC (.int 1))) woNone)) (wC (.int 0))) (wgName 10))
  (wsSeq (wsExpr (wBm "list" cAppend (wSlot 9) (wCons (wIf (wtB (wOp2 (cmpC S cm false .Eq) (wSlot 7) (wC (.str "on")))) (wSlot 10) (wRev false (wSlot 10))) wNil)))
  wsSkip)))
  (wsSeq (wsAsg (callJ cm 23 (wCons (wSlot 0) (wCons (wSlotF 9) wNil))) (wgName 11))
  (wsSeq (wsRet (wIf (wtB (wOp2 (cmpC S cm false .NotEq) (wSlot 11) (wLst false wNil))) (wLst false (wCons (wC (.str "round")) (wCons (bltJ S cm false "tuple" (wCons (wSlot 11) wNil)) wNil))) (wC .non)))
  wsSkip))))))))))
theorem c24 (n : Nat) : cmAt S (n + 1) 24 = some (runM 3 12 (t24 (cmAt S n))) := by kernel_rfl
/-- _law_told -/
def t25 (cm : CM) : WS :=
  (wsSeq (wsTry (isubOf S) (wsSeq (wsRet (makeJ S cm false 7 (wCons (wSlot 0) (wCons (wSlot 1) (wCons (wSlot 2) wNil)))))
  wsSkip) [(2, (some 3), fun m y => (wsSeq (wsRet (wLst false (wCons (wC (.str "name")) (wCons (hFld S f25.N f25.sc (some 3) m y "error" "name") wNil)))) wsSkip)),
    (3, (some 3), fun m y => (wsSeq (wsRet (wLst false (wCons (wC (.str "twice")) (wCons (hFld S f25.N f25.sc (some 3) m y "error" "name") wNil)))) wsSkip)),
    (6, (some 3), fun m y => (wsSeq (wsRet (wLst false (wCons (wC (.str "unknown")) (wCons (hFld S f25.N f25.sc (some 3) m y "error" "name") wNil)))) wsSkip)),
    (4, (some 3), fun m y => (wsSeq (wsRet (wLst false (wCons (wC (.str "frame")) (wCons (hFld S f25.N f25.sc (some 3) m y "error" "name") wNil)))) wsSkip)),
    (5, (some 3), fun m y => (wsSeq (wsRet (wLst false (wCons (wC (.str "round")) (wCons (hFld S f25.N f25.sc (some 3) m y "error" "members") wNil)))) wsSkip))])
  wsSkip)
theorem c25 (n : Nat) : cmAt S (n + 1) 25 = some (runM 3 4 (t25 (cmAt S n))) := by kernel_rfl
/-- _law_bent -/
def t26 (cm : CM) : WS :=
  (wsSeq (wsAsg (wBin false dIx (wLst false (wCons (wC (.str "A")) (wCons (wC (.str "")) (wCons (wC (.str "a b")) (wCons (wC (.str "9")) (wCons (wOp2 (binC S cm false .Mult) (wC (.str "x")) (wC (.int 13))) (wCons (wOp2 (binC S cm false .Mult) (wC (.str "x")) (wC (.int 12))) (wCons (wC (.str "zz")) (wCons (wC (.str "a")) (wCons (wC (.str "on")) (wCons (wC (.str "b_")) (wCons (wC (.str "z0")) wNil)))))))))))) (callJ cm 16 (wCons (wSlot 0) (wCons (wC (.int 11)) wNil)))) (wgName 4))
  (wsSeq (wsPar [5, 6] (wCons (callJ cm 16 (wCons (wSlot 0) (wCons (wC (.int 8)) wNil))) (wCons (callJ cm 16 (wCons (wSlot 0) (wCons (bltJ S cm false "len" (wCons (wSlot 2) wNil)) wNil))) wNil)))
  (wsSeq (wsIf (wtAnd (wtB (wOp2 (cmpC S cm false .Eq) (wSlot 5) (wC (.int 0)))) (wtB (wOp2 (cmpC S cm false .Lt) (bltJ S cm false "len" (wCons (wSlot 1) wNil)) (wC (.int 3))))) (wsSeq (wsRet (wLst false (wCons (wOp2 (binC S cm false .Add) (wSlot 1) (wLst false (wCons (wSlot 4) wNil))) (wCons (wSlot 2) (wCons (wSlot 3) wNil)))))
  wsSkip) wsSkip)
  (wsSeq (wsIf (wtB (wOp2 (cmpC S cm false .Eq) (wSlot 5) (wC (.int 1)))) (wsSeq (wsRet (wLst false (wCons (wSl false (wSlot 1) woNone (woSome (wNeg (wC (.int 1))))) (wCons (wSlot 2) (wCons (wSlot 3) wNil)))))
  wsSkip) wsSkip)
  (wsSeq (wsAsg (wBin false dIx (wSlot 2) (wSlot 6)) (wgTup 3 (wgCons (wgName 7) (wgCons (wgName 8) (wgCons (wgName 9) wgNil)))))
  (wsSeq (wsIf (wtB (wOp2 (cmpC S cm false .Lt) (wSlot 5) (wC (.int 5)))) (wsSeq (wsAsg (wBin false dIx (wLst false (wCons (wTup (wCons (wSlot 4) (wCons (wSlot 8) (wCons (wSlot 9) wNil)))) (wCons (wTup (wCons (wSlot 7) (wCons (wSlot 4) (wCons (wSlot 9) wNil)))) (wCons (wTup (wCons (wSlot 7) (wCons (wSlot 8) (wCons (wSlot 4) wNil)))) wNil)))) (wOp2 (binC S cm false .Sub) (wSlot 5) (wC (.int 2)))) (wgName 10))
  (wsSeq (wsRet (wLst false (wCons (wSlot 1) (wCons (wOp2 (binC S cm false .Add) (wOp2 (binC S cm false .Add) (wSl false (wSlot 2) woNone (woSome (wSlot 6))) (wLst false (wCons (wSlot 10) wNil))) (wSl false (wSlot 2) (woSome (wOp2 (binC S cm false .Add) (wSlot 6) (wC (.int 1)))) woNone)) (wCons (wSlot 3) wNil)))))
  wsSkip)) wsSkip)
  (wsSeq (wsIf (wtB (wOp2 (cmpC S cm false .Eq) (wSlot 5) (wC (.int 5)))) (wsSeq (wsRet (wLst false (wCons (wSlot 1) (wCons (wOp2 (binC S cm false .Add) (wSlot 2) (wLst false (wCons (wTup (wCons (wSlot 7) (wCons (wSlot 9) (wCons (wSlot 8) wNil)))) wNil))) (wCons (wSlot 3) wNil)))))
  wsSkip) wsSkip)
  (wsSeq (wsAsg (wBin false dIx (wLst false (wCons (wC (.str "on")) (wCons (wC (.str "back")) (wCons (wC (.str "off")) (wCons (wC (.str "")) wNil))))) (callJ cm 16 (wCons (wSlot 0) (wCons (wC (.int 4)) wNil)))) (wgName 11))
  (wsSeq (wsRet (wLst false (wCons (wSlot 1) (wCons (wSlot 2) (wCons (wOp2 (binC S cm false .Add) (wSlot 3) (wLst false (wCons (wTup (wCons (wIf (wtB (wOp2 (cmpC S cm false .Eq) (wSlot 5) (wC (.int 6)))) (wSlot 7) (wSlot 4)) (wCons (wSlot 11) wNil))) wNil))) wNil)))))
  wsSkip)))))))))
theorem c26 (n : Nat) : cmAt S (n + 1) 26 = some (runM 4 12 (t26 (cmAt S n))) := by kernel_rfl
/-- _law_refused -/
def t27 (cm : CM) : WS :=
  (wsSeq (wsFor (wiAny (wTup (wCons (wC (.int 0)) (wCons (wC (.int 1)) wNil)))) (wgName 2) (wsSeq (wsTry (isubOf S) (wsSeq (wsExpr (wIf (wtB (wOp2 (cmpC S cm false .Eq) (wSlot 2) (wC (.int 0)))) (wMeth (mthOf S cm "ends") "ends" (wSlot 0) (wCons (wSlot 1) wNil)) (wMeth (mthOf S cm "totals_from") "totals_from" (wSlot 0) (wCons (wSlot 1) wNil))))
  (wsSeq (wsRet (wC (.bl false)))
  wsSkip)) [(6, (some 3), fun m y => (wsSeq (wsIf (wtB (wOp2 (hCmp false .NotEq) (wCall (cOp false dReprA) (wCons (hFld S f27.N f27.sc (some 3) m y "error" "name") wNil)) (wCall (cOp false dReprA) (wCons (wSlot 1) wNil)))) (wsSeq (wsRet (wC (.bl false))) wsSkip) wsSkip) wsSkip))])
  wsSkip))
  (wsSeq (wsRet (wC (.bl true)))
  wsSkip))
theorem c27 (n : Nat) : cmAt S (n + 1) 27 = some (runM 2 4 (t27 (cmAt S n))) := by kernel_rfl
/-- _law_right -/
def t28 (cm : CM) : WS :=
  (wsSeq (wsIf (wtB (wOp2 (cmpC S cm false .NotEq) (wLst false (wCons (wMeth (mthOf S cm "sorts") "sorts" (wSlot 0) wNil) (wCons (wMeth (mthOf S cm "letters") "letters" (wSlot 0) wNil) (wCons (wMeth (mthOf S cm "totals") "totals" (wSlot 0) wNil) wNil)))) (wLst false (wCons (wSlot 1) (wCons (wSlot 2) (wCons (wSlot 3) wNil)))))) (wsSeq (wsRet (wC (.bl false)))
  wsSkip) wsSkip)
  (wsSeq (wsFor (wiAny (wSlot 2)) (wgTup 3 (wgCons (wgName 4) (wgCons (wgName 5) (wgCons (wgName 6) wgNil)))) (wsSeq (wsIf (wtOr (wtB (wOp2 (cmpC S cm false .NotEq) (wMeth (mthOf S cm "ends") "ends" (wSlot 0) (wCons (wSlot 4) wNil)) (wTup (wCons (wSlot 5) (wCons (wSlot 6) wNil))))) (wtB (wOp2 (cmpC S cm false .IsNot) (wMeth (mthOf S cm "has_letter") "has_letter" (wSlot 0) (wCons (wSlot 4) wNil)) (wC (.bl true))))) (wsSeq (wsRet (wC (.bl false)))
  wsSkip) wsSkip)
  wsSkip))
  (wsSeq (wsFor (wiAny (wSlot 1)) (wgName 7) (wsSeq (wsAsg (wLst false wNil) (wgName 8))
  (wsSeq (wsFor (wiAny (wSlot 3)) (wgTup 2 (wgCons (wgName 4) (wgCons (wgName 9) wgNil))) (wsSeq (wsAsg (wMeth (mthOf S cm "ends") "ends" (wSlot 0) (wCons (wSlot 4) wNil)) (wgName 10))
  (wsSeq (wsAsg (wOp2 (binC S cm false .Add) (wSlot 8) (wOp2 (binC S cm false .Mult) (wLst false (wCons (wTup (wCons (wSlot 4) (wCons (wSlot 9) wNil))) wNil)) (bltJ S cm false "int" (wCons (wOp2 (cmpC S cm false .Eq) (wBin false dIx (wSlot 10) (bltJ S cm false "int" (wCons (wOp2 (cmpC S cm false .Eq) (wSlot 9) (wC (.str "back"))) wNil))) (wSlot 7)) wNil)))) (wgName 8))
  wsSkip)))
  (wsSeq (wsIf (wtOr (wtB (wOp2 (cmpC S cm false .NotEq) (wMeth (mthOf S cm "totals_from") "totals_from" (wSlot 0) (wCons (wSlot 7) wNil)) (wSlot 8))) (wtB (wOp2 (cmpC S cm false .IsNot) (wMeth (mthOf S cm "has_sort") "has_sort" (wSlot 0) (wCons (wSlot 7) wNil)) (wC (.bl true))))) (wsSeq (wsRet (wC (.bl false)))
  wsSkip) wsSkip)
  wsSkip))))
  (wsSeq (wsFor (wiAny (wTup (wCons (wC (.str "zzz")) (wCons (wC .non) (wCons (wC (.int 0)) (wCons (wC (.bl true)) (wCons (wLst false (wCons (wC (.str "a")) wNil)) (wCons (wTup (wCons (wC (.str "a")) wNil)) (wCons (wC (.str "")) (wCons (wDic0 false false) wNil)))))))))) (wgName 11) (wsSeq (wsIf (wtOr (wtB (wOp2 (cmpC S cm false .IsNot) (wMeth (mthOf S cm "has_sort") "has_sort" (wSlot 0) (wCons (wSlot 11) wNil)) (wC (.bl false)))) (wtOr (wtB (wOp2 (cmpC S cm false .IsNot) (wMeth (mthOf S cm "has_letter") "has_letter" (wSlot 0) (wCons (wSlot 11) wNil)) (wC (.bl false)))) (wtNot (wTru (callJ cm 27 (wCons (wSlot 0) (wCons (wSlot 11) wNil))))))) (wsSeq (wsRet (wC (.bl false)))
  wsSkip) wsSkip)
  wsSkip))
  (wsSeq (wsRet (wC (.bl true)))
  wsSkip)))))
theorem c28 (n : Nat) : cmAt S (n + 1) 28 = some (runM 4 12 (t28 (cmAt S n))) := by kernel_rfl
/-- _law_is_apart -/
def t29 (cm : CM) : WS :=
  (wsSeq (wsFor (wiAny (wSlot 2)) (wgName 3) (wsSeq (wsIf (wtB (wOp2 (cmpC S cm false .NotEq) (bltJ S cm false "repr" (wCons (wMeth (mthOf S cm "has_sort") "has_sort" (wSlot 0) (wCons (wSlot 3) wNil)) wNil)) (bltJ S cm false "repr" (wCons (wOp2 (cmpC S cm false .In) (wSlot 3) (wSlot 1)) wNil)))) (wsSeq (wsRet (wC (.bl false)))
  wsSkip) wsSkip)
  (wsSeq (wsTry (isubOf S) (wsSeq (wsIf (wtOr (wtB (wOp2 (cmpC S cm false .Is) (wMeth (mthOf S cm "totals_from") "totals_from" (wSlot 0) (wCons (wSlot 3) wNil)) (wC .non))) (wtB (wOp2 (cmpC S cm false .NotIn) (wSlot 3) (wSlot 1)))) (wsSeq (wsRet (wC (.bl false)))
  wsSkip) wsSkip)
  wsSkip) [(6, (some 4), fun m y => (wsSeq (wsIf (wtOr (wtB (wOp2 (hCmp false .In) (wSlot 3) (wSlot 1))) (wtB (wOp2 (hCmp false .NotEq) (hFld S f29.N f29.sc (some 4) m y "error" "name") (wSlot 3)))) (wsSeq (wsRet (wC (.bl false))) wsSkip) wsSkip) wsSkip))])
  wsSkip)))
  (wsSeq (wsFor (wiAny (wSlot 1)) (wgName 5) (wsSeq (wsIf (wtB (wOp2 (cmpC S cm false .NotEq) (bltJ S cm false "repr" (wCons (wMeth (mthOf S cm "has_letter") "has_letter" (wSlot 0) (wCons (wSlot 5) wNil)) wNil)) (bltJ S cm false "repr" (wCons (wOp2 (cmpC S cm false .In) (wSlot 5) (wSlot 2)) wNil)))) (wsSeq (wsRet (wC (.bl false)))
  wsSkip) wsSkip)
  (wsSeq (wsTry (isubOf S) (wsSeq (wsIf (wtOr (wtB (wOp2 (cmpC S cm false .Is) (wMeth (mthOf S cm "ends") "ends" (wSlot 0) (wCons (wSlot 5) wNil)) (wC .non))) (wtB (wOp2 (cmpC S cm false .NotIn) (wSlot 5) (wSlot 2)))) (wsSeq (wsRet (wC (.bl false)))
  wsSkip) wsSkip)
  wsSkip) [(6, (some 4), fun m y => (wsSeq (wsIf (wtOr (wtB (wOp2 (hCmp false .In) (wSlot 5) (wSlot 2))) (wtB (wOp2 (hCmp false .NotEq) (hFld S f29.N f29.sc (some 4) m y "error" "name") (wSlot 5)))) (wsSeq (wsRet (wC (.bl false))) wsSkip) wsSkip) wsSkip))])
  wsSkip)))
  (wsSeq (wsRet (wC (.bl true)))
  wsSkip)))
theorem c29 (n : Nat) : cmAt S (n + 1) 29 = some (runM 3 6 (t29 (cmAt S n))) := by kernel_rfl
/-- _law_lists_right -/
def t30 (cm : CM) : WS :=
  (wsSeq (wsPar [3, 4] (wCons (callJ cm 24 (wCons (wSlot 0) (wCons (wSlot 1) (wCons (wSlot 2) wNil)))) (wCons (callJ cm 25 (wCons (wSlot 0) (wCons (wSlot 1) (wCons (wSlot 2) wNil)))) wNil)))
  (wsSeq (wsIf (wtOr (wtB (wOp2 (cmpC S cm false .IsNot) (wSlot 3) (wC .non))) (wTru (bltJ S cm false "isinstance" (wCons (wSlot 4) (wCons (wC (.ty "list")) wNil))))) (wsSeq (wsRet (wOp2 (cmpC S cm false .Eq) (bltJ S cm false "repr" (wCons (wSlot 4) wNil)) (bltJ S cm false "repr" (wCons (wSlot 3) wNil))))
  wsSkip) wsSkip)
  (wsSeq (wsRet (wAnd (callJ cm 28 (wCons (wSlot 4) (wCons (wSlot 0) (wCons (wSlot 1) (wCons (wSlot 2) wNil))))) (callJ cm 29 (wCons (wSlot 4) (wCons (wSlot 0) (wCons (wLc false (.one 5) [5] (wiAny (wSlot 1)) wtYes (wBin false dIx (wSlot 5) (wC (.int 0)))) wNil))))))
  wsSkip)))
theorem c30 (n : Nat) : cmAt S (n + 1) 30 = some (runM 3 6 (t30 (cmAt S n))) := by kernel_rfl
/-- _law_great_right -/
def t31 (cm : CM) : WS :=
  (wsSeq (wsAsg (wBin false dIx (wLst false (wCons (wLst false (wCons (wC (.str "a")) wNil)) (wCons (wLst false (wCons (wC (.str "a")) (wCons (wC (.str "b")) wNil))) (wCons (wLst false (wCons (wC (.str "b")) (wCons (wC (.str "a")) (wCons (wC (.str "c")) wNil)))) (wCons (wLst false (wCons (wC (.str "c")) (wCons (wC (.str "b")) (wCons (wC (.str "a")) wNil)))) (wCons (wLst false (wCons (wC (.str "s")) (wCons (wC (.str "b")) (wCons (wC (.str "c")) wNil)))) wNil)))))) (callJ cm 16 (wCons (wSlot 0) (wCons (wC (.int 5)) wNil)))) (wgName 1))
  (wsSeq (wsPar [2, 3] (wCons (wLst true wNil) (wCons (wLst false wNil) wNil)))
  (wsSeq (wsFor (wiAny (wSl false (wOp2 (binC S cm false .Add) (wLst false (wCons (wC (.str "a")) wNil)) (callJ cm 17 (wCons (wSlot 0) (wCons (wC (.int 7)) wNil)))) woNone (woSome (wOp2 (binC S cm false .Add) (wC (.int 1)) (callJ cm 16 (wCons (wSlot 0) (wCons (wC (.int 8)) wNil))))))) (wgName 4) (wsSeq (wsPar [5, 6] (wCons (wBin false dIx (wSlot 1) (callJ cm 16 (wCons (wSlot 0) (wCons (bltJ S cm false "len" (wCons (wSlot 1) wNil)) wNil)))) (wCons (wBin false dIx (wSlot 1) (callJ cm 16 (wCons (wSlot 0) (wCons (bltJ S cm false "len" (wCons (wSlot 1) wNil)) wNil)))) wNil)))
  (wsSeq (wsExpr (wBm "list" cAppend (wSlot 2) (wCons (wTup (wCons (wSlot 4) (wCons (wSlot 5) (wCons (wSlot 6) wNil)))) wNil)))
  (wsSeq (wsAsg (wOp2 (binC S cm false .Add) (wSlot 3) (wBin false dIx (wLst false (wCons (wLst false wNil) (wCons (wLst false wNil) (wCons (wLst false wNil) (wCons (wLst false (wCons (wTup (wCons (wSlot 4) (wCons (wC (.str "on")) wNil))) wNil)) (wCons (wLst false (wCons (wTup (wCons (wSlot 4) (wCons (wC (.str "back")) wNil))) wNil)) (wCons (wLst false (wCons (wTup (wCons (wSlot 4) (wCons (wC (.str "back")) wNil))) (wCons (wTup (wCons (wSlot 4) (wCons (wC (.str "on")) wNil))) wNil))) wNil))))))) (callJ cm 16 (wCons (wSlot 0) (wCons (wIf (wtAnd (wtB (wOp2 (cmpC S cm false .Gt) (bltJ S cm false "len" (wCons (wSlot 1) wNil)) (wC (.int 1)))) (wtB (wOp2 (cmpC S cm false .NotEq) (wSlot 5) (wSlot 6)))) (wC (.int 6)) (wC (.int 4))) wNil))))) (wgName 3))
  wsSkip))))
  (wsSeq (wsIf (wtNot (wTru (callJ cm 30 (wCons (wSlot 1) (wCons (wSlot 2) (wCons (wSlot 3) wNil)))))) (wsSeq (wsRet (wC (.bl false)))
  wsSkip) wsSkip)
  (wsSeq (wsAsg (makeJ S cm false 7 (wCons (wSlot 1) (wCons (wSlot 2) (wCons (wLst false wNil) wNil)))) (wgName 7))
  (wsSeq (wsAsg (wLst true (wCons (wLst false (wCons (wRev false (wSlot 1)) (wCons (wSlot 2) wNil))) (wCons (wLst false (wCons (wSlot 1) (wCons (wRev false (wSlot 2)) wNil))) wNil))) (wgName 8))
  (wsSeq (wsAsg (callJ cm 16 (wCons (wSlot 0) (wCons (bltJ S cm false "len" (wCons (wSlot 2) wNil)) wNil))) (wgName 9))
  (wsSeq (wsAsg (wBin false dIx (wSlot 2) (wSlot 9)) (wgTup 3 (wgCons (wgName 4) (wgCons (wgName 5) (wgCons (wgName 6) wgNil)))))
  (wsSeq (wsExpr (wBm "list" cAppend (wSlot 8) (wCons (wLst false (wCons (wSlot 1) (wCons (wOp2 (binC S cm false .Add) (wOp2 (binC S cm false .Add) (wSl false (wSlot 2) woNone (woSome (wSlot 9))) (wLst false (wCons (wTup (wCons (wSlot 4) (wCons (wSlot 6) (wCons (wSlot 5) wNil)))) wNil))) (wSl false (wSlot 2) (woSome (wOp2 (binC S cm false .Add) (wSlot 9) (wC (.int 1)))) woNone)) wNil))) wNil)))
  (wsSeq (wsExpr (wBm "list" cAppend (wSlot 8) (wCons (wLst false (wCons (wSlot 1) (wCons (wOp2 (binC S cm false .Add) (wOp2 (binC S cm false .Add) (wSl false (wSlot 2) woNone (woSome (wSlot 9))) (wLst false (wCons (wTup (wCons (wSlot 4) (wCons (wSlot 5) (wCons (wBin false dIx (wSlot 1) (wC (.int 0))) wNil)))) wNil))) (wSl false (wSlot 2) (woSome (wOp2 (binC S cm false .Add) (wSlot 9) (wC (.int 1)))) woNone)) wNil))) wNil)))
  (wsSeq (wsFor (wiAny (wSlot 8)) (wgTup 2 (wgCons (wgName 10) (wgCons (wgName 11) wgNil))) (wsSeq (wsIf (wtB (wOp2 (cmpC S cm false .NotEq) (bltJ S cm false "repr" (wCons (wOp2 (cmpC S cm false .Eq) (makeJ S cm false 7 (wCons (wSlot 10) (wCons (wSlot 11) (wCons (wLst false wNil) wNil)))) (wSlot 7)) wNil)) (bltJ S cm false "repr" (wCons (wAnd (wOp2 (cmpC S cm false .Eq) (wSlot 10) (wSlot 1)) (wOp2 (cmpC S cm false .Eq) (wSlot 11) (wSlot 2))) wNil)))) (wsSeq (wsRet (wC (.bl false)))
  wsSkip) wsSkip)
  wsSkip))
  (wsSeq (wsRet (wC (.bl true)))
  wsSkip))))))))))))
theorem c31 (n : Nat) : cmAt S (n + 1) 31 = some (runM 1 12 (t31 (cmAt S n))) := by kernel_rfl
/-- _law_faulty_right -/
def t32 (cm : CM) : WS :=
  (wsSeq (wsPar [1, 2, 3] (wCons (wLst false (wCons (wC (.str "a")) (wCons (wC (.str "b")) wNil))) (wCons (wLst false (wCons (wTup (wCons (wC (.str "r")) (wCons (wC (.str "a")) (wCons (wC (.str "b")) wNil)))) (wCons (wTup (wCons (wC (.str "s")) (wCons (wC (.str "b")) (wCons (wC (.str "a")) wNil)))) wNil))) (wCons (wLst false (wCons (wTup (wCons (wC (.str "r")) (wCons (wC (.str "on")) wNil))) wNil)) wNil))))
  (wsSeq (wsFor (wiRng1 (wCons (wOp2 (binC S cm false .Add) (wC (.int 2)) (callJ cm 16 (wCons (wSlot 0) (wCons (wC (.int 2)) wNil)))) wNil)) (wgName 4) (wsSeq (wsPar [5, 6] (wCons (callJ cm 16 (wCons (wSlot 0) (wCons (wC (.int 9)) wNil))) (wCons (callJ cm 16 (wCons (wSlot 0) (wCons (wC (.int 3)) wNil))) wNil)))
  (wsSeq (wsIf (wtAnd (wtB (wOp2 (cmpC S cm false .Lt) (wSlot 5) (wC (.int 2)))) (wtB (wOp2 (cmpC S cm false .Lt) (bltJ S cm false "len" (wCons (wSlot 1) wNil)) (wC (.int 3))))) (wsSeq (wsAsg (wOp2 (binC S cm false .Add) (wOp2 (binC S cm false .Add) (wSl false (wSlot 1) woNone (woSome (wSlot 6))) (wLst false (wCons (wBin false dIx (wLst false (wCons (wC (.str "A")) (wCons (wC (.str "a")) wNil))) (wSlot 5)) wNil))) (wSl false (wSlot 1) (woSome (wSlot 6)) woNone)) (wgName 1))
  wsSkip) wsSkip)
  (wsSeq (wsIf (wtB (wChain dLt dLt (wC (.int 1)) (wSlot 5) (wC (.int 5)))) (wsSeq (wsAsg (wOp2 (binC S cm false .Add) (wOp2 (binC S cm false .Add) (wSl false (wSlot 2) woNone (woSome (wSlot 6))) (wLst false (wCons (wBin false dIx (wLst false (wCons (wTup (wCons (wC (.str "9")) (wCons (wC (.str "a")) (wCons (wC (.str "a")) wNil)))) (wCons (wTup (wCons (wC (.str "r")) (wCons (wC (.str "b")) (wCons (wC (.str "b")) wNil)))) (wCons (wTup (wCons (wC (.str "t")) (wCons (wC (.str "zz")) (wCons (wC (.str "a")) wNil)))) wNil)))) (wOp2 (binC S cm false .Sub) (wSlot 5) (wC (.int 2)))) wNil))) (wSl false (wSlot 2) (woSome (wSlot 6)) woNone)) (wgName 2))
  wsSkip) wsSkip)
  (wsSeq (wsIf (wtB (wOp2 (cmpC S cm false .Gt) (wSlot 5) (wC (.int 4)))) (wsSeq (wsAsg (wOp2 (binC S cm false .Add) (wOp2 (binC S cm false .Add) (wSl false (wSlot 3) woNone (woSome (wSlot 6))) (wLst false (wCons (wBin false dIx (wLst false (wCons (wTup (wCons (wC (.str "w")) (wCons (wC (.str "on")) wNil))) (wCons (wTup (wCons (wC (.str "s")) (wCons (wC (.str "off")) wNil))) (wCons (wTup (wCons (wC (.str "r")) (wCons (wC (.str "on")) wNil))) (wCons (wTup (wCons (wC (.str "s")) (wCons (wC (.str "on")) wNil))) wNil))))) (wOp2 (binC S cm false .Sub) (wSlot 5) (wC (.int 5)))) wNil))) (wSl false (wSlot 3) (woSome (wSlot 6)) woNone)) (wgName 3))
  wsSkip) wsSkip)
  wsSkip)))))
  (wsSeq (wsRet (callJ cm 30 (wCons (wSlot 1) (wCons (wSlot 2) (wCons (wSlot 3) wNil)))))
  wsSkip)))
theorem c32 (n : Nat) : cmAt S (n + 1) 32 = some (runM 1 7 (t32 (cmAt S n))) := by kernel_rfl
/-- law -/
def t33 (cm : CM) : WS :=
  (wsSeq (wsAsg (callJ cm 15 (wCons (wSlot 0) wNil)) (wgName 1))
  (wsSeq (wsIf (wtOr (wtNot (wTru (callJ cm 31 (wCons (wSlot 1) wNil)))) (wtNot (wTru (callJ cm 32 (wCons (wSlot 1) wNil))))) (wsSeq (wsRet (wC (.bl false)))
  wsSkip) wsSkip)
  (wsSeq (wsAsg (callJ cm 18 (wCons (wSlot 1) (wCons (wOp2 (binC S cm false .Add) (wC (.int 1)) (callJ cm 16 (wCons (wSlot 1) (wCons (wC (.int 3)) wNil)))) (wCons (wOp2 (binC S cm false .Add) (wC (.int 1)) (callJ cm 16 (wCons (wSlot 1) (wCons (wC (.int 4)) wNil)))) wNil)))) (wgName 2))
  (wsSeq (wsAsg (callJ cm 20 (wCons (wSlot 1) (wCons (wSlot 2) wNil))) (wgName 2))
  (wsSeq (wsAsg (wLst true (wCons (wBin false dIx (wSlot 2) (wC (.str "sorts"))) (wCons (wLc false (.one 13) [13] (wiAny (wBin false dIx (wSlot 2) (wC (.str "order")))) wtYes (wOp2 (binC S cm false .Add) (wTup (wCons (wSlot 13) wNil)) (wBin false dIx (wBin false dIx (wSlot 2) (wC (.str "letters"))) (wSlot 13)))) (wCons (wBin false dIx (wSlot 2) (wC (.str "totals"))) wNil)))) (wgName 3))
  (wsSeq (wsIf (wtB (wOp2 (cmpC S cm false .Eq) (callJ cm 16 (wCons (wSlot 1) (wCons (wC (.int 2)) wNil))) (wC (.int 0)))) (wsSeq (wsAsg (wRev false (wBin false dIx (wSlot 3) (wC (.int 0)))) (wgSub (wSlot 3) (wC (.int 0))))
  wsSkip) wsSkip)
  (wsSeq (wsAsg (wSlot 3) (wgName 4))
  (wsSeq (wsFor (wiRng1 (wCons (wOp2 (binC S cm false .Add) (wC (.int 1)) (callJ cm 16 (wCons (wSlot 1) (wCons (wC (.int 3)) wNil)))) wNil)) (wgName 5) (wsSeq (wsAsg (callJ cm 26 (wCons (wSlot 1) (wCons (wBin false dIx (wSlot 3) (wC (.int 0))) (wCons (wBin false dIx (wSlot 3) (wC (.int 1))) (wCons (wBin false dIx (wSlot 3) (wC (.int 2))) wNil))))) (wgName 3))
  (wsSeq (wsPar [6, 7] (wCons (bltJ S cm false "repr" (wCons (wSlot 3) wNil)) (wCons (callJ cm 24 (wCons (wBin false dIx (wSlot 3) (wC (.int 0))) (wCons (wBin false dIx (wSlot 3) (wC (.int 1))) (wCons (wBin false dIx (wSlot 3) (wC (.int 2))) wNil)))) wNil)))
  (wsSeq (wsAsg (callJ cm 25 (wCons (wBin false dIx (wSlot 3) (wC (.int 0))) (wCons (wBin false dIx (wSlot 3) (wC (.int 1))) (wCons (wBin false dIx (wSlot 3) (wC (.int 2))) wNil)))) (wgName 8))
  (wsSeq (wsIf (wtOr (wtB (wOp2 (cmpC S cm false .NotEq) (bltJ S cm false "repr" (wCons (wSlot 3) wNil)) (wSlot 6))) (wtB (wOp2 (cmpC S cm false .NotEq) (bltJ S cm false "isinstance" (wCons (wSlot 8) (wCons (wC (.ty "list")) wNil))) (wOp2 (cmpC S cm false .IsNot) (wSlot 7) (wC .non))))) (wsSeq (wsRet (wC (.bl false)))
  wsSkip) wsSkip)
  (wsSeq (wsIf (wtAnd (wtB (wOp2 (cmpC S cm false .IsNot) (wSlot 7) (wC .non))) (wtB (wOp2 (cmpC S cm false .NotEq) (bltJ S cm false "repr" (wCons (wSlot 8) wNil)) (bltJ S cm false "repr" (wCons (wSlot 7) wNil))))) (wsSeq (wsRet (wC (.bl false)))
  wsSkip) wsSkip)
  (wsSeq (wsIf (wtAnd (wtB (wOp2 (cmpC S cm false .Is) (wSlot 7) (wC .non))) (wtNot (wTru (callJ cm 28 (wCons (wSlot 8) (wCons (wBin false dIx (wSlot 3) (wC (.int 0))) (wCons (wBin false dIx (wSlot 3) (wC (.int 1))) (wCons (wBin false dIx (wSlot 3) (wC (.int 2))) wNil)))))))) (wsSeq (wsRet (wC (.bl false)))
  wsSkip) wsSkip)
  wsSkip)))))))
  (wsSeq (wsAsg (wLc false (.one 11) [11] (wiAny (wSlot 4)) wtYes (bltJ S cm true "list" (wCons (wSlot 11) wNil))) (wgName 9))
  (wsSeq (wsAsg (makeJ S cm false 7 (wCons (wBin false dIx (wSlot 9) (wC (.int 0))) (wCons (wBin false dIx (wSlot 9) (wC (.int 1))) (wCons (wBin false dIx (wSlot 9) (wC (.int 2))) wNil)))) (wgName 10))
  (wsSeq (wsFor (wiAny (wOp2 (binC S cm false .Add) (wSlot 9) (wLst false (wCons (wMeth (mthOf S cm "sorts") "sorts" (wSlot 10) wNil) (wCons (wMeth (mthOf S cm "letters") "letters" (wSlot 10) wNil) (wCons (wMeth (mthOf S cm "totals") "totals" (wSlot 10) wNil) (wCons (wMeth (mthOf S cm "totals_from") "totals_from" (wSlot 10) (wCons (wBin false dIx (wBin false dIx (wSlot 4) (wC (.int 0))) (wC (.int 0))) wNil)) wNil))))))) (wgName 11) (wsSeq (wsExpr (wBm "list" cAppend (wSlot 11) (wCons (wTup (wCons (wC (.str "x")) (wCons (wC (.str "a")) (wCons (wC (.str "a")) wNil)))) wNil)))
  wsSkip))
  (wsSeq (wsIf (wtOr (wtNot (wTru (callJ cm 28 (wCons (wSlot 10) (wCons (wBin false dIx (wSlot 4) (wC (.int 0))) (wCons (wBin false dIx (wSlot 4) (wC (.int 1))) (wCons (wBin false dIx (wSlot 4) (wC (.int 2))) wNil))))))) (wtOr (wtB (wOp2 (cmpC S cm false .Eq) (wSlot 10) (wSlot 4))) (wtB (wOp2 (cmpC S cm false .Eq) (wSlot 10) (wC (.int 0)))))) (wsSeq (wsRet (wC (.bl false)))
  wsSkip) wsSkip)
  (wsSeq (wsIf (wtB (wOp2 (cmpC S cm false .NotEq) (wSlot 10) (makeJ S cm false 7 (wCons (bltJ S cm false "tuple" (wCons (wBin false dIx (wSlot 4) (wC (.int 0))) wNil)) (wCons (bltJ S cm false "tuple" (wCons (wBin false dIx (wSlot 4) (wC (.int 1))) wNil)) (wCons (bltJ S cm false "tuple" (wCons (wBin false dIx (wSlot 4) (wC (.int 2))) wNil)) wNil)))))) (wsSeq (wsRet (wC (.bl false)))
  wsSkip) wsSkip)
  (wsSeq (wsIf (wtNot (wTru (callJ cm 28 (wCons (makeJ S cm false 7 (wCons (wLst false wNil) (wCons (wLst false wNil) (wCons (wLst false wNil) wNil)))) (wCons (wLst false wNil) (wCons (wLst false wNil) (wCons (wLst false wNil) wNil))))))) (wsSeq (wsRet (wC (.bl false)))
  wsSkip) wsSkip)
  (wsSeq (wsAsg (makeJ S cm false 7 (wCons (wBin false dIx (wSlot 4) (wC (.int 0))) (wCons (wBin false dIx (wSlot 4) (wC (.int 1))) (wCons (wRev false (wBin false dIx (wSlot 4) (wC (.int 2)))) wNil)))) (wgName 12))
  (wsSeq (wsIf (wtB (wOp2 (cmpC S cm false .NotEq) (wOp2 (cmpC S cm false .Eq) (wSlot 12) (wSlot 10)) (wOp2 (cmpC S cm false .Eq) (wBin false dIx (wSlot 4) (wC (.int 2))) (wRev false (wBin false dIx (wSlot 4) (wC (.int 2))))))) (wsSeq (wsRet (wC (.bl false)))
  wsSkip) wsSkip)
  (wsSeq (wsAsg (wOp2 (cmpC S cm false .Eq) (bltJ S cm false "repr" (wCons (wSlot 3) wNil)) (bltJ S cm false "repr" (wCons (wSlot 4) wNil))) (wgName 7))
  (wsSeq (wsRet (wOr (wSlot 7) (wOr (wOp2 (cmpC S cm false .IsNot) (callJ cm 24 (wCons (wBin false dIx (wSlot 3) (wC (.int 0))) (wCons (wBin false dIx (wSlot 3) (wC (.int 1))) (wCons (wBin false dIx (wSlot 3) (wC (.int 2))) wNil)))) (wC .non)) (wOp2 (cmpC S cm false .NotEq) (wSlot 8) (wSlot 10)))))
  wsSkip))))))))))))))))))
theorem c33 (n : Nat) : cmAt S (n + 1) 33 = some (runM 1 14 (t33 (cmAt S n))) := by kernel_rfl
end Mk22
namespace Mk22
open PySem PySem.Spec Mi
def LET : Str := "abcdefghijklmnopqrstuvwxyz"
def SGN : Str := "abcdefghijklmnopqrstuvwxyz0123456789"
/-- a word -/
def isW (x : Str) : Bool := decide (1 ≤ x.cps.toList.length ∧ x.cps.toList.length ≤ 12) && (x.cps.toList.head?.any fun c => decide (c ∈ LET.cps.toList)) && x.cps.toList.all fun c => decide (c ∈ SGN.cps.toList)
section
variable {n : Nat} {cm : CM} {bx : Bx} {Q : VQ} {X : XQ} {b : Bool}
theorem isi_s {x : Str} : cOp b (dIsi (isEx S) S.isi) [.str x, .ty "str"] bx Q X = Q (.bl true) bx := by
  have : S.isi (.ty "str") (.ty "str") = some true := by decide +kernel
  simp [cOp, dIsi, tyD, dr, clD, this, fin]
theorem str_len (x : Str) : x.length = x.cps.toList.length := by simp [Str.length]
theorem isword_ok {x : Str} (hx : x.length ≤ sizeLine) (h : Q (.bl (isW x)) bx) : runM 1 2 (t0 cm) [.str x] bx Q X := by
  refine ⟨rfl, ?_⟩
  unfold t0
  simp only [wsSeq, wsIf, wtB, wtNot, wtAnd, wtOr, wTru, wNot, wAnd, wOr, wIf, wOp2, wSlot, wC, wsRet, wsRetN, wsSkip, wsAsg, wsExpr, wgName, wBin, wCall, wCons, wNil, wTup, lst_new, wAttrX, blt_len, blt_int, blt_isi, blt_list, blt_tuple, blt_repr, blt_all, blt_any, blt_str, List.map_cons, List.map_nil, List.replicate, List.cons_append, List.nil_append, List.getElem?_cons_succ, List.getElem?_cons_zero, List.set_cons_succ, List.set_cons_zero, Option.some.injEq, exists_eq_left', fin_val, Rs.val.injEq, D.bl.injEq, Bool.not_true, Bool.not_false, Bool.false_eq_true, if_false, if_true, true_and, and_true, isi_s, dTru, wChain, len_str hx, le_int]
  by_cases h1 : (1 : Int) ≤ x.length
  · by_cases h2 : (x.length : Int) ≤ 12
    · simp only [Rs.val.injEq, h1, h2, decide_true, if_true, fin_val, D.bl.injEq, exists_eq_left', Bool.not_true, Bool.false_eq_true, if_false, Option.some.injEq]
      obtain ⟨c, cs, hcs⟩ : ∃ c cs, x.cps.toList = c :: cs := by
        cases e : x.cps.toList with
        | nil => rw [str_len, e] at h1; simp at h1
        | cons c cs => exact ⟨c, cs, rfl⟩
      refine ⟨_, ix_str (k := 0) hx (by rw [hcs]; rfl), ?_⟩
      simp only [fin_val, notin_chr, D.bl.injEq, exists_eq_left']
      have hw : isW x = (decide (c ∈ LET.cps.toList) && x.cps.toList.all fun c => decide (c ∈ SGN.cps.toList)) := by
        have : decide (1 ≤ x.cps.toList.length ∧ x.cps.toList.length ≤ 12) = true := by rw [← str_len]; simp; omega
        unfold isW
        rw [this, hcs]
        simp
      by_cases h3 : c ∈ LET.cps.toList
      · have h3' : c ∈ ("abcdefghijklmnopqrstuvwxyz" : Str).cps.toList := h3
        simp only [h3', decide_true, Bool.not_true, Bool.false_eq_true, if_false]
        refine lc_all (l := x.cps.toList) (g := fun c => .str ⟨#[c]⟩) (f := fun c => .bl (decide (c ∈ SGN.cps.toList))) (cond := always) (fun Qi q => ⟨_, rfl, _, rfl, q⟩) (fun _ _ _ => trivial) (by rw [← str_len]; exact hx) (fun c hc => ⟨_, rfl, fun n e hn Qe X q => ?_⟩) ?_
        · simp only [wOp2, wSlot, wC, wipeD, List.map_cons, List.replicate, List.cons_append, List.set_cons_succ, List.set_cons_zero, List.getElem?_cons_succ, List.getElem?_cons_zero, Option.some.injEq, exists_eq_left', in_chr]
          exact q
        · simp only [Bool.false_eq_true, if_false, all_map, if_true]
          refine ⟨_, LeB.refl _, ?_⟩
          rw [hw] at h
          simpa [h3] using h
      · have h3' : ¬ c ∈ ("abcdefghijklmnopqrstuvwxyz" : Str).cps.toList := h3
        simp only [h3', decide_false, Bool.not_false, if_true]
        refine ⟨_, LeB.refl _, ?_⟩
        rw [hw] at h
        simpa [h3] using h
    · simp only [Rs.val.injEq, h1, h2, decide_true, decide_false, if_true, fin_val, D.bl.injEq, exists_eq_left', Bool.not_true, Bool.not_false, Bool.false_eq_true, if_false, Option.some.injEq]
      have hw : isW x = false := by
        have : decide (1 ≤ x.cps.toList.length ∧ x.cps.toList.length ≤ 12) = false := by rw [← str_len]; simp; omega
        unfold isW
        rw [this]; simp
      exact ⟨_, LeB.refl _, by rw [hw] at h; exact h⟩
  · simp only [Rs.val.injEq, h1, decide_true, decide_false, if_true, fin_val, D.bl.injEq, exists_eq_left', Bool.not_true, Bool.not_false, Bool.false_eq_true, if_false, Option.some.injEq]
    have hw : isW x = false := by
      have : decide (1 ≤ x.cps.toList.length ∧ x.cps.toList.length ≤ 12) = false := by rw [← str_len]; simp; omega
      unfold isW
      rw [this]; simp
    exact ⟨_, LeB.refl _, by rw [hw] at h; exact h⟩
end
end Mk22
namespace Mk22
open PySem PySem.Spec Mi
/-- texts that are named here -/
def okS (x : Str) : Prop := PyData.strOk x = true ∧ x.length ≤ 100
theorem okS.sz {x : Str} (h : okS x) : x.length ≤ sizeLine := by have := h.2; rw [sizeLine_eq]; omega
theorem okS.pl {x : Str} (h : okS x) {n : Nat} : Pl (n + 1) (.str x) := .str h.1
def d2 (p : Str × Str) : D := .tup [.str p.1, .str p.2]
def d3 (p : Str × Str × Str) : D := .tup [.str p.1, .str p.2.1, .str p.2.2]
theorem d2_inj {p q : Str × Str} : d2 p = d2 q ↔ p = q := by simp [d2, Prod.ext_iff]
theorem d3_inj {p q : Str × Str × Str} : d3 p = d3 q ↔ p = q := by simp [d3, Prod.ext_iff]
theorem mem_str {x : Str} {l : List Str} : D.str x ∈ l.map D.str ↔ x ∈ l := by simp
theorem mem_d2 {x : Str × Str} {l : List (Str × Str)} : d2 x ∈ l.map d2 ↔ x ∈ l := by
  simp only [List.mem_map, d2_inj, exists_eq_right]
theorem mem_d3 {x : Str × Str × Str} {l : List (Str × Str × Str)} : d3 x ∈ l.map d3 ↔ x ∈ l := by
  simp only [List.mem_map, d3_inj, exists_eq_right]
/-- the first one that stands before -/
def twi (met : List Str) : List Str → Option Str
  | [] => none
  | x :: l => if x ∈ met then some x else twi (met ++ [x]) l
inductive Er where
  | name (x : Str) | twice (x : Str) | unknown (x : Str) | frame (x : Str) | round (l : List Str)
def Er.x : Er → XD
  | .name x => ⟨2, [("name", .str x)]⟩
  | .twice x => ⟨3, [("name", .str x)]⟩
  | .frame x => ⟨4, [("name", .str x)]⟩
  | .round l => ⟨5, [("members", .tup (l.map .str))]⟩
  | .unknown x => ⟨6, [("name", .str x)]⟩
def oEr (f : Str → Er) (o : Option Str) (r : Option Er) : Option Er := match o with
  | some x => some (f x)
  | none => r
/-- raised or gone on -/
def res (o : Option Er) (A : Prop) (X : XD → Prop) : Prop := match o with
  | none => A
  | some e => X e.x
section
variable {n : Nat} {cm : CM} {bx : Bx} {Q : VQ} {X : XQ} {b : Bool}
theorem lookN : ∀ {l : List Str} {x : Str}, lookK false (l.map fun y => (.str y, .bl true)) (.str x) = if x ∈ l then some (.bl true) else none
  | [], x => rfl
  | y :: l, x => by
    have ih := lookN (l := l) (x := x)
    simp only [lookK, List.map_cons, List.find?_cons, eqK, toKey, Bool.false_eq_true, if_false, Option.some.injEq, Sum.inr.injEq] at ih ⊢
    by_cases e : y = x
    · subst e; simp
    · have e' : ¬ x = y := fun h => e h.symm
      simp only [e, decide_false, List.mem_cons, e', false_or]
      exact ih
theorem putN {l : List Str} {x : Str} (h : x ∉ l) : putD false (.str x) (.bl true) (l.map fun y => (.str y, .bl true)) = (l ++ [x]).map fun y => (.str y, .bl true) := by
  have e : ((l.map fun y => ((D.str y, D.bl true) : D × D)).any fun p => eqK false p.1 (.str x)) = false := by
    rw [List.any_eq_false]
    intro p hp
    obtain ⟨y, hy, rfl⟩ := List.mem_map.mp hp
    simp only [eqK, toKey, Bool.false_eq_true, if_false, Option.some.injEq, Sum.inr.injEq, decide_eq_true_eq]
    rintro rfl
    exact h hy
  unfold putD
  rw [e]
  simp
def lookW (a b : List Str) : Option Er := oEr .name ((a ++ b).find? fun x => !isW x) (oEr .twice (twi [] a) (oEr .twice (twi [] b) none))
theorem words_ok {ss ns : List Str} (hs : ∀ x ∈ ss ++ ns, okS x) (hl : ss.length ≤ 900) (hl2 : ns.length ≤ 900) (h : res (lookW ss ns) (Q .non bx) (fun x => X x bx)) : runM 1 4 (t1 (cmAt S (n + 1))) [.lst [.lst (ss.map .str), .lst (ns.map .str)]] bx Q X := by
  refine ⟨rfl, ?_⟩
  unfold t1
  simp only [wsSeq, wsIf, wtB, wtNot, wtAnd, wtOr, wTru, wNot, wAnd, wOr, wIf, wOp2, wSlot, wC, wsRet, wsRetN, wsSkip, wsAsg, wsExpr, wgName, wBin, wCall, wCons, wNil, wTup, lst_new, wAttrX, blt_len, blt_int, blt_isi, blt_list, blt_tuple, blt_repr, blt_all, blt_any, blt_str, List.map_cons, List.map_nil, List.replicate, List.cons_append, List.nil_append, List.getElem?_cons_succ, List.getElem?_cons_zero, List.set_cons_succ, List.set_cons_zero, Option.some.injEq, exists_eq_left', fin_val, Rs.val.injEq, D.bl.injEq, Bool.not_true, Bool.not_false, Bool.false_eq_true, if_false, if_true, true_and, and_true, callJ_at (c0 n), wsFor, wiAny, itemsOf]
  refine for_each (l := [ss, ns]) (G := fun l : List Str => D.lst (l.map .str)) (P := fun rows sl bx' => bx' = bx ∧ (∀ l ∈ rows, ∀ x ∈ l, okS x) ∧ (∃ a c m, sl = [some (.lst [.lst (ss.map .str), .lst (ns.map .str)]), a, c, m]) ∧ res (oEr .name (rows.flatten.find? fun x => !isW x) (oEr .twice (twi [] ss) (oEr .twice (twi [] ns) none))) (Q .non bx) (fun x => X x bx)) ?_ ?_ _ _ ?_
  · rintro sl bx' ⟨rfl, -, ⟨a, c, m, rfl⟩, h⟩
    refine ⟨trivial, ?_⟩
    simp only [List.flatten_nil, List.find?_nil] at h
    simp only [wsSeq, wsIf, wtB, wtNot, wtAnd, wtOr, wTru, wNot, wAnd, wOr, wIf, wOp2, wSlot, wC, wsRet, wsRetN, wsSkip, wsAsg, wsExpr, wgName, wBin, wCall, wCons, wNil, wTup, lst_new, wAttrX, blt_len, blt_int, blt_isi, blt_list, blt_tuple, blt_repr, blt_all, blt_any, blt_str, List.map_cons, List.map_nil, List.replicate, List.cons_append, List.nil_append, List.getElem?_cons_succ, List.getElem?_cons_zero, List.set_cons_succ, List.set_cons_zero, Option.some.injEq, exists_eq_left', fin_val, Rs.val.injEq, D.bl.injEq, Bool.not_true, Bool.not_false, Bool.false_eq_true, if_false, if_true, true_and, and_true, wsFor, wiAny, itemsOf, oEr] at h ⊢
    refine for_each (l := [ss, ns]) (G := fun l : List Str => D.lst (l.map .str)) (P := fun rows sl bx1 => LeB bx' bx1 ∧ (∀ l ∈ rows, (∀ x ∈ l, okS x) ∧ l.length ≤ 900) ∧ (∃ a c m, sl = [some (.lst [.lst (ss.map .str), .lst (ns.map .str)]), a, c, m]) ∧ res (rows.foldr (fun l r => oEr .twice (twi [] l) r) none) (Q .non bx') (fun x => X x bx')) ?_ ?_ _ _ ?_
    · rintro sl bx1 ⟨hle, -, ⟨a, c, m, rfl⟩, h⟩
      exact ⟨trivial, bx', hle, h⟩
    · rintro row rows sl bx1 ⟨hle, hok, ⟨a, c, m, rfl⟩, h⟩
      refine ⟨trivial, fun k hk => ?_⟩
      simp only [wsSeq, wsIf, wtB, wtNot, wtAnd, wtOr, wTru, wNot, wAnd, wOr, wIf, wOp2, wSlot, wC, wsRet, wsRetN, wsSkip, wsAsg, wsExpr, wgName, wBin, wCall, wCons, wNil, wTup, lst_new, wAttrX, blt_len, blt_int, blt_isi, blt_list, blt_tuple, blt_repr, blt_all, blt_any, blt_str, List.map_cons, List.map_nil, List.replicate, List.cons_append, List.nil_append, List.getElem?_cons_succ, List.getElem?_cons_zero, List.set_cons_succ, List.set_cons_zero, Option.some.injEq, exists_eq_left', fin_val, Rs.val.injEq, D.bl.injEq, Bool.not_true, Bool.not_false, Bool.false_eq_true, if_false, if_true, true_and, and_true, wsFor, wiAny, itemsOf, wDic0, fin]
      intro d hd
      obtain ⟨ho, hz⟩ := hok row List.mem_cons_self
      refine for_each (l := row) (G := D.str) (P := fun l sl bx2 => ∃ met : List Str, met.length + l.length ≤ 900 ∧ (∀ x ∈ l, okS x) ∧ LeB bx1 bx2 ∧ bx2 d = some (.dic false (met.map fun y => (.str y, .bl true))) ∧ (∃ c, sl = [some (.lst [.lst (ss.map .str), .lst (ns.map .str)]), some (.lst (row.map .str)), c, some (.box d)]) ∧ res (oEr .twice (twi met l) (rows.foldr (fun l r => oEr .twice (twi [] l) r) none)) (Q .non bx') (fun x => X x bx')) ?_ ?_ _ _ ?_
      · rintro sl bx2 ⟨met, -, -, h2, h3, ⟨c, rfl⟩, h⟩
        exact ⟨trivial, hk _ _ ⟨hle.trans h2, fun l hl => hok l (List.mem_cons_of_mem _ hl), ⟨_, _, _, rfl⟩, h⟩⟩
      · rintro x l sl bx2 ⟨met, hm, hx, h2, h3, ⟨c, rfl⟩, h⟩
        refine ⟨trivial, fun k2 hk2 => ?_⟩
        have hdr : dr bx2 (.box d) = some (.dic false (met.map fun y => (.str y, .bl true))) := h3
        simp only [wsSeq, wsIf, wtB, wtNot, wtAnd, wtOr, wTru, wNot, wAnd, wOr, wIf, wOp2, wSlot, wC, wsRet, wsRetN, wsSkip, wsAsg, wsExpr, wgName, wBin, wCall, wCons, wNil, wTup, lst_new, wAttrX, blt_len, blt_int, blt_isi, blt_list, blt_tuple, blt_repr, blt_all, blt_any, blt_str, List.map_cons, List.map_nil, List.replicate, List.cons_append, List.nil_append, List.getElem?_cons_succ, List.getElem?_cons_zero, List.set_cons_succ, List.set_cons_zero, Option.some.injEq, exists_eq_left', fin_val, Rs.val.injEq, D.bl.injEq, Bool.not_true, Bool.not_false, Bool.false_eq_true, if_false, if_true, true_and, and_true]
        rw [in_dic hdr rfl, lookN]
        by_cases hmem : x ∈ met
        · simp only [hmem, if_true, Option.isSome_some, D.bl.injEq, exists_eq_left', wsRaise, wsSeq, wsIf, wtB, wtNot, wtAnd, wtOr, wTru, wNot, wAnd, wOr, wIf, wOp2, wSlot, wC, wsRet, wsRetN, wsSkip, wsAsg, wsExpr, wgName, wBin, wCall, wCons, wNil, wTup, lst_new, wAttrX, blt_len, blt_int, blt_isi, blt_list, blt_tuple, blt_repr, blt_all, blt_any, blt_str, List.map_cons, List.map_nil, List.replicate, List.cons_append, List.nil_append, List.getElem?_cons_succ, List.getElem?_cons_zero, List.set_cons_succ, List.set_cons_zero, Option.some.injEq, exists_eq_left', fin_val, Rs.val.injEq, D.bl.injEq, Bool.not_true, Bool.not_false, Bool.false_eq_true, if_false, if_true, true_and, and_true, exAll, exVal, List.length_cons, List.length_nil, Option.bind_some]
          simp only [twi, hmem, if_true, oEr, res, Er.x] at h
          exact ⟨bx', hle.trans h2, h⟩
        · simp only [hmem, if_false, Option.isSome_none, D.bl.injEq, exists_eq_left', Bool.false_eq_true, wsSeq, wsIf, wtB, wtNot, wtAnd, wtOr, wTru, wNot, wAnd, wOr, wIf, wOp2, wSlot, wC, wsRet, wsRetN, wsSkip, wsAsg, wsExpr, wgName, wBin, wCall, wCons, wNil, wTup, lst_new, wAttrX, blt_len, blt_int, blt_isi, blt_list, blt_tuple, blt_repr, blt_all, blt_any, blt_str, List.map_cons, List.map_nil, List.replicate, List.cons_append, List.nil_append, List.getElem?_cons_succ, List.getElem?_cons_zero, List.set_cons_succ, List.set_cons_zero, Option.some.injEq, exists_eq_left', fin_val, Rs.val.injEq, D.bl.injEq, Bool.not_true, Bool.not_false, Bool.false_eq_true, if_false, if_true, true_and, and_true, wgSub]
          refine ⟨d, rfl, .inr ⟨_, _, h3, rfl, by simp only [List.length_map, List.length_cons] at hm ⊢; rw [sizeLine_eq]; omega, ?_⟩⟩
          rw [putN hmem]
          refine hk2 _ _ ⟨met ++ [x], by simp only [List.length_append, List.length_cons, List.length_nil] at hm ⊢; omega, fun y hy => hx y (List.mem_cons_of_mem _ hy), ?_, upb_at, ⟨_, rfl⟩, ?_⟩
          · intro m e hme
            have : m ≠ d := by rintro rfl; rw [hd] at hme; cases hme
            simp only [upb, this, if_false]
            exact h2 m e hme
          · simpa only [twi, hmem, if_false] using h
      · refine ⟨[], by simpa using hz, ho, leB_up hd, upb_at, ⟨_, rfl⟩, h⟩
    · refine ⟨LeB.refl _, fun l hm => ?_, ⟨_, _, _, rfl⟩, h⟩
      rcases List.mem_cons.mp hm with rfl | hm
      · exact ⟨fun x hx => hs x (List.mem_append_left _ hx), hl⟩
      · rw [List.mem_singleton] at hm
        subst hm
        exact ⟨fun x hx => hs x (List.mem_append_right _ hx), hl2⟩
  · rintro row rows sl bx' ⟨rfl, hok, ⟨a, c, m, rfl⟩, h⟩
    refine ⟨trivial, fun k hk => ?_⟩
    simp only [wsSeq, wsIf, wtB, wtNot, wtAnd, wtOr, wTru, wNot, wAnd, wOr, wIf, wOp2, wSlot, wC, wsRet, wsRetN, wsSkip, wsAsg, wsExpr, wgName, wBin, wCall, wCons, wNil, wTup, lst_new, wAttrX, blt_len, blt_int, blt_isi, blt_list, blt_tuple, blt_repr, blt_all, blt_any, blt_str, List.map_cons, List.map_nil, List.replicate, List.cons_append, List.nil_append, List.getElem?_cons_succ, List.getElem?_cons_zero, List.set_cons_succ, List.set_cons_zero, Option.some.injEq, exists_eq_left', fin_val, Rs.val.injEq, D.bl.injEq, Bool.not_true, Bool.not_false, Bool.false_eq_true, if_false, if_true, true_and, and_true, wsFor, wiAny, itemsOf]
    refine for_each (l := row) (G := D.str) (P := fun l sl bx2 => bx2 = bx' ∧ (∀ x ∈ l, okS x) ∧ (∃ c, sl = [some (.lst [.lst (ss.map .str), .lst (ns.map .str)]), some (.lst (row.map .str)), c, m]) ∧ res (oEr .name ((l ++ rows.flatten).find? fun x => !isW x) (oEr .twice (twi [] ss) (oEr .twice (twi [] ns) none))) (Q .non bx') (fun x => X x bx')) ?_ ?_ _ _ ?_
    · rintro sl bx2 ⟨rfl, -, ⟨c, rfl⟩, h⟩
      exact ⟨trivial, hk _ _ ⟨rfl, fun l hl => hok l (List.mem_cons_of_mem _ hl), ⟨_, _, _, rfl⟩, h⟩⟩
    · rintro x l sl bx2 ⟨rfl, hx, ⟨c, rfl⟩, h⟩
      refine ⟨trivial, fun k2 hk2 => ?_⟩
      simp only [wsSeq, wsIf, wtB, wtNot, wtAnd, wtOr, wTru, wNot, wAnd, wOr, wIf, wOp2, wSlot, wC, wsRet, wsRetN, wsSkip, wsAsg, wsExpr, wgName, wBin, wCall, wCons, wNil, wTup, lst_new, wAttrX, blt_len, blt_int, blt_isi, blt_list, blt_tuple, blt_repr, blt_all, blt_any, blt_str, List.map_cons, List.map_nil, List.replicate, List.cons_append, List.nil_append, List.getElem?_cons_succ, List.getElem?_cons_zero, List.set_cons_succ, List.set_cons_zero, Option.some.injEq, exists_eq_left', fin_val, Rs.val.injEq, D.bl.injEq, Bool.not_true, Bool.not_false, Bool.false_eq_true, if_false, if_true, true_and, and_true]
      refine isword_ok (hx x List.mem_cons_self).sz ?_
      refine ⟨_, rfl, ?_⟩
      cases hw : isW x with
      | true =>
        simp only [Bool.not_true, Bool.false_eq_true, if_false]
        refine hk2 _ _ ⟨rfl, fun y hy => hx y (List.mem_cons_of_mem _ hy), ⟨_, rfl⟩, ?_⟩
        simpa [List.find?_cons, hw] using h
      | false =>
        simp only [Bool.not_false, if_true, wsRaise, wsSeq, wsIf, wtB, wtNot, wtAnd, wtOr, wTru, wNot, wAnd, wOr, wIf, wOp2, wSlot, wC, wsRet, wsRetN, wsSkip, wsAsg, wsExpr, wgName, wBin, wCall, wCons, wNil, wTup, lst_new, wAttrX, blt_len, blt_int, blt_isi, blt_list, blt_tuple, blt_repr, blt_all, blt_any, blt_str, List.map_cons, List.map_nil, List.replicate, List.cons_append, List.nil_append, List.getElem?_cons_succ, List.getElem?_cons_zero, List.set_cons_succ, List.set_cons_zero, Option.some.injEq, exists_eq_left', fin_val, Rs.val.injEq, D.bl.injEq, Bool.not_true, Bool.not_false, Bool.false_eq_true, if_false, if_true, true_and, and_true, exAll, exVal, List.length_cons, List.length_nil, Option.bind_some]
        simp only [List.cons_append, List.find?_cons, hw, Bool.not_false, oEr, res, Er.x] at h
        exact ⟨_, LeB.refl _, h⟩
    · exact ⟨rfl, hok row List.mem_cons_self, ⟨_, rfl⟩, by simpa using h⟩
  · refine ⟨rfl, fun l hl => ?_, ⟨_, _, _, rfl⟩, by simpa [lookW] using h⟩
    rcases List.mem_cons.mp hl with rfl | hl
    · exact fun x hx => hs x (List.mem_append_left _ hx)
    · rw [List.mem_singleton] at hl
      subst hl
      exact fun x hx => hs x (List.mem_append_right _ hx)
end
end Mk22
namespace Mk22
open PySem PySem.Spec Mi
abbrev T2 := List (Str × Str)
abbrev T3 := List (Str × Str × Str)
def ok2 (l : T2) : Prop := ∀ p ∈ l, okS p.1 ∧ okS p.2
def ok3 (l : T3) : Prop := ∀ p ∈ l, okS p.1 ∧ okS p.2.1 ∧ okS p.2.2
theorem pl2 {p : Str × Str} (h : okS p.1 ∧ okS p.2) {n : Nat} : Pl (n + 2) (d2 p) := .tup fun d hd => by
  simp only [List.mem_cons, List.not_mem_nil, or_false] at hd
  rcases hd with rfl | rfl
  · exact h.1.pl
  · exact h.2.pl
def feE (ss : List Str) : T3 → Option Str
  | [] => none
  | p :: r => if p.2.1 ∉ ss then some p.2.1 else if p.2.2 ∉ ss then some p.2.2 else feE ss r
def ftE (ns : List Str) : T2 → Option Str
  | [] => none
  | p :: r => if p.1 ∉ ns then some p.1 else ftE ns r
def lookE (ss : List Str) (ls : T3) (ts : T2) : Option Er := oEr .unknown (feE ss ls) (oEr .unknown (ftE (ls.map (·.1)) ts) none)
def ftT (met : T2) : T2 → Option Str
  | [] => none
  | p :: r => if p.2 ∉ (["on", "back"] : List Str) ∨ p ∈ met then some p.1 else ftT (met ++ [p]) r
section
variable {n : Nat} {cm : CM} {bx : Bx} {Q : VQ} {X : XQ} {b : Bool}
theorem strs39 {l : List Str} (h : ∀ x ∈ l, okS x) : ∀ y ∈ l.map D.str, Pl 39 y := fun y hy => by
  obtain ⟨x, hx, rfl⟩ := List.mem_map.mp hy
  exact (h x hx).pl
theorem ends_ok {ss : List Str} {ls : T3} {ts : T2} {dl dt : D} (hs : ∀ x ∈ ss, okS x) (h3 : ok3 ls) (h2 : ok2 ts) (el : Sq bx dl (ls.map d3)) (et : Sq bx dt (ts.map d2)) (hl : ls.length ≤ 900)
    (h : res (lookE ss ls ts) (Q .non bx) (fun x => X x bx)) : runM 3 10 (t2 cm) [.lst (ss.map .str), dl, dt] bx Q X := by
  refine ⟨rfl, ?_⟩
  unfold t2
  obtain ⟨c1, i1, k1⟩ := el.items
  obtain ⟨c2, i2, k2⟩ := et.items
  simp only [wsSeq, wsIf, wtB, wtNot, wtAnd, wtOr, wTru, wNot, wAnd, wOr, wIf, wOp2, wSlot, wC, wsRet, wsRetN, wsSkip, wsAsg, wsExpr, wgName, wBin, wCall, wCons, wNil, wTup, lst_new, wAttrX, blt_len, blt_int, blt_isi, blt_list, blt_tuple, blt_repr, blt_all, blt_any, blt_str, List.map_cons, List.map_nil, List.replicate, List.cons_append, List.nil_append, List.getElem?_cons_succ, List.getElem?_cons_zero, List.set_cons_succ, List.set_cons_zero, Option.some.injEq, exists_eq_left', fin_val, Rs.val.injEq, D.bl.injEq, Bool.not_true, Bool.not_false, Bool.false_eq_true, if_false, if_true, true_and, and_true, wsFor, wiAny, i1]
  refine for_each (l := ls) (G := d3) (P := fun l sl bx' => bx' = bx ∧ ok3 l ∧ (∃ x3 x4 x5 x6, sl = [some (.lst (ss.map .str)), some dl, some dt, x3, x4, x5, x6, none, none, none]) ∧ res (oEr .unknown (feE ss l) (oEr .unknown (ftE (ls.map (·.1)) ts) none)) (Q .non bx) (fun x => X x bx)) ?_ ?_ _ _ ?_
  · rintro sl bx' ⟨rfl, -, ⟨x3, x4, x5, x6, rfl⟩, h⟩
    refine ⟨k1 _ (LeB.refl _), ?_⟩
    simp only [wsSeq, wsIf, wtB, wtNot, wtAnd, wtOr, wTru, wNot, wAnd, wOr, wIf, wOp2, wSlot, wC, wsRet, wsRetN, wsSkip, wsAsg, wsExpr, wgName, wBin, wCall, wCons, wNil, wTup, lst_new, wAttrX, blt_len, blt_int, blt_isi, blt_list, blt_tuple, blt_repr, blt_all, blt_any, blt_str, List.map_cons, List.map_nil, List.replicate, List.cons_append, List.nil_append, List.getElem?_cons_succ, List.getElem?_cons_zero, List.set_cons_succ, List.set_cons_zero, Option.some.injEq, exists_eq_left', fin_val, Rs.val.injEq, D.bl.injEq, Bool.not_true, Bool.not_false, Bool.false_eq_true, if_false, if_true, true_and, and_true, feE, oEr] at h ⊢
    refine lc_all (l := ls) (g := d3) (f := fun p => .str p.1) (cond := c1) (fun Qi q => ⟨_, rfl, _, i1, q⟩) (fun n d hn => k1 _ (leB_up hn)) (by rw [sizeLine_eq]; omega) (fun p hp => ⟨_, rfl, fun n e hn Qe X q => ?_⟩) ?_
    · simp only [wsSeq, wsIf, wtB, wtNot, wtAnd, wtOr, wTru, wNot, wAnd, wOr, wIf, wOp2, wSlot, wC, wsRet, wsRetN, wsSkip, wsAsg, wsExpr, wgName, wBin, wCall, wCons, wNil, wTup, lst_new, wAttrX, blt_len, blt_int, blt_isi, blt_list, blt_tuple, blt_repr, blt_all, blt_any, blt_str, List.map_cons, List.map_nil, List.replicate, List.cons_append, List.nil_append, List.getElem?_cons_succ, List.getElem?_cons_zero, List.set_cons_succ, List.set_cons_zero, Option.some.injEq, exists_eq_left', fin_val, Rs.val.injEq, D.bl.injEq, Bool.not_true, Bool.not_false, Bool.false_eq_true, if_false, if_true, true_and, and_true, wipeD, d3]
      exact ⟨_, ix_tup (k := 0) rfl, q⟩
    · simp only [wsSeq, wsIf, wtB, wtNot, wtAnd, wtOr, wTru, wNot, wAnd, wOr, wIf, wOp2, wSlot, wC, wsRet, wsRetN, wsSkip, wsAsg, wsExpr, wgName, wBin, wCall, wCons, wNil, wTup, lst_new, wAttrX, blt_len, blt_int, blt_isi, blt_list, blt_tuple, blt_repr, blt_all, blt_any, blt_str, List.map_cons, List.map_nil, List.replicate, List.cons_append, List.nil_append, List.getElem?_cons_succ, List.getElem?_cons_zero, List.set_cons_succ, List.set_cons_zero, Option.some.injEq, exists_eq_left', fin_val, Rs.val.injEq, D.bl.injEq, Bool.not_true, Bool.not_false, Bool.false_eq_true, if_false, if_true, true_and, and_true, wsFor, wiAny, i2]
      refine for_each (l := ts) (G := d2) (P := fun l sl bx1 => bx1 = bx' ∧ ok2 l ∧ (∃ x3 x4 x5 x6 x8, sl = [some (.lst (ss.map .str)), some dl, some dt, x3, x4, x5, x6, some (.lst (ls.map fun p => .str p.1)), x8, none]) ∧ res (oEr .unknown (ftE (ls.map (·.1)) l) none) (Q .non bx') (fun x => X x bx')) ?_ ?_ _ _ ?_
      · rintro sl bx1 ⟨rfl, -, ⟨x3, x4, x5, x6, x8, rfl⟩, h⟩
        exact ⟨k2 _ (LeB.refl _), _, LeB.refl _, h⟩
      · rintro p l sl bx1 ⟨rfl, hl2, ⟨x3, x4, x5, x6, x8, rfl⟩, h⟩
        refine ⟨k2 _ (LeB.refl _), fun k hk => tg2 ?_⟩
        have hn : ∀ y ∈ ls.map (fun p => D.str p.1), Pl 39 y := fun y hy => by
          obtain ⟨q, hq, rfl⟩ := List.mem_map.mp hy
          exact (h3 q hq).1.pl
        have hm : D.str p.1 ∈ ls.map (fun p => D.str p.1) ↔ p.1 ∈ ls.map (·.1) := by simp
        simp only [wsSeq, wsIf, wtB, wtNot, wtAnd, wtOr, wTru, wNot, wAnd, wOr, wIf, wOp2, wSlot, wC, wsRet, wsRetN, wsSkip, wsAsg, wsExpr, wgName, wBin, wCall, wCons, wNil, wTup, lst_new, wAttrX, blt_len, blt_int, blt_isi, blt_list, blt_tuple, blt_repr, blt_all, blt_any, blt_str, List.map_cons, List.map_nil, List.replicate, List.cons_append, List.nil_append, List.getElem?_cons_succ, List.getElem?_cons_zero, List.set_cons_succ, List.set_cons_zero, Option.some.injEq, exists_eq_left', fin_val, Rs.val.injEq, D.bl.injEq, Bool.not_true, Bool.not_false, Bool.false_eq_true, if_false, if_true, true_and, and_true]
        rw [notin_lst (es := ls.map fun p => .str p.1) (hl2 p List.mem_cons_self).1.pl rfl hn]
        simp only [hm, D.bl.injEq, exists_eq_left']
        by_cases hp : p.1 ∈ ls.map (·.1)
        · simp only [hp, decide_true, Bool.not_true, Bool.false_eq_true, if_false]
          refine hk _ _ ⟨rfl, fun q hq => hl2 q (List.mem_cons_of_mem _ hq), ⟨_, _, _, _, _, rfl⟩, ?_⟩
          simpa only [ftE, hp, not_true_eq_false, if_false] using h
        · simp only [hp, decide_false, Bool.not_false, if_true, wsRaise, wsSeq, wsIf, wtB, wtNot, wtAnd, wtOr, wTru, wNot, wAnd, wOr, wIf, wOp2, wSlot, wC, wsRet, wsRetN, wsSkip, wsAsg, wsExpr, wgName, wBin, wCall, wCons, wNil, wTup, lst_new, wAttrX, blt_len, blt_int, blt_isi, blt_list, blt_tuple, blt_repr, blt_all, blt_any, blt_str, List.map_cons, List.map_nil, List.replicate, List.cons_append, List.nil_append, List.getElem?_cons_succ, List.getElem?_cons_zero, List.set_cons_succ, List.set_cons_zero, Option.some.injEq, exists_eq_left', fin_val, Rs.val.injEq, D.bl.injEq, Bool.not_true, Bool.not_false, Bool.false_eq_true, if_false, if_true, true_and, and_true, exAll, exVal, List.length_cons, List.length_nil, Option.bind_some]
          simp only [ftE, hp, not_false_eq_true, if_true, oEr, res, Er.x] at h
          exact ⟨_, LeB.refl _, h⟩
      · exact ⟨rfl, h2, ⟨_, _, _, _, _, rfl⟩, h⟩
  · rintro p l sl bx' ⟨rfl, hl3, ⟨x3, x4, x5, x6, rfl⟩, h⟩
    refine ⟨k1 _ (LeB.refl _), fun k hk => tg3 ?_⟩
    obtain ⟨o1, o2, o3⟩ := hl3 p List.mem_cons_self
    simp only [wsSeq, wsIf, wtB, wtNot, wtAnd, wtOr, wTru, wNot, wAnd, wOr, wIf, wOp2, wSlot, wC, wsRet, wsRetN, wsSkip, wsAsg, wsExpr, wgName, wBin, wCall, wCons, wNil, wTup, lst_new, wAttrX, blt_len, blt_int, blt_isi, blt_list, blt_tuple, blt_repr, blt_all, blt_any, blt_str, List.map_cons, List.map_nil, List.replicate, List.cons_append, List.nil_append, List.getElem?_cons_succ, List.getElem?_cons_zero, List.set_cons_succ, List.set_cons_zero, Option.some.injEq, exists_eq_left', fin_val, Rs.val.injEq, D.bl.injEq, Bool.not_true, Bool.not_false, Bool.false_eq_true, if_false, if_true, true_and, and_true, wsFor, wiAny, itemsOf, List.length_cons, List.length_nil]
    refine ⟨by rw [sizeLine_eq]; omega, ?_⟩
    have m1 : D.str p.2.1 ∈ ss.map D.str ↔ p.2.1 ∈ ss := mem_str
    have m2 : D.str p.2.2 ∈ ss.map D.str ↔ p.2.2 ∈ ss := mem_str
    simp only [forW, wsSeq, wsIf, wtB, wtNot, wtAnd, wtOr, wTru, wNot, wAnd, wOr, wIf, wOp2, wSlot, wC, wsRet, wsRetN, wsSkip, wsAsg, wsExpr, wgName, wBin, wCall, wCons, wNil, wTup, lst_new, wAttrX, blt_len, blt_int, blt_isi, blt_list, blt_tuple, blt_repr, blt_all, blt_any, blt_str, List.map_cons, List.map_nil, List.replicate, List.cons_append, List.nil_append, List.getElem?_cons_succ, List.getElem?_cons_zero, List.set_cons_succ, List.set_cons_zero, Option.some.injEq, exists_eq_left', fin_val, Rs.val.injEq, D.bl.injEq, Bool.not_true, Bool.not_false, Bool.false_eq_true, if_false, if_true, true_and, and_true]
    rw [notin_lst (es := ss.map .str) o2.pl rfl (strs39 hs)]
    simp only [m1, D.bl.injEq, exists_eq_left']
    refine ⟨trivial, ?_⟩
    by_cases hp : p.2.1 ∈ ss
    · simp only [hp, decide_true, Bool.not_true, Bool.false_eq_true, if_false, wsSeq, wsIf, wtB, wtNot, wtAnd, wtOr, wTru, wNot, wAnd, wOr, wIf, wOp2, wSlot, wC, wsRet, wsRetN, wsSkip, wsAsg, wsExpr, wgName, wBin, wCall, wCons, wNil, wTup, lst_new, wAttrX, blt_len, blt_int, blt_isi, blt_list, blt_tuple, blt_repr, blt_all, blt_any, blt_str, List.map_cons, List.map_nil, List.replicate, List.cons_append, List.nil_append, List.getElem?_cons_succ, List.getElem?_cons_zero, List.set_cons_succ, List.set_cons_zero, Option.some.injEq, exists_eq_left', fin_val, Rs.val.injEq, D.bl.injEq, Bool.not_true, Bool.not_false, Bool.false_eq_true, if_false, if_true, true_and, and_true]
      refine ⟨trivial, ?_⟩
      rw [notin_lst (es := ss.map .str) o3.pl rfl (strs39 hs)]
      simp only [m2, D.bl.injEq, exists_eq_left']
      by_cases hp2 : p.2.2 ∈ ss
      · simp only [hp2, decide_true, Bool.not_true, Bool.false_eq_true, if_false, wsSeq, wsIf, wtB, wtNot, wtAnd, wtOr, wTru, wNot, wAnd, wOr, wIf, wOp2, wSlot, wC, wsRet, wsRetN, wsSkip, wsAsg, wsExpr, wgName, wBin, wCall, wCons, wNil, wTup, lst_new, wAttrX, blt_len, blt_int, blt_isi, blt_list, blt_tuple, blt_repr, blt_all, blt_any, blt_str, List.map_cons, List.map_nil, List.replicate, List.cons_append, List.nil_append, List.getElem?_cons_succ, List.getElem?_cons_zero, List.set_cons_succ, List.set_cons_zero, Option.some.injEq, exists_eq_left', fin_val, Rs.val.injEq, D.bl.injEq, Bool.not_true, Bool.not_false, Bool.false_eq_true, if_false, if_true, true_and, and_true]
        refine ⟨trivial, hk _ _ ⟨rfl, fun q hq => hl3 q (List.mem_cons_of_mem _ hq), ⟨_, _, _, _, rfl⟩, ?_⟩⟩
        simpa only [feE, hp, hp2, not_true_eq_false, if_false] using h
      · simp only [hp2, decide_false, Bool.not_false, if_true, wsRaise, wsSeq, wsIf, wtB, wtNot, wtAnd, wtOr, wTru, wNot, wAnd, wOr, wIf, wOp2, wSlot, wC, wsRet, wsRetN, wsSkip, wsAsg, wsExpr, wgName, wBin, wCall, wCons, wNil, wTup, lst_new, wAttrX, blt_len, blt_int, blt_isi, blt_list, blt_tuple, blt_repr, blt_all, blt_any, blt_str, List.map_cons, List.map_nil, List.replicate, List.cons_append, List.nil_append, List.getElem?_cons_succ, List.getElem?_cons_zero, List.set_cons_succ, List.set_cons_zero, Option.some.injEq, exists_eq_left', fin_val, Rs.val.injEq, D.bl.injEq, Bool.not_true, Bool.not_false, Bool.false_eq_true, if_false, if_true, true_and, and_true, exAll, exVal, List.length_cons, List.length_nil, Option.bind_some]
        simp only [feE, hp, hp2, not_true_eq_false, not_false_eq_true, if_false, if_true, oEr, res, Er.x] at h
        exact ⟨_, LeB.refl _, h⟩
    · simp only [hp, decide_false, Bool.not_false, if_true, wsRaise, wsSeq, wsIf, wtB, wtNot, wtAnd, wtOr, wTru, wNot, wAnd, wOr, wIf, wOp2, wSlot, wC, wsRet, wsRetN, wsSkip, wsAsg, wsExpr, wgName, wBin, wCall, wCons, wNil, wTup, lst_new, wAttrX, blt_len, blt_int, blt_isi, blt_list, blt_tuple, blt_repr, blt_all, blt_any, blt_str, List.map_cons, List.map_nil, List.replicate, List.cons_append, List.nil_append, List.getElem?_cons_succ, List.getElem?_cons_zero, List.set_cons_succ, List.set_cons_zero, Option.some.injEq, exists_eq_left', fin_val, Rs.val.injEq, D.bl.injEq, Bool.not_true, Bool.not_false, Bool.false_eq_true, if_false, if_true, true_and, and_true, exAll, exVal, List.length_cons, List.length_nil, Option.bind_some]
      simp only [feE, hp, not_false_eq_true, if_true, oEr, res, Er.x] at h
      exact ⟨_, LeB.refl _, h⟩
  · exact ⟨rfl, h3, ⟨_, _, _, _, rfl⟩, h⟩
theorem lookT : ∀ {l : T2} {x : Str × Str}, lookK true (l.map fun y => (d2 y, .bl true)) (d2 x) = if x ∈ l then some (.bl true) else none
  | [], x => rfl
  | y :: l, x => by
    have ih := lookT (l := l) (x := x)
    have ek : eqK true (d2 y) (d2 x) = decide (y = x) := by
      simp only [eqK, toKeys, d2, toKey, if_true, List.mapM_cons, List.mapM_nil]
      simp [Prod.ext_iff]
    simp only [lookK, List.map_cons, List.find?_cons, ek] at ih ⊢
    by_cases e : y = x
    · subst e; simp
    · have e' : ¬ x = y := fun h => e h.symm
      simp only [e, decide_false, List.mem_cons, e', false_or]
      exact ih
theorem putT {l : T2} {x : Str × Str} (h : x ∉ l) : putD true (d2 x) (.bl true) (l.map fun y => (d2 y, .bl true)) = (l ++ [x]).map fun y => (d2 y, .bl true) := by
  have e : ((l.map fun y => ((d2 y, D.bl true) : D × D)).any fun p => eqK true p.1 (d2 x)) = false := by
    rw [List.any_eq_false]
    intro p hp
    obtain ⟨y, hy, rfl⟩ := List.mem_map.mp hp
    have ek : eqK true (d2 y) (d2 x) = decide (y = x) := by
      simp only [eqK, toKeys, d2, toKey, if_true, List.mapM_cons, List.mapM_nil]
      simp [Prod.ext_iff]
    rw [ek, decide_eq_true_eq]
    rintro rfl
    exact h hy
  unfold putD
  rw [e]
  simp
theorem totals_ok {ts : T2} {dt : D} (h2 : ok2 ts) (et : Sq bx dt (ts.map d2)) (hl : ts.length ≤ 900)
    (h : res (oEr .frame (ftT [] ts) none) (Q .non bx) (fun x => X x bx)) : runM 1 4 (t3 cm) [dt] bx Q X := by
  refine ⟨rfl, ?_⟩
  unfold t3
  simp only [wsSeq, wsIf, wtB, wtNot, wtAnd, wtOr, wTru, wNot, wAnd, wOr, wIf, wOp2, wSlot, wC, wsRet, wsRetN, wsSkip, wsAsg, wsExpr, wgName, wBin, wCall, wCons, wNil, wTup, lst_new, wAttrX, blt_len, blt_int, blt_isi, blt_list, blt_tuple, blt_repr, blt_all, blt_any, blt_str, List.map_cons, List.map_nil, List.replicate, List.cons_append, List.nil_append, List.getElem?_cons_succ, List.getElem?_cons_zero, List.set_cons_succ, List.set_cons_zero, Option.some.injEq, exists_eq_left', fin_val, Rs.val.injEq, D.bl.injEq, Bool.not_true, Bool.not_false, Bool.false_eq_true, if_false, if_true, true_and, and_true, wsFor, wiAny, wDic0, fin]
  intro d hd
  simp only [wsSeq, wsIf, wtB, wtNot, wtAnd, wtOr, wTru, wNot, wAnd, wOr, wIf, wOp2, wSlot, wC, wsRet, wsRetN, wsSkip, wsAsg, wsExpr, wgName, wBin, wCall, wCons, wNil, wTup, lst_new, wAttrX, blt_len, blt_int, blt_isi, blt_list, blt_tuple, blt_repr, blt_all, blt_any, blt_str, List.map_cons, List.map_nil, List.replicate, List.cons_append, List.nil_append, List.getElem?_cons_succ, List.getElem?_cons_zero, List.set_cons_succ, List.set_cons_zero, Option.some.injEq, exists_eq_left', fin_val, Rs.val.injEq, D.bl.injEq, Bool.not_true, Bool.not_false, Bool.false_eq_true, if_false, if_true, true_and, and_true, (et.le (leB_up (d := .dic true []) hd)).it]
  refine for_each (l := ts) (G := d2) (P := fun l sl bx2 => ∃ met : T2, met.length + l.length ≤ 900 ∧ ok2 l ∧ LeB bx bx2 ∧ bx2 d = some (.dic true (met.map fun y => (d2 y, .bl true))) ∧ (∃ x2 x3, sl = [some dt, some (.box d), x2, x3]) ∧ res (oEr .frame (ftT met l) none) (Q .non bx) (fun x => X x bx)) ?_ ?_ _ _ ?_
  · rintro sl bx2 ⟨met, -, -, l1, h3, ⟨x2, x3, rfl⟩, h⟩
    exact ⟨(et.le l1).cd, bx, l1, h⟩
  · rintro p l sl bx2 ⟨met, hm, ho, l1, h3, ⟨x2, x3, rfl⟩, h⟩
    refine ⟨(et.le l1).cd, fun k hk => tg2 ?_⟩
    have hdr : dr bx2 (.box d) = some (.dic true (met.map fun y => (d2 y, .bl true))) := h3
    have o2 := ho p List.mem_cons_self
    have pw : ∀ y ∈ ([.str "on", .str "back"] : List D), Pl 39 y := fun y hy => by
      simp only [List.mem_cons, List.not_mem_nil, or_false] at hy
      rcases hy with rfl | rfl <;> exact .str (by decide +kernel)
    have m1 : D.str p.2 ∈ ([.str "on", .str "back"] : List D) ↔ p.2 ∈ (["on", "back"] : List Str) := by simp
    simp only [wsSeq, wsIf, wtB, wtNot, wtAnd, wtOr, wTru, wNot, wAnd, wOr, wIf, wOp2, wSlot, wC, wsRet, wsRetN, wsSkip, wsAsg, wsExpr, wgName, wBin, wCall, wCons, wNil, wTup, lst_new, wAttrX, blt_len, blt_int, blt_isi, blt_list, blt_tuple, blt_repr, blt_all, blt_any, blt_str, List.map_cons, List.map_nil, List.replicate, List.cons_append, List.nil_append, List.getElem?_cons_succ, List.getElem?_cons_zero, List.set_cons_succ, List.set_cons_zero, Option.some.injEq, exists_eq_left', fin_val, Rs.val.injEq, D.bl.injEq, Bool.not_true, Bool.not_false, Bool.false_eq_true, if_false, if_true, true_and, and_true, List.length_cons, List.length_nil]
    refine ⟨by rw [sizeLine_eq]; omega, ?_⟩
    rw [notin_tup o2.2.pl pw]
    simp only [m1, D.bl.injEq, exists_eq_left']
    by_cases hp : p.2 ∈ (["on", "back"] : List Str)
    · simp only [hp, decide_true, Bool.not_true, Bool.false_eq_true, if_false, List.length_cons, List.length_nil]
      refine ⟨by rw [sizeLine_eq]; omega, ?_⟩
      rw [show D.tup [.str p.1, .str p.2] = d2 p from rfl, in_dic hdr rfl, lookT]
      by_cases hq : p ∈ met
      · simp only [hq, if_true, Option.isSome_some, D.bl.injEq, exists_eq_left', wsRaise, wsSeq, wsIf, wtB, wtNot, wtAnd, wtOr, wTru, wNot, wAnd, wOr, wIf, wOp2, wSlot, wC, wsRet, wsRetN, wsSkip, wsAsg, wsExpr, wgName, wBin, wCall, wCons, wNil, wTup, lst_new, wAttrX, blt_len, blt_int, blt_isi, blt_list, blt_tuple, blt_repr, blt_all, blt_any, blt_str, List.map_cons, List.map_nil, List.replicate, List.cons_append, List.nil_append, List.getElem?_cons_succ, List.getElem?_cons_zero, List.set_cons_succ, List.set_cons_zero, Option.some.injEq, exists_eq_left', fin_val, Rs.val.injEq, D.bl.injEq, Bool.not_true, Bool.not_false, Bool.false_eq_true, if_false, if_true, true_and, and_true, exAll, exVal, List.length_cons, List.length_nil, Option.bind_some]
        simp only [ftT, hq, or_true, if_true, oEr, res, Er.x] at h
        exact ⟨bx, l1, h⟩
      · simp only [hq, if_false, Option.isSome_none, D.bl.injEq, exists_eq_left', Bool.false_eq_true, wsSeq, wsIf, wtB, wtNot, wtAnd, wtOr, wTru, wNot, wAnd, wOr, wIf, wOp2, wSlot, wC, wsRet, wsRetN, wsSkip, wsAsg, wsExpr, wgName, wBin, wCall, wCons, wNil, wTup, lst_new, wAttrX, blt_len, blt_int, blt_isi, blt_list, blt_tuple, blt_repr, blt_all, blt_any, blt_str, List.map_cons, List.map_nil, List.replicate, List.cons_append, List.nil_append, List.getElem?_cons_succ, List.getElem?_cons_zero, List.set_cons_succ, List.set_cons_zero, Option.some.injEq, exists_eq_left', fin_val, Rs.val.injEq, D.bl.injEq, Bool.not_true, Bool.not_false, Bool.false_eq_true, if_false, if_true, true_and, and_true, wgSub, List.length_cons, List.length_nil]
        refine ⟨by rw [sizeLine_eq]; omega, d, rfl, .inr ⟨_, _, h3, rfl, by simp only [List.length_map, List.length_cons] at hm ⊢; rw [sizeLine_eq]; omega, ?_⟩⟩
        rw [show D.tup [.str p.1, .str p.2] = d2 p from rfl, putT hq]
        refine hk _ _ ⟨met ++ [p], by simp only [List.length_append, List.length_cons, List.length_nil] at hm ⊢; omega, fun y hy => ho y (List.mem_cons_of_mem _ hy), leB_put l1 hd, upb_at, ⟨_, _, rfl⟩, ?_⟩
        simpa only [ftT, hp, hq, not_true_eq_false, or_self, if_false] using h
    · simp only [hp, decide_false, Bool.not_false, if_true, wsRaise, wsSeq, wsIf, wtB, wtNot, wtAnd, wtOr, wTru, wNot, wAnd, wOr, wIf, wOp2, wSlot, wC, wsRet, wsRetN, wsSkip, wsAsg, wsExpr, wgName, wBin, wCall, wCons, wNil, wTup, lst_new, wAttrX, blt_len, blt_int, blt_isi, blt_list, blt_tuple, blt_repr, blt_all, blt_any, blt_str, List.map_cons, List.map_nil, List.replicate, List.cons_append, List.nil_append, List.getElem?_cons_succ, List.getElem?_cons_zero, List.set_cons_succ, List.set_cons_zero, Option.some.injEq, exists_eq_left', fin_val, Rs.val.injEq, D.bl.injEq, Bool.not_true, Bool.not_false, Bool.false_eq_true, if_false, if_true, true_and, and_true, exAll, exVal, List.length_cons, List.length_nil, Option.bind_some]
      simp only [ftT, hp, not_false_eq_true, true_or, if_true, oEr, res, Er.x] at h
      exact ⟨bx, l1, h⟩
  · exact ⟨[], by simpa using hl, h2, leB_up hd, upb_at, ⟨_, _, rfl⟩, h⟩
end
end Mk22
namespace Mk22
open PySem PySem.Spec Mi
def stp (e : Str × Str) (w : Str) : Str × Str := if w = "on" then e else (e.2, e.1)
/-- one turn: the sorts from which a step leads to one that is left -/
def rnd (steps : T2) (l : List Str) : List Str := l.filter fun s => steps.any fun p => decide (p.1 = s) && decide (p.2 ∈ l)
def itr (steps : T2) : Nat → List Str → List Str
  | 0, l => l
  | k + 1, l => itr steps k (rnd steps l)
def rnds (steps : T2) (l : List Str) : List Str := itr steps l.length l
theorem rnd_le {steps : T2} {l : List Str} : (rnd steps l).length ≤ l.length := List.length_filter_le _ _
theorem rnd_lt {steps : T2} {l : List Str} (h : rnd steps l ≠ l) : (rnd steps l).length < l.length := by
  refine Nat.lt_of_le_of_ne rnd_le fun e => h ?_
  unfold rnd at e ⊢
  exact List.filter_eq_self.mpr (List.length_filter_eq_length_iff.mp e)
theorem itr_fix {steps : T2} {l : List Str} (h : rnd steps l = l) : ∀ k, itr steps k l = l
  | 0 => rfl
  | k + 1 => by rw [itr, h, itr_fix h k]
theorem itr_any {steps : T2} : ∀ (k : Nat) {l : List Str}, l.length ≤ k → itr steps k l = rnds steps l
  | 0, l, h => by
    have : l = [] := List.length_eq_zero_iff.mp (by omega)
    subst this
    rfl
  | k + 1, l, h => by
    by_cases hf : rnd steps l = l
    · rw [rnds, itr_fix hf, itr_fix hf]
    · have := rnd_lt hf
      have e1 := itr_any k (steps := steps) (l := rnd steps l) (by omega)
      rw [itr, e1]
      unfold rnds
      cases hl : l.length with
      | zero => omega
      | succ m => rw [itr, itr_any m (by omega)]; rfl
theorem rnds_next {steps : T2} {l : List Str} : rnds steps (rnd steps l) = rnds steps l := by
  rw [← itr_any (l.length) (l := rnd steps l) rnd_le, ← itr_any (l.length + 1) (l := l) (by omega)]
  rfl
section
variable {n : Nat} {cm : CM} {bx : Bx} {Q : VQ} {X : XQ} {b : Bool}
theorem step_ok {e : Str × Str} {w : Str} (h : Q (d2 (stp e w)) bx) : runM 2 2 (t4 cm) [d2 e, .str w] bx Q X := by
  refine ⟨rfl, ?_⟩
  unfold t4
  have eq : cmpC S cm false .Eq [.str w, .str "on"] bx = fun Q X => Q (.bl (decide (w = "on"))) bx := by
    funext Q X
    simp [cmpC, cSel, clsD, dr, cOp, o2, dEq, fin]
  simp only [wsSeq, wsIf, wtB, wtNot, wtAnd, wtOr, wTru, wNot, wAnd, wOr, wIf, wOp2, wSlot, wC, wsRet, wsRetN, wsSkip, wsAsg, wsExpr, wgName, wBin, wCall, wCons, wNil, wTup, lst_new, wAttrX, blt_len, blt_int, blt_isi, blt_list, blt_tuple, blt_repr, blt_all, blt_any, blt_str, List.map_cons, List.map_nil, List.replicate, List.cons_append, List.nil_append, List.getElem?_cons_succ, List.getElem?_cons_zero, List.set_cons_succ, List.set_cons_zero, Option.some.injEq, exists_eq_left', fin_val, Rs.val.injEq, D.bl.injEq, Bool.not_true, Bool.not_false, Bool.false_eq_true, if_false, if_true, true_and, and_true, eq]
  by_cases hw : w = "on"
  · simp only [hw, decide_true, if_true, wsSeq, wsIf, wtB, wtNot, wtAnd, wtOr, wTru, wNot, wAnd, wOr, wIf, wOp2, wSlot, wC, wsRet, wsRetN, wsSkip, wsAsg, wsExpr, wgName, wBin, wCall, wCons, wNil, wTup, lst_new, wAttrX, blt_len, blt_int, blt_isi, blt_list, blt_tuple, blt_repr, blt_all, blt_any, blt_str, List.map_cons, List.map_nil, List.replicate, List.cons_append, List.nil_append, List.getElem?_cons_succ, List.getElem?_cons_zero, List.set_cons_succ, List.set_cons_zero, Option.some.injEq, exists_eq_left', fin_val, Rs.val.injEq, D.bl.injEq, Bool.not_true, Bool.not_false, Bool.false_eq_true, if_false, if_true, true_and, and_true]
    exact ⟨_, LeB.refl _, by simpa [stp, hw] using h⟩
  · simp only [hw, decide_false, Bool.false_eq_true, if_false, wsSeq, wsIf, wtB, wtNot, wtAnd, wtOr, wTru, wNot, wAnd, wOr, wIf, wOp2, wSlot, wC, wsRet, wsRetN, wsSkip, wsAsg, wsExpr, wgName, wBin, wCall, wCons, wNil, wTup, lst_new, wAttrX, blt_len, blt_int, blt_isi, blt_list, blt_tuple, blt_repr, blt_all, blt_any, blt_str, List.map_cons, List.map_nil, List.replicate, List.cons_append, List.nil_append, List.getElem?_cons_succ, List.getElem?_cons_zero, List.set_cons_succ, List.set_cons_zero, Option.some.injEq, exists_eq_left', fin_val, Rs.val.injEq, D.bl.injEq, Bool.not_true, Bool.not_false, Bool.false_eq_true, if_false, if_true, true_and, and_true, d2]
    refine ⟨_, ix_tup (k := 1) rfl, _, ix_tup (k := 0) rfl, ?_⟩
    simp only [List.length_cons, List.length_nil]
    exact ⟨by rw [sizeLine_eq]; omega, _, LeB.refl _, by simpa [stp, hw, d2] using h⟩
theorem strs39' {l : List Str} (h : ∀ x ∈ l, okS x) : Pl 40 (.lst (l.map .str)) := .lst (strs39 h)
theorem rnd_ok {l : List Str} (h : ∀ x ∈ l, okS x) {steps : T2} : ∀ x ∈ rnd steps l, okS x := fun x hx => h x (List.mem_filter.mp hx).1
theorem round_ok {ss : List Str} {steps : T2} {ds : D} (hs : ∀ x ∈ ss, okS x) (h2 : ok2 steps) (hl : ss.length ≤ 900) (hl2 : steps.length ≤ 900) (h : Q (.lst ((rnds steps ss).map .str)) bx) (e : Sq bx ds (ss.map .str)) : runM 2 7 (t5 cm) [ds, .lst (steps.map d2)] bx Q X := by
  refine ⟨rfl, ?_⟩
  unfold t5
  simp only [wsSeq, wsIf, wtB, wtNot, wtAnd, wtOr, wTru, wNot, wAnd, wOr, wIf, wOp2, wSlot, wC, wsRet, wsRetN, wsSkip, wsAsg, wsExpr, wgName, wBin, wCall, wCons, wNil, wTup, lst_new, wAttrX, blt_len, blt_int, blt_isi, blt_list, blt_tuple, blt_repr, blt_all, blt_any, blt_str, List.map_cons, List.map_nil, List.replicate, List.cons_append, List.nil_append, List.getElem?_cons_succ, List.getElem?_cons_zero, List.set_cons_succ, List.set_cons_zero, Option.some.injEq, exists_eq_left', fin_val, Rs.val.injEq, D.bl.injEq, Bool.not_true, Bool.not_false, Bool.false_eq_true, if_false, if_true, true_and, and_true, e.list, List.length_cons, List.length_nil]
  refine ⟨by rw [sizeLine_eq]; omega, tg2 ?_⟩
  simp only [wsSeq, wsIf, wtB, wtNot, wtAnd, wtOr, wTru, wNot, wAnd, wOr, wIf, wOp2, wSlot, wC, wsRet, wsRetN, wsSkip, wsAsg, wsExpr, wgName, wBin, wCall, wCons, wNil, wTup, lst_new, wAttrX, blt_len, blt_int, blt_isi, blt_list, blt_tuple, blt_repr, blt_all, blt_any, blt_str, List.map_cons, List.map_nil, List.replicate, List.cons_append, List.nil_append, List.getElem?_cons_succ, List.getElem?_cons_zero, List.set_cons_succ, List.set_cons_zero, Option.some.injEq, exists_eq_left', fin_val, Rs.val.injEq, D.bl.injEq, Bool.not_true, Bool.not_false, Bool.false_eq_true, if_false, if_true, true_and, and_true]
  have turn : ∀ (L : List Str), (∀ x ∈ L, okS x) → L.length ≤ 900 → ∀ (x4 : Option D) (QQ : VQ) (XX : XQ), QQ (.lst ((rnd steps L).map .str)) bx →
      wLc false (.one 4) [4] (wiAny (wSlot 3)) (wTru (bltJ S cm false "any" (wCons (wLc false (.tup [5, 6]) [5, 6] (wiAny (wSlot 1)) wtYes (wAnd (wOp2 (cmpC S cm false .Eq) (wSlot 5) (wSlot 4)) (wOp2 (cmpC S cm false .In) (wSlot 6) (wSlot 3)))) wNil))) (wSlot 4)
        [some ds, some (.lst (steps.map d2)), some (.lst (L.map .str)), some (.lst (L.map .str)), x4, none, none] bx QQ XX := by
    intro L hL hl3 x4 QQ XX q
    refine lc_at (l := L) (g := D.str) (f := D.str) (p := fun s => steps.any fun p => decide (p.1 = s) && decide (p.2 ∈ L)) (cond := always) (fun Qi q => ⟨_, rfl, _, rfl, q⟩) (fun _ _ _ => trivial) (by rw [sizeLine_eq]; omega) (fun s hs' => ⟨_, rfl, fun m e hm => ⟨fun Qt X q => ?_, fun _ Qe X q => ?_⟩⟩) q
    · simp only [wsSeq, wsIf, wtB, wtNot, wtAnd, wtOr, wTru, wNot, wAnd, wOr, wIf, wOp2, wSlot, wC, wsRet, wsRetN, wsSkip, wsAsg, wsExpr, wgName, wBin, wCall, wCons, wNil, wTup, lst_new, wAttrX, blt_len, blt_int, blt_isi, blt_list, blt_tuple, blt_repr, blt_all, blt_any, blt_str, List.map_cons, List.map_nil, List.replicate, List.cons_append, List.nil_append, List.getElem?_cons_succ, List.getElem?_cons_zero, List.set_cons_succ, List.set_cons_zero, Option.some.injEq, exists_eq_left', fin_val, Rs.val.injEq, D.bl.injEq, Bool.not_true, Bool.not_false, Bool.false_eq_true, if_false, if_true, true_and, and_true, wipeD]
      refine lc_all (l := steps) (g := d2) (f := fun p => .bl (decide (p.1 = s) && decide (p.2 ∈ L))) (cond := always) (fun Qi q => ⟨_, rfl, _, rfl, q⟩) (fun _ _ _ => trivial) (by rw [sizeLine_eq]; omega) (fun p hp => ⟨_, rfl, fun m2 e2 hm2 Qe X q => ?_⟩) ?_
      · have o := h2 p hp
        have c1 : ∀ (bx : Bx) (Q : VQ) (X : XQ), cmpC S cm false .Eq [.str p.1, .str s] bx Q X = Q (.bl (decide (p.1 = s))) bx := fun bx Q X => by simp [cmpC, cSel, clsD, dr, cOp, o2, dEq, fin]
        simp only [wsSeq, wsIf, wtB, wtNot, wtAnd, wtOr, wTru, wNot, wAnd, wOr, wIf, wOp2, wSlot, wC, wsRet, wsRetN, wsSkip, wsAsg, wsExpr, wgName, wBin, wCall, wCons, wNil, wTup, lst_new, wAttrX, blt_len, blt_int, blt_isi, blt_list, blt_tuple, blt_repr, blt_all, blt_any, blt_str, List.map_cons, List.map_nil, List.replicate, List.cons_append, List.nil_append, List.getElem?_cons_succ, List.getElem?_cons_zero, List.set_cons_succ, List.set_cons_zero, Option.some.injEq, exists_eq_left', fin_val, Rs.val.injEq, D.bl.injEq, Bool.not_true, Bool.not_false, Bool.false_eq_true, if_false, if_true, true_and, and_true, wipeD, setsD, c1, dTru]
        by_cases e1 : p.1 = s
        · simp only [e1, decide_true, if_true]
          rw [in_lst (es := L.map .str) o.2.pl rfl (strs39 hL)]
          have : D.str p.2 ∈ L.map D.str ↔ p.2 ∈ L := mem_str
          simp only [this]
          simpa [e1] using q
        · simp only [e1, decide_false, Bool.false_eq_true, if_false]
          simpa [e1] using q
      · simp only [Bool.false_eq_true, if_false, all_map, dTru, Option.some.injEq, exists_eq_left']
        exact q
    · simp only [wsSeq, wsIf, wtB, wtNot, wtAnd, wtOr, wTru, wNot, wAnd, wOr, wIf, wOp2, wSlot, wC, wsRet, wsRetN, wsSkip, wsAsg, wsExpr, wgName, wBin, wCall, wCons, wNil, wTup, lst_new, wAttrX, blt_len, blt_int, blt_isi, blt_list, blt_tuple, blt_repr, blt_all, blt_any, blt_str, List.map_cons, List.map_nil, List.replicate, List.cons_append, List.nil_append, List.getElem?_cons_succ, List.getElem?_cons_zero, List.set_cons_succ, List.set_cons_zero, Option.some.injEq, exists_eq_left', fin_val, Rs.val.injEq, D.bl.injEq, Bool.not_true, Bool.not_false, Bool.false_eq_true, if_false, if_true, true_and, and_true, wipeD]
      exact q
  have loop : ∀ (k : Nat) (L : List Str), L.length ≤ k → (∀ x ∈ L, okS x) → L.length ≤ 900 → ∀ (x4 : Option D) (D' : En) (W : WXQ), (∀ L' x3 x4, L' = rnds steps L → D'.nx [some ds, some (.lst (steps.map d2)), some (.lst (L'.map .str)), x3, x4, none, none] bx) →
      whileW (wtB (wOp2 (cmpC S cm false .NotEq) (wSlot 2) (wSlot 3))) (wsSeq (wsAsg (wSlot 2) (wgName 3)) (wsSeq (wsAsg (wLc false (.one 4) [4] (wiAny (wSlot 3)) (wTru (bltJ S cm false "any" (wCons (wLc false (.tup [5, 6]) [5, 6] (wiAny (wSlot 1)) wtYes (wAnd (wOp2 (cmpC S cm false .Eq) (wSlot 5) (wSlot 4)) (wOp2 (cmpC S cm false .In) (wSlot 6) (wSlot 3)))) wNil))) (wSlot 4)) (wgName 2)) wsSkip)) D' W (k + 1)
        [some ds, some (.lst (steps.map d2)), some (.lst ((rnd steps L).map .str)), some (.lst (L.map .str)), x4, none, none] bx := by
    intro k
    induction k with
    | zero =>
      intro L hk hL hl3 x4 D' W hD
      have hf : rnd steps L = L := by
        obtain rfl : L = [] := List.length_eq_zero_iff.mp (by omega)
        rfl
      simp only [whileW, wsSeq, wsIf, wtB, wtNot, wtAnd, wtOr, wTru, wNot, wAnd, wOr, wIf, wOp2, wSlot, wC, wsRet, wsRetN, wsSkip, wsAsg, wsExpr, wgName, wBin, wCall, wCons, wNil, wTup, lst_new, wAttrX, blt_len, blt_int, blt_isi, blt_list, blt_tuple, blt_repr, blt_all, blt_any, blt_str, List.map_cons, List.map_nil, List.replicate, List.cons_append, List.nil_append, List.getElem?_cons_succ, List.getElem?_cons_zero, List.set_cons_succ, List.set_cons_zero, Option.some.injEq, exists_eq_left', fin_val, Rs.val.injEq, D.bl.injEq, Bool.not_true, Bool.not_false, Bool.false_eq_true, if_false, if_true, true_and, and_true]
      rw [cmp_ne (strs39' (rnd_ok hL)) (strs39' hL) .rfl .rfl]
      simp only [hf, decide_true, Bool.not_true, D.bl.injEq, exists_eq_left', Bool.false_eq_true, if_false]
      exact hD L _ _ (by rw [rnds, itr_fix hf])
    | succ k ih =>
      intro L hk hL hl3 x4 D' W hD
      rw [whileW]
      simp only [wsSeq, wsIf, wtB, wtNot, wtAnd, wtOr, wTru, wNot, wAnd, wOr, wIf, wOp2, wSlot, wC, wsRet, wsRetN, wsSkip, wsAsg, wsExpr, wgName, wBin, wCall, wCons, wNil, wTup, lst_new, wAttrX, blt_len, blt_int, blt_isi, blt_list, blt_tuple, blt_repr, blt_all, blt_any, blt_str, List.map_cons, List.map_nil, List.replicate, List.cons_append, List.nil_append, List.getElem?_cons_succ, List.getElem?_cons_zero, List.set_cons_succ, List.set_cons_zero, Option.some.injEq, exists_eq_left', fin_val, Rs.val.injEq, D.bl.injEq, Bool.not_true, Bool.not_false, Bool.false_eq_true, if_false, if_true, true_and, and_true]
      rw [cmp_ne (strs39' (rnd_ok hL)) (strs39' hL) .rfl .rfl]
      have ei : (D.lst ((rnd steps L).map .str) = D.lst (L.map .str)) ↔ rnd steps L = L := by
        rw [D.lst.injEq]
        exact List.map_inj_right fun a b e => by cases e; rfl
      simp only [ei]
      by_cases hf : rnd steps L = L
      · simp only [hf, decide_true, Bool.not_true, D.bl.injEq, exists_eq_left', Bool.false_eq_true, if_false]
        exact hD L _ _ (by rw [rnds, itr_fix hf])
      · simp only [hf, decide_false, Bool.not_false, D.bl.injEq, exists_eq_left', if_true, wsSeq, wsIf, wtB, wtNot, wtAnd, wtOr, wTru, wNot, wAnd, wOr, wIf, wOp2, wSlot, wC, wsRet, wsRetN, wsSkip, wsAsg, wsExpr, wgName, wBin, wCall, wCons, wNil, wTup, lst_new, wAttrX, blt_len, blt_int, blt_isi, blt_list, blt_tuple, blt_repr, blt_all, blt_any, blt_str, List.map_cons, List.map_nil, List.replicate, List.cons_append, List.nil_append, List.getElem?_cons_succ, List.getElem?_cons_zero, List.set_cons_succ, List.set_cons_zero, Option.some.injEq, exists_eq_left', fin_val, Rs.val.injEq, D.bl.injEq, Bool.not_true, Bool.not_false, Bool.false_eq_true, if_false, if_true, true_and, and_true]
        have hlt := rnd_lt hf
        refine turn (rnd steps L) (rnd_ok hL) (by omega) _ _ _ ?_
        exact ih (rnd steps L) (by omega) (rnd_ok hL) (by omega) _ D' W fun L' x3 x4 e => hD L' x3 x4 (e.trans rnds_next)
  refine ⟨ss.length + 2, ?_⟩
  rw [whileW]
  simp only [wsSeq, wsIf, wtB, wtNot, wtAnd, wtOr, wTru, wNot, wAnd, wOr, wIf, wOp2, wSlot, wC, wsRet, wsRetN, wsSkip, wsAsg, wsExpr, wgName, wBin, wCall, wCons, wNil, wTup, lst_new, wAttrX, blt_len, blt_int, blt_isi, blt_list, blt_tuple, blt_repr, blt_all, blt_any, blt_str, List.map_cons, List.map_nil, List.replicate, List.cons_append, List.nil_append, List.getElem?_cons_succ, List.getElem?_cons_zero, List.set_cons_succ, List.set_cons_zero, Option.some.injEq, exists_eq_left', fin_val, Rs.val.injEq, D.bl.injEq, Bool.not_true, Bool.not_false, Bool.false_eq_true, if_false, if_true, true_and, and_true]
  rw [cmp_ne (strs39' hs) (.non : Pl 40 .non) .rfl .rfl]
  simp only [reduceCtorEq, decide_false, Bool.not_false, D.bl.injEq, exists_eq_left', if_true, wsSeq, wsIf, wtB, wtNot, wtAnd, wtOr, wTru, wNot, wAnd, wOr, wIf, wOp2, wSlot, wC, wsRet, wsRetN, wsSkip, wsAsg, wsExpr, wgName, wBin, wCall, wCons, wNil, wTup, lst_new, wAttrX, blt_len, blt_int, blt_isi, blt_list, blt_tuple, blt_repr, blt_all, blt_any, blt_str, List.map_cons, List.map_nil, List.replicate, List.cons_append, List.nil_append, List.getElem?_cons_succ, List.getElem?_cons_zero, List.set_cons_succ, List.set_cons_zero, Option.some.injEq, exists_eq_left', fin_val, Rs.val.injEq, D.bl.injEq, Bool.not_true, Bool.not_false, Bool.false_eq_true, if_false, if_true, true_and, and_true]
  refine turn ss hs hl _ _ _ ?_
  refine loop ss.length ss (Nat.le_refl _) hs hl _ _ _ fun L' x3 x4 e => ?_
  simp only [wsSeq, wsIf, wtB, wtNot, wtAnd, wtOr, wTru, wNot, wAnd, wOr, wIf, wOp2, wSlot, wC, wsRet, wsRetN, wsSkip, wsAsg, wsExpr, wgName, wBin, wCall, wCons, wNil, wTup, lst_new, wAttrX, blt_len, blt_int, blt_isi, blt_list, blt_tuple, blt_repr, blt_all, blt_any, blt_str, List.map_cons, List.map_nil, List.replicate, List.cons_append, List.nil_append, List.getElem?_cons_succ, List.getElem?_cons_zero, List.set_cons_succ, List.set_cons_zero, Option.some.injEq, exists_eq_left', fin_val, Rs.val.injEq, D.bl.injEq, Bool.not_true, Bool.not_false, Bool.false_eq_true, if_false, if_true, true_and, and_true]
  exact ⟨_, LeB.refl _, by rw [e]; exact h⟩
end
end Mk22
namespace Mk22
open PySem PySem.Spec Mi
def orE : Option Er → Option Er → Option Er
  | some e, _ => some e
  | none, r => r
def endsOf (ls : T3) (x : Str) : Str × Str := (ls.lookup x).getD ("", "")
def stepsOf (ls : T3) (ts : T2) : T2 := ts.map fun t => stp (endsOf ls t.1) t.2
def rdE : List Str → Option Er
  | [] => none
  | x :: l => some (.round (x :: l))
/-- the error that is due -/
def due (ss : List Str) (ls : T3) (ts : T2) : Option Er := orE (lookW ss (ls.map (·.1))) (orE (lookE ss ls ts) (orE (oEr .frame (ftT [] ts) none) (rdE (rnds (stepsOf ls ts) ss))))
def FRf (ss : List Str) (ls : T3) (ts : T2) : List (Str × D) := [("sort_row", .tup (ss.map .str)), ("letter_row", .tup (ls.map d3)), ("total_row", .tup (ts.map d2)), ("ends_by", .dic false (ls.map fun p => (.str p.1, d2 p.2)))]
def FR (ss : List Str) (ls : T3) (ts : T2) : D := .obj 7 (FRf ss ls ts)
/-- what a frame is made of -/
structure In (ss : List Str) (ls : T3) (ts : T2) : Prop where
  s : ∀ x ∈ ss, okS x
  l : ok3 ls
  t : ok2 ts
  ns : ss.length ≤ 300
  nl : ls.length ≤ 300
  nt : ts.length ≤ 300
theorem twi_nodup : ∀ {l met : List Str}, twi met l = none → l.Nodup ∧ ∀ x ∈ l, x ∉ met
  | [], met, _ => ⟨List.nodup_nil, by simp⟩
  | x :: l, met, h => by
    simp only [twi] at h
    split at h
    · cases h
    · rename_i hx
      obtain ⟨h1, h2⟩ := twi_nodup h
      refine ⟨List.nodup_cons.mpr ⟨fun hm => h2 x hm (by simp), h1⟩, fun y hy => ?_⟩
      rcases List.mem_cons.mp hy with rfl | hy
      · exact hx
      · exact fun hm => h2 y hy (List.mem_append_left _ hm)
theorem ftE_mem {ns : List Str} : ∀ {ts : T2}, ftE ns ts = none → ∀ t ∈ ts, t.1 ∈ ns
  | [], _, t, ht => by cases ht
  | p :: r, h, t, ht => by
    simp only [ftE] at h
    split at h
    · cases h
    · rename_i hp
      rcases List.mem_cons.mp ht with rfl | ht
      · exact Decidable.not_not.mp hp
      · exact ftE_mem h t ht
theorem lookup_of_mem {ls : T3} {x : Str} (h : x ∈ ls.map (·.1)) : ls.lookup x = some (endsOf ls x) := by
  unfold endsOf
  induction ls with
  | nil => cases h
  | cons p ls ih =>
    obtain ⟨y, e⟩ := p
    rw [List.lookup_cons]
    cases q : x == y with
    | true => rfl
    | false =>
      refine ih ?_
      rw [List.map_cons] at h
      rcases List.mem_cons.mp h with h | h
      · simp only at h; subst h; simp at q
      · exact h
theorem orE_none {a b : Option Er} (h : orE a b = none) : a = none ∧ b = none := by
  cases a with
  | none => exact ⟨rfl, h⟩
  | some e => cases h
theorem oEr_none {f : Str → Er} {o : Option Str} {r : Option Er} (h : oEr f o r = none) : o = none ∧ r = none := by
  cases o with
  | none => exact ⟨rfl, h⟩
  | some e => cases h
theorem ok_ends {ls : T3} (h : ok3 ls) {x : Str} (hx : x ∈ ls.map (·.1)) : okS (endsOf ls x).1 ∧ okS (endsOf ls x).2 := by
  have := lookup_of_mem hx
  have key : ∀ {l : T3} {e : Str × Str}, l.lookup x = some e → ∃ p ∈ l, p.2 = e := by
    intro l e
    induction l with
    | nil => intro h; cases h
    | cons p l ih =>
      intro h
      obtain ⟨y, z⟩ := p
      rw [List.lookup_cons] at h
      cases q : x == y with
      | true => rw [q] at h; cases h; exact ⟨_, List.mem_cons_self, rfl⟩
      | false =>
        rw [q] at h
        obtain ⟨p, hp, e⟩ := ih h
        exact ⟨p, List.mem_cons_of_mem _ hp, e⟩
  obtain ⟨p, hp, e⟩ := key this
  rw [← e]
  exact (h p hp).2
theorem ok_stp {e : Str × Str} (h : okS e.1 ∧ okS e.2) {w : Str} : okS (stp e w).1 ∧ okS (stp e w).2 := by
  unfold stp
  split
  · exact h
  · exact ⟨h.2, h.1⟩
theorem itr_sub {steps : T2} {x : Str} : ∀ {k : Nat} {l : List Str}, x ∈ itr steps k l → x ∈ l
  | 0, _, h => h
  | k + 1, l, h => (List.mem_filter.mp (itr_sub (k := k) (l := rnd steps l) h)).1
theorem at7 {f : Str} (h : f ∈ (["ends_by", "letter_row", "sort_row", "total_row"] : List Str)) : f ∈ attrsOf S 7 := by
  have : attrsOf S 7 = (["ends_by", "letter_row", "sort_row", "total_row"] : List Str) := by decide +kernel
  rw [this]; exact h
section
variable {n : Nat} {cm : CM} {bx : Bx} {Q : VQ} {X : XQ} {b : Bool}
theorem fgt_up {Q : Bx → Prop} {n : Nat} {d : D} (hn : bx n = none) (h : Q bx) : fgt Q (upb bx n d) := ⟨bx, leB_up hn, h⟩
theorem init_ok {ss : List Str} {ls : T3} {ts : T2} {ds dl dt : D} {n0 : Nat} (I : In ss ls ts) (es : Sq bx ds (ss.map .str)) (el : Sq bx dl (ls.map d3)) (et : Sq bx dt (ts.map d2)) (hn : bx n0 = none)
    (h : res (due ss ls ts) (Q .non (upb bx n0 (FR ss ls ts))) (fun x => X x bx)) : runM 4 11 (t6 (cmAt S (n + 2))) [.box n0, ds, dl, dt] (upb bx n0 (.obj 7 [])) Q X := by
  refine ⟨rfl, ?_⟩
  unfold t6
  have es1 := es.le (leB_up (d := .obj 7 []) hn)
  have el1 := el.le (leB_up (d := .obj 7 []) hn)
  have et1 := et.le (leB_up (d := .obj 7 []) hn)
  have n3 := I.nl
  have n1 := I.ns
  have n2 := I.nt
  simp only [wsSeq, wsIf, wtB, wtNot, wtAnd, wtOr, wTru, wNot, wAnd, wOr, wIf, wOp2, wSlot, wC, wsRet, wsRetN, wsSkip, wsAsg, wsExpr, wgName, wBin, wCall, wCons, wNil, wTup, lst_new, wAttrX, blt_len, blt_int, blt_isi, blt_list, blt_tuple, blt_repr, blt_all, blt_any, blt_str, List.map_cons, List.map_nil, List.replicate, List.cons_append, List.nil_append, List.getElem?_cons_succ, List.getElem?_cons_zero, List.set_cons_succ, List.set_cons_zero, Option.some.injEq, exists_eq_left', fin_val, Rs.val.injEq, D.bl.injEq, Bool.not_true, Bool.not_false, Bool.false_eq_true, if_false, if_true, true_and, and_true, callJ_at (c1 (n + 1)), callJ_at (c2 (n + 1)), callJ_at (c3 (n + 1)), callJ_at (c4 (n + 1)), callJ_at (c5 (n + 1)), es1.list]
  refine lc_all (l := ls) (g := d3) (f := fun p => .str p.1) (cond := cnd dl (ls.map d3)) (fun Qi q => ⟨_, rfl, _, el1.it, q⟩) (fun m d hm => (el1.le (leB_up hm)).cd) (by rw [sizeLine_eq]; omega) (fun p hp => ⟨_, rfl, fun m e hm Qe X q => ?_⟩) ?_
  · simp only [wsSeq, wsIf, wtB, wtNot, wtAnd, wtOr, wTru, wNot, wAnd, wOr, wIf, wOp2, wSlot, wC, wsRet, wsRetN, wsSkip, wsAsg, wsExpr, wgName, wBin, wCall, wCons, wNil, wTup, lst_new, wAttrX, blt_len, blt_int, blt_isi, blt_list, blt_tuple, blt_repr, blt_all, blt_any, blt_str, List.map_cons, List.map_nil, List.replicate, List.cons_append, List.nil_append, List.getElem?_cons_succ, List.getElem?_cons_zero, List.set_cons_succ, List.set_cons_zero, Option.some.injEq, exists_eq_left', fin_val, Rs.val.injEq, D.bl.injEq, Bool.not_true, Bool.not_false, Bool.false_eq_true, if_false, if_true, true_and, and_true, wipeD, d3]
    exact ⟨_, ix_tup (k := 0) rfl, q⟩
  simp only [wsSeq, wsIf, wtB, wtNot, wtAnd, wtOr, wTru, wNot, wAnd, wOr, wIf, wOp2, wSlot, wC, wsRet, wsRetN, wsSkip, wsAsg, wsExpr, wgName, wBin, wCall, wCons, wNil, wTup, lst_new, wAttrX, blt_len, blt_int, blt_isi, blt_list, blt_tuple, blt_repr, blt_all, blt_any, blt_str, List.map_cons, List.map_nil, List.replicate, List.cons_append, List.nil_append, List.getElem?_cons_succ, List.getElem?_cons_zero, List.set_cons_succ, List.set_cons_zero, Option.some.injEq, exists_eq_left', fin_val, Rs.val.injEq, D.bl.injEq, Bool.not_true, Bool.not_false, Bool.false_eq_true, if_false, if_true, true_and, and_true, List.length_cons, List.length_nil]
  refine ⟨by rw [sizeLine_eq]; omega, ?_⟩
  rw [show (ls.map fun p => D.str p.1) = (ls.map (·.1)).map .str by simp]
  have hW : ∀ x ∈ ss ++ ls.map (·.1), okS x := fun x hx => by
    rcases List.mem_append.mp hx with hx | hx
    · exact I.s x hx
    · obtain ⟨p, hp, rfl⟩ := List.mem_map.mp hx
      exact (I.l p hp).1
  refine words_ok hW (by omega) (by rw [List.length_map]; omega) ?_
  unfold due at h
  cases e1 : lookW ss (ls.map (·.1)) with
  | some e => rw [e1] at h; exact fgt_up hn h
  | none =>
  rw [e1] at h
  simp only [res, orE] at h
  simp only [res]
  rw [es1.list]
  refine ends_ok I.s I.l I.t el1 et1 (by omega) ?_
  cases e2 : lookE ss ls ts with
  | some e => rw [e2] at h; exact fgt_up hn h
  | none =>
  rw [e2] at h
  simp only [res, orE] at h
  simp only [res]
  refine totals_ok I.t et1 (by omega) ?_
  cases e3 : oEr .frame (ftT [] ts) none with
  | some e => rw [e3] at h; exact fgt_up hn h
  | none =>
  rw [e3] at h
  simp only [orE] at h
  simp only [res]
  simp only [wsSeq, wsIf, wtB, wtNot, wtAnd, wtOr, wTru, wNot, wAnd, wOr, wIf, wOp2, wSlot, wC, wsRet, wsRetN, wsSkip, wsAsg, wsExpr, wgName, wBin, wCall, wCons, wNil, wTup, lst_new, wAttrX, blt_len, blt_int, blt_isi, blt_list, blt_tuple, blt_repr, blt_all, blt_any, blt_str, List.map_cons, List.map_nil, List.replicate, List.cons_append, List.nil_append, List.getElem?_cons_succ, List.getElem?_cons_zero, List.set_cons_succ, List.set_cons_zero, Option.some.injEq, exists_eq_left', fin_val, Rs.val.injEq, D.bl.injEq, Bool.not_true, Bool.not_false, Bool.false_eq_true, if_false, if_true, true_and, and_true, wsFld, es1.tuple]
  refine ⟨n0, 7, [], rfl, upb_at, at7 (by simp), by simp, ?_⟩
  rw [upb_upb]
  simp only [putFD, wsSeq, wsIf, wtB, wtNot, wtAnd, wtOr, wTru, wNot, wAnd, wOr, wIf, wOp2, wSlot, wC, wsRet, wsRetN, wsSkip, wsAsg, wsExpr, wgName, wBin, wCall, wCons, wNil, wTup, lst_new, wAttrX, blt_len, blt_int, blt_isi, blt_list, blt_tuple, blt_repr, blt_all, blt_any, blt_str, List.map_cons, List.map_nil, List.replicate, List.cons_append, List.nil_append, List.getElem?_cons_succ, List.getElem?_cons_zero, List.set_cons_succ, List.set_cons_zero, Option.some.injEq, exists_eq_left', fin_val, Rs.val.injEq, D.bl.injEq, Bool.not_true, Bool.not_false, Bool.false_eq_true, if_false, if_true, true_and, and_true, wsFld]
  generalize hfs : ([("sort_row", .tup (ss.map .str))] : List (Str × D)) = fs1
  have el2 := el.le (leB_up (d := .obj 7 fs1) hn)
  refine lc_all (l := ls) (g := d3) (f := d3) (cond := cnd dl (ls.map d3)) (fun Qi q => ⟨_, rfl, _, el2.it, q⟩) (fun m d hm => (el2.le (leB_up hm)).cd) (by rw [sizeLine_eq]; omega) (fun p hp => ⟨_, rfl, fun m e hm Qe X q => ?_⟩) ?_
  · simp only [wsSeq, wsIf, wtB, wtNot, wtAnd, wtOr, wTru, wNot, wAnd, wOr, wIf, wOp2, wSlot, wC, wsRet, wsRetN, wsSkip, wsAsg, wsExpr, wgName, wBin, wCall, wCons, wNil, wTup, lst_new, wAttrX, blt_len, blt_int, blt_isi, blt_list, blt_tuple, blt_repr, blt_all, blt_any, blt_str, List.map_cons, List.map_nil, List.replicate, List.cons_append, List.nil_append, List.getElem?_cons_succ, List.getElem?_cons_zero, List.set_cons_succ, List.set_cons_zero, Option.some.injEq, exists_eq_left', fin_val, Rs.val.injEq, D.bl.injEq, Bool.not_true, Bool.not_false, Bool.false_eq_true, if_false, if_true, true_and, and_true, wipeD, List.length_cons, List.length_nil]
    exact ⟨by rw [sizeLine_eq]; omega, q⟩
  simp only [Bool.false_eq_true, if_false]
  rw [tuple_at (l := ls.map d3) rfl]
  refine ⟨n0, 7, fs1, rfl, upb_at, at7 (by simp), by subst hfs; simp, ?_⟩
  rw [upb_upb]
  subst hfs
  simp only [putFD]
  generalize hfs : ([("sort_row", .tup (ss.map .str)), ("letter_row", .tup (ls.map d3))] : List (Str × D)) = fs2
  have et2 := et.le (leB_up (d := .obj 7 fs2) hn)
  refine lc_all (l := ts) (g := d2) (f := d2) (cond := cnd dt (ts.map d2)) (fun Qi q => ⟨_, rfl, _, et2.it, q⟩) (fun m d hm => (et2.le (leB_up hm)).cd) (by rw [sizeLine_eq]; omega) (fun p hp => ⟨_, rfl, fun m e hm Qe X q => ?_⟩) ?_
  · simp only [wsSeq, wsIf, wtB, wtNot, wtAnd, wtOr, wTru, wNot, wAnd, wOr, wIf, wOp2, wSlot, wC, wsRet, wsRetN, wsSkip, wsAsg, wsExpr, wgName, wBin, wCall, wCons, wNil, wTup, lst_new, wAttrX, blt_len, blt_int, blt_isi, blt_list, blt_tuple, blt_repr, blt_all, blt_any, blt_str, List.map_cons, List.map_nil, List.replicate, List.cons_append, List.nil_append, List.getElem?_cons_succ, List.getElem?_cons_zero, List.set_cons_succ, List.set_cons_zero, Option.some.injEq, exists_eq_left', fin_val, Rs.val.injEq, D.bl.injEq, Bool.not_true, Bool.not_false, Bool.false_eq_true, if_false, if_true, true_and, and_true, wipeD, List.length_cons, List.length_nil]
    exact ⟨by rw [sizeLine_eq]; omega, q⟩
  simp only [Bool.false_eq_true, if_false]
  rw [tuple_at (l := ts.map d2) rfl]
  refine ⟨n0, 7, fs2, rfl, upb_at, at7 (by simp), by subst hfs; simp, ?_⟩
  rw [upb_upb, show putFD "total_row" (.tup (ts.map d2)) fs2 = ([("sort_row", .tup (ss.map .str)), ("letter_row", .tup (ls.map d3)), ("total_row", .tup (ts.map d2))] : List (Str × D)) from by subst hfs; rfl]
  clear hfs
  generalize hfs : ([("sort_row", .tup (ss.map .str)), ("letter_row", .tup (ls.map d3)), ("total_row", .tup (ts.map d2))] : List (Str × D)) = fs3
  refine dc_all (l := ls) (g := d3) (kf := fun p => .str p.1) (vf := fun p => d2 p.2) (cond := always) (fun Qi q => attr_at rfl (c := 7) (fs := fs3) upb_at (at7 (by simp)) (d := .tup (ls.map d3)) (by subst hfs; rfl) ⟨_, rfl, q⟩) (fun m d hm => trivial) (by rw [sizeLine_eq]; omega) (fun p hp => ⟨rfl, _, rfl, fun m e hm => ⟨fun Qe X q => ?_, fun Qe X q => ?_⟩⟩) ?_
  · simp only [wsSeq, wsIf, wtB, wtNot, wtAnd, wtOr, wTru, wNot, wAnd, wOr, wIf, wOp2, wSlot, wC, wsRet, wsRetN, wsSkip, wsAsg, wsExpr, wgName, wBin, wCall, wCons, wNil, wTup, lst_new, wAttrX, blt_len, blt_int, blt_isi, blt_list, blt_tuple, blt_repr, blt_all, blt_any, blt_str, List.map_cons, List.map_nil, List.replicate, List.cons_append, List.nil_append, List.getElem?_cons_succ, List.getElem?_cons_zero, List.set_cons_succ, List.set_cons_zero, Option.some.injEq, exists_eq_left', fin_val, Rs.val.injEq, D.bl.injEq, Bool.not_true, Bool.not_false, Bool.false_eq_true, if_false, if_true, true_and, and_true, wipeD, setsD, d3]
    exact q
  · simp only [wsSeq, wsIf, wtB, wtNot, wtAnd, wtOr, wTru, wNot, wAnd, wOr, wIf, wOp2, wSlot, wC, wsRet, wsRetN, wsSkip, wsAsg, wsExpr, wgName, wBin, wCall, wCons, wNil, wTup, lst_new, wAttrX, blt_len, blt_int, blt_isi, blt_list, blt_tuple, blt_repr, blt_all, blt_any, blt_str, List.map_cons, List.map_nil, List.replicate, List.cons_append, List.nil_append, List.getElem?_cons_succ, List.getElem?_cons_zero, List.set_cons_succ, List.set_cons_zero, Option.some.injEq, exists_eq_left', fin_val, Rs.val.injEq, D.bl.injEq, Bool.not_true, Bool.not_false, Bool.false_eq_true, if_false, if_true, true_and, and_true, wipeD, setsD, d3, List.length_cons, List.length_nil]
    exact ⟨by rw [sizeLine_eq]; omega, q⟩
  simp only [Bool.false_eq_true, if_false]
  have hnd : (ls.map (·.1)).Nodup := (twi_nodup (oEr_none (oEr_none (oEr_none e1).2).2).1).1
  rw [foldl_put (kf := fun p : Str × Str × Str => p.1) (vf := fun p => d2 p.2) ls [] (by simp) (by simp) hnd]
  refine ⟨n0, 7, fs3, rfl, upb_at, at7 (by simp), by subst hfs; simp, ?_⟩
  rw [upb_upb]
  have hFR : FR ss ls ts = .obj 7 (putFD "ends_by" (.dic false ([] ++ ls.map fun p => (.str p.1, d2 p.2))) fs3) := by subst hfs; rfl
  rw [← hFR]
  have hff : ftE (ls.map (·.1)) ts = none := (oEr_none (oEr_none e2).2).1
  have hmem := ftE_mem hff
  refine lc_all (l := ts) (g := d2) (f := fun t => d2 (stp (endsOf ls t.1) t.2)) (cond := always) (fun Qi q => attr_at rfl (c := 7) (fs := FRf ss ls ts) upb_at (at7 (by simp)) (d := .tup (ts.map d2)) rfl ⟨_, rfl, q⟩) (fun m d hm => trivial) (by rw [sizeLine_eq]; omega) (fun p hp => ⟨_, rfl, fun m e hm Qe X q => ?_⟩) ?_
  · simp only [wsSeq, wsIf, wtB, wtNot, wtAnd, wtOr, wTru, wNot, wAnd, wOr, wIf, wOp2, wSlot, wC, wsRet, wsRetN, wsSkip, wsAsg, wsExpr, wgName, wBin, wCall, wCons, wNil, wTup, lst_new, wAttrX, blt_len, blt_int, blt_isi, blt_list, blt_tuple, blt_repr, blt_all, blt_any, blt_str, List.map_cons, List.map_nil, List.replicate, List.cons_append, List.nil_append, List.getElem?_cons_succ, List.getElem?_cons_zero, List.set_cons_succ, List.set_cons_zero, Option.some.injEq, exists_eq_left', fin_val, Rs.val.injEq, D.bl.injEq, Bool.not_true, Bool.not_false, Bool.false_eq_true, if_false, if_true, true_and, and_true, wipeD, setsD, d2]
    have hm2 : m ≠ n0 := by rintro rfl; simp [upb] at hm
    have ho : dr (upb (upb bx n0 (FR ss ls ts)) m e) (.box n0) = some (.obj 7 (FRf ss ls ts)) := by simp [dr, upb, hm2.symm, FR]
    simp only [ho]
    refine ⟨at7 (f := "ends_by") (by simp), .dic false (ls.map fun p => (.str p.1, d2 p.2)), rfl, ?_⟩
    refine ⟨_, ix_dic (f := d2) (l := ls) rfl (lookup_of_mem (hmem p hp)), ?_⟩
    exact step_ok q
  simp only [Bool.false_eq_true, if_false, dr, upb_at, FR]
  refine ⟨at7 (f := "sort_row") (by simp), _, rfl, ?_⟩
  have hst : ok2 (stepsOf ls ts) := fun p hp => by
    obtain ⟨t, ht, rfl⟩ := List.mem_map.mp hp
    exact ok_stp (ok_ends I.l (hmem t ht))
  rw [show (ts.map fun t => d2 (stp (endsOf ls t.1) t.2)) = (stepsOf ls ts).map d2 by simp [stepsOf]]
  refine round_ok I.s hst (by omega) (by rw [stepsOf, List.length_map]; omega) ?_ (.inr rfl)
  simp only [List.length_nil]
  refine ⟨Nat.zero_le _, ?_⟩
  have hrp : Pl 40 (.lst ((rnds (stepsOf ls ts) ss).map .str)) := strs39' (fun x hx => I.s x (itr_sub hx))
  rw [cmp_ne hrp (.lst (fun _ h => by cases h)) .rfl .rfl]
  cases e4 : rnds (stepsOf ls ts) ss with
  | nil =>
    rw [e4] at h
    simp only [rdE, res] at h
    simp only [List.map_nil, decide_true, Bool.not_true, D.bl.injEq, exists_eq_left', Bool.false_eq_true, if_false]
    exact ⟨_, LeB.refl _, h⟩
  | cons y l =>
    rw [e4] at h
    simp only [rdE, res] at h
    simp only [List.map_cons, D.lst.injEq, reduceCtorEq, decide_false, Bool.not_false, D.bl.injEq, exists_eq_left', if_true]
    simp only [wsRaise, wsSeq, wsIf, wtB, wtNot, wtAnd, wtOr, wTru, wNot, wAnd, wOr, wIf, wOp2, wSlot, wC, wsRet, wsRetN, wsSkip, wsAsg, wsExpr, wgName, wBin, wCall, wCons, wNil, wTup, lst_new, wAttrX, blt_len, blt_int, blt_isi, blt_list, blt_tuple, blt_repr, blt_all, blt_any, blt_str, List.map_cons, List.map_nil, List.replicate, List.cons_append, List.nil_append, List.getElem?_cons_succ, List.getElem?_cons_zero, List.set_cons_succ, List.set_cons_zero, Option.some.injEq, exists_eq_left', fin_val, Rs.val.injEq, D.bl.injEq, Bool.not_true, Bool.not_false, Bool.false_eq_true, if_false, if_true, true_and, and_true, exAll, exVal, dr, List.length_cons, List.length_nil, Option.bind_some, if_true]
    exact fgt_up hn h
end
end Mk22
namespace Mk22
open PySem PySem.Spec Mi
/-- a value that is asked for -/
inductive Ask : D → Prop
  | str {x : Str} (h : PyData.strOk x = true) : Ask (.str x)
  | odd {d : D} (h : d ∈ ([.non, .int 0, .bl true, .lst [.str "a"], .tup [.str "a"], .dic false []] : List D)) : Ask d
def hasS (ss : List Str) : D → Bool
  | .str x => decide (x ∈ ss)
  | _ => false
def endsAt (ls : T3) : D → Option (Str × Str)
  | .str x => ls.lookup x
  | _ => none
def isStr : D → Bool
  | .str _ => true
  | _ => false
def unk (v : D) : XD := ⟨6, [("name", v)]⟩
section
variable {n : Nat} {cm : CM} {bx : Bx} {Q : VQ} {X : XQ} {b : Bool} {ss : List Str} {ls : T3} {ts : T2}
theorem isi_o {v : D} (h : Ask v) : cOp b (dIsi (isEx S) S.isi) [v, .ty "str"] bx Q X = Q (.bl (isStr v)) bx := by
  cases h with
  | str _ => exact isi_s
  | odd h =>
    have h1 : S.isi (.ty "NoneType") (.ty "str") = some false := by decide +kernel
    have h2 : S.isi (.ty "int") (.ty "str") = some false := by decide +kernel
    have h3 : S.isi (.ty "bool") (.ty "str") = some false := by decide +kernel
    have h4 : S.isi (.ty "list") (.ty "str") = some false := by decide +kernel
    have h5 : S.isi (.ty "tuple") (.ty "str") = some false := by decide +kernel
    have h6 : S.isi (.ty "dict") (.ty "str") = some false := by decide +kernel
    simp only [List.mem_cons, List.not_mem_nil, or_false] at h
    rcases h with rfl | rfl | rfl | rfl | rfl | rfl <;> simp [cOp, dIsi, tyD, dr, clD, h1, h2, h3, h4, h5, h6, fin, isStr]
theorem In.strs (I : In ss ls ts) : ∀ y ∈ ss.map D.str, Pl 39 y := strs39 I.s
theorem hassort_ok {v : D} (I : In ss ls ts) (hv : Ask v) (h : Q (.bl (hasS ss v)) bx) : runM 2 2 (t10 cm) [FR ss ls ts, v] bx Q X := by
  refine ⟨rfl, ?_⟩
  unfold t10
  simp only [wsSeq, wsIf, wtB, wtNot, wtAnd, wtOr, wTru, wNot, wAnd, wOr, wIf, wOp2, wSlot, wC, wsRet, wsRetN, wsSkip, wsAsg, wsExpr, wgName, wBin, wCall, wCons, wNil, wTup, lst_new, wAttrX, blt_len, blt_int, blt_isi, blt_list, blt_tuple, blt_repr, blt_all, blt_any, blt_str, List.map_cons, List.map_nil, List.replicate, List.cons_append, List.nil_append, List.getElem?_cons_succ, List.getElem?_cons_zero, List.set_cons_succ, List.set_cons_zero, Option.some.injEq, exists_eq_left', fin_val, Rs.val.injEq, D.bl.injEq, Bool.not_true, Bool.not_false, Bool.false_eq_true, if_false, if_true, true_and, and_true, isi_o hv, dTru]
  cases hv with
  | str hx =>
    rename_i x
    simp only [isStr, if_true, dr, FR]
    refine ⟨at7 (f := "sort_row") (by simp), _, rfl, ?_⟩
    rw [in_tup (.str hx) I.strs]
    exact ⟨_, LeB.refl _, by simpa [hasS] using h⟩
  | odd hx =>
    have e : isStr v = false ∧ hasS ss v = false := by
      simp only [List.mem_cons, List.not_mem_nil, or_false] at hx
      rcases hx with rfl | rfl | rfl | rfl | rfl | rfl <;> exact ⟨rfl, rfl⟩
    simp only [e.1, Bool.false_eq_true, if_false]
    rw [e.2] at h
    exact ⟨_, LeB.refl _, h⟩
theorem hasletter_ok {v : D} (hv : Ask v) (h : Q (.bl (endsAt ls v).isSome) bx) : runM 2 2 (t11 cm) [FR ss ls ts, v] bx Q X := by
  refine ⟨rfl, ?_⟩
  unfold t11
  simp only [wsSeq, wsIf, wtB, wtNot, wtAnd, wtOr, wTru, wNot, wAnd, wOr, wIf, wOp2, wSlot, wC, wsRet, wsRetN, wsSkip, wsAsg, wsExpr, wgName, wBin, wCall, wCons, wNil, wTup, lst_new, wAttrX, blt_len, blt_int, blt_isi, blt_list, blt_tuple, blt_repr, blt_all, blt_any, blt_str, List.map_cons, List.map_nil, List.replicate, List.cons_append, List.nil_append, List.getElem?_cons_succ, List.getElem?_cons_zero, List.set_cons_succ, List.set_cons_zero, Option.some.injEq, exists_eq_left', fin_val, Rs.val.injEq, D.bl.injEq, Bool.not_true, Bool.not_false, Bool.false_eq_true, if_false, if_true, true_and, and_true, isi_o hv, dTru]
  cases hv with
  | str hx =>
    rename_i x
    simp only [isStr, if_true, dr, FR]
    refine ⟨at7 (f := "ends_by") (by simp), _, rfl, ?_⟩
    rw [in_dic (t := false) (kvs := ls.map fun p => (.str p.1, d2 p.2)) rfl rfl, lookK_str, Option.isSome_map]
    exact ⟨_, LeB.refl _, h⟩
  | odd hx =>
    have e : isStr v = false ∧ endsAt ls v = none := by
      simp only [List.mem_cons, List.not_mem_nil, or_false] at hx
      rcases hx with rfl | rfl | rfl | rfl | rfl | rfl <;> exact ⟨rfl, rfl⟩
    simp only [e.1, Bool.false_eq_true, if_false]
    rw [e.2] at h
    exact ⟨_, LeB.refl _, h⟩
theorem endsm_ok {v : D} (hv : Ask v) (h : match endsAt ls v with | some e => Q (d2 e) bx | none => X (unk v) bx) : runM 2 2 (t12 (cmAt S (n + 1))) [FR ss ls ts, v] bx Q X := by
  refine ⟨rfl, ?_⟩
  unfold t12
  simp only [wsSeq, wsIf, wtB, wtNot, wtAnd, wtOr, wTru, wNot, wAnd, wOr, wIf, wOp2, wSlot, wC, wsRet, wsRetN, wsSkip, wsAsg, wsExpr, wgName, wBin, wCall, wCons, wNil, wTup, lst_new, wAttrX, blt_len, blt_int, blt_isi, blt_list, blt_tuple, blt_repr, blt_all, blt_any, blt_str, List.map_cons, List.map_nil, List.replicate, List.cons_append, List.nil_append, List.getElem?_cons_succ, List.getElem?_cons_zero, List.set_cons_succ, List.set_cons_zero, Option.some.injEq, exists_eq_left', fin_val, Rs.val.injEq, D.bl.injEq, Bool.not_true, Bool.not_false, Bool.false_eq_true, if_false, if_true, true_and, and_true, wMeth]
  refine ⟨7, FRf ss ls ts, _, rfl, rfl, c11 n, ?_⟩
  refine hasletter_ok hv ?_
  simp only [dTru, Option.some.injEq, exists_eq_left']
  cases e : endsAt ls v with
  | none =>
    rw [e] at h
    simp only [Option.isSome_none, Bool.not_false, if_true, wsRaise, wsSeq, wsIf, wtB, wtNot, wtAnd, wtOr, wTru, wNot, wAnd, wOr, wIf, wOp2, wSlot, wC, wsRet, wsRetN, wsSkip, wsAsg, wsExpr, wgName, wBin, wCall, wCons, wNil, wTup, lst_new, wAttrX, blt_len, blt_int, blt_isi, blt_list, blt_tuple, blt_repr, blt_all, blt_any, blt_str, List.map_cons, List.map_nil, List.replicate, List.cons_append, List.nil_append, List.getElem?_cons_succ, List.getElem?_cons_zero, List.set_cons_succ, List.set_cons_zero, Option.some.injEq, exists_eq_left', fin_val, Rs.val.injEq, D.bl.injEq, Bool.not_true, Bool.not_false, Bool.false_eq_true, if_false, if_true, true_and, and_true, exAll, exVal, List.length_cons, List.length_nil, Option.bind_some]
    exact ⟨_, LeB.refl _, h⟩
  | some p =>
    rw [e] at h
    simp only [Option.isSome_some, Bool.not_true, Bool.false_eq_true, if_false, wsSeq, wsIf, wtB, wtNot, wtAnd, wtOr, wTru, wNot, wAnd, wOr, wIf, wOp2, wSlot, wC, wsRet, wsRetN, wsSkip, wsAsg, wsExpr, wgName, wBin, wCall, wCons, wNil, wTup, lst_new, wAttrX, blt_len, blt_int, blt_isi, blt_list, blt_tuple, blt_repr, blt_all, blt_any, blt_str, List.map_cons, List.map_nil, List.replicate, List.cons_append, List.nil_append, List.getElem?_cons_succ, List.getElem?_cons_zero, List.set_cons_succ, List.set_cons_zero, Option.some.injEq, exists_eq_left', fin_val, Rs.val.injEq, D.bl.injEq, Bool.not_true, Bool.not_false, Bool.false_eq_true, if_false, if_true, true_and, and_true, dr, FR]
    refine ⟨at7 (f := "ends_by") (by simp), _, rfl, ?_⟩
    cases hv with
    | str hx =>
      rename_i x
      refine ⟨_, ix_dic (f := d2) (l := ls) rfl e, ?_⟩
      exact ⟨_, LeB.refl _, h⟩
    | odd hx =>
      simp only [List.mem_cons, List.not_mem_nil, or_false] at hx
      rcases hx with rfl | rfl | rfl | rfl | rfl | rfl <;> cases e
theorem sorts_ok (h : ∀ m, bx m = none → Q (.box m) (upb bx m (.lst (ss.map .str)))) : runM 1 1 (t7 cm) [FR ss ls ts] bx Q X := by
  refine ⟨rfl, ?_⟩
  unfold t7
  simp only [wsSeq, wsRet, blt_list, wCall, wCons, wNil, wAttrX, wSlot, List.map_cons, List.map_nil, List.replicate, List.cons_append, List.nil_append, List.getElem?_cons_zero, Option.some.injEq, exists_eq_left', dr, FR]
  refine ⟨at7 (f := "sort_row") (by simp), _, rfl, ?_⟩
  rw [list_tupB]
  exact fun m hm => ⟨_, LeB.refl _, h m hm⟩
theorem letters_ok (h : ∀ m, bx m = none → Q (.box m) (upb bx m (.lst (ls.map d3)))) : runM 1 1 (t8 cm) [FR ss ls ts] bx Q X := by
  refine ⟨rfl, ?_⟩
  unfold t8
  simp only [wsSeq, wsRet, blt_list, wCall, wCons, wNil, wAttrX, wSlot, List.map_cons, List.map_nil, List.replicate, List.cons_append, List.nil_append, List.getElem?_cons_zero, Option.some.injEq, exists_eq_left', dr, FR]
  refine ⟨at7 (f := "letter_row") (by simp), _, rfl, ?_⟩
  rw [list_tupB]
  exact fun m hm => ⟨_, LeB.refl _, h m hm⟩
theorem tots_ok (h : ∀ m, bx m = none → Q (.box m) (upb bx m (.lst (ts.map d2)))) : runM 1 1 (t9 cm) [FR ss ls ts] bx Q X := by
  refine ⟨rfl, ?_⟩
  unfold t9
  simp only [wsSeq, wsRet, blt_list, wCall, wCons, wNil, wAttrX, wSlot, List.map_cons, List.map_nil, List.replicate, List.cons_append, List.nil_append, List.getElem?_cons_zero, Option.some.injEq, exists_eq_left', dr, FR]
  refine ⟨at7 (f := "total_row") (by simp), _, rfl, ?_⟩
  rw [list_tupB]
  exact fun m hm => ⟨_, LeB.refl _, h m hm⟩
/-- the totals that begin at x -/
def fromT (ls : T3) (ts : T2) (x : Str) : T2 := ts.filter fun t => decide ((stp (endsOf ls t.1) t.2).1 = x)
end
end Mk22
namespace Mk22
open PySem PySem.Spec Mi
/-- a frame that stands -/
structure Gd (ss : List Str) (ls : T3) (ts : T2) : Prop where
  i : In ss ls ts
  d : due ss ls ts = none
theorem Gd.mem {ss : List Str} {ls : T3} {ts : T2} (G : Gd ss ls ts) : ∀ t ∈ ts, t.1 ∈ ls.map (·.1) := ftE_mem (oEr_none (oEr_none (orE_none (orE_none G.d).2).1).2).1
theorem plc {p : Str × Str × Str} (h : okS p.1 ∧ okS p.2.1 ∧ okS p.2.2) {n : Nat} : Pl (n + 2) (d3 p) := .tup fun d hd => by
  simp only [List.mem_cons, List.not_mem_nil, or_false] at hd
  rcases hd with rfl | rfl | rfl
  · exact h.1.pl
  · exact h.2.1.pl
  · exact h.2.2.pl
theorem Pl.tup_map {α : Type} {n : Nat} {f : α → D} {l : List α} (h : ∀ a ∈ l, Pl n (f a)) : Pl (n + 1) (.tup (l.map f)) := .tup fun d hd => by
  obtain ⟨a, ha, rfl⟩ := List.mem_map.mp hd
  exact h a ha
theorem Pl.lst_map {α : Type} {n : Nat} {f : α → D} {l : List α} (h : ∀ a ∈ l, Pl n (f a)) : Pl (n + 1) (.lst (l.map f)) := .lst fun d hd => by
  obtain ⟨a, ha, rfl⟩ := List.mem_map.mp hd
  exact h a ha
theorem map_d2 {a b : T2} : (a.map d2 = b.map d2) ↔ a = b := List.map_inj_right fun _ _ e => d2_inj.mp e
theorem map_d3 {a b : T3} : (a.map d3 = b.map d3) ↔ a = b := List.map_inj_right fun _ _ e => d3_inj.mp e
theorem map_str {a b : List Str} : (a.map D.str = b.map D.str) ↔ a = b := List.map_inj_right fun _ _ e => by cases e; rfl
section
variable {n : Nat} {cm : CM} {bx : Bx} {Q : VQ} {X : XQ} {b : Bool} {ss ss' : List Str} {ls ls' : T3} {ts ts' : T2}
theorem eq_txt {x y : Str} : cmpC S cm b .Eq [.str x, .str y] bx Q X = Q (.bl (decide (x = y))) bx := by simp [cmpC, cSel, clsD, dr, cOp, o2, dEq, fin]
theorem ne_txt {x y : Str} : cmpC S cm b .NotEq [.str x, .str y] bx Q X = Q (.bl (!decide (x = y))) bx := by simp [cmpC, cSel, clsD, dr, cOp, o2, dNe, fin]
theorem from_ok {v : D} (G : Gd ss ls ts) (hv : Ask v) (h : match v with
    | .str x => if x ∈ ss then ∀ m, bx m = none → Q (.box m) (upb bx m (.lst ((fromT ls ts x).map d2))) else X (unk v) bx
    | _ => X (unk v) bx) : runM 2 4 (t13 (cmAt S (n + 1))) [FR ss ls ts, v] bx Q X := by
  refine ⟨rfl, ?_⟩
  unfold t13
  simp only [wsSeq, wsIf, wtB, wtNot, wtAnd, wtOr, wTru, wNot, wAnd, wOr, wIf, wOp2, wSlot, wC, wsRet, wsRetN, wsSkip, wsAsg, wsExpr, wgName, wBin, wCall, wCons, wNil, wTup, lst_new, wAttrX, blt_len, blt_int, blt_isi, blt_list, blt_tuple, blt_repr, blt_all, blt_any, blt_str, List.map_cons, List.map_nil, List.replicate, List.cons_append, List.nil_append, List.getElem?_cons_succ, List.getElem?_cons_zero, List.set_cons_succ, List.set_cons_zero, Option.some.injEq, exists_eq_left', fin_val, Rs.val.injEq, D.bl.injEq, Bool.not_true, Bool.not_false, Bool.false_eq_true, if_false, if_true, true_and, and_true, wMeth, callJ_at (c4 n)]
  refine ⟨7, FRf ss ls ts, _, rfl, rfl, c10 n, ?_⟩
  refine hassort_ok G.i hv ?_
  simp only [dTru, Option.some.injEq, exists_eq_left']
  by_cases e : hasS ss v = true
  · rw [e]
    simp only [Bool.not_true, Bool.false_eq_true, if_false, wsSeq, wsIf, wtB, wtNot, wtAnd, wtOr, wTru, wNot, wAnd, wOr, wIf, wOp2, wSlot, wC, wsRet, wsRetN, wsSkip, wsAsg, wsExpr, wgName, wBin, wCall, wCons, wNil, wTup, lst_new, wAttrX, blt_len, blt_int, blt_isi, blt_list, blt_tuple, blt_repr, blt_all, blt_any, blt_str, List.map_cons, List.map_nil, List.replicate, List.cons_append, List.nil_append, List.getElem?_cons_succ, List.getElem?_cons_zero, List.set_cons_succ, List.set_cons_zero, Option.some.injEq, exists_eq_left', fin_val, Rs.val.injEq, D.bl.injEq, Bool.not_true, Bool.not_false, Bool.false_eq_true, if_false, if_true, true_and, and_true]
    cases hv with
    | odd hx =>
      simp only [List.mem_cons, List.not_mem_nil, or_false] at hx
      rcases hx with rfl | rfl | rfl | rfl | rfl | rfl <;> cases e
    | str hx =>
      rename_i x
      have hm : x ∈ ss := by simpa [hasS] using e
      simp only [hm, if_true] at h
      refine lc_at (l := ts) (g := d2) (f := d2) (p := fun t => decide ((stp (endsOf ls t.1) t.2).1 = x)) (cond := always) (fun Qi q => attr_at (c := 7) (fs := FRf ss ls ts) rfl rfl (at7 (f := "total_row") (by simp)) (d := .tup (ts.map d2)) rfl ⟨_, rfl, q⟩) (fun m d hm => trivial) (by have := G.i.nt; rw [sizeLine_eq]; omega) (fun p hp => ⟨_, rfl, fun m e hm' => ⟨fun Qt X q => ?_, fun _ Qe X q => ?_⟩⟩) ?_
      · simp only [wsSeq, wsIf, wtB, wtNot, wtAnd, wtOr, wTru, wNot, wAnd, wOr, wIf, wOp2, wSlot, wC, wsRet, wsRetN, wsSkip, wsAsg, wsExpr, wgName, wBin, wCall, wCons, wNil, wTup, lst_new, wAttrX, blt_len, blt_int, blt_isi, blt_list, blt_tuple, blt_repr, blt_all, blt_any, blt_str, List.map_cons, List.map_nil, List.replicate, List.cons_append, List.nil_append, List.getElem?_cons_succ, List.getElem?_cons_zero, List.set_cons_succ, List.set_cons_zero, Option.some.injEq, exists_eq_left', fin_val, Rs.val.injEq, D.bl.injEq, Bool.not_true, Bool.not_false, Bool.false_eq_true, if_false, if_true, true_and, and_true, wipeD, setsD, d2, dr, FR]
        refine ⟨at7 (f := "ends_by") (by simp), _, rfl, _, ix_dic (f := d2) (l := ls) rfl (lookup_of_mem (G.mem p hp)), ?_⟩
        refine step_ok ?_
        simp only [d2]
        refine ⟨_, ix_tup (k := 0) rfl, ?_⟩
        simp only [fin_val, eq_txt, D.bl.injEq, exists_eq_left']
        exact q
      · simp only [wsSeq, wsIf, wtB, wtNot, wtAnd, wtOr, wTru, wNot, wAnd, wOr, wIf, wOp2, wSlot, wC, wsRet, wsRetN, wsSkip, wsAsg, wsExpr, wgName, wBin, wCall, wCons, wNil, wTup, lst_new, wAttrX, blt_len, blt_int, blt_isi, blt_list, blt_tuple, blt_repr, blt_all, blt_any, blt_str, List.map_cons, List.map_nil, List.replicate, List.cons_append, List.nil_append, List.getElem?_cons_succ, List.getElem?_cons_zero, List.set_cons_succ, List.set_cons_zero, Option.some.injEq, exists_eq_left', fin_val, Rs.val.injEq, D.bl.injEq, Bool.not_true, Bool.not_false, Bool.false_eq_true, if_false, if_true, true_and, and_true, wipeD, setsD, d2, List.length_cons, List.length_nil]
        exact ⟨by rw [sizeLine_eq]; omega, q⟩
      · simp only [if_true]
        exact fun m hm => ⟨_, LeB.refl _, h m hm⟩
  · rw [Bool.not_eq_true] at e
    rw [e]
    have h' : X (unk v) bx := by
      cases hv with
      | str hx =>
        rename_i x
        have hm : ¬ x ∈ ss := by simpa [hasS] using e
        simpa only [hm, if_false] using h
      | odd hx =>
        simp only [List.mem_cons, List.not_mem_nil, or_false] at hx
        rcases hx with rfl | rfl | rfl | rfl | rfl | rfl <;> exact h
    simp only [Bool.not_false, if_true, wsRaise, wsSeq, wsIf, wtB, wtNot, wtAnd, wtOr, wTru, wNot, wAnd, wOr, wIf, wOp2, wSlot, wC, wsRet, wsRetN, wsSkip, wsAsg, wsExpr, wgName, wBin, wCall, wCons, wNil, wTup, lst_new, wAttrX, blt_len, blt_int, blt_isi, blt_list, blt_tuple, blt_repr, blt_all, blt_any, blt_str, List.map_cons, List.map_nil, List.replicate, List.cons_append, List.nil_append, List.getElem?_cons_succ, List.getElem?_cons_zero, List.set_cons_succ, List.set_cons_zero, Option.some.injEq, exists_eq_left', fin_val, Rs.val.injEq, D.bl.injEq, Bool.not_true, Bool.not_false, Bool.false_eq_true, if_false, if_true, true_and, and_true, exAll, exVal, List.length_cons, List.length_nil, Option.bind_some]
    exact ⟨_, LeB.refl _, h'⟩
theorem eqm_ok (I : In ss ls ts) (I' : In ss' ls' ts') (h : Q (.bl (decide (ss = ss') && (decide (ls = ls') && decide (ts = ts')))) bx) : runM 2 2 (t14 cm) [FR ss ls ts, FR ss' ls' ts'] bx Q X := by
  refine ⟨rfl, ?_⟩
  have h1 : S.isi (.cls 7) (.cls 7) = some true := by decide +kernel
  have hi : ∀ (bx : Bx) (Q : VQ) (X : XQ), cOp false (dIsi (isEx S) S.isi) [FR ss' ls' ts', .cls 7] bx Q X = Q (.bl true) bx := fun bx Q X => by
    have : isEx S 7 = false := by decide +kernel
    simp [cOp, dIsi, tyD, dr, clD, FR, h1, fin, this]
  unfold t14
  simp only [wsSeq, wsIf, wtB, wtNot, wtAnd, wtOr, wTru, wNot, wAnd, wOr, wIf, wOp2, wSlot, wC, wsRet, wsRetN, wsSkip, wsAsg, wsExpr, wgName, wBin, wCall, wCons, wNil, wTup, lst_new, wAttrX, blt_len, blt_int, blt_isi, blt_list, blt_tuple, blt_repr, blt_all, blt_any, blt_str, List.map_cons, List.map_nil, List.replicate, List.cons_append, List.nil_append, List.getElem?_cons_succ, List.getElem?_cons_zero, List.set_cons_succ, List.set_cons_zero, Option.some.injEq, exists_eq_left', fin_val, Rs.val.injEq, D.bl.injEq, Bool.not_true, Bool.not_false, Bool.false_eq_true, if_false, if_true, true_and, and_true, hi, dTru]
  simp only [dr, FR]
  refine ⟨at7 (f := "sort_row") (by simp), _, rfl, at7 (f := "sort_row") (by simp), _, rfl, ?_⟩
  rw [cmp_ne (Pl.tup_map (n := 39) fun x hx => (I.s x hx).pl) (Pl.tup_map (n := 39) fun x hx => (I'.s x hx).pl) .rfl .rfl]
  simp only [D.tup.injEq, map_str, D.bl.injEq, exists_eq_left']
  by_cases e1 : ss = ss'
  · simp only [e1, decide_true, Bool.not_true, Bool.false_eq_true, if_false, wsSeq, wsIf, wtB, wtNot, wtAnd, wtOr, wTru, wNot, wAnd, wOr, wIf, wOp2, wSlot, wC, wsRet, wsRetN, wsSkip, wsAsg, wsExpr, wgName, wBin, wCall, wCons, wNil, wTup, lst_new, wAttrX, blt_len, blt_int, blt_isi, blt_list, blt_tuple, blt_repr, blt_all, blt_any, blt_str, List.map_cons, List.map_nil, List.replicate, List.cons_append, List.nil_append, List.getElem?_cons_succ, List.getElem?_cons_zero, List.set_cons_succ, List.set_cons_zero, Option.some.injEq, exists_eq_left', fin_val, Rs.val.injEq, D.bl.injEq, Bool.not_true, Bool.not_false, Bool.false_eq_true, if_false, if_true, true_and, and_true, dr, FR]
    refine ⟨at7 (f := "letter_row") (by simp), _, rfl, at7 (f := "letter_row") (by simp), _, rfl, ?_⟩
    rw [cmp_eq (Pl.tup_map (n := 39) fun x hx => plc (I.l x hx)) (Pl.tup_map (n := 39) fun x hx => plc (I'.l x hx)) .rfl .rfl]
    simp only [D.tup.injEq, map_d3, dTru, Option.some.injEq, exists_eq_left']
    by_cases e2 : ls = ls'
    · simp only [e2, decide_true, if_true]
      refine ⟨at7 (f := "total_row") (by simp), _, rfl, at7 (f := "total_row") (by simp), _, rfl, ?_⟩
      rw [cmp_eq (Pl.tup_map (n := 39) fun x hx => pl2 (I.t x hx)) (Pl.tup_map (n := 39) fun x hx => pl2 (I'.t x hx)) .rfl .rfl]
      simp only [D.tup.injEq, map_d2]
      exact ⟨_, LeB.refl _, by simpa [e1, e2] using h⟩
    · simp only [e2, decide_false, Bool.false_eq_true, if_false]
      exact ⟨_, LeB.refl _, by simpa [e1, e2] using h⟩
  · simp only [e1, decide_false, Bool.not_false, if_true, wsSeq, wsIf, wtB, wtNot, wtAnd, wtOr, wTru, wNot, wAnd, wOr, wIf, wOp2, wSlot, wC, wsRet, wsRetN, wsSkip, wsAsg, wsExpr, wgName, wBin, wCall, wCons, wNil, wTup, lst_new, wAttrX, blt_len, blt_int, blt_isi, blt_list, blt_tuple, blt_repr, blt_all, blt_any, blt_str, List.map_cons, List.map_nil, List.replicate, List.cons_append, List.nil_append, List.getElem?_cons_succ, List.getElem?_cons_zero, List.set_cons_succ, List.set_cons_zero, Option.some.injEq, exists_eq_left', fin_val, Rs.val.injEq, D.bl.injEq, Bool.not_true, Bool.not_false, Bool.false_eq_true, if_false, if_true, true_and, and_true]
    exact ⟨_, LeB.refl _, by simpa [e1] using h⟩
/-- with a value of another kind -/
theorem eqm_no {e : D} (he : cOp false (dIsi (isEx S) S.isi) [e, .cls 7] bx = fun Q _ => Q (.bl false) bx) (h : Q (.bl false) bx) : runM 2 2 (t14 cm) [FR ss ls ts, e] bx Q X := by
  refine ⟨rfl, ?_⟩
  unfold t14
  simp only [wsSeq, wsIf, wtB, wtNot, wtAnd, wtOr, wTru, wNot, wAnd, wOr, wIf, wOp2, wSlot, wC, wsRet, wsRetN, wsSkip, wsAsg, wsExpr, wgName, wBin, wCall, wCons, wNil, wTup, lst_new, wAttrX, blt_len, blt_int, blt_isi, blt_list, blt_tuple, blt_repr, blt_all, blt_any, blt_str, List.map_cons, List.map_nil, List.replicate, List.cons_append, List.nil_append, List.getElem?_cons_succ, List.getElem?_cons_zero, List.set_cons_succ, List.set_cons_zero, Option.some.injEq, exists_eq_left', fin_val, Rs.val.injEq, D.bl.injEq, Bool.not_true, Bool.not_false, Bool.false_eq_true, if_false, if_true, true_and, and_true, he, dTru, Bool.not_false, if_true]
  exact ⟨_, LeB.refl _, h⟩
theorem eqF (I : In ss ls ts) (I' : In ss' ls' ts') (h : Q (.bl (decide (ss = ss') && (decide (ls = ls') && decide (ts = ts')))) bx) : cmpC S (cmAt S (n + 1)) b .Eq [FR ss ls ts, FR ss' ls' ts'] bx Q X :=
  .inl ⟨_, _, 7, _, rfl, rfl, rfl, c14 n, eqm_ok I I' h⟩
theorem neF (I : In ss ls ts) (I' : In ss' ls' ts') (h : Q (.bl (!(decide (ss = ss') && (decide (ls = ls') && decide (ts = ts'))))) bx) : cmpC S (cmAt S (n + 1)) b .NotEq [FR ss ls ts, FR ss' ls' ts'] bx Q X :=
  ⟨_, _, 7, _, rfl, rfl, rfl, c14 n, eqm_ok I I' ⟨_, rfl, h⟩⟩
theorem eqI {i : Int} (h : Q (.bl false) bx) : cmpC S (cmAt S (n + 1)) b .Eq [FR ss ls ts, .int i] bx Q X := by
  have h1 : S.isi (.ty "int") (.cls 7) = some false := by decide +kernel
  refine .inr ⟨_, _, 7, _, "int", rfl, rfl, rfl, h1, c14 n, eqm_no ?_ h⟩
  funext Q X
  simp [cOp, dIsi, tyD, dr, clD, h1, fin]
theorem eqL {d : D} {l : List D} (e : dr bx d = some (.lst l)) (h : Q (.bl false) bx) : cmpC S (cmAt S (n + 1)) b .Eq [FR ss ls ts, d] bx Q X := by
  have h1 : S.isi (.ty "list") (.cls 7) = some false := by decide +kernel
  refine .inr ⟨_, _, 7, _, "list", rfl, rfl, by simp [tyD, e], h1, c14 n, eqm_no ?_ h⟩
  funext Q X
  simp [cOp, dIsi, tyD, e, clD, h1, fin]
end
end Mk22
namespace Mk22
open PySem PySem.Spec Mi
def nm (c d : Nat) : Str := ⟨#[97 + c, 48 + d / 10, 48 + d % 10]⟩
def tw (d : Nat) : Str := ⟨#[48 + d / 10, 48 + d % 10]⟩
structure NmI (s k : Nat) (L : List Str) : Prop where
  len : L.length = k
  nd : L.Nodup
  of : ∀ x ∈ L, ∃ c, c < 26 ∧ ∃ i, i < k ∧ x = nm c ((s + 37 * i) % 100)
theorem nm_good : ∀ c, c < 26 → ∀ d, d < 100 → isW (nm c d) = true ∧ PyData.strOk (nm c d) = true ∧ (nm c d).length = 3 ∧ nm c d ≠ "zzz" := by decide +kernel
theorem tw_inj : ∀ d, d < 100 → ∀ e, e < 100 → tw d = tw e → d = e := by decide +kernel
theorem nm_inj {c d c' d' : Nat} (h : d < 100) (h' : d' < 100) (e : nm c d = nm c' d') : d = d' := by
  simp only [nm, Str.mk.injEq, Array.mk.injEq, List.cons.injEq, and_true] at e
  omega
theorem NmI.next {s k c : Nat} {L : List Str} (h : NmI s k L) (hk : k < 100) (hc : c < 26) : NmI s (k + 1) (L ++ [nm c ((s + 37 * k) % 100)]) where
  len := by simp [h.len]
  nd := by
    refine List.nodup_append.mpr ⟨h.nd, by simp, fun x hx y hy => ?_⟩
    rw [List.mem_singleton] at hy
    subst hy
    rintro rfl
    obtain ⟨c', _, i, hi, e⟩ := h.of _ hx
    have := nm_inj (Nat.mod_lt _ (by decide)) (Nat.mod_lt _ (by decide)) e
    omega
  of := fun x hx => by
    rcases List.mem_append.mp hx with hx | hx
    · obtain ⟨c', h1, i, hi, e⟩ := h.of _ hx
      exact ⟨c', h1, i, by omega, e⟩
    · rw [List.mem_singleton] at hx
      exact ⟨c, hc, k, by omega, hx⟩
/-- names, told apart -/
structure Nms (L : List Str) : Prop where
  nd : L.Nodup
  w : ∀ x ∈ L, isW x = true
  ok : ∀ x ∈ L, okS x
  l3 : ∀ x ∈ L, x.length = 3
  z : ("zzz" : Str) ∉ L
theorem NmI.nms {s k : Nat} {L : List Str} (h : NmI s k L) : Nms L where
  nd := h.nd
  w := fun x hx => by
    obtain ⟨c, hc, i, hi, rfl⟩ := h.of x hx
    exact (nm_good c hc _ (Nat.mod_lt _ (by decide))).1
  ok := fun x hx => by
    obtain ⟨c, hc, i, hi, rfl⟩ := h.of x hx
    have := nm_good c hc ((s + 37 * i) % 100) (Nat.mod_lt _ (by decide))
    exact ⟨this.2.1, by rw [this.2.2.1]; decide⟩
  l3 := fun x hx => by
    obtain ⟨c, hc, i, hi, rfl⟩ := h.of x hx
    exact (nm_good c hc _ (Nat.mod_lt _ (by decide))).2.2.1
  z := fun hx => by
    obtain ⟨c, hc, i, hi, e⟩ := h.of _ hx
    exact (nm_good c hc _ (Nat.mod_lt _ (by decide))).2.2.2 e.symm
def str1 (d : Nat) : Str := (toString (100 + (d : Int)) : String)
theorem str1_ok : ∀ d : Nat, d < 100 → ((100 + (d : Int)).natAbs.log2 < 1920 ∧ L2.cutS (str1 d) (some 1) none = tw d) ∧ (str1 d).length = 3 := by decide +kernel
theorem let_at : ∀ j, j < 26 → LET.cps.toList[j]? = some (97 + j) := by decide +kernel
section
variable {n : Nat} {cm : CM} {bx : Bx} {Q : VQ} {X : XQ} {b : Bool} {b1 b2 : Nat}
theorem c16' (n : Nat) : cmAt S (n + 1) 16 = some (runM 2 6 (tPick2 S (cmAt S n))) := c16 n
theorem str_at {d : Nat} (hd : d < 100) : cOp b dStr [.int (100 + (d : Int))] bx Q X = Q (.str (str1 d)) bx := by
  simp only [cOp, dStr, (str1_ok d hd).1.1, if_true, Option.some.injEq, exists_eq_left']
  rfl
theorem cutS_at {d : Nat} (hd : d < 100) : dSl bx (.str (str1 d)) (some 1) none = some (.val (.str (tw d))) := by
  have := str1_ok d hd
  simp only [dSl, dr, this.1.2]
  rw [if_pos (by rw [this.2, sizeLine_eq]; omega)]
theorem fmod_nat {a b : Nat} : Int.fmod (a : Int) (b : Int) = ((a % b : Nat) : Int) := by
  rw [Int.fmod_eq_emod_of_nonneg _ (by omega)]
  rfl
theorem names_ok (h : Sr bx b1 b2) {m : Nat} (hm : m ≤ 60) (hq : ∀ bx' L, Sr bx' b1 b2 → Same bx b1 b2 bx' → Nms L → L.length = m → Q (.lst (L.map .str)) bx') : runM 2 6 (t17 (cmAt S (n + 1))) [.box b1, .int m] bx Q X := by
  refine ⟨rfl, ?_⟩
  unfold t17
  simp only [wsSeq, wsIf, wtB, wtNot, wtAnd, wtOr, wTru, wNot, wAnd, wOr, wIf, wOp2, wSlot, wC, wsRet, wsRetN, wsSkip, wsAsg, wsExpr, wgName, wBin, wCall, wCons, wNil, wTup, lst_new, wAttrX, blt_len, blt_int, blt_isi, blt_list, blt_tuple, blt_repr, blt_all, blt_any, blt_str, List.map_cons, List.map_nil, List.replicate, List.cons_append, List.nil_append, List.getElem?_cons_succ, List.getElem?_cons_zero, List.set_cons_succ, List.set_cons_zero, Option.some.injEq, exists_eq_left', fin_val, Rs.val.injEq, D.bl.injEq, Bool.not_true, Bool.not_false, Bool.false_eq_true, if_false, if_true, true_and, and_true, callJ_at (c16' n)]
  refine pickR h (by decide) (by decide) fun bx1 s h1 f1 hs => ?_
  rw [lst_box]
  refine ⟨Nat.zero_le _, fun n3 hn3 => ?_⟩
  simp only [wsSeq, wsIf, wtB, wtNot, wtAnd, wtOr, wTru, wNot, wAnd, wOr, wIf, wOp2, wSlot, wC, wsRet, wsRetN, wsSkip, wsAsg, wsExpr, wgName, wBin, wCall, wCons, wNil, wTup, lst_new, wAttrX, blt_len, blt_int, blt_isi, blt_list, blt_tuple, blt_repr, blt_all, blt_any, blt_str, List.map_cons, List.map_nil, List.replicate, List.cons_append, List.nil_append, List.getElem?_cons_succ, List.getElem?_cons_zero, List.set_cons_succ, List.set_cons_zero, Option.some.injEq, exists_eq_left', fin_val, Rs.val.injEq, D.bl.injEq, Bool.not_true, Bool.not_false, Bool.false_eq_true, if_false, if_true, true_and, and_true, wsFor]
  have e31 := h1.ne1 hn3
  have e32 := h1.ne2 hn3
  refine iRng (j := m) (by omega) (fun Q X q => ⟨_, rfl, q⟩) ?_
  refine for_rng m (fun k sl bx' => ∃ L x4 x5, sl = [some (.box b1), some (.int m), some (.int s), some (.box n3), x4, x5] ∧ bx' n3 = some (.lst (L.map .str)) ∧ Sr bx' b1 b2 ∧ (∀ i, i ≠ b1 → i ≠ b2 → i ≠ n3 → bx' i = bx i) ∧ NmI s k L) (fun sl bx' ⟨L, x4, x5, e, eb, hS, hF, hN⟩ => ?_) (fun k sl bx' hk ⟨L, x4, x5, e, eb, hS, hF, hN⟩ f hf => ?_) _ _ ⟨[], none, none, rfl, upb_at, h1.up hn3, fun i i1 i2 i3 => by simp [upb, i3, f1 i i1 i2], ⟨rfl, List.nodup_nil, by simp⟩⟩
  · subst e
    simp only [wsSeq, wsRet]
    refine ⟨n3, _, rfl, eb, ?_⟩
    have hfr : delb bx' n3 b1 = bx' b1 ∧ delb bx' n3 b2 = bx' b2 := ⟨by simp [delb, e31.symm], by simp [delb, e32.symm]⟩
    refine ⟨delb bx' n3, LeB.refl _, hq _ L (hS.le hfr.1 hfr.2) (fun i i1 i2 => ?_) hN.nms hN.len⟩
    by_cases e : i = n3
    · subst e
      have := f1 i i1 i2
      rw [hn3] at this
      simp [delb, ← this]
    · simp [delb, e, hF i i1 i2 e]
  · subst e
    simp only [wsSeq, wsIf, wtB, wtNot, wtAnd, wtOr, wTru, wNot, wAnd, wOr, wIf, wOp2, wSlot, wC, wsRet, wsRetN, wsSkip, wsAsg, wsExpr, wgName, wBin, wCall, wCons, wNil, wTup, lst_new, wAttrX, blt_len, blt_int, blt_isi, blt_list, blt_tuple, blt_repr, blt_all, blt_any, blt_str, List.map_cons, List.map_nil, List.replicate, List.cons_append, List.nil_append, List.getElem?_cons_succ, List.getElem?_cons_zero, List.set_cons_succ, List.set_cons_zero, Option.some.injEq, exists_eq_left', fin_val, Rs.val.injEq, D.bl.injEq, Bool.not_true, Bool.not_false, Bool.false_eq_true, if_false, if_true, true_and, and_true, wsAsg, wgName, callJ_at (c16' n)]
    refine pickR hS (by decide) (by decide) fun bx2 j h2 f2 hj => ?_
    have hj' : j < 26 := by omega
    refine ⟨_, ix_str (k := j) (c := 97 + j) (by decide +kernel) (let_at j hj'), ?_⟩
    simp only [fin_val, wsSeq, wsIf, wtB, wtNot, wtAnd, wtOr, wTru, wNot, wAnd, wOr, wIf, wOp2, wSlot, wC, wsRet, wsRetN, wsSkip, wsAsg, wsExpr, wgName, wBin, wCall, wCons, wNil, wTup, lst_new, wAttrX, blt_len, blt_int, blt_isi, blt_list, blt_tuple, blt_repr, blt_all, blt_any, blt_str, List.map_cons, List.map_nil, List.replicate, List.cons_append, List.nil_append, List.getElem?_cons_succ, List.getElem?_cons_zero, List.set_cons_succ, List.set_cons_zero, Option.some.injEq, exists_eq_left', fin_val, Rs.val.injEq, D.bl.injEq, Bool.not_true, Bool.not_false, Bool.false_eq_true, if_false, if_true, true_and, and_true, wBm]
    have eb2 : bx2 n3 = some (.lst (L.map .str)) := by rw [f2 n3 e31 e32]; exact eb
    refine ⟨by simp [isTy, dr, eb2], ?_⟩
    simp only [wSl, woSome, woNone, wsSeq, wsIf, wtB, wtNot, wtAnd, wtOr, wTru, wNot, wAnd, wOr, wIf, wOp2, wSlot, wC, wsRet, wsRetN, wsSkip, wsAsg, wsExpr, wgName, wBin, wCall, wCons, wNil, wTup, lst_new, wAttrX, blt_len, blt_int, blt_isi, blt_list, blt_tuple, blt_repr, blt_all, blt_any, blt_str, List.map_cons, List.map_nil, List.replicate, List.cons_append, List.nil_append, List.getElem?_cons_succ, List.getElem?_cons_zero, List.set_cons_succ, List.set_cons_zero, Option.some.injEq, exists_eq_left', fin_val, Rs.val.injEq, D.bl.injEq, Bool.not_true, Bool.not_false, Bool.false_eq_true, if_false, if_true, true_and, and_true, bin_mul (.inl (show -(2 ^ 64) < (37 : Int) ∧ (37 : Int) < 2 ^ 64 by decide)), bin_add, op_int, bin_mod (show (100 : Int) ≠ 0 by decide)]
    have hd : (s + 37 * k) % 100 < 100 := Nat.mod_lt _ (by decide)
    have e1 : Int.fmod ((s : Int) + 37 * (k : Int)) 100 = (((s + 37 * k) % 100 : Nat) : Int) := by
      rw [show (s : Int) + 37 * (k : Int) = ((s + 37 * k : Nat) : Int) by omega]
      exact fmod_nat (b := 100)
    rw [e1, str_at hd]
    refine ⟨_, rfl, _, cutS_at hd, ?_⟩
    simp only [fin_val]
    rw [add_str (by rw [sizeLine_eq]; exact Nat.le_trans (show 1 + 2 ≤ 3 by decide) (by decide))]
    have e2 : (⟨#[97 + j]⟩ : Str) ++ tw ((s + 37 * k) % 100) = nm j ((s + 37 * k) % 100) := rfl
    rw [e2]
    refine ⟨n3, _, _, rfl, eb2, by rw [List.length_map, hN.len, sizeLine_eq]; omega, ?_⟩
    simp only [wsSkip]
    refine hf _ _ ⟨L ++ [nm j ((s + 37 * k) % 100)], _, _, rfl, by simp [upb], h2.le (by simp [upb, e31.symm]) (by simp [upb, e32.symm]), fun i i1 i2 i3 => by simp [upb, i3, f2 i i1 i2, hF i i1 i2 i3], hN.next (by omega) hj'⟩
end
end Mk22
namespace Mk22
open PySem PySem.Spec Mi
theorem strOk_sg {x : Str} (h : PyData.strOk x = true) {c : Nat} (hc : c ∈ x.cps.toList) : PyData.strOk (⟨#[c]⟩ : Str) = true := by
  have h' : (x.cps.all fun c => decide (c < 0x110000)) = true := h
  rw [← Array.all_toList, List.all_eq_true] at h'
  have := h' c hc
  show ((#[c] : Array Nat).all fun c => decide (c < 0x110000)) = true
  simpa using this
theorem twi_step {L : List Str} {k : Nat} (hk : k < L.length) : twi (L.take k) (L.drop k) = if L[k] ∈ L.take k then some L[k] else twi (L.take (k + 1)) (L.drop (k + 1)) := by
  rw [List.drop_eq_getElem_cons hk, twi, List.take_add_one, List.getElem?_eq_getElem hk]
  rfl
section
variable {n : Nat} {cm : CM} {bx : Bx} {Q : VQ} {X : XQ} {b : Bool}
theorem lword_ok {x : Str} (hx : okS x) (h : Q (.bl (isW x)) bx) : runM 1 2 (t21 cm) [.str x] bx Q X := by
  refine ⟨rfl, ?_⟩
  unfold t21
  simp only [wsSeq, wsIf, wtB, wtNot, wtAnd, wtOr, wTru, wNot, wAnd, wOr, wIf, wOp2, wSlot, wC, wsRet, wsRetN, wsSkip, wsAsg, wsExpr, wgName, wBin, wCall, wCons, wNil, wTup, lst_new, wAttrX, blt_len, blt_int, blt_isi, blt_list, blt_tuple, blt_repr, blt_all, blt_any, blt_str, List.map_cons, List.map_nil, List.replicate, List.cons_append, List.nil_append, List.getElem?_cons_succ, List.getElem?_cons_zero, List.set_cons_succ, List.set_cons_zero, Option.some.injEq, exists_eq_left', fin_val, Rs.val.injEq, D.bl.injEq, Bool.not_true, Bool.not_false, Bool.false_eq_true, if_false, if_true, true_and, and_true, isi_s, dTru, wChain, len_str hx.sz, lt_int]
  by_cases h1 : (0 : Int) < x.length
  · by_cases h2 : (x.length : Int) < 13
    · simp only [Rs.val.injEq, h1, h2, decide_true, if_true, fin_val, D.bl.injEq, exists_eq_left', Bool.not_true, Bool.false_eq_true, if_false, Option.some.injEq]
      obtain ⟨c, cs, hcs⟩ : ∃ c cs, x.cps.toList = c :: cs := by
        cases e : x.cps.toList with
        | nil => rw [str_len, e] at h1; simp at h1
        | cons c cs => exact ⟨c, cs, rfl⟩
      refine ⟨_, ix_str (k := 0) hx.sz (by rw [hcs]; rfl), ?_⟩
      simp only [fin_val, notin_chr, D.bl.injEq, exists_eq_left']
      have hw : isW x = (decide (c ∈ LET.cps.toList) && x.cps.toList.all fun c => decide (c ∈ SGN.cps.toList)) := by
        have : decide (1 ≤ x.cps.toList.length ∧ x.cps.toList.length ≤ 12) = true := by rw [← str_len]; simp; omega
        unfold isW
        rw [this, hcs]
        simp
      by_cases h3 : c ∈ LET.cps.toList
      · have h3' : c ∈ ("abcdefghijklmnopqrstuvwxyz" : Str).cps.toList := h3
        simp only [h3', decide_true, Bool.not_true, Bool.false_eq_true, if_false]
        refine lc_at (l := x.cps.toList) (g := fun c => .str ⟨#[c]⟩) (f := fun c => .str ⟨#[c]⟩) (p := fun c => !decide (c ∈ SGN.cps.toList)) (cond := always) (fun Qi q => ⟨_, rfl, _, rfl, q⟩) (fun _ _ _ => trivial) (by rw [← str_len]; exact hx.sz) (fun c hc => ⟨_, rfl, fun n e hn => ⟨fun Qt X q => ?_, fun _ Qe X q => ?_⟩⟩) ?_
        · simp only [wtB, wOp2, wSlot, wC, wipeD, List.map_cons, List.replicate, List.cons_append, List.set_cons_succ, List.set_cons_zero, List.getElem?_cons_succ, List.getElem?_cons_zero, Option.some.injEq, exists_eq_left', notin_chr, D.bl.injEq]
          exact q
        · simp only [wSlot, wipeD, List.map_cons, List.replicate, List.cons_append, List.set_cons_succ, List.set_cons_zero, List.getElem?_cons_succ, List.getElem?_cons_zero, Option.some.injEq, exists_eq_left']
          exact q
        · simp only [Bool.false_eq_true, if_false, List.length_nil]
          refine ⟨Nat.zero_le _, ?_⟩
          rw [cmp_eq (Pl.lst_map (n := 39) fun c hc => .str (strOk_sg hx.1 (List.mem_filter.mp hc).1)) (.lst fun _ h => by cases h) .rfl .rfl]
          refine ⟨_, LeB.refl _, ?_⟩
          rw [hw] at h
          have e : (D.lst (List.map (fun c => D.str ⟨#[c]⟩) (List.filter (fun c => !decide (c ∈ SGN.cps.toList)) x.cps.toList)) = D.lst []) ↔ (x.cps.toList.all fun c => decide (c ∈ SGN.cps.toList)) = true := by
            rw [D.lst.injEq, List.map_eq_nil_iff, List.filter_eq_nil_iff, List.all_eq_true]
            exact ⟨fun h a ha => by have := h a ha; simpa using this, fun h a ha => by have := h a ha; simpa using this⟩
          simp only [e, Bool.decide_eq_true]
          simpa [h3] using h
      · have h3' : ¬ c ∈ ("abcdefghijklmnopqrstuvwxyz" : Str).cps.toList := h3
        simp only [h3', decide_false, Bool.not_false, if_true]
        refine ⟨_, LeB.refl _, ?_⟩
        rw [hw] at h
        simpa [h3] using h
    · simp only [Rs.val.injEq, h1, h2, decide_true, decide_false, if_true, fin_val, D.bl.injEq, exists_eq_left', Bool.not_true, Bool.not_false, Bool.false_eq_true, if_false, Option.some.injEq]
      have hw : isW x = false := by
        have : decide (1 ≤ x.cps.toList.length ∧ x.cps.toList.length ≤ 12) = false := by rw [← str_len]; simp; omega
        unfold isW
        rw [this]; simp
      exact ⟨_, LeB.refl _, by rw [hw] at h; exact h⟩
  · simp only [Rs.val.injEq, h1, decide_true, decide_false, if_true, fin_val, D.bl.injEq, exists_eq_left', Bool.not_true, Bool.not_false, Bool.false_eq_true, if_false, Option.some.injEq]
    have hw : isW x = false := by
      have : decide (1 ≤ x.cps.toList.length ∧ x.cps.toList.length ≤ 12) = false := by rw [← str_len]; simp; omega
      unfold isW
      rw [this]; simp
    exact ⟨_, LeB.refl _, by rw [hw] at h; exact h⟩
def orNon : Option Str → D
  | some x => .str x
  | none => .non
theorem twice_ok {L : List Str} {d : D} (hL : ∀ x ∈ L, okS x) (hl : L.length ≤ 900) (e : dr bx d = some (.lst (L.map .str))) (h : Q (orNon (twi [] L)) bx) : runM 1 2 (t22 cm) [d] bx Q X := by
  refine ⟨rfl, ?_⟩
  unfold t22
  simp only [wsSeq, wsIf, wtB, wtNot, wtAnd, wtOr, wTru, wNot, wAnd, wOr, wIf, wOp2, wSlot, wC, wsRet, wsRetN, wsSkip, wsAsg, wsExpr, wgName, wBin, wCall, wCons, wNil, wTup, lst_new, wAttrX, blt_len, blt_int, blt_isi, blt_list, blt_tuple, blt_repr, blt_all, blt_any, blt_str, List.map_cons, List.map_nil, List.replicate, List.cons_append, List.nil_append, List.getElem?_cons_succ, List.getElem?_cons_zero, List.set_cons_succ, List.set_cons_zero, Option.some.injEq, exists_eq_left', fin_val, Rs.val.injEq, D.bl.injEq, Bool.not_true, Bool.not_false, Bool.false_eq_true, if_false, if_true, true_and, and_true, wsFor]
  refine iRng (j := L.length) (by omega) (fun Q X q => ?_) ?_
  · simp only [wsSeq, wsIf, wtB, wtNot, wtAnd, wtOr, wTru, wNot, wAnd, wOr, wIf, wOp2, wSlot, wC, wsRet, wsRetN, wsSkip, wsAsg, wsExpr, wgName, wBin, wCall, wCons, wNil, wTup, lst_new, wAttrX, blt_len, blt_int, blt_isi, blt_list, blt_tuple, blt_repr, blt_all, blt_any, blt_str, List.map_cons, List.map_nil, List.replicate, List.cons_append, List.nil_append, List.getElem?_cons_succ, List.getElem?_cons_zero, List.set_cons_succ, List.set_cons_zero, Option.some.injEq, exists_eq_left', fin_val, Rs.val.injEq, D.bl.injEq, Bool.not_true, Bool.not_false, Bool.false_eq_true, if_false, if_true, true_and, and_true, len_at e, List.length_map]
    exact q
  refine for_rng L.length (fun k sl bx' => ∃ x1, sl = [some d, x1] ∧ bx' = bx ∧ twi (L.take k) (L.drop k) = twi [] L) (fun sl bx' ⟨x1, e1, e2, e3⟩ => ?_) (fun k sl bx' hk ⟨x1, e1, e2, e3⟩ f hf => ?_) _ _ ⟨_, rfl, rfl, rfl⟩
  · subst e1 e2
    simp only [wsSeq, wsIf, wtB, wtNot, wtAnd, wtOr, wTru, wNot, wAnd, wOr, wIf, wOp2, wSlot, wC, wsRet, wsRetN, wsSkip, wsAsg, wsExpr, wgName, wBin, wCall, wCons, wNil, wTup, lst_new, wAttrX, blt_len, blt_int, blt_isi, blt_list, blt_tuple, blt_repr, blt_all, blt_any, blt_str, List.map_cons, List.map_nil, List.replicate, List.cons_append, List.nil_append, List.getElem?_cons_succ, List.getElem?_cons_zero, List.set_cons_succ, List.set_cons_zero, Option.some.injEq, exists_eq_left', fin_val, Rs.val.injEq, D.bl.injEq, Bool.not_true, Bool.not_false, Bool.false_eq_true, if_false, if_true, true_and, and_true]
    refine ⟨_, LeB.refl _, ?_⟩
    rw [List.drop_of_length_le (Nat.le_refl _), twi] at e3
    rw [← e3] at h
    exact h
  · subst e1 e2
    simp only [wsSeq, wsIf, wtB, wtNot, wtAnd, wtOr, wTru, wNot, wAnd, wOr, wIf, wOp2, wSlot, wC, wsRet, wsRetN, wsSkip, wsAsg, wsExpr, wgName, wBin, wCall, wCons, wNil, wTup, lst_new, wAttrX, blt_len, blt_int, blt_isi, blt_list, blt_tuple, blt_repr, blt_all, blt_any, blt_str, List.map_cons, List.map_nil, List.replicate, List.cons_append, List.nil_append, List.getElem?_cons_succ, List.getElem?_cons_zero, List.set_cons_succ, List.set_cons_zero, Option.some.injEq, exists_eq_left', fin_val, Rs.val.injEq, D.bl.injEq, Bool.not_true, Bool.not_false, Bool.false_eq_true, if_false, if_true, true_and, and_true, wSl, woSome, woNone]
    have ek : (L.map D.str)[k]? = some (.str L[k]) := by simp [hk]
    refine ⟨_, ix_lst e ek, ?_⟩
    simp only [fin_val]
    refine ⟨_, rfl, _, sl_take e k, ?_⟩
    simp only [fin_new]
    have ho := hL L[k] (List.getElem_mem hk)
    rw [← List.map_take, in_lst (es := (L.take k).map .str) ho.pl rfl (strs39 fun x hx => hL x (List.mem_of_mem_take hx))]
    simp only [mem_str, D.bl.injEq, exists_eq_left']
    rw [twi_step hk] at e3
    by_cases hm : L[k] ∈ L.take k
    · simp only [hm, if_true, decide_true] at e3 ⊢
      refine ⟨_, ix_lst e ek, ?_⟩
      rw [← e3] at h
      exact ⟨_, LeB.refl _, h⟩
    · simp only [hm, if_false, decide_false, Bool.false_eq_true] at e3 ⊢
      exact hf _ _ ⟨_, rfl, rfl, e3⟩
theorem lround_ok {ss : List Str} {steps : T2} {ds : D} (hs : ∀ x ∈ ss, okS x) (h2 : ok2 steps) (hl : ss.length ≤ 900) (hl2 : steps.length ≤ 900) (h : Q (.lst ((rnds steps ss).map .str)) bx) (e : dr bx ds = some (.lst (ss.map .str))) : runM 2 6 (t23 cm) [ds, .lst (steps.map d2)] bx Q X := by
  refine ⟨rfl, ?_⟩
  unfold t23
  simp only [wsSeq, wsIf, wtB, wtNot, wtAnd, wtOr, wTru, wNot, wAnd, wOr, wIf, wOp2, wSlot, wC, wsRet, wsRetN, wsSkip, wsAsg, wsExpr, wgName, wBin, wCall, wCons, wNil, wTup, lst_new, wAttrX, blt_len, blt_int, blt_isi, blt_list, blt_tuple, blt_repr, blt_all, blt_any, blt_str, List.map_cons, List.map_nil, List.replicate, List.cons_append, List.nil_append, List.getElem?_cons_succ, List.getElem?_cons_zero, List.set_cons_succ, List.set_cons_zero, Option.some.injEq, exists_eq_left', fin_val, Rs.val.injEq, D.bl.injEq, Bool.not_true, Bool.not_false, Bool.false_eq_true, if_false, if_true, true_and, and_true, list_at e, wsFor]
  refine iRng (j := ss.length) (by omega) (fun Q X q => ?_) ?_
  · simp only [wsSeq, wsIf, wtB, wtNot, wtAnd, wtOr, wTru, wNot, wAnd, wOr, wIf, wOp2, wSlot, wC, wsRet, wsRetN, wsSkip, wsAsg, wsExpr, wgName, wBin, wCall, wCons, wNil, wTup, lst_new, wAttrX, blt_len, blt_int, blt_isi, blt_list, blt_tuple, blt_repr, blt_all, blt_any, blt_str, List.map_cons, List.map_nil, List.replicate, List.cons_append, List.nil_append, List.getElem?_cons_succ, List.getElem?_cons_zero, List.set_cons_succ, List.set_cons_zero, Option.some.injEq, exists_eq_left', fin_val, Rs.val.injEq, D.bl.injEq, Bool.not_true, Bool.not_false, Bool.false_eq_true, if_false, if_true, true_and, and_true, len_at e, List.length_map]
    exact q
  refine for_rng ss.length (fun k sl bx' => ∃ L x3 x4 x5, sl = [some ds, some (.lst (steps.map d2)), some (.lst (L.map .str)), x3, x4, x5] ∧ bx' = bx ∧ (∀ x ∈ L, okS x) ∧ L.length ≤ 900 ∧ itr steps (ss.length - k) L = rnds steps ss) (fun sl bx' ⟨L, x3, x4, x5, e1, e2, e3, e4, e5⟩ => ?_) (fun k sl bx' hk ⟨L, x3, x4, x5, e1, e2, e3, e4, e5⟩ f hf => ?_) _ _ ⟨ss, _, _, _, rfl, rfl, hs, hl, rfl⟩
  · subst e1 e2
    simp only [wsSeq, wsIf, wtB, wtNot, wtAnd, wtOr, wTru, wNot, wAnd, wOr, wIf, wOp2, wSlot, wC, wsRet, wsRetN, wsSkip, wsAsg, wsExpr, wgName, wBin, wCall, wCons, wNil, wTup, lst_new, wAttrX, blt_len, blt_int, blt_isi, blt_list, blt_tuple, blt_repr, blt_all, blt_any, blt_str, List.map_cons, List.map_nil, List.replicate, List.cons_append, List.nil_append, List.getElem?_cons_succ, List.getElem?_cons_zero, List.set_cons_succ, List.set_cons_zero, Option.some.injEq, exists_eq_left', fin_val, Rs.val.injEq, D.bl.injEq, Bool.not_true, Bool.not_false, Bool.false_eq_true, if_false, if_true, true_and, and_true]
    refine ⟨_, LeB.refl _, ?_⟩
    rw [Nat.sub_self, itr] at e5
    rw [← e5] at h
    exact h
  · subst e1 e2
    simp only [wsSeq, wsIf, wtB, wtNot, wtAnd, wtOr, wTru, wNot, wAnd, wOr, wIf, wOp2, wSlot, wC, wsRet, wsRetN, wsSkip, wsAsg, wsExpr, wgName, wBin, wCall, wCons, wNil, wTup, lst_new, wAttrX, blt_len, blt_int, blt_isi, blt_list, blt_tuple, blt_repr, blt_all, blt_any, blt_str, List.map_cons, List.map_nil, List.replicate, List.cons_append, List.nil_append, List.getElem?_cons_succ, List.getElem?_cons_zero, List.set_cons_succ, List.set_cons_zero, Option.some.injEq, exists_eq_left', fin_val, Rs.val.injEq, D.bl.injEq, Bool.not_true, Bool.not_false, Bool.false_eq_true, if_false, if_true, true_and, and_true]
    refine lc_at (l := L) (g := D.str) (f := D.str) (p := fun s => steps.any fun p => decide (p.1 = s) && decide (p.2 ∈ L)) (cond := always) (fun Qi q => ⟨_, rfl, _, rfl, q⟩) (fun _ _ _ => trivial) (by rw [sizeLine_eq]; omega) (fun s hs' => ⟨_, rfl, fun m e hm => ⟨fun Qt X q => ?_, fun _ Qe X q => ?_⟩⟩) ?_
    · simp only [wsSeq, wsIf, wtB, wtNot, wtAnd, wtOr, wTru, wNot, wAnd, wOr, wIf, wOp2, wSlot, wC, wsRet, wsRetN, wsSkip, wsAsg, wsExpr, wgName, wBin, wCall, wCons, wNil, wTup, lst_new, wAttrX, blt_len, blt_int, blt_isi, blt_list, blt_tuple, blt_repr, blt_all, blt_any, blt_str, List.map_cons, List.map_nil, List.replicate, List.cons_append, List.nil_append, List.getElem?_cons_succ, List.getElem?_cons_zero, List.set_cons_succ, List.set_cons_zero, Option.some.injEq, exists_eq_left', fin_val, Rs.val.injEq, D.bl.injEq, Bool.not_true, Bool.not_false, Bool.false_eq_true, if_false, if_true, true_and, and_true, wipeD]
      refine lc_at (l := steps) (g := d2) (f := d2) (p := fun p => decide (p.1 = s) && decide (p.2 ∈ L)) (cond := always) (fun Qi q => ⟨_, rfl, _, rfl, q⟩) (fun _ _ _ => trivial) (by rw [sizeLine_eq]; omega) (fun p hp => ⟨_, rfl, fun m2 e2 hm2 => ⟨fun Qt X q => ?_, fun _ Qe X q => ?_⟩⟩) ?_
      · have o := h2 p hp
        simp only [wsSeq, wsIf, wtB, wtNot, wtAnd, wtOr, wTru, wNot, wAnd, wOr, wIf, wOp2, wSlot, wC, wsRet, wsRetN, wsSkip, wsAsg, wsExpr, wgName, wBin, wCall, wCons, wNil, wTup, lst_new, wAttrX, blt_len, blt_int, blt_isi, blt_list, blt_tuple, blt_repr, blt_all, blt_any, blt_str, List.map_cons, List.map_nil, List.replicate, List.cons_append, List.nil_append, List.getElem?_cons_succ, List.getElem?_cons_zero, List.set_cons_succ, List.set_cons_zero, Option.some.injEq, exists_eq_left', fin_val, Rs.val.injEq, D.bl.injEq, Bool.not_true, Bool.not_false, Bool.false_eq_true, if_false, if_true, true_and, and_true, wipeD, d2]
        refine ⟨_, ix_tup (k := 0) rfl, ?_⟩
        simp only [fin_val, eq_txt, D.bl.injEq, exists_eq_left']
        by_cases e1 : p.1 = s
        · simp only [e1, decide_true, if_true]
          refine ⟨_, ix_tup (k := 1) rfl, ?_⟩
          simp only [fin_val]
          rw [in_lst (es := L.map .str) o.2.pl rfl (strs39 e3)]
          simp only [mem_str, D.bl.injEq, exists_eq_left']
          simpa [e1] using q
        · simp only [e1, decide_false, Bool.false_eq_true, if_false]
          simpa [e1] using q
      · simp only [wsSeq, wsIf, wtB, wtNot, wtAnd, wtOr, wTru, wNot, wAnd, wOr, wIf, wOp2, wSlot, wC, wsRet, wsRetN, wsSkip, wsAsg, wsExpr, wgName, wBin, wCall, wCons, wNil, wTup, lst_new, wAttrX, blt_len, blt_int, blt_isi, blt_list, blt_tuple, blt_repr, blt_all, blt_any, blt_str, List.map_cons, List.map_nil, List.replicate, List.cons_append, List.nil_append, List.getElem?_cons_succ, List.getElem?_cons_zero, List.set_cons_succ, List.set_cons_zero, Option.some.injEq, exists_eq_left', fin_val, Rs.val.injEq, D.bl.injEq, Bool.not_true, Bool.not_false, Bool.false_eq_true, if_false, if_true, true_and, and_true, wipeD]
        exact q
      · simp only [Bool.false_eq_true, if_false, List.length_nil]
        refine ⟨Nat.zero_le _, ?_⟩
        rw [cmp_ne (Pl.lst_map (n := 39) fun p hp => pl2 (h2 p (List.mem_filter.mp hp).1)) (.lst fun _ h => by cases h) .rfl .rfl]
        have e : (D.lst (List.map d2 (List.filter (fun p => decide (p.1 = s) && decide (p.2 ∈ L)) steps)) = D.lst []) ↔ ¬ (steps.any fun p => decide (p.1 = s) && decide (p.2 ∈ L)) = true := by
          rw [D.lst.injEq, List.map_eq_nil_iff, List.filter_eq_nil_iff]
          simp
        simp only [e, decide_not, Bool.decide_eq_true, Bool.not_not]
        refine ⟨_, rfl, ?_⟩
        exact q
    · simp only [wsSeq, wsIf, wtB, wtNot, wtAnd, wtOr, wTru, wNot, wAnd, wOr, wIf, wOp2, wSlot, wC, wsRet, wsRetN, wsSkip, wsAsg, wsExpr, wgName, wBin, wCall, wCons, wNil, wTup, lst_new, wAttrX, blt_len, blt_int, blt_isi, blt_list, blt_tuple, blt_repr, blt_all, blt_any, blt_str, List.map_cons, List.map_nil, List.replicate, List.cons_append, List.nil_append, List.getElem?_cons_succ, List.getElem?_cons_zero, List.set_cons_succ, List.set_cons_zero, Option.some.injEq, exists_eq_left', fin_val, Rs.val.injEq, D.bl.injEq, Bool.not_true, Bool.not_false, Bool.false_eq_true, if_false, if_true, true_and, and_true, wipeD]
      exact q
    · simp only [Bool.false_eq_true, if_false]
      refine hf _ _ ⟨rnd steps L, _, _, _, rfl, rfl, rnd_ok e3, Nat.le_trans rnd_le e4, ?_⟩
      rw [show ss.length - k = (ss.length - (k + 1)) + 1 by omega, itr] at e5
      exact e5
end
end Mk22
namespace Mk22
open PySem PySem.Spec Mi
def Er.d : Er → D
  | .name x => .lst [.str "name", .str x]
  | .twice x => .lst [.str "twice", .str x]
  | .unknown x => .lst [.str "unknown", .str x]
  | .frame x => .lst [.str "frame", .str x]
  | .round l => .lst [.str "round", .tup (l.map .str)]
def dueD : Option Er → D
  | some e => e.d
  | none => .non
theorem ftT_step {L : T2} {k : Nat} (hk : k < L.length) : ftT (L.take k) (L.drop k) = if L[k].2 ∉ (["on", "back"] : List Str) ∨ L[k] ∈ L.take k then some L[k].1 else ftT (L.take (k + 1)) (L.drop (k + 1)) := by
  rw [List.drop_eq_getElem_cons hk, ftT, List.take_add_one, List.getElem?_eq_getElem hk]
  rfl
theorem head_lookup {ls : T3} {x : Str} : ∀ {e : Str × Str}, ls.lookup x = some e → ∃ p r, ls.filter (fun p => decide (p.1 = x)) = p :: r ∧ p.2 = e := by
  induction ls with
  | nil => intro e h; cases h
  | cons p l ih =>
    intro e h
    obtain ⟨y, z⟩ := p
    rw [List.lookup_cons] at h
    cases q : x == y with
    | true =>
      rw [q] at h
      cases h
      have : y = x := (eq_of_beq q).symm
      exact ⟨_, _, List.filter_cons_of_pos (by simp [this]), rfl⟩
    | false =>
      rw [q] at h
      have : ¬ y = x := fun h => by rw [h, beq_self_eq_true] at q; cases q
      rw [List.filter_cons_of_neg (by simp [this])]
      exact ih h
section
variable {n : Nat} {cm : CM} {bx : Bx} {Q : VQ} {X : XQ} {b : Bool} {ss : List Str} {ls : T3} {ts : T2}
theorem due_ok {ds dl dt : D} (I : In ss ls ts) (es : dr bx ds = some (.lst (ss.map .str))) (el : dr bx dl = some (.lst (ls.map d3))) (et : dr bx dt = some (.lst (ts.map d2))) (h : Q (dueD (due ss ls ts)) bx) : runM 3 12 (t24 (cmAt S (n + 1))) [ds, dl, dt] bx Q X := by
  refine ⟨rfl, ?_⟩
  unfold t24
  have n1 := I.ns
  have n2 := I.nl
  have n3 := I.nt
  have es' : Sq bx ds (ss.map .str) := .inl es
  have el' : Sq bx dl (ls.map d3) := .inl el
  have et' : Sq bx dt (ts.map d2) := .inl et
  simp only [wsSeq, wsIf, wtB, wtNot, wtAnd, wtOr, wTru, wNot, wAnd, wOr, wIf, wOp2, wSlot, wC, wsRet, wsRetN, wsSkip, wsAsg, wsExpr, wgName, wBin, wCall, wCons, wNil, wTup, lst_new, wAttrX, blt_len, blt_int, blt_isi, blt_list, blt_tuple, blt_repr, blt_all, blt_any, blt_str, List.map_cons, List.map_nil, List.replicate, List.cons_append, List.nil_append, List.getElem?_cons_succ, List.getElem?_cons_zero, List.set_cons_succ, List.set_cons_zero, Option.some.injEq, exists_eq_left', fin_val, Rs.val.injEq, D.bl.injEq, Bool.not_true, Bool.not_false, Bool.false_eq_true, if_false, if_true, true_and, and_true, callJ_at (c21 n), callJ_at (c22 n), callJ_at (c23 n), wsFor]
  refine lc_all (l := ls) (g := d3) (f := fun p => .str p.1) (cond := cnd dl (ls.map d3)) (fun Qi q => ⟨_, rfl, _, el'.it, q⟩) (fun m d hm => (el'.le (leB_up hm)).cd) (by rw [sizeLine_eq]; omega) (fun p hp => ⟨_, rfl, fun m e hm Qe X q => ?_⟩) ?_
  · simp only [wsSeq, wsIf, wtB, wtNot, wtAnd, wtOr, wTru, wNot, wAnd, wOr, wIf, wOp2, wSlot, wC, wsRet, wsRetN, wsSkip, wsAsg, wsExpr, wgName, wBin, wCall, wCons, wNil, wTup, lst_new, wAttrX, blt_len, blt_int, blt_isi, blt_list, blt_tuple, blt_repr, blt_all, blt_any, blt_str, List.map_cons, List.map_nil, List.replicate, List.cons_append, List.nil_append, List.getElem?_cons_succ, List.getElem?_cons_zero, List.set_cons_succ, List.set_cons_zero, Option.some.injEq, exists_eq_left', fin_val, Rs.val.injEq, D.bl.injEq, Bool.not_true, Bool.not_false, Bool.false_eq_true, if_false, if_true, true_and, and_true, wipeD, d3]
    exact ⟨_, ix_tup (k := 0) rfl, q⟩
  simp only [wsSeq, wsIf, wtB, wtNot, wtAnd, wtOr, wTru, wNot, wAnd, wOr, wIf, wOp2, wSlot, wC, wsRet, wsRetN, wsSkip, wsAsg, wsExpr, wgName, wBin, wCall, wCons, wNil, wTup, lst_new, wAttrX, blt_len, blt_int, blt_isi, blt_list, blt_tuple, blt_repr, blt_all, blt_any, blt_str, List.map_cons, List.map_nil, List.replicate, List.cons_append, List.nil_append, List.getElem?_cons_succ, List.getElem?_cons_zero, List.set_cons_succ, List.set_cons_zero, Option.some.injEq, exists_eq_left', fin_val, Rs.val.injEq, D.bl.injEq, Bool.not_true, Bool.not_false, Bool.false_eq_true, if_false, if_true, true_and, and_true]
  rw [show (ls.map fun p => D.str p.1) = (ls.map (·.1)).map .str by simp]
  generalize hns : ls.map (·.1) = ns
  have hN : ∀ x ∈ ns, okS x := fun x hx => by
    subst hns
    obtain ⟨p, hp, rfl⟩ := List.mem_map.mp hx
    exact (I.l p hp).1
  have nN : ns.length ≤ 300 := by subst hns; rw [List.length_map]; exact n2
  have hW : ∀ x ∈ ss ++ ns, okS x := fun x hx => by
    rcases List.mem_append.mp hx with hx | hx
    · exact I.s x hx
    · exact hN x hx
  -- the names are words
  simp only [wiAny, wsSeq, wsIf, wtB, wtNot, wtAnd, wtOr, wTru, wNot, wAnd, wOr, wIf, wOp2, wSlot, wC, wsRet, wsRetN, wsSkip, wsAsg, wsExpr, wgName, wBin, wCall, wCons, wNil, wTup, lst_new, wAttrX, blt_len, blt_int, blt_isi, blt_list, blt_tuple, blt_repr, blt_all, blt_any, blt_str, List.map_cons, List.map_nil, List.replicate, List.cons_append, List.nil_append, List.getElem?_cons_succ, List.getElem?_cons_zero, List.set_cons_succ, List.set_cons_zero, Option.some.injEq, exists_eq_left', fin_val, Rs.val.injEq, D.bl.injEq, Bool.not_true, Bool.not_false, Bool.false_eq_true, if_false, if_true, true_and, and_true]
  rw [add_at es rfl (by rw [List.length_map, List.length_map, sizeLine_eq]; omega), ← List.map_append]
  refine ⟨_, rfl, ?_⟩
  refine for_each (G := D.str) (P := fun as sl bx' => bx' = bx ∧ (∀ x ∈ as, okS x) ∧ (∃ x4, sl = [some ds, some dl, some dt, some (.lst (ns.map .str)), x4, none, none, none, none, none, none, none]) ∧ as.find? (fun x => !isW x) = (ss ++ ns).find? fun x => !isW x) ?_ ?_ _ _ _ ⟨rfl, hW, ⟨_, rfl⟩, rfl⟩
  rotate_left
  · rintro a as sl bx' ⟨rfl, ho, ⟨x4, rfl⟩, hf⟩
    refine ⟨trivial, fun f hk => ?_⟩
    simp only [wsSeq, wsIf, wtB, wtNot, wtAnd, wtOr, wTru, wNot, wAnd, wOr, wIf, wOp2, wSlot, wC, wsRet, wsRetN, wsSkip, wsAsg, wsExpr, wgName, wBin, wCall, wCons, wNil, wTup, lst_new, wAttrX, blt_len, blt_int, blt_isi, blt_list, blt_tuple, blt_repr, blt_all, blt_any, blt_str, List.map_cons, List.map_nil, List.replicate, List.cons_append, List.nil_append, List.getElem?_cons_succ, List.getElem?_cons_zero, List.set_cons_succ, List.set_cons_zero, Option.some.injEq, exists_eq_left', fin_val, Rs.val.injEq, D.bl.injEq, Bool.not_true, Bool.not_false, Bool.false_eq_true, if_false, if_true, true_and, and_true]
    refine lword_ok (ho a List.mem_cons_self) ?_
    simp only [dTru, Option.some.injEq, exists_eq_left']
    rw [List.find?_cons] at hf
    cases hw : isW a with
    | true =>
      simp only [hw, Bool.not_true, Bool.false_eq_true, if_false] at hf ⊢
      exact hk _ _ ⟨rfl, fun x hx => ho x (List.mem_cons_of_mem _ hx), ⟨_, rfl⟩, hf⟩
    | false =>
      simp only [hw, Bool.not_false, if_true] at hf ⊢
      simp only [wsSeq, wsIf, wtB, wtNot, wtAnd, wtOr, wTru, wNot, wAnd, wOr, wIf, wOp2, wSlot, wC, wsRet, wsRetN, wsSkip, wsAsg, wsExpr, wgName, wBin, wCall, wCons, wNil, wTup, lst_new, wAttrX, blt_len, blt_int, blt_isi, blt_list, blt_tuple, blt_repr, blt_all, blt_any, blt_str, List.map_cons, List.map_nil, List.replicate, List.cons_append, List.nil_append, List.getElem?_cons_succ, List.getElem?_cons_zero, List.set_cons_succ, List.set_cons_zero, Option.some.injEq, exists_eq_left', fin_val, Rs.val.injEq, D.bl.injEq, Bool.not_true, Bool.not_false, Bool.false_eq_true, if_false, if_true, true_and, and_true, List.length_cons, List.length_nil]
      refine ⟨by rw [sizeLine_eq]; omega, _, LeB.refl _, ?_⟩
      unfold due lookW at h
      rw [hns, ← hf] at h
      exact h
  rintro sl bx' ⟨rfl, -, ⟨x4, rfl⟩, hf⟩
  refine ⟨trivial, ?_⟩
  rw [List.find?_nil] at hf
  -- none is told twice
  simp only [wsSeq, wsIf, wtB, wtNot, wtAnd, wtOr, wTru, wNot, wAnd, wOr, wIf, wOp2, wSlot, wC, wsRet, wsRetN, wsSkip, wsAsg, wsExpr, wgName, wBin, wCall, wCons, wNil, wTup, lst_new, wAttrX, blt_len, blt_int, blt_isi, blt_list, blt_tuple, blt_repr, blt_all, blt_any, blt_str, List.map_cons, List.map_nil, List.replicate, List.cons_append, List.nil_append, List.getElem?_cons_succ, List.getElem?_cons_zero, List.set_cons_succ, List.set_cons_zero, Option.some.injEq, exists_eq_left', fin_val, Rs.val.injEq, D.bl.injEq, Bool.not_true, Bool.not_false, Bool.false_eq_true, if_false, if_true, true_and, and_true, wsFor, wiAny, List.length_cons, List.length_nil]
  refine ⟨by rw [sizeLine_eq]; omega, ?_⟩
  refine ⟨_, rfl, ?_⟩
  simp only [forW]
  refine ⟨trivial, ?_⟩
  simp only [wsSeq, wsIf, wtB, wtNot, wtAnd, wtOr, wTru, wNot, wAnd, wOr, wIf, wOp2, wSlot, wC, wsRet, wsRetN, wsSkip, wsAsg, wsExpr, wgName, wBin, wCall, wCons, wNil, wTup, lst_new, wAttrX, blt_len, blt_int, blt_isi, blt_list, blt_tuple, blt_repr, blt_all, blt_any, blt_str, List.map_cons, List.map_nil, List.replicate, List.cons_append, List.nil_append, List.getElem?_cons_succ, List.getElem?_cons_zero, List.set_cons_succ, List.set_cons_zero, Option.some.injEq, exists_eq_left', fin_val, Rs.val.injEq, D.bl.injEq, Bool.not_true, Bool.not_false, Bool.false_eq_true, if_false, if_true, true_and, and_true]
  refine twice_ok I.s (by omega) es ?_
  simp only [isnot_non, D.bl.injEq, exists_eq_left']
  cases w1 : twi [] ss with
  | some x =>
    simp only [orNon, isNon, Bool.not_false, if_true]
    refine twice_ok I.s (by omega) es ?_
    rw [w1]
    simp only [orNon, List.length_cons, List.length_nil]
    refine ⟨by rw [sizeLine_eq]; omega, _, LeB.refl _, ?_⟩
    unfold due lookW at h
    rw [hns, ← hf, w1] at h
    exact h
  | none =>
  simp only [orNon, isNon, Bool.not_true, Bool.false_eq_true, if_false]
  refine ⟨trivial, ?_⟩
  refine twice_ok hN (by omega) rfl ?_
  cases w2 : twi [] ns with
  | some x =>
    simp only [orNon, isNon, Bool.not_false, if_true]
    refine twice_ok hN (by omega) rfl ?_
    rw [w2]
    simp only [orNon, List.length_cons, List.length_nil]
    refine ⟨by rw [sizeLine_eq]; omega, _, LeB.refl _, ?_⟩
    unfold due lookW at h
    rw [hns, ← hf, w1, w2] at h
    exact h
  | none =>
  simp only [orNon, isNon, Bool.not_true, Bool.false_eq_true, if_false]
  refine ⟨trivial, ?_⟩
  have e1 : lookW ss ns = none := by unfold lookW; rw [← hf, w1, w2]; rfl
  unfold due at h
  rw [hns, e1] at h
  simp only [orE] at h
  simp only [wsSeq, wsIf, wtB, wtNot, wtAnd, wtOr, wTru, wNot, wAnd, wOr, wIf, wOp2, wSlot, wC, wsRet, wsRetN, wsSkip, wsAsg, wsExpr, wgName, wBin, wCall, wCons, wNil, wTup, lst_new, wAttrX, blt_len, blt_int, blt_isi, blt_list, blt_tuple, blt_repr, blt_all, blt_any, blt_str, List.map_cons, List.map_nil, List.replicate, List.cons_append, List.nil_append, List.getElem?_cons_succ, List.getElem?_cons_zero, List.set_cons_succ, List.set_cons_zero, Option.some.injEq, exists_eq_left', fin_val, Rs.val.injEq, D.bl.injEq, Bool.not_true, Bool.not_false, Bool.false_eq_true, if_false, if_true, true_and, and_true, wiAny, wsFor]
  refine ⟨_, el'.it, ?_⟩
  -- the ends are sorts
  refine for_each (G := d3) (P := fun as sl b => b = bx' ∧ (∀ x ∈ as, okS x.2.1 ∧ okS x.2.2) ∧ (∃ x4 x6, sl = [some ds, some dl, some dt, some (.lst (ns.map .str)), x4, some (.lst (ns.map .str)), x6, none, none, none, none, none]) ∧ feE ss as = feE ss ls) ?_ ?_ _ _ _ ⟨rfl, fun x hx => (I.l x hx).2, ⟨_, _, rfl⟩, rfl⟩
  rotate_left
  · rintro a as sl bx' ⟨rfl, ho, ⟨x4, x6, rfl⟩, hf⟩
    refine ⟨el'.cd, fun f hk => ?_⟩
    have oa := ho a List.mem_cons_self
    simp only [wsSeq, wsIf, wtB, wtNot, wtAnd, wtOr, wTru, wNot, wAnd, wOr, wIf, wOp2, wSlot, wC, wsRet, wsRetN, wsSkip, wsAsg, wsExpr, wgName, wBin, wCall, wCons, wNil, wTup, lst_new, wAttrX, blt_len, blt_int, blt_isi, blt_list, blt_tuple, blt_repr, blt_all, blt_any, blt_str, List.map_cons, List.map_nil, List.replicate, List.cons_append, List.nil_append, List.getElem?_cons_succ, List.getElem?_cons_zero, List.set_cons_succ, List.set_cons_zero, Option.some.injEq, exists_eq_left', fin_val, Rs.val.injEq, D.bl.injEq, Bool.not_true, Bool.not_false, Bool.false_eq_true, if_false, if_true, true_and, and_true, wiAny, wsFor, d3, wSl, woSome, woNone]
    refine ⟨_, rfl, _, sl_tdrop 1, ?_⟩
    simp only [fin_val, List.drop_succ_cons, List.drop_zero]
    refine ⟨_, rfl, ?_⟩
    simp only [forW, wsSeq, wsIf, wtB, wtNot, wtAnd, wtOr, wTru, wNot, wAnd, wOr, wIf, wOp2, wSlot, wC, wsRet, wsRetN, wsSkip, wsAsg, wsExpr, wgName, wBin, wCall, wCons, wNil, wTup, lst_new, wAttrX, blt_len, blt_int, blt_isi, blt_list, blt_tuple, blt_repr, blt_all, blt_any, blt_str, List.map_cons, List.map_nil, List.replicate, List.cons_append, List.nil_append, List.getElem?_cons_succ, List.getElem?_cons_zero, List.set_cons_succ, List.set_cons_zero, Option.some.injEq, exists_eq_left', fin_val, Rs.val.injEq, D.bl.injEq, Bool.not_true, Bool.not_false, Bool.false_eq_true, if_false, if_true, true_and, and_true]
    refine ⟨trivial, ?_⟩
    rw [notin_lst oa.1.pl es I.strs]
    simp only [mem_str, D.bl.injEq, exists_eq_left']
    rw [feE] at hf
    by_cases m1 : a.2.1 ∈ ss
    · simp only [m1, not_true_eq_false, if_false, decide_true, Bool.not_true, Bool.false_eq_true] at hf ⊢
      refine ⟨trivial, ?_⟩
      rw [notin_lst oa.2.pl es I.strs]
      simp only [mem_str, D.bl.injEq, exists_eq_left']
      by_cases m2 : a.2.2 ∈ ss
      · simp only [m2, not_true_eq_false, if_false, decide_true, Bool.not_true, Bool.false_eq_true] at hf ⊢
        refine ⟨trivial, ?_⟩
        exact hk _ _ ⟨rfl, fun x hx => ho x (List.mem_cons_of_mem _ hx), ⟨_, _, rfl⟩, hf⟩
      · simp only [m2, not_false_eq_true, if_true, decide_false, Bool.not_false] at hf ⊢
        simp only [wsSeq, wsIf, wtB, wtNot, wtAnd, wtOr, wTru, wNot, wAnd, wOr, wIf, wOp2, wSlot, wC, wsRet, wsRetN, wsSkip, wsAsg, wsExpr, wgName, wBin, wCall, wCons, wNil, wTup, lst_new, wAttrX, blt_len, blt_int, blt_isi, blt_list, blt_tuple, blt_repr, blt_all, blt_any, blt_str, List.map_cons, List.map_nil, List.replicate, List.cons_append, List.nil_append, List.getElem?_cons_succ, List.getElem?_cons_zero, List.set_cons_succ, List.set_cons_zero, Option.some.injEq, exists_eq_left', fin_val, Rs.val.injEq, D.bl.injEq, Bool.not_true, Bool.not_false, Bool.false_eq_true, if_false, if_true, true_and, and_true, List.length_cons, List.length_nil]
        refine ⟨by rw [sizeLine_eq]; omega, _, LeB.refl _, ?_⟩
        unfold lookE at h
        rw [← hf] at h
        exact h
    · simp only [m1, not_false_eq_true, if_true, decide_false, Bool.not_false] at hf ⊢
      simp only [wsSeq, wsIf, wtB, wtNot, wtAnd, wtOr, wTru, wNot, wAnd, wOr, wIf, wOp2, wSlot, wC, wsRet, wsRetN, wsSkip, wsAsg, wsExpr, wgName, wBin, wCall, wCons, wNil, wTup, lst_new, wAttrX, blt_len, blt_int, blt_isi, blt_list, blt_tuple, blt_repr, blt_all, blt_any, blt_str, List.map_cons, List.map_nil, List.replicate, List.cons_append, List.nil_append, List.getElem?_cons_succ, List.getElem?_cons_zero, List.set_cons_succ, List.set_cons_zero, Option.some.injEq, exists_eq_left', fin_val, Rs.val.injEq, D.bl.injEq, Bool.not_true, Bool.not_false, Bool.false_eq_true, if_false, if_true, true_and, and_true, List.length_cons, List.length_nil]
      refine ⟨by rw [sizeLine_eq]; omega, _, LeB.refl _, ?_⟩
      unfold lookE at h
      rw [← hf] at h
      exact h
  rintro sl bx' ⟨rfl, -, ⟨x4, x6, rfl⟩, hf⟩
  refine ⟨el'.cd, ?_⟩
  rw [feE] at hf
  simp only [wsSeq, wsIf, wtB, wtNot, wtAnd, wtOr, wTru, wNot, wAnd, wOr, wIf, wOp2, wSlot, wC, wsRet, wsRetN, wsSkip, wsAsg, wsExpr, wgName, wBin, wCall, wCons, wNil, wTup, lst_new, wAttrX, blt_len, blt_int, blt_isi, blt_list, blt_tuple, blt_repr, blt_all, blt_any, blt_str, List.map_cons, List.map_nil, List.replicate, List.cons_append, List.nil_append, List.getElem?_cons_succ, List.getElem?_cons_zero, List.set_cons_succ, List.set_cons_zero, Option.some.injEq, exists_eq_left', fin_val, Rs.val.injEq, D.bl.injEq, Bool.not_true, Bool.not_false, Bool.false_eq_true, if_false, if_true, true_and, and_true, wiAny, wsFor]
  refine ⟨_, et'.it, ?_⟩
  -- the totals are told letters
  refine for_each (G := d2) (P := fun as sl b => b = bx' ∧ (∀ x ∈ as, okS x.1 ∧ okS x.2) ∧ (∃ x4 x7, sl = [some ds, some dl, some dt, some (.lst (ns.map .str)), x4, some (.lst (ns.map .str)), x6, x7, none, none, none, none]) ∧ ftE ns as = ftE ns ts) ?_ ?_ _ _ _ ⟨rfl, I.t, ⟨_, _, rfl⟩, rfl⟩
  rotate_left
  · rintro a as sl bx' ⟨rfl, ho, ⟨x4, x7, rfl⟩, hg⟩
    refine ⟨et'.cd, fun f hk => ?_⟩
    have oa := ho a List.mem_cons_self
    simp only [d2]
    refine tg2 ?_
    simp only [wsSeq, wsIf, wtB, wtNot, wtAnd, wtOr, wTru, wNot, wAnd, wOr, wIf, wOp2, wSlot, wC, wsRet, wsRetN, wsSkip, wsAsg, wsExpr, wgName, wBin, wCall, wCons, wNil, wTup, lst_new, wAttrX, blt_len, blt_int, blt_isi, blt_list, blt_tuple, blt_repr, blt_all, blt_any, blt_str, List.map_cons, List.map_nil, List.replicate, List.cons_append, List.nil_append, List.getElem?_cons_succ, List.getElem?_cons_zero, List.set_cons_succ, List.set_cons_zero, Option.some.injEq, exists_eq_left', fin_val, Rs.val.injEq, D.bl.injEq, Bool.not_true, Bool.not_false, Bool.false_eq_true, if_false, if_true, true_and, and_true]
    rw [notin_lst oa.1.pl rfl (strs39 hN)]
    simp only [mem_str, D.bl.injEq, exists_eq_left']
    rw [ftE] at hg
    by_cases m1 : a.1 ∈ ns
    · simp only [m1, not_true_eq_false, if_false, decide_true, Bool.not_true, Bool.false_eq_true] at hg ⊢
      exact hk _ _ ⟨rfl, fun x hx => ho x (List.mem_cons_of_mem _ hx), ⟨_, _, rfl⟩, hg⟩
    · simp only [m1, not_false_eq_true, if_true, decide_false, Bool.not_false] at hg ⊢
      simp only [wsSeq, wsIf, wtB, wtNot, wtAnd, wtOr, wTru, wNot, wAnd, wOr, wIf, wOp2, wSlot, wC, wsRet, wsRetN, wsSkip, wsAsg, wsExpr, wgName, wBin, wCall, wCons, wNil, wTup, lst_new, wAttrX, blt_len, blt_int, blt_isi, blt_list, blt_tuple, blt_repr, blt_all, blt_any, blt_str, List.map_cons, List.map_nil, List.replicate, List.cons_append, List.nil_append, List.getElem?_cons_succ, List.getElem?_cons_zero, List.set_cons_succ, List.set_cons_zero, Option.some.injEq, exists_eq_left', fin_val, Rs.val.injEq, D.bl.injEq, Bool.not_true, Bool.not_false, Bool.false_eq_true, if_false, if_true, true_and, and_true, List.length_cons, List.length_nil]
      refine ⟨by rw [sizeLine_eq]; omega, _, LeB.refl _, ?_⟩
      unfold lookE at h
      rw [← hf, hns, ← hg] at h
      exact h
  rintro sl bx'' ⟨rfl, -, ⟨x4, x7, rfl⟩, hg⟩
  refine ⟨et'.cd, ?_⟩
  rw [ftE] at hg
  have e2 : lookE ss ls ts = none := by unfold lookE; rw [← hf, hns, ← hg]; rfl
  rw [e2] at h
  change Q (dueD (orE (oEr .frame (ftT [] ts) none) (rdE (rnds (stepsOf ls ts) ss)))) bx'' at h
  simp only [wsSeq, wsIf, wtB, wtNot, wtAnd, wtOr, wTru, wNot, wAnd, wOr, wIf, wOp2, wSlot, wC, wsRet, wsRetN, wsSkip, wsAsg, wsExpr, wgName, wBin, wCall, wCons, wNil, wTup, lst_new, wAttrX, blt_len, blt_int, blt_isi, blt_list, blt_tuple, blt_repr, blt_all, blt_any, blt_str, List.map_cons, List.map_nil, List.replicate, List.cons_append, List.nil_append, List.getElem?_cons_succ, List.getElem?_cons_zero, List.set_cons_succ, List.set_cons_zero, Option.some.injEq, exists_eq_left', fin_val, Rs.val.injEq, D.bl.injEq, Bool.not_true, Bool.not_false, Bool.false_eq_true, if_false, if_true, true_and, and_true, wsFor]
  refine iRng (j := ts.length) (by omega) (fun Q X q => ?_) ?_
  · simp only [wsSeq, wsIf, wtB, wtNot, wtAnd, wtOr, wTru, wNot, wAnd, wOr, wIf, wOp2, wSlot, wC, wsRet, wsRetN, wsSkip, wsAsg, wsExpr, wgName, wBin, wCall, wCons, wNil, wTup, lst_new, wAttrX, blt_len, blt_int, blt_isi, blt_list, blt_tuple, blt_repr, blt_all, blt_any, blt_str, List.map_cons, List.map_nil, List.replicate, List.cons_append, List.nil_append, List.getElem?_cons_succ, List.getElem?_cons_zero, List.set_cons_succ, List.set_cons_zero, Option.some.injEq, exists_eq_left', fin_val, Rs.val.injEq, D.bl.injEq, Bool.not_true, Bool.not_false, Bool.false_eq_true, if_false, if_true, true_and, and_true, len_at et, List.length_map]
    exact q
  -- each total is told once
  refine for_rng ts.length (fun k sl b => b = bx'' ∧ (∃ x8, sl = [some ds, some dl, some dt, some (.lst (ns.map .str)), x4, some (.lst (ns.map .str)), x6, x7, x8, none, none, none]) ∧ ftT (ts.take k) (ts.drop k) = ftT [] ts) ?_ ?_ _ _ ⟨rfl, ⟨_, rfl⟩, rfl⟩
  rotate_left
  · rintro k sl bx' hk ⟨rfl, ⟨x8, rfl⟩, hq⟩ f hc
    have ek : (ts.map d2)[k]? = some (d2 ts[k]) := by simp [hk]
    have ho := I.t ts[k] (List.getElem_mem hk)
    simp only [wsSeq, wsIf, wtB, wtNot, wtAnd, wtOr, wTru, wNot, wAnd, wOr, wIf, wOp2, wSlot, wC, wsRet, wsRetN, wsSkip, wsAsg, wsExpr, wgName, wBin, wCall, wCons, wNil, wTup, lst_new, wAttrX, blt_len, blt_int, blt_isi, blt_list, blt_tuple, blt_repr, blt_all, blt_any, blt_str, List.map_cons, List.map_nil, List.replicate, List.cons_append, List.nil_append, List.getElem?_cons_succ, List.getElem?_cons_zero, List.set_cons_succ, List.set_cons_zero, Option.some.injEq, exists_eq_left', fin_val, Rs.val.injEq, D.bl.injEq, Bool.not_true, Bool.not_false, Bool.false_eq_true, if_false, if_true, true_and, and_true, wSl, woSome, woNone]
    refine ⟨_, ix_lst et ek, ?_⟩
    simp only [fin_val, d2, List.length_cons, List.length_nil]
    refine ⟨_, ix_tup (k := 1) rfl, ?_⟩
    simp only [fin_val]
    refine ⟨by rw [sizeLine_eq]; omega, ?_⟩
    rw [notin_lst (es := [.str "on", .str "back"]) ho.2.pl rfl (fun y hy => by
      simp only [List.mem_cons, List.not_mem_nil, or_false] at hy
      rcases hy with rfl | rfl <;> exact .str (by decide +kernel))]
    have hm : D.str ts[k].2 ∈ ([.str "on", .str "back"] : List D) ↔ ts[k].2 ∈ (["on", "back"] : List Str) := by simp
    simp only [hm, D.bl.injEq, exists_eq_left']
    rw [ftT_step hk] at hq
    by_cases m1 : ts[k].2 ∈ (["on", "back"] : List Str)
    · simp only [m1, decide_true, Bool.not_true, Bool.false_eq_true, if_false]
      refine ⟨_, ix_lst et ek, ?_⟩
      simp only [fin_val]
      refine ⟨_, rfl, _, sl_take et k, ?_⟩
      simp only [fin_new]
      rw [← List.map_take, in_lst (es := (ts.take k).map d2) (pl2 ho) rfl (fun y hy => by
        obtain ⟨t, ht, rfl⟩ := List.mem_map.mp hy
        exact pl2 (I.t t (List.mem_of_mem_take ht)))]
      simp only [mem_d2, D.bl.injEq, exists_eq_left']
      by_cases m2 : ts[k] ∈ ts.take k
      · simp only [m1, m2, not_true_eq_false, or_true, if_true, decide_true] at hq ⊢
        refine ⟨_, ix_lst et ek, ?_⟩
        simp only [fin_val, d2, List.length_cons, List.length_nil]
        refine ⟨_, ix_tup (k := 0) rfl, ?_⟩
        simp only [fin_val]
        refine ⟨by rw [sizeLine_eq]; omega, _, LeB.refl _, ?_⟩
        rw [← hq] at h
        exact h
      · simp only [m1, m2, not_true_eq_false, or_false, if_false, decide_false, Bool.false_eq_true] at hq ⊢
        exact hc _ _ ⟨rfl, ⟨_, rfl⟩, hq⟩
    · simp only [m1, not_false_eq_true, true_or, if_true, decide_false, Bool.not_false] at hq ⊢
      refine ⟨_, ix_lst et ek, ?_⟩
      simp only [fin_val, d2, List.length_cons, List.length_nil]
      refine ⟨_, ix_tup (k := 0) rfl, ?_⟩
      simp only [fin_val]
      refine ⟨by rw [sizeLine_eq]; omega, _, LeB.refl _, ?_⟩
      rw [← hq] at h
      exact h
  rintro sl bx' ⟨rfl, ⟨x8, rfl⟩, hq⟩
  rw [List.drop_of_length_le (Nat.le_refl _), ftT] at hq
  rw [← hq] at h
  change Q (dueD (rdE (rnds (stepsOf ls ts) ss))) bx' at h
  simp only [wsSeq, wsIf, wtB, wtNot, wtAnd, wtOr, wTru, wNot, wAnd, wOr, wIf, wOp2, wSlot, wC, wsRet, wsRetN, wsSkip, wsAsg, wsExpr, wgName, wBin, wCall, wCons, wNil, wTup, lst_new, wAttrX, blt_len, blt_int, blt_isi, blt_list, blt_tuple, blt_repr, blt_all, blt_any, blt_str, List.map_cons, List.map_nil, List.replicate, List.cons_append, List.nil_append, List.getElem?_cons_succ, List.getElem?_cons_zero, List.set_cons_succ, List.set_cons_zero, Option.some.injEq, exists_eq_left', fin_val, Rs.val.injEq, D.bl.injEq, Bool.not_true, Bool.not_false, Bool.false_eq_true, if_false, if_true, true_and, and_true, lst_box]
  refine ⟨Nat.zero_le _, fun n9 h9 => ?_⟩
  have hmem := ftE_mem (hg.symm)
  have hst : ∀ as : T2, (∀ t ∈ as, t ∈ ts) → ok2 (stepsOf ls as) := fun as ha p hp => by
    obtain ⟨t, ht, rfl⟩ := List.mem_map.mp hp
    exact ok_stp (ok_ends I.l (by rw [hns]; exact hmem t (ha t ht)))
  have et9 : ∀ d, Sq (upb bx' n9 d) dt (ts.map d2) := fun d => et'.le (leB_up h9)
  have el9 : ∀ d, Sq (upb bx' n9 d) dl (ls.map d3) := fun d => el'.le (leB_up h9)
  simp only [wsSeq, wsIf, wtB, wtNot, wtAnd, wtOr, wTru, wNot, wAnd, wOr, wIf, wOp2, wSlot, wC, wsRet, wsRetN, wsSkip, wsAsg, wsExpr, wgName, wBin, wCall, wCons, wNil, wTup, lst_new, wAttrX, blt_len, blt_int, blt_isi, blt_list, blt_tuple, blt_repr, blt_all, blt_any, blt_str, List.map_cons, List.map_nil, List.replicate, List.cons_append, List.nil_append, List.getElem?_cons_succ, List.getElem?_cons_zero, List.set_cons_succ, List.set_cons_zero, Option.some.injEq, exists_eq_left', fin_val, Rs.val.injEq, D.bl.injEq, Bool.not_true, Bool.not_false, Bool.false_eq_true, if_false, if_true, true_and, and_true, wsFor, wiAny]
  refine ⟨_, (et9 _).it, ?_⟩
  refine for_each (G := d2) (P := fun as sl b => ∃ done x4 x6 x7 x10, ts = done ++ as ∧ b = upb bx' n9 (.lst ((stepsOf ls done).map d2)) ∧ sl = [some ds, some dl, some dt, some (.lst (ns.map .str)), x4, some (.lst (ns.map .str)), x6, x7, x8, some (.box n9), x10, none]) ?_ ?_ _ _ _ ⟨[], _, _, _, _, rfl, rfl, rfl⟩
  rotate_left
  · rintro a as sl b ⟨done, x4, x6, x7, x10, e3, rfl, rfl⟩
    refine ⟨(et9 _).cd, fun f hk => ?_⟩
    have ha : a ∈ ts := by rw [e3]; simp
    have oa := I.t a ha
    simp only [d2]
    refine tg2 ?_
    simp only [wsSeq, wsIf, wtB, wtNot, wtAnd, wtOr, wTru, wNot, wAnd, wOr, wIf, wOp2, wSlot, wC, wsRet, wsRetN, wsSkip, wsAsg, wsExpr, wgName, wBin, wCall, wCons, wNil, wTup, lst_new, wAttrX, blt_len, blt_int, blt_isi, blt_list, blt_tuple, blt_repr, blt_all, blt_any, blt_str, List.map_cons, List.map_nil, List.replicate, List.cons_append, List.nil_append, List.getElem?_cons_succ, List.getElem?_cons_zero, List.set_cons_succ, List.set_cons_zero, Option.some.injEq, exists_eq_left', fin_val, Rs.val.injEq, D.bl.injEq, Bool.not_true, Bool.not_false, Bool.false_eq_true, if_false, if_true, true_and, and_true]
    refine lc_at (l := ls) (g := d3) (f := fun p => d2 p.2) (p := fun p => decide (p.1 = a.1)) (cond := cnd dl (ls.map d3)) (fun Qi q => ⟨_, rfl, _, (el9 _).it, q⟩) (fun m d hm => ((el9 _).le (leB_up hm)).cd) (by rw [sizeLine_eq]; omega) (fun p hp => ⟨_, rfl, fun m e hm => ⟨fun Qt X q => ?_, fun _ Qe X q => ?_⟩⟩) ?_
    · simp only [wsSeq, wsIf, wtB, wtNot, wtAnd, wtOr, wTru, wNot, wAnd, wOr, wIf, wOp2, wSlot, wC, wsRet, wsRetN, wsSkip, wsAsg, wsExpr, wgName, wBin, wCall, wCons, wNil, wTup, lst_new, wAttrX, blt_len, blt_int, blt_isi, blt_list, blt_tuple, blt_repr, blt_all, blt_any, blt_str, List.map_cons, List.map_nil, List.replicate, List.cons_append, List.nil_append, List.getElem?_cons_succ, List.getElem?_cons_zero, List.set_cons_succ, List.set_cons_zero, Option.some.injEq, exists_eq_left', fin_val, Rs.val.injEq, D.bl.injEq, Bool.not_true, Bool.not_false, Bool.false_eq_true, if_false, if_true, true_and, and_true, wipeD, d3]
      refine ⟨_, ix_tup (k := 0) rfl, ?_⟩
      simp only [fin_val, eq_txt, D.bl.injEq, exists_eq_left']
      exact q
    · simp only [wsSeq, wsIf, wtB, wtNot, wtAnd, wtOr, wTru, wNot, wAnd, wOr, wIf, wOp2, wSlot, wC, wsRet, wsRetN, wsSkip, wsAsg, wsExpr, wgName, wBin, wCall, wCons, wNil, wTup, lst_new, wAttrX, blt_len, blt_int, blt_isi, blt_list, blt_tuple, blt_repr, blt_all, blt_any, blt_str, List.map_cons, List.map_nil, List.replicate, List.cons_append, List.nil_append, List.getElem?_cons_succ, List.getElem?_cons_zero, List.set_cons_succ, List.set_cons_zero, Option.some.injEq, exists_eq_left', fin_val, Rs.val.injEq, D.bl.injEq, Bool.not_true, Bool.not_false, Bool.false_eq_true, if_false, if_true, true_and, and_true, wipeD, d3, wSl, woSome, woNone]
      refine ⟨_, rfl, _, sl_tdrop 1, ?_⟩
      simp only [fin_val, List.drop_succ_cons, List.drop_zero]
      exact q
    · simp only [Bool.false_eq_true, if_false]
      obtain ⟨p, r, ef, ep⟩ := head_lookup (lookup_of_mem (by rw [hns]; exact hmem a ha))
      rw [ef]
      refine ⟨_, ix_lst (k := 0) (x := d2 p.2) rfl rfl, ?_⟩
      simp only [fin_val, ep, wBm, wsSeq, wsIf, wtB, wtNot, wtAnd, wtOr, wTru, wNot, wAnd, wOr, wIf, wOp2, wSlot, wC, wsRet, wsRetN, wsSkip, wsAsg, wsExpr, wgName, wBin, wCall, wCons, wNil, wTup, lst_new, wAttrX, blt_len, blt_int, blt_isi, blt_list, blt_tuple, blt_repr, blt_all, blt_any, blt_str, List.map_cons, List.map_nil, List.replicate, List.cons_append, List.nil_append, List.getElem?_cons_succ, List.getElem?_cons_zero, List.set_cons_succ, List.set_cons_zero, Option.some.injEq, exists_eq_left', fin_val, Rs.val.injEq, D.bl.injEq, Bool.not_true, Bool.not_false, Bool.false_eq_true, if_false, if_true, true_and, and_true, eq_txt, D.bl.injEq, exists_eq_left']
      refine ⟨by simp [isTy, dr, upb_at], ?_⟩
      have fin : ∀ e : Str × Str, e = stp (endsOf ls a.1) a.2 → cAppend [.box n9, d2 e] (upb bx' n9 (.lst ((stepsOf ls done).map d2))) (fun _ b => f [some ds, some dl, some dt, some (.lst (ns.map .str)), some (.str a.1), some (.lst (ns.map .str)), x6, some (.str a.2), x8, some (.box n9), some (d2 (endsOf ls a.1)), none] b) (fun x b => fgt (X x) b) := fun e he => by
        refine ⟨n9, _, _, rfl, upb_at, ?_, ?_⟩
        · have := congrArg List.length e3
          rw [List.length_append, List.length_cons] at this
          rw [List.length_map, stepsOf, List.length_map, sizeLine_eq]
          omega
        · rw [upb_upb]
          refine hk _ _ ⟨done ++ [a], _, _, _, _, by rw [e3]; simp, ?_, rfl⟩
          rw [he]
          simp [stepsOf]
      by_cases ew : a.2 = "on"
      · simp only [decide_eq_true ew, if_true]
        exact fin _ (by unfold stp; rw [if_pos ew])
      · simp only [decide_eq_false ew, Bool.false_eq_true, if_false]
        simp only [wRev, wsSeq, wsIf, wtB, wtNot, wtAnd, wtOr, wTru, wNot, wAnd, wOr, wIf, wOp2, wSlot, wC, wsRet, wsRetN, wsSkip, wsAsg, wsExpr, wgName, wBin, wCall, wCons, wNil, wTup, lst_new, wAttrX, blt_len, blt_int, blt_isi, blt_list, blt_tuple, blt_repr, blt_all, blt_any, blt_str, List.map_cons, List.map_nil, List.replicate, List.cons_append, List.nil_append, List.getElem?_cons_succ, List.getElem?_cons_zero, List.set_cons_succ, List.set_cons_zero, Option.some.injEq, exists_eq_left', fin_val, Rs.val.injEq, D.bl.injEq, Bool.not_true, Bool.not_false, Bool.false_eq_true, if_false, if_true, true_and, and_true, d2]
        refine ⟨_, rfl, ?_⟩
        exact fin ((endsOf ls a.1).2, (endsOf ls a.1).1) (by unfold stp; rw [if_neg ew])
  rintro sl b ⟨done, x4, x6, x7, x10, e3, rfl, rfl⟩
  refine ⟨(et9 _).cd, ?_⟩
  rw [List.append_nil] at e3
  subst e3
  simp only [wsSeq, wsIf, wtB, wtNot, wtAnd, wtOr, wTru, wNot, wAnd, wOr, wIf, wOp2, wSlot, wC, wsRet, wsRetN, wsSkip, wsAsg, wsExpr, wgName, wBin, wCall, wCons, wNil, wTup, lst_new, wAttrX, blt_len, blt_int, blt_isi, blt_list, blt_tuple, blt_repr, blt_all, blt_any, blt_str, List.map_cons, List.map_nil, List.replicate, List.cons_append, List.nil_append, List.getElem?_cons_succ, List.getElem?_cons_zero, List.set_cons_succ, List.set_cons_zero, Option.some.injEq, exists_eq_left', fin_val, Rs.val.injEq, D.bl.injEq, Bool.not_true, Bool.not_false, Bool.false_eq_true, if_false, if_true, true_and, and_true, wSlotF]
  refine ⟨n9, _, rfl, upb_at, ?_⟩
  rw [delb_upb h9]
  refine lround_ok I.s (hst _ fun _ h => h) (by omega) (by rw [stepsOf, List.length_map]; omega) ?_ es
  simp only [List.length_nil]
  refine ⟨Nat.zero_le _, ?_⟩
  have hrp : Pl 40 (.lst ((rnds (stepsOf ls ts) ss).map .str)) := strs39' (fun x hx => I.s x (itr_sub hx))
  rw [cmp_ne hrp (.lst (fun _ h => by cases h)) .rfl .rfl]
  cases e4 : rnds (stepsOf ls ts) ss with
  | nil =>
    rw [e4] at h
    simp only [List.map_nil, decide_true, Bool.not_true, D.bl.injEq, exists_eq_left', Bool.false_eq_true, if_false]
    exact ⟨_, LeB.refl _, h⟩
  | cons y l =>
    rw [e4] at h
    simp only [List.map_cons, D.lst.injEq, reduceCtorEq, decide_false, Bool.not_false, D.bl.injEq, exists_eq_left', if_true, tuple_at (show dr bx' (.lst (.str y :: l.map .str)) = some (.lst (.str y :: l.map .str)) from rfl), List.length_cons, List.length_nil]
    exact ⟨by rw [sizeLine_eq]; omega, _, LeB.refl _, h⟩
end
end Mk22
namespace Mk22
open PySem PySem.Spec Mi
theorem isub_all : ∀ c' ∈ ([2, 3, 4, 5, 6] : List Nat), ∀ c ∈ ([2, 3, 4, 5, 6] : List Nat), isubOf S c' c = some (decide (c' = c)) := by decide +kernel
theorem mk7 (n : Nat) : mkOf S (cmAt S (n + 1)) 7 = some (runM 4 11 (t6 (cmAt S n))) := c6 n
section
variable {m : Nat} {fs : List (Str × D)}
theorem h25_2 : hFld S f25.N f25.sc (some 3) m ⟨2, fs⟩ "error" "name" = wHld 3 m ⟨2, fs⟩ "name" := by kernel_rfl
theorem h25_3 : hFld S f25.N f25.sc (some 3) m ⟨3, fs⟩ "error" "name" = wHld 3 m ⟨3, fs⟩ "name" := by kernel_rfl
theorem h25_4 : hFld S f25.N f25.sc (some 3) m ⟨4, fs⟩ "error" "name" = wHld 3 m ⟨4, fs⟩ "name" := by kernel_rfl
theorem h25_6 : hFld S f25.N f25.sc (some 3) m ⟨6, fs⟩ "error" "name" = wHld 3 m ⟨6, fs⟩ "name" := by kernel_rfl
theorem h25_5 : hFld S f25.N f25.sc (some 3) m ⟨5, fs⟩ "error" "members" = wHld 3 m ⟨5, fs⟩ "members" := by kernel_rfl
theorem h27 : hFld S f27.N f27.sc (some 3) m ⟨6, fs⟩ "error" "name" = wHld 3 m ⟨6, fs⟩ "name" := by kernel_rfl
theorem h29 : hFld S f29.N f29.sc (some 4) m ⟨6, fs⟩ "error" "name" = wHld 4 m ⟨6, fs⟩ "name" := by kernel_rfl
end
section
variable {n : Nat} {cm : CM} {bx : Bx} {Q : VQ} {X : XQ} {b : Bool} {ss : List Str} {ls : T3} {ts : T2}
theorem make_ok {ds dl dt : D} {sl : Sl} {ma : WA} (I : In ss ls ts) (es : Sq bx ds (ss.map .str)) (el : Sq bx dl (ls.map d3)) (et : Sq bx dt (ts.map d2)) (hm : ∀ (Q : List D → Bx → Prop) (X : XQ), Q [ds, dl, dt] bx → ma sl bx Q X)
    (h : res (due ss ls ts) (Q (FR ss ls ts) bx) (fun x => X x bx)) : wMake false 7 (runM 4 11 (t6 (cmAt S (n + 2)))) ma sl bx Q X := by
  refine hm _ _ fun n0 hn => init_ok I es el et hn ?_
  cases e : due ss ls ts with
  | some e' => rw [e] at h; exact h
  | none =>
    rw [e] at h
    simp only [res] at h ⊢
    refine ⟨trivial, _, upb_at, ?_⟩
    rw [delb_upb hn]
    exact h
theorem told_ok {ds dl dt : D} (I : In ss ls ts) (es : Sq bx ds (ss.map .str)) (el : Sq bx dl (ls.map d3)) (et : Sq bx dt (ts.map d2)) (h : Q (match due ss ls ts with | some e => e.d | none => FR ss ls ts) bx) : runM 3 4 (t25 (cmAt S (n + 3))) [ds, dl, dt] bx Q X := by
  refine ⟨rfl, ?_⟩
  unfold t25
  simp only [wsSeq, wsTry, wsRet, makeJ_at (mk7 (n + 2)), List.map_cons, List.map_nil, List.replicate, List.cons_append, List.nil_append]
  refine make_ok I es el et (fun Q X q => ⟨_, rfl, _, rfl, _, rfl, q⟩) ?_
  cases e : due ss ls ts with
  | none =>
    rw [e] at h
    exact ⟨_, LeB.refl _, h⟩
  | some e' =>
    rw [e] at h
    simp only [res]
    have l2 : ∀ {d e : D}, [d, e].length ≤ sizeLine := fun {d e} => by rw [sizeLine_eq]; simp
    have t2 := isub_all 2 (by decide)
    have t3 := isub_all 3 (by decide)
    have t4 := isub_all 4 (by decide)
    have t5 := isub_all 5 (by decide)
    have t6 := isub_all 6 (by decide)
    cases e' with
    | name x =>
      simp only [Er.x]
      refine ⟨_, t2 2 (by decide), ?_⟩
      simp only [decide_true, if_true]
      intro m hm
      simp only [h25_2, wsSeq, wsRet, lst_new, wCons, wNil, wC, wHld, suEn, suSl, List.set_cons_succ, List.set_cons_zero, List.getElem?_cons_succ, List.getElem?_cons_zero, true_and]
      exact ⟨_, rfl, l2, _, LeB.refl _, h⟩
    | twice x =>
      simp only [Er.x]
      refine ⟨_, t3 2 (by decide), ?_⟩
      simp only [Nat.reduceEqDiff, decide_false, Bool.false_eq_true, if_false]
      refine ⟨_, t3 3 (by decide), ?_⟩
      simp only [decide_true, if_true]
      intro m hm
      simp only [h25_3, wsSeq, wsRet, lst_new, wCons, wNil, wC, wHld, suEn, suSl, List.set_cons_succ, List.set_cons_zero, List.getElem?_cons_succ, List.getElem?_cons_zero, true_and]
      exact ⟨_, rfl, l2, _, LeB.refl _, h⟩
    | unknown x =>
      simp only [Er.x]
      refine ⟨_, t6 2 (by decide), ?_⟩
      simp only [Nat.reduceEqDiff, decide_false, Bool.false_eq_true, if_false]
      refine ⟨_, t6 3 (by decide), ?_⟩
      simp only [Nat.reduceEqDiff, decide_false, Bool.false_eq_true, if_false]
      refine ⟨_, t6 6 (by decide), ?_⟩
      simp only [decide_true, if_true]
      intro m hm
      simp only [h25_6, wsSeq, wsRet, lst_new, wCons, wNil, wC, wHld, suEn, suSl, List.set_cons_succ, List.set_cons_zero, List.getElem?_cons_succ, List.getElem?_cons_zero, true_and]
      exact ⟨_, rfl, l2, _, LeB.refl _, h⟩
    | frame x =>
      simp only [Er.x]
      refine ⟨_, t4 2 (by decide), ?_⟩
      simp only [Nat.reduceEqDiff, decide_false, Bool.false_eq_true, if_false]
      refine ⟨_, t4 3 (by decide), ?_⟩
      simp only [Nat.reduceEqDiff, decide_false, Bool.false_eq_true, if_false]
      refine ⟨_, t4 6 (by decide), ?_⟩
      simp only [Nat.reduceEqDiff, decide_false, Bool.false_eq_true, if_false]
      refine ⟨_, t4 4 (by decide), ?_⟩
      simp only [decide_true, if_true]
      intro m hm
      simp only [h25_4, wsSeq, wsRet, lst_new, wCons, wNil, wC, wHld, suEn, suSl, List.set_cons_succ, List.set_cons_zero, List.getElem?_cons_succ, List.getElem?_cons_zero, true_and]
      exact ⟨_, rfl, l2, _, LeB.refl _, h⟩
    | round l =>
      simp only [Er.x]
      refine ⟨_, t5 2 (by decide), ?_⟩
      simp only [Nat.reduceEqDiff, decide_false, Bool.false_eq_true, if_false]
      refine ⟨_, t5 3 (by decide), ?_⟩
      simp only [Nat.reduceEqDiff, decide_false, Bool.false_eq_true, if_false]
      refine ⟨_, t5 6 (by decide), ?_⟩
      simp only [Nat.reduceEqDiff, decide_false, Bool.false_eq_true, if_false]
      refine ⟨_, t5 4 (by decide), ?_⟩
      simp only [Nat.reduceEqDiff, decide_false, Bool.false_eq_true, if_false]
      refine ⟨_, t5 5 (by decide), ?_⟩
      simp only [decide_true, if_true]
      intro m hm
      simp only [h25_5, wsSeq, wsRet, lst_new, wCons, wNil, wC, wHld, suEn, suSl, List.set_cons_succ, List.set_cons_zero, List.getElem?_cons_succ, List.getElem?_cons_zero, true_and]
      exact ⟨_, rfl, l2, _, LeB.refl _, h⟩
end
end Mk22
namespace Mk22
open PySem PySem.Spec Mi
theorem Sm.dr {bx : Bx} {d : D} {l : List D} (h : dr bx d = some (.lst l)) : Sm bx d (.lst l) := by
  cases d with
  | lst ds => simp [Mi.dr] at h; subst h; exact .rfl
  | box n => exact .box h (Sms.refl _)
  | _ => simp [Mi.dr] at h
def ODD : List D := [.str "zzz", .non, .int 0, .bl true, .lst [.str "a"], .tup [.str "a"], .str "", .dic false []]
theorem odd_ask {v : D} (h : v ∈ ODD) : Ask v := by
  simp only [ODD, List.mem_cons, List.not_mem_nil, or_false] at h
  rcases h with rfl | rfl | rfl | rfl | rfl | rfl | rfl | rfl
  · exact .str (by decide +kernel)
  · exact .odd (by simp)
  · exact .odd (by simp)
  · exact .odd (by simp)
  · exact .odd (by simp)
  · exact .odd (by simp)
  · exact .str (by decide +kernel)
  · exact .odd (by simp)
theorem odd_repr {bx : Bx} {v : D} (h : v ∈ ODD) : ∃ t, dReprA bx [v] = some (.val (.str t)) := by
  simp only [ODD, List.mem_cons, List.not_mem_nil, or_false] at h
  rcases h with rfl | rfl | rfl | rfl | rfl | rfl | rfl | rfl
  · exact ⟨"'zzz'", by kernel_rfl⟩
  · exact ⟨"None", by kernel_rfl⟩
  · exact ⟨"0", by kernel_rfl⟩
  · exact ⟨"True", by kernel_rfl⟩
  · exact ⟨"['a']", by kernel_rfl⟩
  · exact ⟨"('a',)", by kernel_rfl⟩
  · exact ⟨"''", by kernel_rfl⟩
  · exact ⟨"{}", by kernel_rfl⟩
/-- the frame knows none of the odd values -/
structure NoOdd (ss : List Str) (ls : T3) : Prop where
  s : ∀ v ∈ ODD, hasS ss v = false
  l : ∀ v ∈ ODD, endsAt ls v = none
section
variable {n : Nat} {cm : CM} {bx : Bx} {Q : VQ} {X : XQ} {b : Bool} {ss : List Str} {ls : T3} {ts : T2}
theorem eq_int {i j : Int} : cmpC S cm b .Eq [.int i, .int j] bx Q X = Q (.bl (decide (i = j))) bx := by
  have : (i == j) = decide (i = j) := by rw [Bool.eq_iff_iff]; simp
  simp [cmpC, cSel, clsD, dr, cOp, o2, dEq, dEqP, pyD, PyData.eqv, fin, this]
theorem from_no {v : D} (G : Gd ss ls ts) (hv : Ask v) (hs : hasS ss v = false) (h : X (unk v) bx) : runM 2 4 (t13 (cmAt S (n + 1))) [FR ss ls ts, v] bx Q X := by
  refine from_ok G hv ?_
  cases hv with
  | str hx =>
    rename_i x
    have : ¬ x ∈ ss := by simpa [hasS] using hs
    simp only [this, if_false]
    exact h
  | odd hx =>
    simp only [List.mem_cons, List.not_mem_nil, or_false] at hx
    rcases hx with rfl | rfl | rfl | rfl | rfl | rfl <;> exact h
theorem from_yes {x : Str} (G : Gd ss ls ts) (hx : okS x) (hm : x ∈ ss) (h : ∀ m, bx m = none → Q (.box m) (upb bx m (.lst ((fromT ls ts x).map d2)))) : runM 2 4 (t13 (cmAt S (n + 1))) [FR ss ls ts, .str x] bx Q X := by
  refine from_ok G (.str hx.1) ?_
  simp only [hm, if_true]
  exact h
theorem refused_ok {v : D} (G : Gd ss ls ts) (hv : v ∈ ODD) (hn : NoOdd ss ls) (h : Q (.bl true) bx) : runM 2 4 (t27 (cmAt S (n + 2))) [FR ss ls ts, v] bx Q X := by
  refine ⟨rfl, ?_⟩
  unfold t27
  obtain ⟨t, et⟩ := odd_repr (bx := bx) hv
  have t6 := isub_all 6 (by decide) 6 (by decide)
  have hs := hn.s v hv
  have hl := hn.l v hv
  have rp : ∀ (Q : VQ) (X : XQ), cOp false dReprA [v] bx Q X = Q (.str t) bx := fun Q X => by simp only [cOp, et, Option.some.injEq, exists_eq_left']; rfl
  have nq : ∀ (Q : VQ) (X : XQ), hCmp false .NotEq [.str t, .str t] bx Q X = Q (.bl false) bx := fun Q X => by simp [hCmp, cOp, o2, dNe, fin]
  simp only [wsSeq, wsIf, wtB, wtNot, wtAnd, wtOr, wTru, wNot, wAnd, wOr, wIf, wOp2, wSlot, wC, wsRet, wsRetN, wsSkip, wsAsg, wsExpr, wgName, wBin, wCall, wCons, wNil, wTup, lst_new, wAttrX, blt_len, blt_int, blt_isi, blt_list, blt_tuple, blt_repr, blt_all, blt_any, blt_str, List.map_cons, List.map_nil, List.replicate, List.cons_append, List.nil_append, List.getElem?_cons_succ, List.getElem?_cons_zero, List.set_cons_succ, List.set_cons_zero, Option.some.injEq, exists_eq_left', fin_val, Rs.val.injEq, D.bl.injEq, Bool.not_true, Bool.not_false, Bool.false_eq_true, if_false, if_true, true_and, and_true, wsFor, wiAny, List.length_cons, List.length_nil]
  refine ⟨by rw [sizeLine_eq]; omega, _, rfl, ?_⟩
  simp only [forW, wsSeq, wsIf, wtB, wtNot, wtAnd, wtOr, wTru, wNot, wAnd, wOr, wIf, wOp2, wSlot, wC, wsRet, wsRetN, wsSkip, wsAsg, wsExpr, wgName, wBin, wCall, wCons, wNil, wTup, lst_new, wAttrX, blt_len, blt_int, blt_isi, blt_list, blt_tuple, blt_repr, blt_all, blt_any, blt_str, List.map_cons, List.map_nil, List.replicate, List.cons_append, List.nil_append, List.getElem?_cons_succ, List.getElem?_cons_zero, List.set_cons_succ, List.set_cons_zero, Option.some.injEq, exists_eq_left', fin_val, Rs.val.injEq, D.bl.injEq, Bool.not_true, Bool.not_false, Bool.false_eq_true, if_false, if_true, true_and, and_true, wsTry, wMeth, eq_int, D.bl.injEq, exists_eq_left', decide_true, if_true]
  refine ⟨trivial, 7, FRf ss ls ts, _, rfl, rfl, c12 (n + 1), ?_⟩
  refine endsm_ok (odd_ask hv) ?_
  rw [hl]
  simp only [unk, tryW]
  refine ⟨_, t6, ?_⟩
  simp only [decide_true, if_true]
  intro m hm
  simp only [h27, wsSeq, wsIf, wtB, wtNot, wtAnd, wtOr, wTru, wNot, wAnd, wOr, wIf, wOp2, wSlot, wC, wsRet, wsRetN, wsSkip, wsAsg, wsExpr, wgName, wBin, wCall, wCons, wNil, wTup, lst_new, wAttrX, blt_len, blt_int, blt_isi, blt_list, blt_tuple, blt_repr, blt_all, blt_any, blt_str, List.map_cons, List.map_nil, List.replicate, List.cons_append, List.nil_append, List.getElem?_cons_succ, List.getElem?_cons_zero, List.set_cons_succ, List.set_cons_zero, Option.some.injEq, exists_eq_left', fin_val, Rs.val.injEq, D.bl.injEq, Bool.not_true, Bool.not_false, Bool.false_eq_true, if_false, if_true, true_and, and_true, wHld, suEn, suSl]
  refine ⟨_, rfl, ?_⟩
  rw [rp, rp, nq]
  refine ⟨_, rfl, ?_⟩
  simp only [Bool.false_eq_true, if_false]
  refine ⟨trivial, ?_⟩
  have e10 : decide ((1 : Int) = 0) = false := rfl
  simp only [wsSeq, wsIf, wtB, wtNot, wtAnd, wtOr, wTru, wNot, wAnd, wOr, wIf, wOp2, wSlot, wC, wsRet, wsRetN, wsSkip, wsAsg, wsExpr, wgName, wBin, wCall, wCons, wNil, wTup, lst_new, wAttrX, blt_len, blt_int, blt_isi, blt_list, blt_tuple, blt_repr, blt_all, blt_any, blt_str, List.map_cons, List.map_nil, List.replicate, List.cons_append, List.nil_append, List.getElem?_cons_succ, List.getElem?_cons_zero, List.set_cons_succ, List.set_cons_zero, Option.some.injEq, exists_eq_left', fin_val, Rs.val.injEq, D.bl.injEq, Bool.not_true, Bool.not_false, Bool.false_eq_true, if_false, if_true, true_and, and_true, eq_int, e10]
  refine ⟨7, FRf ss ls ts, _, rfl, rfl, c13 (n + 1), ?_⟩
  refine from_no G (odd_ask hv) hs ?_
  simp only [unk]
  refine ⟨_, t6, ?_⟩
  simp only [decide_true, if_true]
  intro m hm
  simp only [h27, wHld]
  refine ⟨rfl, v, rfl, ?_⟩
  rw [rp, rp, nq]
  refine ⟨_, rfl, ?_⟩
  simp only [Bool.false_eq_true, if_false]
  exact ⟨trivial, _, LeB.refl _, h⟩
end
end Mk22
namespace Mk22
open PySem PySem.Spec Mi
theorem ftT_mem : ∀ {ts met : T2}, ftT met ts = none → ∀ t ∈ ts, t.2 = "on" ∨ t.2 = "back"
  | [], _, _, t, ht => by cases ht
  | p :: r, met, h, t, ht => by
    rw [ftT] at h
    split at h
    · cases h
    · rename_i hp
      have hp' : p.2 ∈ (["on", "back"] : List Str) := by
        refine Decidable.not_not.mp fun q => hp (.inl q)
      rcases List.mem_cons.mp ht with rfl | ht
      · simpa using hp'
      · exact ftT_mem h t ht
theorem lookup_nodup {ls : T3} (h : (ls.map (·.1)).Nodup) : ∀ p ∈ ls, ls.lookup p.1 = some p.2 := by
  induction ls with
  | nil => intro p hp; cases hp
  | cons q l ih =>
    obtain ⟨y, z⟩ := q
    intro p hp
    rw [List.map_cons, List.nodup_cons] at h
    rw [List.lookup_cons]
    rcases List.mem_cons.mp hp with rfl | hq
    · rw [beq_self_eq_true]
    · have : (p.1 == y) = false := by
        rw [beq_eq_false_iff_ne]
        intro e
        refine h.1 ?_
        rw [← e]
        exact List.mem_map.mpr ⟨p, hq, rfl⟩
      rw [this]
      exact ih h.2 p hq
section
variable {ss : List Str} {ls : T3} {ts : T2}
theorem Gd.nodup (G : Gd ss ls ts) : (ls.map (·.1)).Nodup := (twi_nodup (oEr_none (oEr_none (oEr_none (orE_none G.d).1).2).2).1).1
theorem Gd.look (G : Gd ss ls ts) : ∀ p ∈ ls, ls.lookup p.1 = some p.2 := lookup_nodup G.nodup
theorem Gd.word (G : Gd ss ls ts) : ∀ t ∈ ts, t.2 = "on" ∨ t.2 = "back" := ftT_mem (oEr_none (orE_none (orE_none (orE_none G.d).2).2).1).1
end
section
variable {n : Nat} {cm : CM} {bx : Bx} {Q : VQ} {X : XQ} {b : Bool} {ss : List Str} {ls : T3} {ts : T2}
theorem op_intb {k : Bool} : cOp b dInt [.bl k] bx Q X = Q (.int (if k = true then 1 else 0)) bx := by simp [cOp, dInt, fin]
theorem mul_b {x : D} {k : Bool} : binC S cm false .Mult [.lst [x], .int (if k = true then 1 else 0)] bx Q X = Q (.lst (if k = true then [x] else [])) bx := by
  cases k <;> simp [binC, cOp, o2, orO, dMul, dr, sizeLine_eq, fin]
theorem right_ok {ds dl dt : D} (G : Gd ss ls ts) (hn : NoOdd ss ls) (es : dr bx ds = some (.lst (ss.map .str))) (el : dr bx dl = some (.lst (ls.map d3))) (et : dr bx dt = some (.lst (ts.map d2))) (h : Q (.bl true) bx) : runM 4 12 (t28 (cmAt S (n + 3))) [FR ss ls ts, ds, dl, dt] bx Q X := by
  refine ⟨rfl, ?_⟩
  unfold t28
  have n1 := G.i.ns
  have n2 := G.i.nl
  have n3 := G.i.nt
  have mS : mthOf S (cmAt S (n + 3)) "sorts" 7 = some _ := c7 (n + 2)
  have mL : mthOf S (cmAt S (n + 3)) "letters" 7 = some _ := c8 (n + 2)
  have mT : mthOf S (cmAt S (n + 3)) "totals" 7 = some _ := c9 (n + 2)
  have mE : mthOf S (cmAt S (n + 3)) "ends" 7 = some _ := c12 (n + 2)
  have mF : mthOf S (cmAt S (n + 3)) "totals_from" 7 = some _ := c13 (n + 2)
  have mHS : mthOf S (cmAt S (n + 3)) "has_sort" 7 = some _ := c10 (n + 2)
  have mHL : mthOf S (cmAt S (n + 3)) "has_letter" 7 = some _ := c11 (n + 2)
  simp only [wsSeq, wsIf, wtB, wtNot, wtAnd, wtOr, wTru, wNot, wAnd, wOr, wIf, wOp2, wSlot, wC, wsRet, wsRetN, wsSkip, wsAsg, wsExpr, wgName, wBin, wCall, wCons, wNil, wTup, lst_new, wAttrX, blt_len, blt_int, blt_isi, blt_list, blt_tuple, blt_repr, blt_all, blt_any, blt_str, List.map_cons, List.map_nil, List.replicate, List.cons_append, List.nil_append, List.getElem?_cons_succ, List.getElem?_cons_zero, List.set_cons_succ, List.set_cons_zero, Option.some.injEq, exists_eq_left', fin_val, Rs.val.injEq, D.bl.injEq, Bool.not_true, Bool.not_false, Bool.false_eq_true, if_false, if_true, true_and, and_true, wMeth, callJ_at (c27 (n + 2))]
  refine ⟨7, FRf ss ls ts, _, rfl, rfl, mS, sorts_ok fun m1 h1 => ⟨7, FRf ss ls ts, _, rfl, rfl, mL, letters_ok fun m2 h2 => ⟨7, FRf ss ls ts, _, rfl, rfl, mT, tots_ok fun m3 h3 => ?_⟩⟩⟩
  have l1 : LeB bx (upb bx m1 (.lst (ss.map .str))) := leB_up h1
  have l2 := l1.trans (leB_up (d := .lst (ls.map d3)) h2)
  have l3 := l2.trans (leB_up (d := .lst (ts.map d2)) h3)
  generalize hb3 : upb (upb (upb bx m1 (.lst (ss.map .str))) m2 (.lst (ls.map d3))) m3 (.lst (ts.map d2)) = b3 at l3 ⊢
  have g3 : dr b3 (.box m3) = some (.lst (ts.map d2)) := by subst hb3; exact upb_at
  have g2 : dr b3 (.box m2) = some (.lst (ls.map d3)) := by
    subst hb3
    exact (leB_up h3) _ _ upb_at
  have g1 : dr b3 (.box m1) = some (.lst (ss.map .str)) := by
    subst hb3
    exact (leB_up h3) _ _ ((leB_up h2) _ _ upb_at)
  clear hb3
  simp only [List.length_cons, List.length_nil]
  refine ⟨by rw [sizeLine_eq]; omega, by rw [sizeLine_eq]; omega, ?_⟩
  have hP : Pl 40 (.lst [.lst (ss.map .str), .lst (ls.map d3), .lst (ts.map d2)]) := .lst fun d hd => by
    simp only [List.mem_cons, List.not_mem_nil, or_false] at hd
    rcases hd with rfl | rfl | rfl
    · exact Pl.lst_map (n := 38) fun x hx => (G.i.s x hx).pl
    · exact Pl.lst_map (n := 38) fun x hx => plc (G.i.l x hx)
    · exact Pl.lst_map (n := 38) fun x hx => pl2 (G.i.t x hx)
  rw [cmp_ne hP hP (.lst (.cons (Sm.dr g1) (.cons (Sm.dr g2) (.cons (Sm.dr g3) .nil)))) (.lst (.cons (Sm.dr (dr_le l3 es)) (.cons (Sm.dr (dr_le l3 el)) (.cons (Sm.dr (dr_le l3 et)) .nil))))]
  simp only [decide_true, Bool.not_true, D.bl.injEq, exists_eq_left', Bool.false_eq_true, if_false]
  -- the letters
  have es3 : Sq b3 ds (ss.map .str) := .inl (dr_le l3 es)
  have el3 : Sq b3 dl (ls.map d3) := .inl (dr_le l3 el)
  have et3 : Sq b3 dt (ts.map d2) := .inl (dr_le l3 et)
  simp only [wsFor, wsSeq, wsIf, wtB, wtNot, wtAnd, wtOr, wTru, wNot, wAnd, wOr, wIf, wOp2, wSlot, wC, wsRet, wsRetN, wsSkip, wsAsg, wsExpr, wgName, wBin, wCall, wCons, wNil, wTup, lst_new, wAttrX, blt_len, blt_int, blt_isi, blt_list, blt_tuple, blt_repr, blt_all, blt_any, blt_str, List.map_cons, List.map_nil, List.replicate, List.cons_append, List.nil_append, List.getElem?_cons_succ, List.getElem?_cons_zero, List.set_cons_succ, List.set_cons_zero, Option.some.injEq, exists_eq_left', fin_val, Rs.val.injEq, D.bl.injEq, Bool.not_true, Bool.not_false, Bool.false_eq_true, if_false, if_true, true_and, and_true, wiAny]
  refine ⟨_, el3.it, ?_⟩
  refine for_each (G := d3) (P := fun as sl b => b = b3 ∧ (∀ p ∈ as, p ∈ ls) ∧ ∃ x4 x5 x6, sl = [some (FR ss ls ts), some ds, some dl, some dt, x4, x5, x6, none, none, none, none, none]) ?_ ?_ _ _ _ ⟨rfl, fun _ h => h, _, _, _, rfl⟩
  rotate_left
  · rintro a as sl b ⟨rfl, ho, x4, x5, x6, rfl⟩
    refine ⟨el3.cd, fun f hk => ?_⟩
    have ha := ho a List.mem_cons_self
    have oa := G.i.l a ha
    have elk := G.look a ha
    simp only [d3]
    refine tg3 ?_
    simp only [wsSeq, wsIf, wtB, wtNot, wtAnd, wtOr, wTru, wNot, wAnd, wOr, wIf, wOp2, wSlot, wC, wsRet, wsRetN, wsSkip, wsAsg, wsExpr, wgName, wBin, wCall, wCons, wNil, wTup, lst_new, wAttrX, blt_len, blt_int, blt_isi, blt_list, blt_tuple, blt_repr, blt_all, blt_any, blt_str, List.map_cons, List.map_nil, List.replicate, List.cons_append, List.nil_append, List.getElem?_cons_succ, List.getElem?_cons_zero, List.set_cons_succ, List.set_cons_zero, Option.some.injEq, exists_eq_left', fin_val, Rs.val.injEq, D.bl.injEq, Bool.not_true, Bool.not_false, Bool.false_eq_true, if_false, if_true, true_and, and_true, wMeth]
    refine ⟨7, FRf ss ls ts, _, rfl, rfl, mE, endsm_ok (.str oa.1.1) ?_⟩
    rw [show endsAt ls (.str a.1) = some a.2 from elk]
    simp only [List.length_cons, List.length_nil]
    refine ⟨by rw [sizeLine_eq]; omega, ?_⟩
    rw [show (D.tup [D.str a.2.1, D.str a.2.2]) = d2 a.2 from rfl, cmp_ne (d' := d2 a.2) (e' := d2 a.2) (pl2 oa.2) (pl2 oa.2) .rfl .rfl]
    simp only [decide_true, Bool.not_true, D.bl.injEq, exists_eq_left', Bool.false_eq_true, if_false]
    refine ⟨7, FRf ss ls ts, _, rfl, rfl, mHL, hasletter_ok (.str oa.1.1) ?_⟩
    rw [show endsAt ls (.str a.1) = some a.2 from elk, Option.isSome_some, isnot_bl]
    simp only [decide_true, Bool.not_true, D.bl.injEq, exists_eq_left', Bool.false_eq_true, if_false]
    exact hk _ _ ⟨rfl, fun p hp => ho p (List.mem_cons_of_mem _ hp), _, _, _, rfl⟩
  rintro sl b ⟨rfl, -, x4, x5, x6, rfl⟩
  refine ⟨el3.cd, ?_⟩
  simp only [wsFor, wsSeq, wsIf, wtB, wtNot, wtAnd, wtOr, wTru, wNot, wAnd, wOr, wIf, wOp2, wSlot, wC, wsRet, wsRetN, wsSkip, wsAsg, wsExpr, wgName, wBin, wCall, wCons, wNil, wTup, lst_new, wAttrX, blt_len, blt_int, blt_isi, blt_list, blt_tuple, blt_repr, blt_all, blt_any, blt_str, List.map_cons, List.map_nil, List.replicate, List.cons_append, List.nil_append, List.getElem?_cons_succ, List.getElem?_cons_zero, List.set_cons_succ, List.set_cons_zero, Option.some.injEq, exists_eq_left', fin_val, Rs.val.injEq, D.bl.injEq, Bool.not_true, Bool.not_false, Bool.false_eq_true, if_false, if_true, true_and, and_true, wiAny]
  refine ⟨_, es3.it, ?_⟩
  -- the sorts
  refine for_each (G := D.str) (P := fun as sl b' => LeB b b' ∧ (∀ x ∈ as, x ∈ ss) ∧ ∃ x4 x7 x8 x9 x10, sl = [some (FR ss ls ts), some ds, some dl, some dt, x4, x5, x6, x7, x8, x9, x10, none]) ?_ ?_ _ _ _ ⟨LeB.refl _, fun _ h => h, _, _, _, _, _, rfl⟩
  rotate_left
  · rintro a as sl b' ⟨le, ho, x4, x7, x8, x9, x10, rfl⟩
    refine ⟨(es3.le le).cd, fun f hk => ?_⟩
    have ha := ho a List.mem_cons_self
    have oa := G.i.s a ha
    simp only [wsSeq, wsIf, wtB, wtNot, wtAnd, wtOr, wTru, wNot, wAnd, wOr, wIf, wOp2, wSlot, wC, wsRet, wsRetN, wsSkip, wsAsg, wsExpr, wgName, wBin, wCall, wCons, wNil, wTup, lst_new, wAttrX, blt_len, blt_int, blt_isi, blt_list, blt_tuple, blt_repr, blt_all, blt_any, blt_str, List.map_cons, List.map_nil, List.replicate, List.cons_append, List.nil_append, List.getElem?_cons_succ, List.getElem?_cons_zero, List.set_cons_succ, List.set_cons_zero, Option.some.injEq, exists_eq_left', fin_val, Rs.val.injEq, D.bl.injEq, Bool.not_true, Bool.not_false, Bool.false_eq_true, if_false, if_true, true_and, and_true, wsFor, wiAny, List.length_nil]
    refine ⟨Nat.zero_le _, _, (et3.le le).it, ?_⟩
    refine for_each (G := d2) (P := fun as sl b2 => b2 = b' ∧ ∃ done x4 x9 x10, ts = done ++ as ∧ sl = [some (FR ss ls ts), some ds, some dl, some dt, x4, x5, x6, some (.str a), some (.lst ((fromT ls done a).map d2)), x9, x10, none]) ?_ ?_ _ _ _ ⟨rfl, [], _, _, _, rfl, rfl⟩
    rotate_left
    · rintro t as sl b2 ⟨rfl, done, x4, x9, x10, e3, rfl⟩
      refine ⟨(et3.le le).cd, fun f hk => ?_⟩
      have ht : t ∈ ts := by rw [e3]; simp
      have ot := G.i.t t ht
      have elk : endsAt ls (.str t.1) = some (endsOf ls t.1) := lookup_of_mem (G.mem t ht)
      simp only [d2]
      refine tg2 ?_
      simp only [wsSeq, wsIf, wtB, wtNot, wtAnd, wtOr, wTru, wNot, wAnd, wOr, wIf, wOp2, wSlot, wC, wsRet, wsRetN, wsSkip, wsAsg, wsExpr, wgName, wBin, wCall, wCons, wNil, wTup, lst_new, wAttrX, blt_len, blt_int, blt_isi, blt_list, blt_tuple, blt_repr, blt_all, blt_any, blt_str, List.map_cons, List.map_nil, List.replicate, List.cons_append, List.nil_append, List.getElem?_cons_succ, List.getElem?_cons_zero, List.set_cons_succ, List.set_cons_zero, Option.some.injEq, exists_eq_left', fin_val, Rs.val.injEq, D.bl.injEq, Bool.not_true, Bool.not_false, Bool.false_eq_true, if_false, if_true, true_and, and_true, wMeth]
      refine ⟨7, FRf ss ls ts, _, rfl, rfl, mE, endsm_ok (.str ot.1.1) ?_⟩
      rw [elk]
      simp only [wsSeq, wsIf, wtB, wtNot, wtAnd, wtOr, wTru, wNot, wAnd, wOr, wIf, wOp2, wSlot, wC, wsRet, wsRetN, wsSkip, wsAsg, wsExpr, wgName, wBin, wCall, wCons, wNil, wTup, lst_new, wAttrX, blt_len, blt_int, blt_isi, blt_list, blt_tuple, blt_repr, blt_all, blt_any, blt_str, List.map_cons, List.map_nil, List.replicate, List.cons_append, List.nil_append, List.getElem?_cons_succ, List.getElem?_cons_zero, List.set_cons_succ, List.set_cons_zero, Option.some.injEq, exists_eq_left', fin_val, Rs.val.injEq, D.bl.injEq, Bool.not_true, Bool.not_false, Bool.false_eq_true, if_false, if_true, true_and, and_true, List.length_cons, List.length_nil]
      refine ⟨by rw [sizeLine_eq]; omega, by rw [sizeLine_eq]; omega, ?_⟩
      rw [eq_txt, op_intb]
      have key : ∃ e : Str, dIx b2 (d2 (endsOf ls t.1)) (.int (if decide (t.2 = "back") = true then 1 else 0)) = some (.val (.str e)) ∧ e = (stp (endsOf ls t.1) t.2).1 := by
        rcases G.word t ht with ew | ew
        · refine ⟨(endsOf ls t.1).1, ?_, by rw [stp, if_pos ew]⟩
          rw [ew, if_neg (by decide +kernel)]
          exact ix_tup (k := 0) rfl
        · refine ⟨(endsOf ls t.1).2, ?_, by rw [stp, if_neg (by rw [ew]; decide +kernel)]⟩
          rw [ew, if_pos (by decide +kernel)]
          exact ix_tup (k := 1) rfl
      obtain ⟨e, k1, k2⟩ := key
      refine ⟨_, k1, ?_⟩
      simp only [fin_val, eq_txt, op_intb, mul_b]
      have hl : (fromT ls done a).length ≤ ts.length := by
        refine Nat.le_trans (List.length_filter_le _ _) ?_
        have := congrArg List.length e3
        rw [List.length_append] at this
        omega
      rw [add_at (x := (fromT ls done a).map d2) rfl rfl (by rw [List.length_map, sizeLine_eq]; split <;> simp <;> omega)]
      have e5 : fromT ls (done ++ [t]) a = fromT ls done a ++ if e = a then [t] else [] := by
        unfold fromT
        rw [List.filter_append, List.filter_cons, ← k2]
        by_cases q : e = a <;> simp [q]
      have e6 : ((fromT ls done a).map d2 ++ if decide (e = a) = true then [D.tup [.str t.1, .str t.2]] else []) = (fromT ls (done ++ [t]) a).map d2 := by
        rw [e5, List.map_append]
        by_cases q : e = a <;> simp [q, d2]
      rw [e6]
      exact hk _ _ ⟨rfl, done ++ [t], _, _, _, by rw [e3]; simp, rfl⟩
    rintro sl b2 ⟨rfl, done, x4, x9, x10, e3, rfl⟩
    refine ⟨(et3.le le).cd, ?_⟩
    rw [List.append_nil] at e3
    subst e3
    simp only [wsSeq, wsIf, wtB, wtNot, wtAnd, wtOr, wTru, wNot, wAnd, wOr, wIf, wOp2, wSlot, wC, wsRet, wsRetN, wsSkip, wsAsg, wsExpr, wgName, wBin, wCall, wCons, wNil, wTup, lst_new, wAttrX, blt_len, blt_int, blt_isi, blt_list, blt_tuple, blt_repr, blt_all, blt_any, blt_str, List.map_cons, List.map_nil, List.replicate, List.cons_append, List.nil_append, List.getElem?_cons_succ, List.getElem?_cons_zero, List.set_cons_succ, List.set_cons_zero, Option.some.injEq, exists_eq_left', fin_val, Rs.val.injEq, D.bl.injEq, Bool.not_true, Bool.not_false, Bool.false_eq_true, if_false, if_true, true_and, and_true, wMeth]
    refine ⟨7, FRf ss ls ts, _, rfl, rfl, mF, from_yes G oa ha fun m hm => ?_⟩
    have hT : Pl 40 (.lst ((fromT ls ts a).map d2)) := Pl.lst_map (n := 39) fun t ht => pl2 (G.i.t t (List.mem_filter.mp ht).1)
    rw [cmp_ne hT hT (Sm.dr (show dr (upb b2 m (.lst ((fromT ls ts a).map d2))) (.box m) = some (.lst ((fromT ls ts a).map d2)) from upb_at)) .rfl]
    simp only [decide_true, Bool.not_true, D.bl.injEq, exists_eq_left', Bool.false_eq_true, if_false]
    refine ⟨7, FRf ss ls ts, _, rfl, rfl, mHS, hassort_ok G.i (.str oa.1) ?_⟩
    rw [show hasS ss (.str a) = true by simp [hasS, ha], isnot_bl]
    simp only [decide_true, Bool.not_true, D.bl.injEq, exists_eq_left', Bool.false_eq_true, if_false]
    exact hk _ _ ⟨le.trans (leB_up hm), fun p hp => ho p (List.mem_cons_of_mem _ hp), _, _, _, _, _, rfl⟩
  rintro sl b' ⟨le, -, x4, x7, x8, x9, x10, rfl⟩
  refine ⟨(es3.le le).cd, ?_⟩
  simp only [wsFor, wsSeq, wsIf, wtB, wtNot, wtAnd, wtOr, wTru, wNot, wAnd, wOr, wIf, wOp2, wSlot, wC, wsRet, wsRetN, wsSkip, wsAsg, wsExpr, wgName, wBin, wCall, wCons, wNil, wTup, lst_new, wAttrX, blt_len, blt_int, blt_isi, blt_list, blt_tuple, blt_repr, blt_all, blt_any, blt_str, List.map_cons, List.map_nil, List.replicate, List.cons_append, List.nil_append, List.getElem?_cons_succ, List.getElem?_cons_zero, List.set_cons_succ, List.set_cons_zero, Option.some.injEq, exists_eq_left', fin_val, Rs.val.injEq, D.bl.injEq, Bool.not_true, Bool.not_false, Bool.false_eq_true, if_false, if_true, true_and, and_true, wiAny, wDic0, fin_new, List.length_cons, List.length_nil]
  refine ⟨by rw [sizeLine_eq]; omega, by rw [sizeLine_eq]; omega, by rw [sizeLine_eq]; omega, _, rfl, ?_⟩
  show forW always _ _ _ _ (ODD.map id) _ _
  refine for_each (G := id) (P := fun as sl b2 => b2 = b' ∧ (∀ v ∈ as, v ∈ ODD) ∧ ∃ x11, sl = [some (FR ss ls ts), some ds, some dl, some dt, x4, x5, x6, x7, x8, x9, x10, x11]) ?_ ?_ _ _ _ ⟨rfl, fun _ h => h, _, rfl⟩
  rotate_left
  · rintro v as sl b2 ⟨rfl, ho, x11, rfl⟩
    refine ⟨trivial, fun f hk => ?_⟩
    have hv := ho v List.mem_cons_self
    simp only [wsSeq, wsIf, wtB, wtNot, wtAnd, wtOr, wTru, wNot, wAnd, wOr, wIf, wOp2, wSlot, wC, wsRet, wsRetN, wsSkip, wsAsg, wsExpr, wgName, wBin, wCall, wCons, wNil, wTup, lst_new, wAttrX, blt_len, blt_int, blt_isi, blt_list, blt_tuple, blt_repr, blt_all, blt_any, blt_str, List.map_cons, List.map_nil, List.replicate, List.cons_append, List.nil_append, List.getElem?_cons_succ, List.getElem?_cons_zero, List.set_cons_succ, List.set_cons_zero, Option.some.injEq, exists_eq_left', fin_val, Rs.val.injEq, D.bl.injEq, Bool.not_true, Bool.not_false, Bool.false_eq_true, if_false, if_true, true_and, and_true, wMeth, id]
    refine ⟨7, FRf ss ls ts, _, rfl, rfl, mHS, hassort_ok G.i (odd_ask hv) ?_⟩
    rw [hn.s v hv, isnot_bl]
    simp only [decide_true, Bool.not_true, D.bl.injEq, exists_eq_left', Bool.false_eq_true, if_false]
    refine ⟨7, FRf ss ls ts, _, rfl, rfl, mHL, hasletter_ok (odd_ask hv) ?_⟩
    rw [hn.l v hv, Option.isSome_none, isnot_bl]
    simp only [decide_true, Bool.not_true, D.bl.injEq, exists_eq_left', Bool.false_eq_true, if_false]
    refine refused_ok G hv hn ?_
    simp only [dTru, Option.some.injEq, exists_eq_left', Bool.not_true, Bool.false_eq_true, if_false]
    exact hk _ _ ⟨rfl, fun p hp => ho p (List.mem_cons_of_mem _ hp), _, rfl⟩
  rintro sl b2 ⟨rfl, -, x11, rfl⟩
  refine ⟨trivial, ?_⟩
  simp only [wsSeq, wsIf, wtB, wtNot, wtAnd, wtOr, wTru, wNot, wAnd, wOr, wIf, wOp2, wSlot, wC, wsRet, wsRetN, wsSkip, wsAsg, wsExpr, wgName, wBin, wCall, wCons, wNil, wTup, lst_new, wAttrX, blt_len, blt_int, blt_isi, blt_list, blt_tuple, blt_repr, blt_all, blt_any, blt_str, List.map_cons, List.map_nil, List.replicate, List.cons_append, List.nil_append, List.getElem?_cons_succ, List.getElem?_cons_zero, List.set_cons_succ, List.set_cons_zero, Option.some.injEq, exists_eq_left', fin_val, Rs.val.injEq, D.bl.injEq, Bool.not_true, Bool.not_false, Bool.false_eq_true, if_false, if_true, true_and, and_true]
  exact ⟨bx, l3.trans le, h⟩
end
end Mk22
namespace Mk22
open PySem PySem.Spec Mi
section
variable {n : Nat} {cm : CM} {bx : Bx} {Q : VQ} {X : XQ} {b : Bool} {ss : List Str} {ls : T3} {ts : T2}
theorem hcmp_ne {x y : Str} : hCmp false .NotEq [.str x, .str y] bx Q X = Q (.bl (!decide (x = y))) bx := by simp [hCmp, cOp, o2, dNe, fin]
theorem hcmp_in {x : Str} {d : D} {L : List Str} (hx : okS x) (e : dr bx d = some (.lst (L.map .str))) (hL : ∀ x ∈ L, okS x) : hCmp false .In [.str x, d] bx Q X = Q (.bl (decide (x ∈ L))) bx := by
  have := dIn_lst (neg := false) (d := .str x) hx.pl e (strs39 hL)
  simp only [mem_str] at this
  simp [hCmp, cOp, o2, this, fin]
theorem endsAt_some {x : Str} : (endsAt ls (.str x)).isSome = decide (x ∈ ls.map (·.1)) := by
  by_cases h : x ∈ ls.map (·.1)
  · rw [show endsAt ls (.str x) = some (endsOf ls x) from lookup_of_mem h]
    simp only [h, decide_true, Option.isSome_some]
  · have : ls.lookup x = none := by
      cases e : ls.lookup x with
      | none => rfl
      | some p =>
        obtain ⟨q, r, e1, e2⟩ := head_lookup e
        have hq : q ∈ ls.filter (fun p => decide (p.1 = x)) := by rw [e1]; exact List.mem_cons_self
        obtain ⟨h1, h2⟩ := List.mem_filter.mp hq
        exact absurd (List.mem_map.mpr ⟨q, h1, of_decide_eq_true h2⟩) h
    rw [show endsAt ls (.str x) = none from this]
    simp only [h, decide_false, Option.isSome_none]
theorem apart_ok {ds : D} (G : Gd ss ls ts) (es : dr bx ds = some (.lst (ss.map .str))) (h : Q (.bl true) bx) : runM 3 6 (t29 (cmAt S (n + 2))) [FR ss ls ts, ds, .lst ((ls.map (·.1)).map .str)] bx Q X := by
  refine ⟨rfl, ?_⟩
  unfold t29
  have n1 := G.i.ns
  have n2 := G.i.nl
  generalize hns : ls.map (·.1) = ns
  have hN : ∀ x ∈ ns, okS x := fun x hx => by
    subst hns
    obtain ⟨p, hp, rfl⟩ := List.mem_map.mp hx
    exact (G.i.l p hp).1
  have t6 := isub_all 6 (by decide) 6 (by decide)
  have mE : mthOf S (cmAt S (n + 2)) "ends" 7 = some _ := c12 (n + 1)
  have mF : mthOf S (cmAt S (n + 2)) "totals_from" 7 = some _ := c13 (n + 1)
  have mHS : mthOf S (cmAt S (n + 2)) "has_sort" 7 = some _ := c10 (n + 1)
  have mHL : mthOf S (cmAt S (n + 2)) "has_letter" 7 = some _ := c11 (n + 1)
  simp only [wsSeq, wsIf, wtB, wtNot, wtAnd, wtOr, wTru, wNot, wAnd, wOr, wIf, wOp2, wSlot, wC, wsRet, wsRetN, wsSkip, wsAsg, wsExpr, wgName, wBin, wCall, wCons, wNil, wTup, lst_new, wAttrX, blt_len, blt_int, blt_isi, blt_list, blt_tuple, blt_repr, blt_all, blt_any, blt_str, List.map_cons, List.map_nil, List.replicate, List.cons_append, List.nil_append, List.getElem?_cons_succ, List.getElem?_cons_zero, List.set_cons_succ, List.set_cons_zero, Option.some.injEq, exists_eq_left', fin_val, Rs.val.injEq, D.bl.injEq, Bool.not_true, Bool.not_false, Bool.false_eq_true, if_false, if_true, true_and, and_true, wsFor, wiAny]
  refine ⟨_, rfl, ?_⟩
  refine for_each (G := D.str) (P := fun as sl b => LeB bx b ∧ (∀ x ∈ as, okS x) ∧ ∃ x3, sl = [some (FR ss ls ts), some ds, some (.lst (ns.map .str)), x3, none, none]) ?_ ?_ _ _ _ ⟨LeB.refl _, hN, _, rfl⟩
  rotate_left
  · rintro a as sl b ⟨le, ho, x3, rfl⟩
    refine ⟨trivial, fun f hk => ?_⟩
    have oa := ho a List.mem_cons_self
    have esb := dr_le le es
    have next : ∀ b', LeB b b' → f [some (FR ss ls ts), some ds, some (.lst (ns.map .str)), some (.str a), none, none] b' := fun b' l => hk _ _ ⟨le.trans l, fun x hx => ho x (List.mem_cons_of_mem _ hx), _, rfl⟩
    simp only [wsSeq, wsIf, wtB, wtNot, wtAnd, wtOr, wTru, wNot, wAnd, wOr, wIf, wOp2, wSlot, wC, wsRet, wsRetN, wsSkip, wsAsg, wsExpr, wgName, wBin, wCall, wCons, wNil, wTup, lst_new, wAttrX, blt_len, blt_int, blt_isi, blt_list, blt_tuple, blt_repr, blt_all, blt_any, blt_str, List.map_cons, List.map_nil, List.replicate, List.cons_append, List.nil_append, List.getElem?_cons_succ, List.getElem?_cons_zero, List.set_cons_succ, List.set_cons_zero, Option.some.injEq, exists_eq_left', fin_val, Rs.val.injEq, D.bl.injEq, Bool.not_true, Bool.not_false, Bool.false_eq_true, if_false, if_true, true_and, and_true, wMeth]
    refine ⟨7, FRf ss ls ts, _, rfl, rfl, mHS, hassort_ok G.i (.str oa.1) ?_⟩
    rw [op_rp rp_bl, in_lst oa.pl esb G.i.strs, op_rp rp_bl, ne_txt]
    simp only [mem_str, hasS, decide_true, Bool.not_true, D.bl.injEq, exists_eq_left', Bool.false_eq_true, if_false, wsTry]
    simp only [wsSeq, wsIf, wtB, wtNot, wtAnd, wtOr, wTru, wNot, wAnd, wOr, wIf, wOp2, wSlot, wC, wsRet, wsRetN, wsSkip, wsAsg, wsExpr, wgName, wBin, wCall, wCons, wNil, wTup, lst_new, wAttrX, blt_len, blt_int, blt_isi, blt_list, blt_tuple, blt_repr, blt_all, blt_any, blt_str, List.map_cons, List.map_nil, List.replicate, List.cons_append, List.nil_append, List.getElem?_cons_succ, List.getElem?_cons_zero, List.set_cons_succ, List.set_cons_zero, Option.some.injEq, exists_eq_left', fin_val, Rs.val.injEq, D.bl.injEq, Bool.not_true, Bool.not_false, Bool.false_eq_true, if_false, if_true, true_and, and_true, wMeth]
    refine ⟨7, FRf ss ls ts, _, rfl, rfl, mF, ?_⟩
    by_cases hm : a ∈ ss
    · refine from_yes G oa hm fun m hm' => ?_
      rw [is_non, notin_lst oa.pl (dr_le (leB_up hm') esb) G.i.strs]
      simp only [isNon, mem_str, hm, decide_true, Bool.not_true, D.bl.injEq, exists_eq_left', Bool.false_eq_true, if_false]
      exact hk _ _ ⟨le.trans (leB_up hm'), fun x hx => ho x (List.mem_cons_of_mem _ hx), _, rfl⟩
    · refine from_no G (.str oa.1) (by simp [hasS, hm]) ?_
      simp only [unk, tryW]
      refine ⟨_, t6, ?_⟩
      simp only [decide_true, if_true]
      intro m hm'
      simp only [h29, wsSeq, wsIf, wtB, wtNot, wtAnd, wtOr, wTru, wNot, wAnd, wOr, wIf, wOp2, wSlot, wC, wsRet, wsRetN, wsSkip, wsAsg, wsExpr, wgName, wBin, wCall, wCons, wNil, wTup, lst_new, wAttrX, blt_len, blt_int, blt_isi, blt_list, blt_tuple, blt_repr, blt_all, blt_any, blt_str, List.map_cons, List.map_nil, List.replicate, List.cons_append, List.nil_append, List.getElem?_cons_succ, List.getElem?_cons_zero, List.set_cons_succ, List.set_cons_zero, Option.some.injEq, exists_eq_left', fin_val, Rs.val.injEq, D.bl.injEq, Bool.not_true, Bool.not_false, Bool.false_eq_true, if_false, if_true, true_and, and_true, wHld, suEn, suSl]
      rw [hcmp_in oa esb G.i.s]
      simp only [hm, decide_false, D.bl.injEq, exists_eq_left', Bool.false_eq_true, if_false]
      refine ⟨.str a, rfl, ?_⟩
      rw [hcmp_ne]
      simp only [decide_true, Bool.not_true, D.bl.injEq, exists_eq_left', Bool.false_eq_true, if_false]
      exact next _ (LeB.refl _)
  rintro sl b ⟨le, -, x3, rfl⟩
  refine ⟨trivial, ?_⟩
  have esb := dr_le le es
  have esq : Sq b ds (ss.map .str) := .inl esb
  simp only [wsSeq, wsIf, wtB, wtNot, wtAnd, wtOr, wTru, wNot, wAnd, wOr, wIf, wOp2, wSlot, wC, wsRet, wsRetN, wsSkip, wsAsg, wsExpr, wgName, wBin, wCall, wCons, wNil, wTup, lst_new, wAttrX, blt_len, blt_int, blt_isi, blt_list, blt_tuple, blt_repr, blt_all, blt_any, blt_str, List.map_cons, List.map_nil, List.replicate, List.cons_append, List.nil_append, List.getElem?_cons_succ, List.getElem?_cons_zero, List.set_cons_succ, List.set_cons_zero, Option.some.injEq, exists_eq_left', fin_val, Rs.val.injEq, D.bl.injEq, Bool.not_true, Bool.not_false, Bool.false_eq_true, if_false, if_true, true_and, and_true, wsFor, wiAny]
  refine ⟨_, esq.it, ?_⟩
  refine for_each (G := D.str) (P := fun as sl b' => b' = b ∧ (∀ x ∈ as, okS x) ∧ ∃ x5, sl = [some (FR ss ls ts), some ds, some (.lst (ns.map .str)), x3, none, x5]) ?_ ?_ _ _ _ ⟨rfl, G.i.s, _, rfl⟩
  rotate_left
  · rintro a as sl b' ⟨rfl, ho, x5, rfl⟩
    refine ⟨esq.cd, fun f hk => ?_⟩
    have oa := ho a List.mem_cons_self
    have next : f [some (FR ss ls ts), some ds, some (.lst (ns.map .str)), x3, none, some (.str a)] b' := hk _ _ ⟨rfl, fun x hx => ho x (List.mem_cons_of_mem _ hx), _, rfl⟩
    have eA : (endsAt ls (.str a)).isSome = decide (a ∈ ns) := by rw [← hns]; exact endsAt_some
    simp only [wsSeq, wsIf, wtB, wtNot, wtAnd, wtOr, wTru, wNot, wAnd, wOr, wIf, wOp2, wSlot, wC, wsRet, wsRetN, wsSkip, wsAsg, wsExpr, wgName, wBin, wCall, wCons, wNil, wTup, lst_new, wAttrX, blt_len, blt_int, blt_isi, blt_list, blt_tuple, blt_repr, blt_all, blt_any, blt_str, List.map_cons, List.map_nil, List.replicate, List.cons_append, List.nil_append, List.getElem?_cons_succ, List.getElem?_cons_zero, List.set_cons_succ, List.set_cons_zero, Option.some.injEq, exists_eq_left', fin_val, Rs.val.injEq, D.bl.injEq, Bool.not_true, Bool.not_false, Bool.false_eq_true, if_false, if_true, true_and, and_true, wMeth]
    refine ⟨7, FRf ss ls ts, _, rfl, rfl, mHL, hasletter_ok (.str oa.1) ?_⟩
    rw [op_rp rp_bl, in_lst oa.pl rfl (strs39 hN), op_rp rp_bl, ne_txt]
    simp only [mem_str, eA, decide_true, Bool.not_true, D.bl.injEq, exists_eq_left', Bool.false_eq_true, if_false, wsTry]
    simp only [wsSeq, wsIf, wtB, wtNot, wtAnd, wtOr, wTru, wNot, wAnd, wOr, wIf, wOp2, wSlot, wC, wsRet, wsRetN, wsSkip, wsAsg, wsExpr, wgName, wBin, wCall, wCons, wNil, wTup, lst_new, wAttrX, blt_len, blt_int, blt_isi, blt_list, blt_tuple, blt_repr, blt_all, blt_any, blt_str, List.map_cons, List.map_nil, List.replicate, List.cons_append, List.nil_append, List.getElem?_cons_succ, List.getElem?_cons_zero, List.set_cons_succ, List.set_cons_zero, Option.some.injEq, exists_eq_left', fin_val, Rs.val.injEq, D.bl.injEq, Bool.not_true, Bool.not_false, Bool.false_eq_true, if_false, if_true, true_and, and_true, wMeth]
    refine ⟨7, FRf ss ls ts, _, rfl, rfl, mE, endsm_ok (.str oa.1) ?_⟩
    cases e : endsAt ls (.str a) with
    | some p =>
      rw [e] at eA
      have hm : a ∈ ns := of_decide_eq_true eA.symm
      simp only
      rw [is_non, notin_lst oa.pl rfl (strs39 hN)]
      simp only [d2, isNon, mem_str, hm, decide_true, Bool.not_true, D.bl.injEq, exists_eq_left', Bool.false_eq_true, if_false]
      exact next
    | none =>
      rw [e] at eA
      have hm : ¬ a ∈ ns := of_decide_eq_false eA.symm
      simp only [unk, tryW]
      refine ⟨_, t6, ?_⟩
      simp only [decide_true, if_true]
      intro m hm'
      simp only [h29, wsSeq, wsIf, wtB, wtNot, wtAnd, wtOr, wTru, wNot, wAnd, wOr, wIf, wOp2, wSlot, wC, wsRet, wsRetN, wsSkip, wsAsg, wsExpr, wgName, wBin, wCall, wCons, wNil, wTup, lst_new, wAttrX, blt_len, blt_int, blt_isi, blt_list, blt_tuple, blt_repr, blt_all, blt_any, blt_str, List.map_cons, List.map_nil, List.replicate, List.cons_append, List.nil_append, List.getElem?_cons_succ, List.getElem?_cons_zero, List.set_cons_succ, List.set_cons_zero, Option.some.injEq, exists_eq_left', fin_val, Rs.val.injEq, D.bl.injEq, Bool.not_true, Bool.not_false, Bool.false_eq_true, if_false, if_true, true_and, and_true, wHld, suEn, suSl]
      rw [hcmp_in (L := ns) oa rfl hN]
      simp only [hm, decide_false, D.bl.injEq, exists_eq_left', Bool.false_eq_true, if_false]
      refine ⟨.str a, rfl, ?_⟩
      rw [hcmp_ne]
      simp only [decide_true, Bool.not_true, D.bl.injEq, exists_eq_left', Bool.false_eq_true, if_false]
      exact next
  rintro sl b' ⟨rfl, -, x5, rfl⟩
  refine ⟨esq.cd, ?_⟩
  simp only [wsSeq, wsIf, wtB, wtNot, wtAnd, wtOr, wTru, wNot, wAnd, wOr, wIf, wOp2, wSlot, wC, wsRet, wsRetN, wsSkip, wsAsg, wsExpr, wgName, wBin, wCall, wCons, wNil, wTup, lst_new, wAttrX, blt_len, blt_int, blt_isi, blt_list, blt_tuple, blt_repr, blt_all, blt_any, blt_str, List.map_cons, List.map_nil, List.replicate, List.cons_append, List.nil_append, List.getElem?_cons_succ, List.getElem?_cons_zero, List.set_cons_succ, List.set_cons_zero, Option.some.injEq, exists_eq_left', fin_val, Rs.val.injEq, D.bl.injEq, Bool.not_true, Bool.not_false, Bool.false_eq_true, if_false, if_true, true_and, and_true]
  exact ⟨bx, le, h⟩
end
end Mk22
namespace Mk22
open PySem PySem.Spec Mi
def Zz (ss : List Str) (ls : T3) : Prop := ("zzz" : Str) ∉ ss ∧ ("zzz" : Str) ∉ ls.map (·.1)
def Er.good : Er → Prop
  | .name x => okS x
  | .twice x => okS x
  | .unknown x => okS x
  | .frame x => okS x
  | .round l => (∀ x ∈ l, okS x) ∧ l.length ≤ 300
theorem twi_mem : ∀ {l met : List Str} {x : Str}, twi met l = some x → x ∈ l
  | [], met, x, h => by cases h
  | y :: l, met, x, h => by
    simp only [twi] at h
    split at h
    · cases h; exact List.mem_cons_self
    · exact List.mem_cons_of_mem _ (twi_mem h)
theorem feE_ok {ss : List Str} : ∀ {ls : T3}, ok3 ls → ∀ {x : Str}, feE ss ls = some x → okS x
  | [], _, x, h => by cases h
  | p :: r, o, x, h => by
    have op := o p List.mem_cons_self
    rw [feE] at h
    split at h
    · cases h; exact op.2.1
    · split at h
      · cases h; exact op.2.2
      · exact feE_ok (fun q hq => o q (List.mem_cons_of_mem _ hq)) h
theorem ftE_ok {ns : List Str} : ∀ {ts : T2}, ok2 ts → ∀ {x : Str}, ftE ns ts = some x → okS x
  | [], _, x, h => by cases h
  | p :: r, o, x, h => by
    have op := o p List.mem_cons_self
    rw [ftE] at h
    split at h
    · cases h; exact op.1
    · exact ftE_ok (fun q hq => o q (List.mem_cons_of_mem _ hq)) h
theorem ftT_ok : ∀ {ts met : T2}, ok2 ts → ∀ {x : Str}, ftT met ts = some x → okS x
  | [], met, _, x, h => by cases h
  | p :: r, met, o, x, h => by
    have op := o p List.mem_cons_self
    rw [ftT] at h
    split at h
    · cases h; exact op.1
    · exact ftT_ok (fun q hq => o q (List.mem_cons_of_mem _ hq)) h
theorem orE_some {a r : Option Er} {e : Er} (h : orE a r = some e) : a = some e ∨ r = some e := by
  cases a with
  | none => exact .inr h
  | some e' => exact .inl h
theorem oEr_some {f : Str → Er} {o : Option Str} {r : Option Er} {e : Er} (h : oEr f o r = some e) : (∃ x, o = some x ∧ e = f x) ∨ r = some e := by
  cases o with
  | none => exact .inr h
  | some x => cases h; exact .inl ⟨x, rfl, rfl⟩
theorem itr_len {steps : T2} : ∀ (k : Nat) (l : List Str), (itr steps k l).length ≤ l.length
  | 0, l => Nat.le_refl _
  | k + 1, l => Nat.le_trans (itr_len k (rnd steps l)) rnd_le
theorem due_good {ss : List Str} {ls : T3} {ts : T2} (I : In ss ls ts) {e : Er} (h : due ss ls ts = some e) : e.good := by
  have hn : ∀ x ∈ ls.map (·.1), okS x := fun x hx => by
    obtain ⟨p, hp, rfl⟩ := List.mem_map.mp hx
    exact (I.l p hp).1
  rcases orE_some h with h | h
  · rcases oEr_some h with ⟨x, h1, rfl⟩ | h
    · have hx := List.mem_of_find?_eq_some h1
      rcases List.mem_append.mp hx with hx | hx
      · exact I.s x hx
      · exact hn x hx
    rcases oEr_some h with ⟨x, h1, rfl⟩ | h
    · exact I.s x (twi_mem h1)
    rcases oEr_some h with ⟨x, h1, rfl⟩ | h
    · exact hn x (twi_mem h1)
    cases h
  rcases orE_some h with h | h
  · rcases oEr_some h with ⟨x, h1, rfl⟩ | h
    · exact feE_ok I.l h1
    rcases oEr_some h with ⟨x, h1, rfl⟩ | h
    · exact ftE_ok I.t h1
    cases h
  rcases orE_some h with h | h
  · rcases oEr_some h with ⟨x, h1, rfl⟩ | h
    · exact ftT_ok I.t h1
    cases h
  cases e1 : rnds (stepsOf ls ts) ss with
  | nil => rw [e1] at h; cases h
  | cons y l =>
    rw [e1] at h
    cases h
    have hl := itr_len (steps := stepsOf ls ts) ss.length ss
    have hs := fun x hx => I.s x (itr_sub (k := ss.length) (steps := stepsOf ls ts) (l := ss) (x := x) hx)
    have e2 : itr (stepsOf ls ts) ss.length ss = y :: l := e1
    rw [e2] at hl hs
    exact ⟨hs, Nat.le_trans hl I.ns⟩
theorem shw_s {bx : Bx} {n : Nat} {x : Str} (h : okS x) : Shw bx (n + 1) (.str x) 1002 := (shw_str h.1).le (by have := h.2; omega)
theorem er_rp {e : Er} (h : e.good) (bx : Bx) : rpOk bx e.d := by
  have w : ∀ (k x : Str), okS k → okS x → rpOk bx (.lst [.str k, .str x]) := fun k x hk hx =>
    rp_seq (shw_lst (n := 39) (B := 1002) (ds := [.str k, .str x]) rfl fun d hd => by
      simp only [List.mem_cons, List.not_mem_nil, or_false] at hd
      rcases hd with rfl | rfl
      · exact shw_s hk
      · exact shw_s hx) (by simp) (.inl ⟨_, rfl⟩)
  have ok : ∀ k ∈ (["name", "twice", "unknown", "frame", "round"] : List Str), okS k := by unfold okS; decide +kernel
  cases e with
  | name x => exact w _ x (ok _ (by simp)) h
  | twice x => exact w _ x (ok _ (by simp)) h
  | unknown x => exact w _ x (ok _ (by simp)) h
  | frame x => exact w _ x (ok _ (by simp)) h
  | round l =>
    refine rp_seq (shw_lst (n := 39) (B := 400000) (ds := [.str "round", .tup (l.map .str)]) rfl fun d hd => ?_) (by simp) (.inl ⟨_, rfl⟩)
    simp only [List.mem_cons, List.not_mem_nil, or_false] at hd
    rcases hd with rfl | rfl
    · exact (shw_s (ok _ (by simp))).le (by omega)
    · refine (shw_tup (n := 38) (B := 1002) fun d hd => ?_).le ?_
      · obtain ⟨x, hx, rfl⟩ := List.mem_map.mp hd
        exact shw_s (h.1 x hx)
      · have := h.2
        rw [List.length_map]
        omega
theorem Gd.words {ss : List Str} {ls : T3} {ts : T2} (G : Gd ss ls ts) : ∀ x ∈ ss ++ ls.map (·.1), isW x = true := fun x hx => by
  have h := (oEr_none (orE_none G.d).1).1
  have := List.find?_eq_none.mp h x hx
  simpa using this
theorem Gd.noOdd {ss : List Str} {ls : T3} {ts : T2} (G : Gd ss ls ts) (z : Zz ss ls) : NoOdd ss ls := by
  have e0 : isW "" = false := by decide +kernel
  have h0 : ("" : Str) ∉ ss ++ ls.map (·.1) := fun h => by
    have := G.words _ h
    rw [e0] at this; cases this
  have hl : ∀ {x : Str}, x ∉ ls.map (·.1) → endsAt ls (.str x) = none := fun {x} hx => by
    have := endsAt_some (ls := ls) (x := x)
    simp only [hx, decide_false] at this
    exact Option.isSome_eq_false_iff.mp this |> Option.isNone_iff_eq_none.mp
  constructor
  · intro v hv
    simp only [ODD, List.mem_cons, List.not_mem_nil, or_false] at hv
    rcases hv with rfl | rfl | rfl | rfl | rfl | rfl | rfl | rfl
    · simpa [hasS] using z.1
    · rfl
    · rfl
    · rfl
    · rfl
    · rfl
    · have : ("" : Str) ∉ ss := fun h => h0 (List.mem_append_left _ h)
      simpa [hasS] using this
    · rfl
  · intro v hv
    simp only [ODD, List.mem_cons, List.not_mem_nil, or_false] at hv
    rcases hv with rfl | rfl | rfl | rfl | rfl | rfl | rfl | rfl
    · exact hl z.2
    · rfl
    · rfl
    · rfl
    · rfl
    · rfl
    · exact hl fun h => h0 (List.mem_append_right _ h)
    · rfl
section
variable {n : Nat} {cm : CM} {bx : Bx} {Q : VQ} {X : XQ} {b : Bool} {ss : List Str} {ls : T3} {ts : T2}
theorem isl_d {e : Er} : cOp b (dIsi (isEx S) S.isi) [e.d, .ty "list"] bx Q X = Q (.bl true) bx := by
  have h1 : S.isi (.ty "list") (.ty "list") = some true := by decide +kernel
  cases e <;> simp [cOp, dIsi, tyD, dr, clD, Er.d, h1, fin]
theorem isl_F : cOp b (dIsi (isEx S) S.isi) [FR ss ls ts, .ty "list"] bx Q X = Q (.bl false) bx := by
  have h1 : S.isi (.cls 7) (.ty "list") = some false := by decide +kernel
  have h2 : isEx S 7 = false := by decide +kernel
  simp [cOp, dIsi, tyD, dr, clD, FR, h1, h2, fin]
theorem isNon_d {e : Er} : isNon e.d = false := by cases e <;> rfl
theorem lists_ok {ds dl dt : D} (I : In ss ls ts) (z : Zz ss ls) (es : dr bx ds = some (.lst (ss.map .str))) (el : dr bx dl = some (.lst (ls.map d3))) (et : dr bx dt = some (.lst (ts.map d2))) (h : Q (.bl true) bx) : runM 3 6 (t30 (cmAt S (n + 4))) [ds, dl, dt] bx Q X := by
  refine ⟨rfl, ?_⟩
  unfold t30
  simp only [wsSeq, wsIf, wtB, wtNot, wtAnd, wtOr, wTru, wNot, wAnd, wOr, wIf, wOp2, wSlot, wC, wsRet, wsRetN, wsSkip, wsAsg, wsExpr, wgName, wBin, wCall, wCons, wNil, wTup, lst_new, wAttrX, blt_len, blt_int, blt_isi, blt_list, blt_tuple, blt_repr, blt_all, blt_any, blt_str, List.map_cons, List.map_nil, List.replicate, List.cons_append, List.nil_append, List.getElem?_cons_succ, List.getElem?_cons_zero, List.set_cons_succ, List.set_cons_zero, Option.some.injEq, exists_eq_left', fin_val, Rs.val.injEq, D.bl.injEq, Bool.not_true, Bool.not_false, Bool.false_eq_true, if_false, if_true, true_and, and_true, wsPar, callJ_at (c24 (n + 3)), callJ_at (c25 (n + 3)), callJ_at (c28 (n + 3)), callJ_at (c29 (n + 3))]
  refine due_ok (n := n + 2) I es el et ?_
  refine told_ok (n := n) I (.inl es) (.inl el) (.inl et) ?_
  refine ⟨_, rfl, ?_⟩
  simp only [wsSeq, wsIf, wtB, wtNot, wtAnd, wtOr, wTru, wNot, wAnd, wOr, wIf, wOp2, wSlot, wC, wsRet, wsRetN, wsSkip, wsAsg, wsExpr, wgName, wBin, wCall, wCons, wNil, wTup, lst_new, wAttrX, blt_len, blt_int, blt_isi, blt_list, blt_tuple, blt_repr, blt_all, blt_any, blt_str, List.map_cons, List.map_nil, List.replicate, List.cons_append, List.nil_append, List.getElem?_cons_succ, List.getElem?_cons_zero, List.set_cons_succ, List.set_cons_zero, Option.some.injEq, exists_eq_left', fin_val, Rs.val.injEq, D.bl.injEq, Bool.not_true, Bool.not_false, Bool.false_eq_true, if_false, if_true, true_and, and_true]
  rw [isnot_non]
  cases e : due ss ls ts with
  | some e' =>
    simp only [dueD, isNon_d, Bool.not_false, D.bl.injEq, exists_eq_left', if_true, wsSeq, wsIf, wtB, wtNot, wtAnd, wtOr, wTru, wNot, wAnd, wOr, wIf, wOp2, wSlot, wC, wsRet, wsRetN, wsSkip, wsAsg, wsExpr, wgName, wBin, wCall, wCons, wNil, wTup, lst_new, wAttrX, blt_len, blt_int, blt_isi, blt_list, blt_tuple, blt_repr, blt_all, blt_any, blt_str, List.map_cons, List.map_nil, List.replicate, List.cons_append, List.nil_append, List.getElem?_cons_succ, List.getElem?_cons_zero, List.set_cons_succ, List.set_cons_zero, Option.some.injEq, exists_eq_left', fin_val, Rs.val.injEq, D.bl.injEq, Bool.not_true, Bool.not_false, Bool.false_eq_true, if_false, if_true, true_and, and_true]
    rw [op_rp (er_rp (due_good I e) bx), op_rp (er_rp (due_good I e) bx), eq_txt]
    simp only [decide_true]
    exact ⟨_, LeB.refl _, h⟩
  | none =>
    have G : Gd ss ls ts := ⟨I, e⟩
    simp only [dueD, isNon, Bool.not_true, D.bl.injEq, exists_eq_left', Bool.false_eq_true, if_false]
    rw [isl_F]
    simp only [dTru, Option.some.injEq, exists_eq_left', Bool.false_eq_true, if_false, wsSeq, wsIf, wtB, wtNot, wtAnd, wtOr, wTru, wNot, wAnd, wOr, wIf, wOp2, wSlot, wC, wsRet, wsRetN, wsSkip, wsAsg, wsExpr, wgName, wBin, wCall, wCons, wNil, wTup, lst_new, wAttrX, blt_len, blt_int, blt_isi, blt_list, blt_tuple, blt_repr, blt_all, blt_any, blt_str, List.map_cons, List.map_nil, List.replicate, List.cons_append, List.nil_append, List.getElem?_cons_succ, List.getElem?_cons_zero, List.set_cons_succ, List.set_cons_zero, Option.some.injEq, exists_eq_left', fin_val, Rs.val.injEq, D.bl.injEq, Bool.not_true, Bool.not_false, Bool.false_eq_true, if_false, if_true, true_and, and_true]
    refine right_ok (n := n) G (G.noOdd z) es el et ?_
    simp only [dTru, Option.some.injEq, exists_eq_left', if_true]
    have el' : Sq bx dl (ls.map d3) := .inl el
    refine lc_all (l := ls) (g := d3) (f := fun p => .str p.1) (cond := cnd dl (ls.map d3)) (fun Qi q => ⟨_, rfl, _, el'.it, q⟩) (fun m d hm => (el'.le (leB_up hm)).cd) (by have := I.nl; rw [sizeLine_eq]; omega) (fun p hp => ⟨_, rfl, fun m e hm Qe X q => ?_⟩) ?_
    · simp only [wsSeq, wsIf, wtB, wtNot, wtAnd, wtOr, wTru, wNot, wAnd, wOr, wIf, wOp2, wSlot, wC, wsRet, wsRetN, wsSkip, wsAsg, wsExpr, wgName, wBin, wCall, wCons, wNil, wTup, lst_new, wAttrX, blt_len, blt_int, blt_isi, blt_list, blt_tuple, blt_repr, blt_all, blt_any, blt_str, List.map_cons, List.map_nil, List.replicate, List.cons_append, List.nil_append, List.getElem?_cons_succ, List.getElem?_cons_zero, List.set_cons_succ, List.set_cons_zero, Option.some.injEq, exists_eq_left', fin_val, Rs.val.injEq, D.bl.injEq, Bool.not_true, Bool.not_false, Bool.false_eq_true, if_false, if_true, true_and, and_true, wipeD, d3]
      exact ⟨_, ix_tup (k := 0) rfl, q⟩
    simp only [Bool.false_eq_true, if_false]
    rw [show (ls.map fun p => D.str p.1) = (ls.map (·.1)).map .str by simp]
    refine apart_ok (n := n + 1) G es ?_
    exact ⟨_, LeB.refl _, h⟩
end
end Mk22
namespace Mk22
open PySem PySem.Spec Mi
def ODS : List Str := ["A", "", "a b", "9", "xxxxxxxxxxxxx", "xxxxxxxxxxxx", "zz", "a", "on", "b_", "z0"]
theorem ods_ok : ∀ x ∈ ODS, okS x ∧ x ≠ "zzz" := by unfold okS ODS; decide +kernel
def WDS : List Str := ["on", "back", "off", ""]
theorem wds_ok : ∀ x ∈ WDS, okS x := by unfold okS WDS; decide +kernel
/-- lists that a frame may be made of, or not -/
structure Ls (k : Nat) (ss : List Str) (ls : T3) (ts : T2) : Prop where
  s : ∀ x ∈ ss, okS x
  l : ok3 ls
  t : ok2 ts
  ns : ss.length ≤ k
  nl : ls.length ≤ k
  nt : ts.length ≤ k
  z : Zz ss ls
theorem Ls.i {k : Nat} {ss : List Str} {ls : T3} {ts : T2} (h : Ls k ss ls ts) (hk : k ≤ 300) : In ss ls ts :=
  ⟨h.s, h.l, h.t, by have := h.ns; omega, by have := h.nl; omega, by have := h.nt; omega⟩
theorem Ls.mono {k m : Nat} {ss : List Str} {ls : T3} {ts : T2} (h : Ls k ss ls ts) (hk : k ≤ m) : Ls m ss ls ts :=
  ⟨h.s, h.l, h.t, by have := h.ns; omega, by have := h.nl; omega, by have := h.nt; omega, h.z⟩
theorem Ls.put {k : Nat} {ss : List Str} {ls : T3} {ts : T2} (h : Ls k ss ls ts) {a b : T3} (ha : ∀ p ∈ a, p ∈ ls) (hb : ∀ p ∈ b, p ∈ ls) {p : Str × Str × Str} (hp : okS p.1 ∧ okS p.2.1 ∧ okS p.2.2) (hz : p.1 ≠ "zzz") (hl : a.length + b.length ≤ k) : Ls (k + 1) ss (a ++ [p] ++ b) ts where
  s := h.s
  l := fun q hq => by
    rcases List.mem_append.mp hq with hq | hq
    · rcases List.mem_append.mp hq with hq | hq
      · exact h.l q (ha q hq)
      · rw [List.mem_singleton] at hq; subst hq; exact hp
    · exact h.l q (hb q hq)
  t := h.t
  ns := by have := h.ns; omega
  nl := by simp only [List.length_append, List.length_cons, List.length_nil]; omega
  nt := by have := h.nt; omega
  z := by
    refine ⟨h.z.1, fun hm => ?_⟩
    obtain ⟨q, hq, e⟩ := List.mem_map.mp hm
    have hz2 : ∀ q ∈ ls, q.1 ≠ "zzz" := fun q hq e => h.z.2 (e ▸ List.mem_map.mpr ⟨q, hq, rfl⟩)
    rcases List.mem_append.mp hq with hq | hq
    · rcases List.mem_append.mp hq with hq | hq
      · exact hz2 q (ha q hq) e
      · rw [List.mem_singleton] at hq; subst hq; exact hz e
    · exact hz2 q (hb q hq) e
theorem Ls.name {k : Nat} {ss : List Str} {ls : T3} {ts : T2} (h : Ls k ss ls ts) {p : Str × Str × Str} (hp : p ∈ ls) : p.1 ≠ "zzz" := fun e => h.z.2 (e ▸ List.mem_map.mpr ⟨p, hp, rfl⟩)
theorem Ls.putS {k : Nat} {ss a b : List Str} {ls : T3} {ts : T2} (h : Ls k ss ls ts) (ha : ∀ p ∈ a, p ∈ ss) (hb : ∀ p ∈ b, p ∈ ss) {x : Str} (hx : okS x) (hz : x ≠ "zzz") (hl : a.length + b.length ≤ k) : Ls (k + 1) (a ++ [x] ++ b) ls ts where
  s := fun q hq => by
    rcases List.mem_append.mp hq with hq | hq
    · rcases List.mem_append.mp hq with hq | hq
      · exact h.s q (ha q hq)
      · rw [List.mem_singleton] at hq; subst hq; exact hx
    · exact h.s q (hb q hq)
  l := h.l
  t := h.t
  ns := by simp only [List.length_append, List.length_cons, List.length_nil]; omega
  nl := by have := h.nl; omega
  nt := by have := h.nt; omega
  z := by
    refine ⟨fun hm => ?_, h.z.2⟩
    rcases List.mem_append.mp hm with hq | hq
    · rcases List.mem_append.mp hq with hq | hq
      · exact h.z.1 (ha _ hq)
      · rw [List.mem_singleton] at hq; exact hz hq.symm
    · exact h.z.1 (hb _ hq)
theorem Ls.sub {k : Nat} {ss a : List Str} {ls : T3} {ts : T2} (h : Ls k ss ls ts) (ha : ∀ p ∈ a, p ∈ ss) (hl : a.length ≤ k) : Ls k a ls ts :=
  ⟨fun x hx => h.s x (ha x hx), h.l, h.t, hl, h.nl, h.nt, fun hm => h.z.1 (ha _ hm), h.z.2⟩
theorem Ls.putT {k : Nat} {ss : List Str} {ls : T3} {ts a b : T2} (h : Ls k ss ls ts) (ha : ∀ p ∈ a, p ∈ ts) (hb : ∀ p ∈ b, p ∈ ts) {p : Str × Str} (hp : okS p.1 ∧ okS p.2) (hl : a.length + b.length ≤ k) : Ls (k + 1) ss ls (a ++ [p] ++ b) where
  s := h.s
  l := h.l
  t := fun q hq => by
    rcases List.mem_append.mp hq with hq | hq
    · rcases List.mem_append.mp hq with hq | hq
      · exact h.t q (ha q hq)
      · rw [List.mem_singleton] at hq; subst hq; exact hp
    · exact h.t q (hb q hq)
  ns := by have := h.ns; omega
  nl := by have := h.nl; omega
  nt := by simp only [List.length_append, List.length_cons, List.length_nil]; omega
  z := h.z
def LD (ss : List Str) (ls : T3) (ts : T2) : List D := [.lst (ss.map .str), .lst (ls.map d3), .lst (ts.map d2)]
theorem same_trans {b1 b2 : Nat} {x y z : Bx} (h : Same x b1 b2 y) (h' : Same y b1 b2 z) : Same x b1 b2 z := fun n e1 e2 => (h' n e1 e2).trans (h n e1 e2)
section
variable {n : Nat} {cm : CM} {bx : Bx} {Q : VQ} {X : XQ} {b : Bool} {b1 b2 : Nat} {ss : List Str} {ls : T3} {ts : T2}
theorem mul13 : binC S cm false .Mult [.str "x", .int 13] bx Q X = Q (.str "xxxxxxxxxxxxx") bx := by
  have : dSMul bx (.str "x") (.int 13) = some (.val (.str "xxxxxxxxxxxxx")) := by kernel_rfl
  simp [binC, cOp, o2, orO, dMul, dr, this, fin]
theorem mul12 : binC S cm false .Mult [.str "x", .int 12] bx Q X = Q (.str "xxxxxxxxxxxx") bx := by
  have : dSMul bx (.str "x") (.int 12) = some (.val (.str "xxxxxxxxxxxx")) := by kernel_rfl
  simp [binC, cOp, o2, orO, dMul, dr, this, fin]
theorem add_l {x y : List D} (h : x.length + y.length ≤ 10000) : binC S cm false .Add [.lst x, .lst y] bx Q X = Q (.lst (x ++ y)) bx := add_at rfl rfl (by rw [sizeLine_eq]; omega)
theorem pickC (n : Nat) : ∃ cp, cmAt S (n + 1) 16 = some cp ∧ ∀ {bx : Bx} {b1 b2 : Nat} {k : Int} {Q : VQ} {X : XQ}, Sr bx b1 b2 → 1 ≤ k → k ≤ 10000000 → (∀ bx' (j : Nat), Sr bx' b1 b2 → Same bx b1 b2 bx' → (j : Int) < k → Q (.int j) bx') → cp [.box b1, .int k] bx Q X :=
  ⟨_, c16' n, fun h h1 h2 hq => pickR h h1 h2 hq⟩
theorem pick3 {w l : Nat} {A B T : Prop} (h1 : w = 0 → l < 3 → A) (h2 : w = 1 → B) (h3 : w ≠ 1 → T) : if decide (w = 0) = true then (if decide (l < 3) = true then A else if decide (w = 1) = true then B else T) else if decide (w = 1) = true then B else T := by
  by_cases c0 : w = 0
  · simp only [c0, decide_true, if_true]
    by_cases c3 : l < 3
    · simp only [c3, decide_true, if_true]; exact h1 c0 c3
    · simp only [c3, decide_false, Bool.false_eq_true, if_false]
      exact h3 (by omega)
  · simp only [c0, decide_false, Bool.false_eq_true, if_false]
    by_cases c1 : w = 1
    · simp only [c1, decide_true, if_true]; exact h2 c1
    · simp only [c1, decide_false, Bool.false_eq_true, if_false]; exact h3 c1
theorem bent_ok {k : Nat} (h : Sr bx b1 b2) (L : Ls k ss ls ts) (hk : k ≤ 200) (hne : ls ≠ []) (hq : ∀ bx' ss' ls' ts', Sr bx' b1 b2 → Same bx b1 b2 bx' → Ls (k + 1) ss' ls' ts' → ls' ≠ [] → Q (.lst (LD ss' ls' ts')) bx') : runM 4 12 (t26 (cmAt S (n + 1))) [.box b1, .lst (ss.map .str), .lst (ls.map d3), .lst (ts.map d2)] bx Q X := by
  refine ⟨rfl, ?_⟩
  obtain ⟨cp, e16, pick⟩ := pickC n
  generalize cmAt S (n + 1) = cm at e16 ⊢
  unfold t26
  have n1 := L.ns
  have n2 := L.nl
  have n3 := L.nt
  have hpos : 1 ≤ ls.length := List.length_pos_iff.mpr hne
  simp only [↓wsSeq_a, ↓wsIf_a, ↓wtB_a, ↓wtNot_a, ↓wtAnd_a, ↓wtOr_a, ↓wTru_a, ↓wNot_a, ↓wAnd_a, ↓wOr_a, ↓wIf_a, ↓wOp2_a, ↓wSlot_a, ↓wC_a, ↓wsRet_a, ↓wsRetN_a, ↓wsSkip_a, ↓wsAsg_a, ↓wsExpr_a, ↓wgName_a, ↓wBin_a, ↓wCall_a, ↓wCons_a, ↓wNil_a, ↓wTup_a, ↓lst_a, ↓wAttrX_a, blt_len, blt_int, blt_isi, blt_list, blt_tuple, blt_repr, blt_all, blt_any, blt_str, List.map_cons, List.map_nil, List.replicate, List.cons_append, List.nil_append, List.getElem?_cons_succ, List.getElem?_cons_zero, List.set_cons_succ, List.set_cons_zero, Option.some.injEq, exists_eq_left', fin_val, Rs.val.injEq, D.bl.injEq, Bool.not_true, Bool.not_false, Bool.false_eq_true, if_false, if_true, true_and, and_true, ↓wsFor_a, ↓wiAny_a, ↓wMeth_a, ↓wSl_a, ↓woSome_a, ↓woNone_a, ↓wBm_a, ↓wsTry_a, ↓wNeg_a, ↓wRev_a, ↓wSlotF_a, ↓wsPar_a, callJ_at e16]
  simp only [mul13, mul12, List.length_cons, List.length_nil]
  refine ⟨by rw [sizeLine_eq]; omega, ?_⟩
  refine pick h (by decide) (by decide) fun bx1 o h1 f1 ho => ?_
  have ho' : o < ODS.length := by show o < 11; omega
  refine ⟨_, ix_lst (k := o) (l := ODS.map .str) (x := .str ODS[o]) rfl (by simp [ho']), ?_⟩
  obtain ⟨hod, hoz⟩ := ods_ok ODS[o] (List.getElem_mem ho')
  generalize ODS[o] = odd at hod hoz
  simp only [fin_val, ↓wsSeq_a, ↓wsIf_a, ↓wtB_a, ↓wtNot_a, ↓wtAnd_a, ↓wtOr_a, ↓wTru_a, ↓wNot_a, ↓wAnd_a, ↓wOr_a, ↓wIf_a, ↓wOp2_a, ↓wSlot_a, ↓wC_a, ↓wsRet_a, ↓wsRetN_a, ↓wsSkip_a, ↓wsAsg_a, ↓wsExpr_a, ↓wgName_a, ↓wBin_a, ↓wCall_a, ↓wCons_a, ↓wNil_a, ↓wTup_a, ↓lst_a, ↓wAttrX_a, blt_len, blt_int, blt_isi, blt_list, blt_tuple, blt_repr, blt_all, blt_any, blt_str, List.map_cons, List.map_nil, List.replicate, List.cons_append, List.nil_append, List.getElem?_cons_succ, List.getElem?_cons_zero, List.set_cons_succ, List.set_cons_zero, Option.some.injEq, exists_eq_left', fin_val, Rs.val.injEq, D.bl.injEq, Bool.not_true, Bool.not_false, Bool.false_eq_true, if_false, if_true, true_and, and_true, ↓wsFor_a, ↓wiAny_a, ↓wMeth_a, ↓wSl_a, ↓woSome_a, ↓woNone_a, ↓wBm_a, ↓wsTry_a, ↓wNeg_a, ↓wRev_a, ↓wSlotF_a, ↓wsPar_a]
  refine pick h1 (by decide) (by decide) fun bx2 w h2 f2 hw => ?_
  simp only [len_at (show dr bx2 (.lst (ls.map d3)) = some (.lst (ls.map d3)) from rfl), List.length_map]
  refine pick h2 (by omega) (by omega) fun bx3 a h3 f3 ha => ?_
  refine ⟨_, rfl, ?_⟩
  have F : Same bx b1 b2 bx3 := same_trans f1 (same_trans f2 f3)
  have ha' : a < ls.length := by omega
  have hw' : w < 8 := by omega
  have done : ∀ ss' ls' ts', Ls (k + 1) ss' ls' ts' → ls' ≠ [] → fgt (Q (.lst (LD ss' ls' ts'))) bx3 := fun ss' ls' ts' a b => ⟨_, LeB.refl _, hq _ _ _ _ h3 F a b⟩
  have i0 : ((w : Int) = 0) ↔ w = 0 := by omega
  have i1 : ((w : Int) = 1) ↔ w = 1 := by omega
  have i5 : ((w : Int) < 5) ↔ w < 5 := by omega
  have i55 : ((w : Int) = 5) ↔ w = 5 := by omega
  have i6 : ((w : Int) = 6) ↔ w = 6 := by omega
  have i3 : ((ss.length : Int) < 3) ↔ ss.length < 3 := by omega
  simp only [↓wsSeq_a, ↓wsIf_a, ↓wtB_a, ↓wtNot_a, ↓wtAnd_a, ↓wtOr_a, ↓wTru_a, ↓wNot_a, ↓wAnd_a, ↓wOr_a, ↓wIf_a, ↓wOp2_a, ↓wSlot_a, ↓wC_a, ↓wsRet_a, ↓wsRetN_a, ↓wsSkip_a, ↓wsAsg_a, ↓wsExpr_a, ↓wgName_a, ↓wBin_a, ↓wCall_a, ↓wCons_a, ↓wNil_a, ↓wTup_a, ↓lst_a, ↓wAttrX_a, blt_len, blt_int, blt_isi, blt_list, blt_tuple, blt_repr, blt_all, blt_any, blt_str, List.map_cons, List.map_nil, List.replicate, List.cons_append, List.nil_append, List.getElem?_cons_succ, List.getElem?_cons_zero, List.set_cons_succ, List.set_cons_zero, Option.some.injEq, exists_eq_left', fin_val, Rs.val.injEq, D.bl.injEq, Bool.not_true, Bool.not_false, Bool.false_eq_true, if_false, if_true, true_and, and_true, ↓wsFor_a, ↓wiAny_a, ↓wMeth_a, ↓wSl_a, ↓woSome_a, ↓woNone_a, ↓wBm_a, ↓wsTry_a, ↓wNeg_a, ↓wRev_a, ↓wSlotF_a, ↓wsPar_a, eq_int, i0, i1, D.bl.injEq, exists_eq_left', len_at (show dr bx3 (.lst (ss.map .str)) = some (.lst (ss.map .str)) from rfl), List.length_map, cmp_lt, i3]
  refine pick3 (fun c0 c3 => ?_) (fun c1 => ?_) (fun c1 => ?_)
  · refine ⟨by rw [sizeLine_eq]; omega, ?_⟩
    rw [add_l (by simp; omega)]
    refine ⟨by rw [sizeLine_eq]; omega, ?_⟩
    have := done (ss ++ [odd] ++ []) ls ts (L.putS (fun _ h => h) (by simp) hod hoz (by simpa using n1)) hne
    simpa [LD] using this
  · refine ⟨_, rfl, _, rfl, _, sl_last rfl, ?_⟩
    simp only [fin_new]
    refine ⟨by rw [sizeLine_eq]; omega, ?_⟩
    have := done ss.dropLast ls ts ((L.sub (fun _ h => List.dropLast_subset _ h) (by rw [List.length_dropLast]; omega)).mono (by omega)) hne
    simpa [LD, List.map_dropLast] using this
  · have ek : (ls.map d3)[a]? = some (d3 ls[a]) := by simp [ha']
    have om := List.getElem_mem ha'
    have oa := L.l ls[a] om
    refine ⟨_, ix_lst rfl ek, ?_⟩
    simp only [fin_val]
    have hz := L.name om
    generalize ls[a] = p at oa om hz
    simp only [d3]
    refine tg3 ?_
    have zl : ∀ {m : Nat}, m ≤ 1000 → m ≤ sizeLine := fun {m} h => by rw [sizeLine_eq]; omega
    simp only [↓wsSeq_a, ↓wsIf_a, ↓wtB_a, ↓wtNot_a, ↓wtAnd_a, ↓wtOr_a, ↓wTru_a, ↓wNot_a, ↓wAnd_a, ↓wOr_a, ↓wIf_a, ↓wOp2_a, ↓wSlot_a, ↓wC_a, ↓wsRet_a, ↓wsRetN_a, ↓wsSkip_a, ↓wsAsg_a, ↓wsExpr_a, ↓wgName_a, ↓wBin_a, ↓wCall_a, ↓wCons_a, ↓wNil_a, ↓wTup_a, ↓lst_a, ↓wAttrX_a, blt_len, blt_int, blt_isi, blt_list, blt_tuple, blt_repr, blt_all, blt_any, blt_str, List.map_cons, List.map_nil, List.replicate, List.cons_append, List.nil_append, List.getElem?_cons_succ, List.getElem?_cons_zero, List.set_cons_succ, List.set_cons_zero, Option.some.injEq, exists_eq_left', fin_val, Rs.val.injEq, D.bl.injEq, Bool.not_true, Bool.not_false, Bool.false_eq_true, if_false, if_true, true_and, and_true, ↓wsFor_a, ↓wiAny_a, ↓wMeth_a, ↓wSl_a, ↓woSome_a, ↓woNone_a, ↓wBm_a, ↓wsTry_a, ↓wNeg_a, ↓wRev_a, ↓wSlotF_a, ↓wsPar_a, eq_int, cmp_lt, i5, i55, i6, D.bl.injEq, exists_eq_left', List.length_cons, List.length_nil, decide_eq_true_eq, bin_sub, bin_add, callJ_at e16]
    by_cases c5 : w < 5
    · simp only [c5, if_true]
      refine ⟨zl (by omega), zl (by omega), zl (by omega), zl (by omega), ?_⟩
      have turned : ∃ q : Str × Str × Str, dIx bx3 (.lst [.tup [.str odd, .str p.2.1, .str p.2.2], .tup [.str p.1, .str odd, .str p.2.2], .tup [.str p.1, .str p.2.1, .str odd]]) (.int ((w : Int) - 2)) = some (.val (d3 q)) ∧ (okS q.1 ∧ okS q.2.1 ∧ okS q.2.2) ∧ q.1 ≠ "zzz" := by
        have : w = 0 ∨ w = 2 ∨ w = 3 ∨ w = 4 := by omega
        rcases this with rfl | rfl | rfl | rfl
        · exact ⟨(p.1, odd, p.2.2), rfl, ⟨oa.1, hod, oa.2.2⟩, hz⟩
        · exact ⟨(odd, p.2.1, p.2.2), rfl, ⟨hod, oa.2.1, oa.2.2⟩, hoz⟩
        · exact ⟨(p.1, odd, p.2.2), rfl, ⟨oa.1, hod, oa.2.2⟩, hz⟩
        · exact ⟨(p.1, p.2.1, odd), rfl, ⟨oa.1, oa.2.1, hod⟩, hz⟩
      obtain ⟨q, e1, e2, e3⟩ := turned
      refine ⟨_, e1, ?_⟩
      simp only [fin_val]
      refine ⟨_, rfl, _, sl_take rfl a, ?_⟩
      simp only [fin_new]
      refine ⟨zl (by omega), ?_⟩
      have t1 : (ls.take a).length ≤ a := by rw [List.length_take]; omega
      have t2 : (ls.drop (a + 1)).length = ls.length - (a + 1) := List.length_drop
      rw [← List.map_take, add_l (by rw [List.length_map]; simp only [List.length_cons, List.length_nil]; omega)]
      refine ⟨_, rfl, _, sl_drop (k := a + 1) rfl, ?_⟩
      simp only [fin_new]
      rw [← List.map_drop, add_l (by simp only [List.length_append, List.length_map, List.length_cons, List.length_nil]; omega)]
      refine ⟨zl (by omega), ?_⟩
      have := done ss (ls.take a ++ [q] ++ ls.drop (a + 1)) ts (L.put (fun _ h => List.mem_of_mem_take h) (fun _ h => List.mem_of_mem_drop h) e2 e3 (by omega)) (by simp)
      simpa [LD] using this
    · simp only [c5, if_false]
      by_cases c55 : w = 5
      · simp only [c55, if_true]
        refine ⟨zl (by omega), zl (by omega), ?_⟩
        rw [add_l (by rw [List.length_map]; simp only [List.length_cons, List.length_nil]; omega)]
        refine ⟨zl (by omega), ?_⟩
        have := done ss (ls ++ [(p.1, p.2.2, p.2.1)] ++ []) ts (L.put (fun _ h => h) (by simp) ⟨oa.1, oa.2.2, oa.2.1⟩ hz (by simpa using n2)) (by simp)
        simpa [LD, d3] using this
      · simp only [c55, if_false]
        refine ⟨zl (by omega), ?_⟩
        refine pick h3 (by decide) (by decide) fun bx4 v h4 f4 hv => ?_
        have hv' : v < WDS.length := by show v < 4; omega
        refine ⟨_, ix_lst (k := v) (l := WDS.map .str) (x := .str WDS[v]) rfl (by simp [hv']), ?_⟩
        have hwd := wds_ok WDS[v] (List.getElem_mem hv')
        generalize WDS[v] = word at hwd
        simp only [fin_val]
        have key : ∀ x : Str, okS x → fgt (Q (.lst [.lst (ss.map .str), .lst (ls.map d3), .lst (ts.map d2 ++ [.tup [.str x, .str word]])])) bx4 := fun x hx => by
          have L' := L.putT (a := ts) (b := []) (p := (x, word)) (fun _ h => h) (by simp) ⟨hx, hwd⟩ (by simpa using n3)
          have := hq bx4 ss ls (ts ++ [(x, word)] ++ []) h4 (same_trans F f4) L' hne
          exact ⟨_, LeB.refl _, by simpa [LD, d2] using this⟩
        by_cases c6 : w = 6
        · simp only [c6, if_true]
          refine ⟨zl (by omega), zl (by omega), ?_⟩
          rw [add_l (by rw [List.length_map]; simp only [List.length_cons, List.length_nil]; omega)]
          exact ⟨zl (by omega), key _ oa.1⟩
        · simp only [c6, if_false]
          refine ⟨zl (by omega), zl (by omega), ?_⟩
          rw [add_l (by rw [List.length_map]; simp only [List.length_cons, List.length_nil]; omega)]
          exact ⟨zl (by omega), key _ hod⟩
end
end Mk22
namespace Mk22
open PySem PySem.Spec Mi
def kv3 (p : Str × Str × Str) : D × D := (.str p.1, d2 p.2)
def frameD (ss : List Str) (ls : T3) (ts : T2) : D := .dic false [(.str "sorts", .lst (ss.map .str)), (.str "letters", .dic false (ls.map kv3)), (.str "order", .lst ((ls.map (·.1)).map .str)), (.str "totals", .lst (ts.map d2)), (.str "made", FR ss ls ts)]
section
variable {n : Nat} {cm : CM} {bx : Bx} {Q : VQ} {X : XQ} {b : Bool} {b1 b2 : Nat} {ss : List Str} {ls : T3} {ts : T2}
theorem makeC (n : Nat) : ∃ c, mkOf S (cmAt S (n + 3)) 7 = some c ∧ ∀ {bx : Bx} {Q : VQ} {X : XQ} {ss : List Str} {ls : T3} {ts : T2} {ds dl dt : D} {sl : Sl} {ma : WA}, In ss ls ts → Sq bx ds (ss.map .str) → Sq bx dl (ls.map d3) → Sq bx dt (ts.map d2) → (∀ (Q : List D → Bx → Prop) (X : XQ), Q [ds, dl, dt] bx → ma sl bx Q X) →
    res (due ss ls ts) (Q (FR ss ls ts) bx) (fun x => X x bx) → wMake false 7 c ma sl bx Q X :=
  ⟨_, mk7 (n + 2), fun I es el et hm h => make_ok I es el et hm h⟩
theorem merge5 {a b' c d e : D} : mergeD false [] [(.str "sorts", a), (.str "letters", b'), (.str "order", c), (.str "totals", d), (.str "made", e)] = [(.str "sorts", a), (.str "letters", b'), (.str "order", c), (.str "totals", d), (.str "made", e)] := by kernel_rfl
theorem framed_ok (G : Gd ss ls ts) (h : Q (frameD ss ls ts) bx) : runM 4 6 (t19 (cmAt S (n + 3))) [.lst (ss.map .str), .lst ((ls.map (·.1)).map .str), .dic false (ls.map kv3), .lst (ts.map d2)] bx Q X := by
  refine ⟨rfl, ?_⟩
  obtain ⟨c, e7, make⟩ := makeC n
  generalize cmAt S (n + 3) = cm at e7 ⊢
  unfold t19
  have n2 := G.i.nl
  simp only [↓wsSeq_a, ↓wsIf_a, ↓wtB_a, ↓wtNot_a, ↓wtAnd_a, ↓wtOr_a, ↓wTru_a, ↓wNot_a, ↓wAnd_a, ↓wOr_a, ↓wIf_a, ↓wOp2_a, ↓wSlot_a, ↓wC_a, ↓wsRet_a, ↓wsRetN_a, ↓wsSkip_a, ↓wsAsg_a, ↓wsExpr_a, ↓wgName_a, ↓wBin_a, ↓wCall_a, ↓wCons_a, ↓wNil_a, ↓wTup_a, ↓lst_a, ↓wAttrX_a, blt_len, blt_int, blt_isi, blt_list, blt_tuple, blt_repr, blt_all, blt_any, blt_str, List.map_cons, List.map_nil, List.replicate, List.cons_append, List.nil_append, List.getElem?_cons_succ, List.getElem?_cons_zero, List.set_cons_succ, List.set_cons_zero, Option.some.injEq, exists_eq_left', fin_val, Rs.val.injEq, D.bl.injEq, Bool.not_true, Bool.not_false, Bool.false_eq_true, if_false, if_true, true_and, and_true, ↓wsFor_a, ↓wiAny_a, ↓wMeth_a, ↓wSl_a, ↓woSome_a, ↓woNone_a, ↓wBm_a, ↓wsTry_a, ↓wNeg_a, ↓wRev_a, ↓wSlotF_a, ↓wsPar_a, makeJ_at e7]
  refine make (ss := ss) (ls := ls) (ts := ts) (ds := .lst (ss.map .str)) (dl := .lst (ls.map d3)) (dt := .lst (ts.map d2)) G.i (.inl rfl) (.inl rfl) (.inl rfl) (fun Q X q => ?_) ?_
  · simp only [↓wsSeq_a, ↓wsIf_a, ↓wtB_a, ↓wtNot_a, ↓wtAnd_a, ↓wtOr_a, ↓wTru_a, ↓wNot_a, ↓wAnd_a, ↓wOr_a, ↓wIf_a, ↓wOp2_a, ↓wSlot_a, ↓wC_a, ↓wsRet_a, ↓wsRetN_a, ↓wsSkip_a, ↓wsAsg_a, ↓wsExpr_a, ↓wgName_a, ↓wBin_a, ↓wCall_a, ↓wCons_a, ↓wNil_a, ↓wTup_a, ↓lst_a, ↓wAttrX_a, blt_len, blt_int, blt_isi, blt_list, blt_tuple, blt_repr, blt_all, blt_any, blt_str, List.map_cons, List.map_nil, List.replicate, List.cons_append, List.nil_append, List.getElem?_cons_succ, List.getElem?_cons_zero, List.set_cons_succ, List.set_cons_zero, Option.some.injEq, exists_eq_left', fin_val, Rs.val.injEq, D.bl.injEq, Bool.not_true, Bool.not_false, Bool.false_eq_true, if_false, if_true, true_and, and_true, ↓wsFor_a, ↓wiAny_a, ↓wMeth_a, ↓wSl_a, ↓woSome_a, ↓woNone_a, ↓wBm_a, ↓wsTry_a, ↓wNeg_a, ↓wRev_a, ↓wSlotF_a, ↓wsPar_a]
    rw [List.map_map]
    refine lc_all (l := ls) (g := fun p => .str p.1) (f := d3) (cond := always) (fun Qi q => ⟨_, rfl, _, rfl, q⟩) (fun m d hm => trivial) (by rw [sizeLine_eq]; omega) (fun p hp => ⟨_, rfl, fun m e hm Qe X q => ?_⟩) ?_
    · simp only [↓wsSeq_a, ↓wsIf_a, ↓wtB_a, ↓wtNot_a, ↓wtAnd_a, ↓wtOr_a, ↓wTru_a, ↓wNot_a, ↓wAnd_a, ↓wOr_a, ↓wIf_a, ↓wOp2_a, ↓wSlot_a, ↓wC_a, ↓wsRet_a, ↓wsRetN_a, ↓wsSkip_a, ↓wsAsg_a, ↓wsExpr_a, ↓wgName_a, ↓wBin_a, ↓wCall_a, ↓wCons_a, ↓wNil_a, ↓wTup_a, ↓lst_a, ↓wAttrX_a, blt_len, blt_int, blt_isi, blt_list, blt_tuple, blt_repr, blt_all, blt_any, blt_str, List.map_cons, List.map_nil, List.replicate, List.cons_append, List.nil_append, List.getElem?_cons_succ, List.getElem?_cons_zero, List.set_cons_succ, List.set_cons_zero, Option.some.injEq, exists_eq_left', fin_val, Rs.val.injEq, D.bl.injEq, Bool.not_true, Bool.not_false, Bool.false_eq_true, if_false, if_true, true_and, and_true, ↓wsFor_a, ↓wiAny_a, ↓wMeth_a, ↓wSl_a, ↓woSome_a, ↓woNone_a, ↓wBm_a, ↓wsTry_a, ↓wNeg_a, ↓wRev_a, ↓wSlotF_a, ↓wsPar_a, wipeD, List.length_cons, List.length_nil]
      have lk : ∀ b : Bx, dIx b (.dic false (ls.map kv3)) (.str p.1) = some (.val (d2 p.2)) := fun b => ix_dic (f := d2) (l := ls) rfl (G.look p hp)
      refine ⟨_, lk _, ?_⟩
      simp only [fin_val, d2]
      refine ⟨_, ix_tup (k := 0) rfl, ?_⟩
      simp only [fin_val]
      refine ⟨_, lk _, ?_⟩
      simp only [fin_val, d2]
      refine ⟨_, ix_tup (k := 1) rfl, ?_⟩
      simp only [fin_val]
      exact ⟨by rw [sizeLine_eq]; omega, q⟩
    · simp only [Bool.false_eq_true, if_false]
      exact q
  rw [G.d]
  simp only [res, wDisp, wPairs, ↓wsSeq_a, ↓wsIf_a, ↓wtB_a, ↓wtNot_a, ↓wtAnd_a, ↓wtOr_a, ↓wTru_a, ↓wNot_a, ↓wAnd_a, ↓wOr_a, ↓wIf_a, ↓wOp2_a, ↓wSlot_a, ↓wC_a, ↓wsRet_a, ↓wsRetN_a, ↓wsSkip_a, ↓wsAsg_a, ↓wsExpr_a, ↓wgName_a, ↓wBin_a, ↓wCall_a, ↓wCons_a, ↓wNil_a, ↓wTup_a, ↓lst_a, ↓wAttrX_a, blt_len, blt_int, blt_isi, blt_list, blt_tuple, blt_repr, blt_all, blt_any, blt_str, List.map_cons, List.map_nil, List.replicate, List.cons_append, List.nil_append, List.getElem?_cons_succ, List.getElem?_cons_zero, List.set_cons_succ, List.set_cons_zero, Option.some.injEq, exists_eq_left', fin_val, Rs.val.injEq, D.bl.injEq, Bool.not_true, Bool.not_false, Bool.false_eq_true, if_false, if_true, true_and, and_true, ↓wsFor_a, ↓wiAny_a, ↓wMeth_a, ↓wSl_a, ↓woSome_a, ↓woNone_a, ↓wBm_a, ↓wsTry_a, ↓wNeg_a, ↓wRev_a, ↓wSlotF_a, ↓wsPar_a]
  intro m hm
  refine ⟨upb_at, by simp, rfl, ?_⟩
  rw [merge5, delb_upb hm]
  exact ⟨_, LeB.refl _, h⟩
end
end Mk22
namespace Mk22
open PySem PySem.Spec Mi
theorem twi_none : ∀ {l met : List Str}, l.Nodup → (∀ x ∈ l, x ∉ met) → twi met l = none
  | [], _, _, _ => rfl
  | x :: l, met, h, hm => by
    rw [List.nodup_cons] at h
    rw [twi, if_neg (hm x List.mem_cons_self)]
    refine twi_none h.2 fun y hy hq => ?_
    rcases List.mem_append.mp hq with hq | hq
    · exact hm y (List.mem_cons_of_mem _ hy) hq
    · rw [List.mem_singleton] at hq
      subst hq
      exact h.1 hy
theorem feE_none {ss : List Str} : ∀ {ls : T3}, (∀ p ∈ ls, p.2.1 ∈ ss ∧ p.2.2 ∈ ss) → feE ss ls = none
  | [], _ => rfl
  | p :: r, h => by
    have hp := h p List.mem_cons_self
    rw [feE, if_neg (by simpa using hp.1), if_neg (by simpa using hp.2)]
    exact feE_none fun q hq => h q (List.mem_cons_of_mem _ hq)
theorem ftE_none {ns : List Str} : ∀ {ts : T2}, (∀ t ∈ ts, t.1 ∈ ns) → ftE ns ts = none
  | [], _ => rfl
  | p :: r, h => by
    rw [ftE, if_neg (by simpa using h p List.mem_cons_self)]
    exact ftE_none fun q hq => h q (List.mem_cons_of_mem _ hq)
theorem ftT_none : ∀ {ts met : T2}, ts.Nodup → (∀ t ∈ ts, t.2 = "on" ∨ t.2 = "back") → (∀ t ∈ ts, t ∉ met) → ftT met ts = none
  | [], _, _, _, _ => rfl
  | p :: r, met, h, hw, hm => by
    rw [List.nodup_cons] at h
    have h1 : p.2 ∈ (["on", "back"] : List Str) := by
      rcases hw p List.mem_cons_self with e | e <;> simp [e]
    rw [ftT, if_neg (by rintro (q | q); exact q h1; exact hm p List.mem_cons_self q)]
    refine ftT_none h.2 (fun q hq => hw q (List.mem_cons_of_mem _ hq)) fun q hq hq2 => ?_
    rcases List.mem_append.mp hq2 with hq2 | hq2
    · exact hm q (List.mem_cons_of_mem _ hq) hq2
    · rw [List.mem_singleton] at hq2
      subst hq2
      exact h.1 hq
theorem due_none {ss : List Str} {ls : T3} {ts : T2} (h1 : ∀ x ∈ ss ++ ls.map (·.1), isW x = true) (h2 : ss.Nodup) (h3 : (ls.map (·.1)).Nodup) (h4 : ∀ p ∈ ls, p.2.1 ∈ ss ∧ p.2.2 ∈ ss) (h5 : ∀ t ∈ ts, t.1 ∈ ls.map (·.1)) (h6 : ts.Nodup) (h7 : ∀ t ∈ ts, t.2 = "on" ∨ t.2 = "back") (h8 : rnds (stepsOf ls ts) ss = []) : due ss ls ts = none := by
  unfold due lookW lookE
  rw [List.find?_eq_none.mpr (fun x hx => by simp [h1 x hx]), twi_none h2 (by simp), twi_none h3 (by simp), feE_none h4, ftE_none h5, ftT_none h6 h7 (by simp), h8]
  rfl
/-- the other way -/
theorem due_parts {ss : List Str} {ls : T3} {ts : T2} (h : due ss ls ts = none) : rnds (stepsOf ls ts) ss = [] := by
  have := (orE_none (orE_none (orE_none h).2).2).2
  cases e : rnds (stepsOf ls ts) ss with
  | nil => rfl
  | cons y l => rw [e] at this; cases this
def rk (x : Str) : Nat := if x = "a" then 0 else if x = "b" then 1 else 2
theorem itr_rk {steps : T2} (h : ∀ p ∈ steps, rk p.1 < rk p.2) : ∀ (k N : Nat) (l : List Str), (∀ x ∈ l, rk x < N) → ∀ x ∈ itr steps k l, rk x + k < N
  | 0, N, l, hl, x, hx => hl x hx
  | k + 1, N, l, hl, x, hx => by
    have hl2 : ∀ x ∈ rnd steps l, rk x + 1 < N := fun x hx => by
      obtain ⟨_, h2⟩ := List.mem_filter.mp hx
      obtain ⟨p, hp, h3⟩ := List.any_eq_true.mp h2
      simp only [Bool.and_eq_true, decide_eq_true_eq] at h3
      have := h p hp
      have := hl _ h3.2
      rw [h3.1] at *
      omega
    by_cases hN : N = 0
    · subst hN
      have := hl x (List.mem_filter.mp (itr_sub (k := k) (l := rnd steps l) hx)).1
      omega
    have := itr_rk h k (N - 1) (rnd steps l) (fun x hx => by have := hl2 x hx; omega) x hx
    omega
theorem rnds_up {steps : T2} {ss : List Str} (h : ∀ p ∈ steps, rk p.1 < rk p.2) (hs : ∀ x ∈ ss, rk x < ss.length) : rnds steps ss = [] := by
  refine List.eq_nil_iff_forall_not_mem.mpr fun x hx => ?_
  have := itr_rk h ss.length ss.length ss hs x hx
  omega
theorem rnd_nil {l : List Str} : rnd [] l = [] := by simp [rnd]
theorem rnds_none {ss : List Str} : rnds [] ss = [] := by
  unfold rnds
  cases ss with
  | nil => rfl
  | cons x l =>
    show itr [] l.length (rnd [] (x :: l)) = []
    rw [rnd_nil]
    exact itr_fix rnd_nil _
def SRT : List Str := ["a", "b", "c"]
theorem srt_gt : ∀ x ∈ SRT, ∀ y ∈ SRT, (decide (y.cps.toList < x.cps.toList) = decide (rk y < rk x)) ∧ (x ≠ y → ¬ rk y < rk x → rk x < rk y) := by decide +kernel
end Mk22
namespace Mk22
open PySem PySem.Spec Mi
/-- a frame as the law makes it -/
structure Fr0 (ss : List Str) (ls : T3) (ts : T2) : Prop where
  sn : ss.Nodup
  s3 : ss.length ≤ 3
  s0 : ss ≠ []
  sp : ∀ x ∈ ss, x ∈ SRT
  sr : ∀ x ∈ ss, rk x < ss.length
  n : Nms (ls.map (·.1))
  e : ∀ p ∈ ls, p.2.1 ∈ ss ∧ p.2.2 ∈ ss
  l1 : ls.length ≤ 10
  l0 : ls ≠ []
  tm : ∀ t ∈ ts, t.1 ∈ ls.map (·.1)
  tn : ts.Nodup
  tw : ∀ t ∈ ts, t.2 = "on" ∨ t.2 = "back"
  tu : ∀ t ∈ ts, rk (stp (endsOf ls t.1) t.2).1 < rk (stp (endsOf ls t.1) t.2).2
  tl : ts.length ≤ 10
theorem at_str {L : List Str} {j : Nat} (h : j < L.length) : ∃ x, (L.map D.str)[j]? = some (.str x) ∧ x ∈ L := ⟨L[j], by simp [h], List.getElem_mem h⟩
theorem nodup_rev {α : Type} {l : List α} (h : l.Nodup) : l.reverse.Nodup := by
  rw [List.Nodup, List.pairwise_reverse]
  exact h.imp Ne.symm
theorem srt_ok : ∀ x ∈ SRT, isW x = true ∧ (okS x ∧ x ≠ "zzz") := by unfold okS SRT; decide +kernel
theorem ok_wd {x : Str} (h : x = "on" ∨ x = "back") : okS x := by
  have : okS "on" ∧ okS "back" := by unfold okS; decide +kernel
  rcases h with rfl | rfl
  · exact this.1
  · exact this.2
section
variable {ss : List Str} {ls : T3} {ts : T2}
theorem Fr0.lsOk (h : Fr0 ss ls ts) : Ls 10 ss ls ts where
  s := fun x hx => (srt_ok x (h.sp x hx)).2.1
  l := fun p hp => ⟨h.n.ok _ (List.mem_map.mpr ⟨p, hp, rfl⟩), (srt_ok _ (h.sp _ (h.e p hp).1)).2.1, (srt_ok _ (h.sp _ (h.e p hp).2)).2.1⟩
  t := fun t ht => ⟨h.n.ok _ (h.tm t ht), ok_wd (h.tw t ht)⟩
  ns := by have := h.s3; omega
  nl := h.l1
  nt := h.tl
  z := ⟨fun hx => (srt_ok _ (h.sp _ hx)).2.2 rfl, h.n.z⟩
theorem Fr0.gd (h : Fr0 ss ls ts) : Gd ss ls ts where
  i := h.lsOk.i (by omega)
  d := by
    refine due_none (fun x hx => ?_) h.sn h.n.nd h.e h.tm h.tn h.tw (rnds_up (fun p hp => ?_) h.sr)
    · rcases List.mem_append.mp hx with hx | hx
      · exact (srt_ok x (h.sp x hx)).1
      · exact h.n.w x hx
    · obtain ⟨t, ht, rfl⟩ := List.mem_map.mp hp
      exact h.tu t ht
theorem Fr0.revS (h : Fr0 ss ls ts) : Fr0 ss.reverse ls ts where
  sn := nodup_rev h.sn
  s3 := by rw [List.length_reverse]; exact h.s3
  s0 := by simpa using h.s0
  sp := fun x hx => h.sp x (List.mem_reverse.mp hx)
  sr := fun x hx => by rw [List.length_reverse]; exact h.sr x (List.mem_reverse.mp hx)
  n := h.n
  e := fun p hp => ⟨List.mem_reverse.mpr (h.e p hp).1, List.mem_reverse.mpr (h.e p hp).2⟩
  l1 := h.l1
  l0 := h.l0
  tm := h.tm
  tn := h.tn
  tw := h.tw
  tu := h.tu
  tl := h.tl
theorem Fr0.revT (h : Fr0 ss ls ts) : Fr0 ss ls ts.reverse where
  sn := h.sn
  s3 := h.s3
  s0 := h.s0
  sp := h.sp
  sr := h.sr
  n := h.n
  e := h.e
  l1 := h.l1
  l0 := h.l0
  tm := fun t ht => h.tm t (List.mem_reverse.mp ht)
  tn := nodup_rev h.tn
  tw := fun t ht => h.tw t (List.mem_reverse.mp ht)
  tu := fun t ht => h.tu t (List.mem_reverse.mp ht)
  tl := by rw [List.length_reverse]; exact h.tl
end
section
variable {n : Nat} {cm : CM} {bx : Bx} {Q : VQ} {X : XQ} {b : Bool} {b1 b2 : Nat} {ss : List Str} {ls : T3} {ts : T2}
theorem namesC (n : Nat) : ∃ c, cmAt S (n + 2) 17 = some c ∧ ∀ {bx : Bx} {b1 b2 : Nat} {Q : VQ} {X : XQ}, Sr bx b1 b2 → ∀ {m : Nat}, m ≤ 60 → (∀ bx' L, Sr bx' b1 b2 → Same bx b1 b2 bx' → Nms L → L.length = m → Q (.lst (L.map .str)) bx') → c [.box b1, .int m] bx Q X :=
  ⟨_, c17 (n + 1), fun h _ hm hq => names_ok h hm hq⟩
theorem framedC (n : Nat) : ∃ c, cmAt S (n + 4) 19 = some c ∧ ∀ {bx : Bx} {Q : VQ} {X : XQ} {ss : List Str} {ls : T3} {ts : T2}, Gd ss ls ts → Q (frameD ss ls ts) bx → c [.lst (ss.map .str), .lst ((ls.map (·.1)).map .str), .dic false (ls.map kv3), .lst (ts.map d2)] bx Q X :=
  ⟨_, c19 (n + 3), fun G h => framed_ok G h⟩
theorem putN3 {l : T3} {x : Str} {e : Str × Str} (h : x ∉ l.map (·.1)) : putD false (.str x) (d2 e) (l.map kv3) = (l ++ [(x, e)]).map kv3 := by
  have := foldl_put (kf := fun p : Str × Str × Str => p.1) (vf := fun p => d2 p.2) [(x, e)] (l.map kv3) (fun a ha p hp q => by
    rw [List.mem_singleton] at ha
    subst ha
    obtain ⟨y, hy, rfl⟩ := List.mem_map.mp hp
    simp only [kv3, D.str.injEq] at q
    exact h (List.mem_map.mpr ⟨y, hy, q⟩)) (fun p hp => by
    obtain ⟨y, hy, rfl⟩ := List.mem_map.mp hp
    exact ⟨_, rfl⟩) (by simp)
  rw [List.map_append]
  exact this
theorem frame_ok (h : Sr bx b1 b2) {s m : Nat} (hs : 1 ≤ s ∧ s ≤ 3) (hm : 1 ≤ m ∧ m ≤ 10) (hq : ∀ bx' ss ls, Sr bx' b1 b2 → Same bx b1 b2 bx' → Fr0 ss ls [] → Q (frameD ss ls []) bx') : runM 3 7 (t18 (cmAt S (n + 4))) [.box b1, .int s, .int m] bx Q X := by
  refine ⟨rfl, ?_⟩
  obtain ⟨cp, e16, pick⟩ := pickC (n + 3)
  obtain ⟨cn, e17, names⟩ := namesC (n + 2)
  obtain ⟨cf, e19, framed⟩ := framedC n
  generalize cmAt S (n + 4) = cm at e16 e17 e19 ⊢
  unfold t18
  simp only [↓wsSeq_a, ↓wsIf_a, ↓wtB_a, ↓wtNot_a, ↓wtAnd_a, ↓wtOr_a, ↓wTru_a, ↓wNot_a, ↓wAnd_a, ↓wOr_a, ↓wIf_a, ↓wOp2_a, ↓wSlot_a, ↓wC_a, ↓wsRet_a, ↓wsRetN_a, ↓wsSkip_a, ↓wsAsg_a, ↓wsExpr_a, ↓wgName_a, ↓wBin_a, ↓wCall_a, ↓wCons_a, ↓wNil_a, ↓wTup_a, ↓lst_a, ↓wAttrX_a, blt_len, blt_int, blt_isi, blt_list, blt_tuple, blt_repr, blt_all, blt_any, blt_str, List.map_cons, List.map_nil, List.replicate, List.cons_append, List.nil_append, List.getElem?_cons_succ, List.getElem?_cons_zero, List.set_cons_succ, List.set_cons_zero, Option.some.injEq, exists_eq_left', fin_val, Rs.val.injEq, D.bl.injEq, Bool.not_true, Bool.not_false, Bool.false_eq_true, if_false, if_true, true_and, and_true, ↓wsFor_a, ↓wiAny_a, ↓wMeth_a, ↓wSl_a, ↓woSome_a, ↓woNone_a, ↓wBm_a, ↓wsTry_a, ↓wNeg_a, ↓wRev_a, ↓wSlotF_a, ↓wsPar_a, callJ_at e16, callJ_at e17, callJ_at e19, List.length_cons, List.length_nil]
  refine ⟨by rw [sizeLine_eq]; omega, _, rfl, _, sl_take (l := SRT.map .str) rfl s, ?_⟩
  simp only [fin_new, ← List.map_take]
  refine names h (by omega) fun bx1 L h1 f1 hN hL => ?_
  have hss : (SRT.take s).length = s := by rw [List.length_take]; show min s 3 = s; omega
  have hat : ∀ j, j < s → ∃ x, ((SRT.take s).map D.str)[j]? = some (.str x) ∧ x ∈ SRT.take s := fun j hj => by
    exact at_str (by omega)
  simp only [wDic0, fin_newB]
  intro n5 h5
  have e51 := h1.ne1 h5
  have e52 := h1.ne2 h5
  refine ⟨_, rfl, ?_⟩
  refine for_each (G := D.str) (P := fun as sl b => ∃ (done : T3) (x6 : Option D), L = done.map (·.1) ++ as ∧ b n5 = some (.dic false (done.map kv3)) ∧ Sr b b1 b2 ∧ (∀ i, i ≠ b1 → i ≠ b2 → i ≠ n5 → b i = bx i) ∧ (∀ p ∈ done, p.2.1 ∈ SRT.take s ∧ p.2.2 ∈ SRT.take s) ∧ sl = [some (.box b1), some (.int s), some (.int m), some (.lst ((SRT.take s).map .str)), some (.lst (L.map .str)), some (.box n5), x6]) ?_ ?_ _ _ _ ⟨[], none, rfl, upb_at, h1.up h5, fun i i1 i2 i3 => by simp [upb, i3, f1 i i1 i2], by simp, rfl⟩
  rotate_left
  · rintro a as sl b ⟨done, x6, e3, eb, hS, hF, hE, rfl⟩
    refine ⟨trivial, fun f hk => ?_⟩
    simp only [↓wsSeq_a, ↓wsIf_a, ↓wtB_a, ↓wtNot_a, ↓wtAnd_a, ↓wtOr_a, ↓wTru_a, ↓wNot_a, ↓wAnd_a, ↓wOr_a, ↓wIf_a, ↓wOp2_a, ↓wSlot_a, ↓wC_a, ↓wsRet_a, ↓wsRetN_a, ↓wsSkip_a, ↓wsAsg_a, ↓wsExpr_a, ↓wgName_a, ↓wBin_a, ↓wCall_a, ↓wCons_a, ↓wNil_a, ↓wTup_a, ↓lst_a, ↓wAttrX_a, blt_len, blt_int, blt_isi, blt_list, blt_tuple, blt_repr, blt_all, blt_any, blt_str, List.map_cons, List.map_nil, List.replicate, List.cons_append, List.nil_append, List.getElem?_cons_succ, List.getElem?_cons_zero, List.set_cons_succ, List.set_cons_zero, Option.some.injEq, exists_eq_left', fin_val, Rs.val.injEq, D.bl.injEq, Bool.not_true, Bool.not_false, Bool.false_eq_true, if_false, if_true, true_and, and_true, ↓wsFor_a, ↓wiAny_a, ↓wMeth_a, ↓wSl_a, ↓woSome_a, ↓woNone_a, ↓wBm_a, ↓wsTry_a, ↓wNeg_a, ↓wRev_a, ↓wSlotF_a, ↓wsPar_a]
    refine pick hS (by omega) (by omega) fun bx2 j h2 f2 hj => ?_
    obtain ⟨x, ex, mx⟩ := hat j (by omega)
    refine ⟨_, ix_lst rfl ex, ?_⟩
    simp only [fin_val]
    refine pick h2 (by omega) (by omega) fun bx3 j2 h3 f3 hj2 => ?_
    obtain ⟨y, ey, my⟩ := hat j2 (by omega)
    refine ⟨_, ix_lst rfl ey, ?_⟩
    simp only [fin_val, List.length_cons, List.length_nil]
    refine ⟨by rw [sizeLine_eq]; omega, ?_⟩
    have eb3 : bx3 n5 = some (.dic false (done.map kv3)) := by rw [f3 n5 e51 e52, f2 n5 e51 e52]; exact eb
    have hlen : done.length + 1 ≤ m := by
      have := congrArg List.length e3
      rw [List.length_append, List.length_map, List.length_cons] at this
      omega
    have hna : a ∉ done.map (·.1) := fun hm' => by
      have := hN.nd
      rw [e3] at this
      exact (List.nodup_append.mp this).2.2 _ hm' _ List.mem_cons_self rfl
    refine ⟨_, rfl, _, rfl, n5, rfl, .inr ⟨false, _, eb3, rfl, by rw [List.length_map, sizeLine_eq]; omega, ?_⟩⟩
    have := putN3 (e := (x, y)) hna
    simp only [d2] at this
    rw [this]
    refine hk _ _ ⟨done ++ [(a, x, y)], _, by rw [e3]; simp, upb_at, h3.le (by simp [upb, e51.symm]) (by simp [upb, e52.symm]), fun i i1 i2 i3 => by simp [upb, i3, f3 i i1 i2, f2 i i1 i2, hF i i1 i2 i3], fun p hp => ?_, rfl⟩
    rcases List.mem_append.mp hp with hp | hp
    · exact hE p hp
    · rw [List.mem_singleton] at hp
      subst hp
      exact ⟨mx, my⟩
  rintro sl b ⟨done, x6, e3, eb, hS, hF, hE, rfl⟩
  refine ⟨trivial, ?_⟩
  rw [List.append_nil] at e3
  subst e3
  simp only [↓wsSeq_a, ↓wsIf_a, ↓wtB_a, ↓wtNot_a, ↓wtAnd_a, ↓wtOr_a, ↓wTru_a, ↓wNot_a, ↓wAnd_a, ↓wOr_a, ↓wIf_a, ↓wOp2_a, ↓wSlot_a, ↓wC_a, ↓wsRet_a, ↓wsRetN_a, ↓wsSkip_a, ↓wsAsg_a, ↓wsExpr_a, ↓wgName_a, ↓wBin_a, ↓wCall_a, ↓wCons_a, ↓wNil_a, ↓wTup_a, ↓lst_a, ↓wAttrX_a, blt_len, blt_int, blt_isi, blt_list, blt_tuple, blt_repr, blt_all, blt_any, blt_str, List.map_cons, List.map_nil, List.replicate, List.cons_append, List.nil_append, List.getElem?_cons_succ, List.getElem?_cons_zero, List.set_cons_succ, List.set_cons_zero, Option.some.injEq, exists_eq_left', fin_val, Rs.val.injEq, D.bl.injEq, Bool.not_true, Bool.not_false, Bool.false_eq_true, if_false, if_true, true_and, and_true, ↓wsFor_a, ↓wiAny_a, ↓wMeth_a, ↓wSl_a, ↓woSome_a, ↓woNone_a, ↓wBm_a, ↓wsTry_a, ↓wNeg_a, ↓wRev_a, ↓wSlotF_a, ↓wsPar_a, List.length_nil]
  refine ⟨n5, _, rfl, eb, Nat.zero_le _, ?_⟩
  have hl : done.length = m := by rw [← hL, List.length_map]
  have F0 : Fr0 (SRT.take s) done [] := {
    sn := List.Nodup.sublist (List.take_sublist _ _) (by unfold SRT; decide +kernel)
    s3 := by omega
    s0 := fun e => by rw [e] at hss; simp at hss; omega
    sp := fun x hx => List.mem_of_mem_take hx
    sr := fun x hx => by
      have : ∀ s, s ≤ 3 → ∀ x ∈ SRT.take s, rk x < s := by unfold SRT; decide +kernel
      rw [hss]
      exact this s hs.2 x hx
    n := hN
    e := hE
    l1 := by omega
    l0 := fun e => by rw [e] at hl; simp at hl; omega
    tm := by simp
    tn := List.nodup_nil
    tw := by simp
    tu := by simp
    tl := by simp }
  refine framed F0.gd ?_
  refine ⟨delb b n5, LeB.refl _, hq _ _ _ (hS.le (by simp [delb, e51.symm]) (by simp [delb, e52.symm])) (fun i i1 i2 => ?_) F0⟩
  by_cases e : i = n5
  · subst e
    have := f1 i i1 i2
    rw [h5] at this
    simp [delb, ← this]
  · simp [delb, e, hF i i1 i2 e]
end
end Mk22
namespace Mk22
open PySem PySem.Spec Mi
section
variable {n : Nat} {cm : CM} {bx : Bx} {Q : VQ} {X : XQ} {b : Bool} {b1 b2 : Nat} {ss : List Str} {ls : T3} {ts : T2}
theorem fr_sorts : dIx bx (frameD ss ls ts) (.str "sorts") = some (.val (.lst (ss.map .str))) := by kernel_rfl
theorem fr_letters : dIx bx (frameD ss ls ts) (.str "letters") = some (.val (.dic false (ls.map kv3))) := by kernel_rfl
theorem fr_order : dIx bx (frameD ss ls ts) (.str "order") = some (.val (.lst ((ls.map (·.1)).map .str))) := by kernel_rfl
theorem fr_totals : dIx bx (frameD ss ls ts) (.str "totals") = some (.val (.lst (ts.map d2))) := by kernel_rfl
theorem gt_txt {x y : Str} : cmpC S cm b .Gt [.str x, .str y] bx Q X = Q (.bl (decide (y.cps.toList < x.cps.toList))) bx := by simp [cmpC, cOp, o2, dGt, fin]
structure TI (ls : T3) (done : List Str) (ts : T2) : Prop where
  tm : ∀ t ∈ ts, t.1 ∈ done
  tn : ts.Nodup
  tw : ∀ t ∈ ts, t.2 = "on" ∨ t.2 = "back"
  tu : ∀ t ∈ ts, rk (stp (endsOf ls t.1) t.2).1 < rk (stp (endsOf ls t.1) t.2).2
  tl : ts.length ≤ done.length
theorem TI.skip {done : List Str} (h : TI ls done ts) (a : Str) : TI ls (done ++ [a]) ts :=
  ⟨fun t ht => List.mem_append_left _ (h.tm t ht), h.tn, h.tw, h.tu, by have := h.tl; simp; omega⟩
theorem TI.put {done : List Str} {a w : Str} (h : TI ls done ts) (ha : a ∉ done) (hw : w = "on" ∨ w = "back") (hu : rk (stp (endsOf ls a) w).1 < rk (stp (endsOf ls a) w).2) : TI ls (done ++ [a]) (ts ++ [(a, w)]) where
  tm := fun t ht => by
    rcases List.mem_append.mp ht with ht | ht
    · exact List.mem_append_left _ (h.tm t ht)
    · rw [List.mem_singleton] at ht; subst ht; simp
  tn := List.nodup_append.mpr ⟨h.tn, by simp, fun x hx y hy => by
    rw [List.mem_singleton] at hy
    subst hy
    rintro rfl
    exact ha (h.tm _ hx)⟩
  tw := fun t ht => by
    rcases List.mem_append.mp ht with ht | ht
    · exact h.tw t ht
    · rw [List.mem_singleton] at ht; subst ht; exact hw
  tu := fun t ht => by
    rcases List.mem_append.mp ht with ht | ht
    · exact h.tu t ht
    · rw [List.mem_singleton] at ht; subst ht; exact hu
  tl := by have := h.tl; simp; omega
theorem withT_ok (h : Sr bx b1 b2) (F0 : Fr0 ss ls []) (hq : ∀ bx' ts, Sr bx' b1 b2 → Same bx b1 b2 bx' → Fr0 ss ls ts → Q (frameD ss ls ts) bx') : runM 2 5 (t20 (cmAt S (n + 4))) [.box b1, frameD ss ls []] bx Q X := by
  refine ⟨rfl, ?_⟩
  obtain ⟨cp, e16, pick⟩ := pickC (n + 3)
  obtain ⟨cf, e19, framed⟩ := framedC n
  generalize cmAt S (n + 4) = cm at e16 e19 ⊢
  unfold t20
  generalize hns : ls.map (·.1) = ns
  have hfo : ∀ b : Bx, dIx b (frameD ss ls []) (.str "order") = some (.val (.lst (ns.map .str))) := fun b => by rw [← hns]; exact fr_order
  simp only [↓wsSeq_a, ↓wsIf_a, ↓wtB_a, ↓wtNot_a, ↓wtAnd_a, ↓wtOr_a, ↓wTru_a, ↓wNot_a, ↓wAnd_a, ↓wOr_a, ↓wIf_a, ↓wOp2_a, ↓wSlot_a, ↓wC_a, ↓wsRet_a, ↓wsRetN_a, ↓wsSkip_a, ↓wsAsg_a, ↓wsExpr_a, ↓wgName_a, ↓wBin_a, ↓wCall_a, ↓wCons_a, ↓wNil_a, ↓wTup_a, ↓lst_a, ↓wAttrX_a, blt_len, blt_int, blt_isi, blt_list, blt_tuple, blt_repr, blt_all, blt_any, blt_str, List.map_cons, List.map_nil, List.replicate, List.cons_append, List.nil_append, List.getElem?_cons_succ, List.getElem?_cons_zero, List.set_cons_succ, List.set_cons_zero, Option.some.injEq, exists_eq_left', fin_val, Rs.val.injEq, D.bl.injEq, Bool.not_true, Bool.not_false, Bool.false_eq_true, if_false, if_true, true_and, and_true, ↓wsFor_a, ↓wiAny_a, ↓wMeth_a, ↓wSl_a, ↓woSome_a, ↓woNone_a, ↓wBm_a, ↓wsTry_a, ↓wNeg_a, ↓wRev_a, ↓wSlotF_a, ↓wsPar_a, callJ_at e16, callJ_at e19, lst_box, hfo, Option.some.injEq, exists_eq_left', fin_val, List.length_nil]
  refine ⟨Nat.zero_le _, fun n2 h2 => ?_⟩
  have e21 := h.ne1 h2
  have e22 := h.ne2 h2
  refine ⟨_, rfl, ?_⟩
  refine for_each (G := D.str) (P := fun as sl b => ∃ (done : List Str) (ts : T2) (x3 x4 : Option D), ns = done ++ as ∧ b n2 = some (.lst (ts.map d2)) ∧ Sr b b1 b2 ∧ (∀ i, i ≠ b1 → i ≠ b2 → i ≠ n2 → b i = bx i) ∧ TI ls done ts ∧ sl = [some (.box b1), some (frameD ss ls []), some (.box n2), x3, x4]) ?_ ?_ _ _ _ ⟨[], [], none, none, rfl, upb_at, h.up h2, fun i i1 i2 i3 => by simp [upb, i3], ⟨by simp, List.nodup_nil, by simp, by simp, by simp⟩, rfl⟩
  rotate_left
  · rintro a as sl b ⟨done, ts, x3, x4, e3, eb, hS, hF, hT, rfl⟩
    refine ⟨trivial, fun f hk => ?_⟩
    have hma : a ∈ ls.map (·.1) := by rw [hns, e3]; simp
    have lk : ∀ b : Bx, dIx b (.dic false (ls.map kv3)) (.str a) = some (.val (d2 (endsOf ls a))) := fun b => ix_dic (f := d2) (l := ls) rfl (lookup_of_mem hma)
    have hlk := lookup_of_mem hma
    have hee : (endsOf ls a).1 ∈ ss ∧ (endsOf ls a).2 ∈ ss := by
      obtain ⟨q, r, e1, e2⟩ := head_lookup hlk
      have hq : q ∈ ls.filter (fun p => decide (p.1 = a)) := by rw [e1]; exact List.mem_cons_self
      have := F0.e q (List.mem_filter.mp hq).1
      rw [e2] at this
      exact this
    have hna : a ∉ done := fun hm' => by
      have := F0.n.nd
      rw [hns, e3] at this
      exact (List.nodup_append.mp this).2.2 _ hm' _ List.mem_cons_self rfl
    generalize hen : endsOf ls a = en at *
    simp only [↓wsSeq_a, ↓wsIf_a, ↓wtB_a, ↓wtNot_a, ↓wtAnd_a, ↓wtOr_a, ↓wTru_a, ↓wNot_a, ↓wAnd_a, ↓wOr_a, ↓wIf_a, ↓wOp2_a, ↓wSlot_a, ↓wC_a, ↓wsRet_a, ↓wsRetN_a, ↓wsSkip_a, ↓wsAsg_a, ↓wsExpr_a, ↓wgName_a, ↓wBin_a, ↓wCall_a, ↓wCons_a, ↓wNil_a, ↓wTup_a, ↓lst_a, ↓wAttrX_a, blt_len, blt_int, blt_isi, blt_list, blt_tuple, blt_repr, blt_all, blt_any, blt_str, List.map_cons, List.map_nil, List.replicate, List.cons_append, List.nil_append, List.getElem?_cons_succ, List.getElem?_cons_zero, List.set_cons_succ, List.set_cons_zero, Option.some.injEq, exists_eq_left', fin_val, Rs.val.injEq, D.bl.injEq, Bool.not_true, Bool.not_false, Bool.false_eq_true, if_false, if_true, true_and, and_true, ↓wsFor_a, ↓wiAny_a, ↓wMeth_a, ↓wSl_a, ↓woSome_a, ↓woNone_a, ↓wBm_a, ↓wsTry_a, ↓wNeg_a, ↓wRev_a, ↓wSlotF_a, ↓wsPar_a]
    refine ⟨_, fr_letters, ?_⟩
    simp only [fin_val]
    refine ⟨_, lk _, ?_⟩
    simp only [fin_val, d2]
    refine ⟨_, ix_tup (k := 0) rfl, ?_⟩
    simp only [fin_val]
    refine ⟨_, ix_tup (k := 1) rfl, ?_⟩
    simp only [fin_val, ne_txt, D.bl.injEq, exists_eq_left']
    have skip : ∀ b', Sr b' b1 b2 → Same b b1 b2 b' → f [some (.box b1), some (frameD ss ls []), some (.box n2), some (.str a), some (.tup [.str en.1, .str en.2])] b' := fun b' s1 s2 => hk _ _ ⟨done ++ [a], ts, _, _, by rw [e3]; simp, by rw [s2 n2 e21 e22]; exact eb, s1, fun i i1 i2 i3 => by rw [s2 i i1 i2]; exact hF i i1 i2 i3, hT.skip a, rfl⟩
    by_cases hne : en.1 = en.2
    · simp only [hne, decide_true, Bool.not_true, Bool.false_eq_true, if_false]
      have := skip b hS (fun _ _ _ => rfl)
      rw [hne] at this
      exact this
    · simp only [hne, decide_false, Bool.not_false, if_true]
      refine pick hS (by decide) (by decide) fun bx2 j h3 f3 hj => ?_
      simp only [eq_int, D.bl.injEq, exists_eq_left']
      by_cases hj0 : (j : Int) = 0
      · simp only [hj0, decide_true, if_true]
        have eb2 : bx2 n2 = some (.lst (ts.map d2)) := by rw [f3 n2 e21 e22]; exact eb
        have s1 := srt_gt _ (F0.sp _ hee.1) _ (F0.sp _ hee.2)
        simp only [List.length_cons, List.length_nil]
        refine ⟨by simp [isTy, dr, eb2], by rw [sizeLine_eq]; omega, _, ix_tup (k := 0) rfl, ?_⟩
        simp only [fin_val]
        refine ⟨_, ix_tup (k := 1) rfl, ?_⟩
        simp only [fin_val]
        rw [gt_txt, op_intb, s1.1]
        have go : ∀ w : Str, w = "on" ∨ w = "back" → rk (stp (endsOf ls a) w).1 < rk (stp (endsOf ls a) w).2 → cAppend [.box n2, .tup [.str a, .str w]] bx2 (fun x bx' => f [some (.box b1), some (frameD ss ls []), some (.box n2), some (.str a), some (.tup [.str en.1, .str en.2])] bx') (fun x b => fgt (X x) b) := fun w hw hu => by
          have hl : ts.length ≤ 10 := by
            have q1 := hT.tl
            have q2 := F0.l1
            have q3 := congrArg List.length e3
            rw [← hns, List.length_map, List.length_append, List.length_cons] at q3
            omega
          refine ⟨n2, _, _, rfl, eb2, by rw [List.length_map, sizeLine_eq]; omega, ?_⟩
          refine hk _ _ ⟨done ++ [a], ts ++ [(a, w)], _, _, by rw [e3]; simp, by simp [upb, d2], h3.le (by simp [upb, e21.symm]) (by simp [upb, e22.symm]), fun i i1 i2 i3 => by simp [upb, i3, f3 i i1 i2, hF i i1 i2 i3], hT.put hna hw hu, rfl⟩
        by_cases hr : rk en.2 < rk en.1
        · rw [decide_eq_true hr, if_pos rfl]
          refine ⟨_, ix_lst (k := 1) rfl rfl, ?_⟩
          simp only [fin_val]
          refine ⟨by rw [sizeLine_eq]; omega, go "back" (.inr rfl) ?_⟩
          rw [hen, stp, if_neg (by decide +kernel)]
          exact hr
        · rw [decide_eq_false hr, if_neg (by decide)]
          refine ⟨_, ix_lst (k := 0) rfl rfl, ?_⟩
          simp only [fin_val]
          refine ⟨by rw [sizeLine_eq]; omega, go "on" (.inl rfl) ?_⟩
          rw [hen, stp, if_pos rfl]
          exact s1.2 hne hr
      · simp only [hj0, decide_false, Bool.false_eq_true, if_false]
        exact skip _ h3 f3
  rintro sl b ⟨done, ts, x3, x4, e3, eb, hS, hF, hT, rfl⟩
  refine ⟨trivial, ?_⟩
  rw [List.append_nil] at e3
  subst e3
  simp only [↓wsSeq_a, ↓wsIf_a, ↓wtB_a, ↓wtNot_a, ↓wtAnd_a, ↓wtOr_a, ↓wTru_a, ↓wNot_a, ↓wAnd_a, ↓wOr_a, ↓wIf_a, ↓wOp2_a, ↓wSlot_a, ↓wC_a, ↓wsRet_a, ↓wsRetN_a, ↓wsSkip_a, ↓wsAsg_a, ↓wsExpr_a, ↓wgName_a, ↓wBin_a, ↓wCall_a, ↓wCons_a, ↓wNil_a, ↓wTup_a, ↓lst_a, ↓wAttrX_a, blt_len, blt_int, blt_isi, blt_list, blt_tuple, blt_repr, blt_all, blt_any, blt_str, List.map_cons, List.map_nil, List.replicate, List.cons_append, List.nil_append, List.getElem?_cons_succ, List.getElem?_cons_zero, List.set_cons_succ, List.set_cons_zero, Option.some.injEq, exists_eq_left', fin_val, Rs.val.injEq, D.bl.injEq, Bool.not_true, Bool.not_false, Bool.false_eq_true, if_false, if_true, true_and, and_true, ↓wsFor_a, ↓wiAny_a, ↓wMeth_a, ↓wSl_a, ↓woSome_a, ↓woNone_a, ↓wBm_a, ↓wsTry_a, ↓wNeg_a, ↓wRev_a, ↓wSlotF_a, ↓wsPar_a]
  refine ⟨_, fr_sorts, ?_⟩
  simp only [fin_val]
  refine ⟨_, fr_order, ?_⟩
  simp only [fin_val]
  refine ⟨_, fr_letters, ?_⟩
  simp only [fin_val]
  refine ⟨n2, _, rfl, eb, ?_⟩
  have F1 : Fr0 ss ls ts := ⟨F0.sn, F0.s3, F0.s0, F0.sp, F0.sr, F0.n, F0.e, F0.l1, F0.l0, by rw [hns]; exact hT.tm, hT.tn, hT.tw, hT.tu, by
    have := hT.tl
    have := F0.l1
    rw [← hns, List.length_map] at *
    omega⟩
  refine framed F1.gd ?_
  refine ⟨delb b n2, LeB.refl _, hq _ _ (hS.le (by simp [delb, e21.symm]) (by simp [delb, e22.symm])) (fun i i1 i2 => ?_) F1⟩
  by_cases e : i = n2
  · subst e
    simp [delb, h2]
  · simp [delb, e, hF i i1 i2 e]
end
end Mk22
namespace Mk22
open PySem PySem.Spec Mi
def NEW : T3 := [("9", "a", "a"), ("r", "b", "b"), ("t", "zz", "a")]
def NET : T2 := [("w", "on"), ("s", "off"), ("r", "on"), ("s", "on")]
theorem new_ok : ∀ p ∈ NEW, (okS p.1 ∧ okS p.2.1 ∧ okS p.2.2) ∧ p.1 ≠ "zzz" := by unfold okS NEW; decide +kernel
theorem net_ok : ∀ p ∈ NET, okS p.1 ∧ okS p.2 := by unfold okS NET; decide +kernel
theorem nes_ok : ∀ p ∈ (["A", "a"] : List Str), okS p ∧ p ≠ "zzz" := by unfold okS; decide +kernel
section
variable {n : Nat} {cm : CM} {bx : Bx} {Q : VQ} {X : XQ} {b : Bool} {b1 b2 : Nat} {ss : List Str} {ls : T3} {ts : T2}
theorem listsC (n : Nat) : ∃ c, cmAt S (n + 5) 30 = some c ∧ ∀ {bx : Bx} {Q : VQ} {X : XQ} {ss : List Str} {ls : T3} {ts : T2} {ds dl dt : D}, In ss ls ts → Zz ss ls → dr bx ds = some (.lst (ss.map .str)) → dr bx dl = some (.lst (ls.map d3)) → dr bx dt = some (.lst (ts.map d2)) → Q (.bl true) bx → c [ds, dl, dt] bx Q X :=
  ⟨_, c30 (n + 4), fun I z es el et h => lists_ok I z es el et h⟩
theorem ls_start : Ls 3 ["a", "b"] [("r", "a", "b"), ("s", "b", "a")] [("r", "on")] :=
  ⟨by unfold okS; decide +kernel, by unfold ok3 okS; decide +kernel, by unfold ok2 okS; decide +kernel, by decide, by decide, by decide, by unfold Zz; decide +kernel⟩
def sA (cm : CM) : WS := (wsIf (wtAnd (wtB (wOp2 (cmpC S cm false .Lt) (wSlot 5) (wC (.int 2)))) (wtB (wOp2 (cmpC S cm false .Lt) (bltJ S cm false "len" (wCons (wSlot 1) wNil)) (wC (.int 3))))) (wsSeq (wsAsg (wOp2 (binC S cm false .Add) (wOp2 (binC S cm false .Add) (wSl false (wSlot 1) woNone (woSome (wSlot 6))) (wLst false (wCons (wBin false dIx (wLst false (wCons (wC (.str "A")) (wCons (wC (.str "a")) wNil))) (wSlot 5)) wNil))) (wSl false (wSlot 1) (woSome (wSlot 6)) woNone)) (wgName 1)) wsSkip) wsSkip)
def sB (cm : CM) : WS := (wsIf (wtB (wChain dLt dLt (wC (.int 1)) (wSlot 5) (wC (.int 5)))) (wsSeq (wsAsg (wOp2 (binC S cm false .Add) (wOp2 (binC S cm false .Add) (wSl false (wSlot 2) woNone (woSome (wSlot 6))) (wLst false (wCons (wBin false dIx (wLst false (wCons (wTup (wCons (wC (.str "9")) (wCons (wC (.str "a")) (wCons (wC (.str "a")) wNil)))) (wCons (wTup (wCons (wC (.str "r")) (wCons (wC (.str "b")) (wCons (wC (.str "b")) wNil)))) (wCons (wTup (wCons (wC (.str "t")) (wCons (wC (.str "zz")) (wCons (wC (.str "a")) wNil)))) wNil)))) (wOp2 (binC S cm false .Sub) (wSlot 5) (wC (.int 2)))) wNil))) (wSl false (wSlot 2) (woSome (wSlot 6)) woNone)) (wgName 2)) wsSkip) wsSkip)
def sC (cm : CM) : WS := (wsIf (wtB (wOp2 (cmpC S cm false .Gt) (wSlot 5) (wC (.int 4)))) (wsSeq (wsAsg (wOp2 (binC S cm false .Add) (wOp2 (binC S cm false .Add) (wSl false (wSlot 3) woNone (woSome (wSlot 6))) (wLst false (wCons (wBin false dIx (wLst false (wCons (wTup (wCons (wC (.str "w")) (wCons (wC (.str "on")) wNil))) (wCons (wTup (wCons (wC (.str "s")) (wCons (wC (.str "off")) wNil))) (wCons (wTup (wCons (wC (.str "r")) (wCons (wC (.str "on")) wNil))) (wCons (wTup (wCons (wC (.str "s")) (wCons (wC (.str "on")) wNil))) wNil))))) (wOp2 (binC S cm false .Sub) (wSlot 5) (wC (.int 5)))) wNil))) (wSl false (wSlot 3) (woSome (wSlot 6)) woNone)) (wgName 3)) wsSkip) wsSkip)
abbrev sl7 (b1 : Nat) (ss : List Str) (ls : T3) (ts : T2) (x4 : Option D) (w a : Nat) : Sl := [some (.box b1), some (.lst (ss.map .str)), some (.lst (ls.map d3)), some (.lst (ts.map d2)), x4, some (.int w), some (.int a)]
theorem sA_ok {k w a : Nat} {x4 : Option D} {DD : En} {W : WXQ} (L : Ls k ss ls ts) (hk : k ≤ 200) (hw : w < 9) (hc : ∀ ss', Ls (k + 1) ss' ls ts → DD.nx (sl7 b1 ss' ls ts x4 w a) bx) : sA cm DD W (sl7 b1 ss ls ts x4 w a) bx := by
  have zl : ∀ {m : Nat}, m ≤ 1000 → m ≤ sizeLine := fun {m} h => by rw [sizeLine_eq]; omega
  have i2 : ((w : Int) < 2) ↔ w < 2 := by omega
  have i3 : ((ss.length : Int) < 3) ↔ ss.length < 3 := by omega
  have n1 := L.ns
  unfold sA
  simp only [↓wsSeq_a, ↓wsIf_a, ↓wtB_a, ↓wtNot_a, ↓wtAnd_a, ↓wtOr_a, ↓wTru_a, ↓wNot_a, ↓wAnd_a, ↓wOr_a, ↓wIf_a, ↓wOp2_a, ↓wSlot_a, ↓wC_a, ↓wsRet_a, ↓wsRetN_a, ↓wsSkip_a, ↓wsAsg_a, ↓wsExpr_a, ↓wgName_a, ↓wBin_a, ↓wCall_a, ↓wCons_a, ↓wNil_a, ↓wTup_a, ↓lst_a, ↓wAttrX_a, blt_len, blt_int, blt_isi, blt_list, blt_tuple, blt_repr, blt_all, blt_any, blt_str, List.map_cons, List.map_nil, List.replicate, List.cons_append, List.nil_append, List.getElem?_cons_succ, List.getElem?_cons_zero, List.set_cons_succ, List.set_cons_zero, Option.some.injEq, exists_eq_left', fin_val, Rs.val.injEq, D.bl.injEq, Bool.not_true, Bool.not_false, Bool.false_eq_true, if_false, if_true, true_and, and_true, ↓wsFor_a, ↓wiAny_a, ↓wMeth_a, ↓wSl_a, ↓woSome_a, ↓woNone_a, ↓wBm_a, ↓wsTry_a, ↓wNeg_a, ↓wRev_a, ↓wSlotF_a, ↓wsPar_a, cmp_lt, i2, D.bl.injEq, exists_eq_left', decide_eq_true_eq, List.length_cons, List.length_nil]
  by_cases c2 : w < 2
  · simp only [c2, if_true, len_at (show dr bx (.lst (ss.map .str)) = some (.lst (ss.map .str)) from rfl), List.length_map, cmp_lt, i3, D.bl.injEq, exists_eq_left', decide_eq_true_eq]
    by_cases c3 : ss.length < 3
    · simp only [c3, if_true]
      refine ⟨_, rfl, _, sl_take rfl a, ?_⟩
      simp only [fin_new]
      refine ⟨zl (by omega), ?_⟩
      obtain ⟨x, ex, mx⟩ := at_str (L := ["A", "a"]) (j := w) c2
      refine ⟨_, ix_lst rfl ex, ?_⟩
      simp only [fin_val]
      obtain ⟨x1, x2⟩ := nes_ok x mx
      refine ⟨zl (by omega), ?_⟩
      have t1 : (ss.take a).length ≤ ss.length := by rw [List.length_take]; omega
      rw [← List.map_take, add_l (by rw [List.length_map]; simp only [List.length_cons, List.length_nil]; omega)]
      refine ⟨_, rfl, _, sl_drop rfl a, ?_⟩
      simp only [fin_new]
      have t2 : (ss.drop a).length ≤ ss.length := by rw [List.length_drop]; omega
      rw [← List.map_drop, add_l (by simp only [List.length_append, List.length_map, List.length_cons, List.length_nil]; omega)]
      have t3 : (ss.take a).length + (ss.drop a).length = ss.length := by rw [← List.length_append, List.take_append_drop]
      have := hc _ (L.putS (fun _ h => List.mem_of_mem_take h) (fun _ h => List.mem_of_mem_drop h) x1 x2 (by rw [t3]; exact n1))
      simpa [sl7] using this
    · simp only [c3, if_false]
      exact hc _ (L.mono (by omega))
  · simp only [c2, if_false, Bool.false_eq_true]
    exact hc _ (L.mono (by omega))
theorem sC_ok {k w a : Nat} {x4 : Option D} {DD : En} {W : WXQ} (L : Ls k ss ls ts) (hk : k ≤ 200) (hw : w < 9) (hc : ∀ ts', Ls (k + 1) ss ls ts' → DD.nx (sl7 b1 ss ls ts' x4 w a) bx) : sC cm DD W (sl7 b1 ss ls ts x4 w a) bx := by
  have zl : ∀ {m : Nat}, m ≤ 1000 → m ≤ sizeLine := fun {m} h => by rw [sizeLine_eq]; omega
  have i4 : ((4 : Int) < w) ↔ 4 < w := by omega
  have n1 := L.nt
  unfold sC
  simp only [↓wsSeq_a, ↓wsIf_a, ↓wtB_a, ↓wtNot_a, ↓wtAnd_a, ↓wtOr_a, ↓wTru_a, ↓wNot_a, ↓wAnd_a, ↓wOr_a, ↓wIf_a, ↓wOp2_a, ↓wSlot_a, ↓wC_a, ↓wsRet_a, ↓wsRetN_a, ↓wsSkip_a, ↓wsAsg_a, ↓wsExpr_a, ↓wgName_a, ↓wBin_a, ↓wCall_a, ↓wCons_a, ↓wNil_a, ↓wTup_a, ↓lst_a, ↓wAttrX_a, blt_len, blt_int, blt_isi, blt_list, blt_tuple, blt_repr, blt_all, blt_any, blt_str, List.map_cons, List.map_nil, List.replicate, List.cons_append, List.nil_append, List.getElem?_cons_succ, List.getElem?_cons_zero, List.set_cons_succ, List.set_cons_zero, Option.some.injEq, exists_eq_left', fin_val, Rs.val.injEq, D.bl.injEq, Bool.not_true, Bool.not_false, Bool.false_eq_true, if_false, if_true, true_and, and_true, ↓wsFor_a, ↓wiAny_a, ↓wMeth_a, ↓wSl_a, ↓woSome_a, ↓woNone_a, ↓wBm_a, ↓wsTry_a, ↓wNeg_a, ↓wRev_a, ↓wSlotF_a, ↓wsPar_a, cmp_gt, i4, D.bl.injEq, exists_eq_left', decide_eq_true_eq, List.length_cons, List.length_nil, bin_sub]
  by_cases c2 : 4 < w
  · simp only [c2, if_true]
    refine ⟨_, rfl, _, sl_take rfl a, ?_⟩
    simp only [fin_new]
    refine ⟨zl (by omega), zl (by omega), zl (by omega), zl (by omega), zl (by omega), ?_⟩
    have hw' : w - 5 < NET.length := by show w - 5 < 4; omega
    have ew : ((w : Int) - 5) = ((w - 5 : Nat) : Int) := by omega
    rw [ew]
    refine ⟨_, ix_lst (k := w - 5) (l := NET.map d2) (x := d2 NET[w - 5]) rfl (by simp [hw']), ?_⟩
    simp only [fin_val]
    have x1 := net_ok NET[w - 5] (List.getElem_mem hw')
    generalize NET[w - 5] = x at x1
    refine ⟨zl (by omega), ?_⟩
    have t1 : (ts.take a).length ≤ ts.length := by rw [List.length_take]; omega
    rw [← List.map_take, add_l (by rw [List.length_map]; simp only [List.length_cons, List.length_nil]; omega)]
    refine ⟨_, rfl, _, sl_drop rfl a, ?_⟩
    simp only [fin_new]
    have t2 : (ts.drop a).length ≤ ts.length := by rw [List.length_drop]; omega
    rw [← List.map_drop, add_l (by simp only [List.length_append, List.length_map, List.length_cons, List.length_nil]; omega)]
    have t3 : (ts.take a).length + (ts.drop a).length = ts.length := by rw [← List.length_append, List.take_append_drop]
    have := hc _ (L.putT (fun _ h => List.mem_of_mem_take h) (fun _ h => List.mem_of_mem_drop h) x1 (by rw [t3]; exact n1))
    simpa [sl7] using this
  · simp only [c2, if_false]
    exact hc _ (L.mono (by omega))
theorem sB_ok {k w a : Nat} {x4 : Option D} {DD : En} {W : WXQ} (L : Ls k ss ls ts) (hk : k ≤ 200) (hw : w < 9) (hc : ∀ ls', Ls (k + 1) ss ls' ts → DD.nx (sl7 b1 ss ls' ts x4 w a) bx) : sB cm DD W (sl7 b1 ss ls ts x4 w a) bx := by
  have zl : ∀ {m : Nat}, m ≤ 1000 → m ≤ sizeLine := fun {m} h => by rw [sizeLine_eq]; omega
  have i1 : ((1 : Int) < w) ↔ 1 < w := by omega
  have i5 : ((w : Int) < 5) ↔ w < 5 := by omega
  have n1 := L.nl
  unfold sB
  simp only [↓wsSeq_a, ↓wsIf_a, ↓wtB_a, ↓wtNot_a, ↓wtAnd_a, ↓wtOr_a, ↓wTru_a, ↓wNot_a, ↓wAnd_a, ↓wOr_a, ↓wIf_a, ↓wOp2_a, ↓wSlot_a, ↓wC_a, ↓wsRet_a, ↓wsRetN_a, ↓wsSkip_a, ↓wsAsg_a, ↓wsExpr_a, ↓wgName_a, ↓wBin_a, ↓wCall_a, ↓wCons_a, ↓wNil_a, ↓wTup_a, ↓lst_a, ↓wAttrX_a, blt_len, blt_int, blt_isi, blt_list, blt_tuple, blt_repr, blt_all, blt_any, blt_str, List.map_cons, List.map_nil, List.replicate, List.cons_append, List.nil_append, List.getElem?_cons_succ, List.getElem?_cons_zero, List.set_cons_succ, List.set_cons_zero, Option.some.injEq, exists_eq_left', fin_val, Rs.val.injEq, D.bl.injEq, Bool.not_true, Bool.not_false, Bool.false_eq_true, if_false, if_true, true_and, and_true, ↓wsFor_a, ↓wiAny_a, ↓wMeth_a, ↓wSl_a, ↓woSome_a, ↓woNone_a, ↓wBm_a, ↓wsTry_a, ↓wNeg_a, ↓wRev_a, ↓wSlotF_a, ↓wsPar_a, wChain, lt_int, i1, i5, D.bl.injEq, exists_eq_left', decide_eq_true_eq, List.length_cons, List.length_nil, bin_sub]
  by_cases c1 : 1 < w
  · by_cases c2 : w < 5
    · simp only [c1, c2, if_true]
      refine ⟨_, rfl, _, sl_take rfl a, ?_⟩
      simp only [fin_new]
      refine ⟨zl (by omega), zl (by omega), zl (by omega), zl (by omega), ?_⟩
      have hw' : w - 2 < NEW.length := by show w - 2 < 3; omega
      have ew : ((w : Int) - 2) = ((w - 2 : Nat) : Int) := by omega
      rw [ew]
      refine ⟨_, ix_lst (k := w - 2) (l := NEW.map d3) (x := d3 NEW[w - 2]) rfl (by simp [hw']), ?_⟩
      simp only [fin_val]
      obtain ⟨x1, x2⟩ := new_ok NEW[w - 2] (List.getElem_mem hw')
      generalize NEW[w - 2] = x at x1 x2
      refine ⟨zl (by omega), ?_⟩
      have t1 : (ls.take a).length ≤ ls.length := by rw [List.length_take]; omega
      rw [← List.map_take, add_l (by rw [List.length_map]; simp only [List.length_cons, List.length_nil]; omega)]
      refine ⟨_, rfl, _, sl_drop rfl a, ?_⟩
      simp only [fin_new]
      have t2 : (ls.drop a).length ≤ ls.length := by rw [List.length_drop]; omega
      rw [← List.map_drop, add_l (by simp only [List.length_append, List.length_map, List.length_cons, List.length_nil]; omega)]
      have t3 : (ls.take a).length + (ls.drop a).length = ls.length := by rw [← List.length_append, List.take_append_drop]
      have := hc _ (L.put (fun _ h => List.mem_of_mem_take h) (fun _ h => List.mem_of_mem_drop h) x1 x2 (by rw [t3]; exact n1))
      simpa [sl7] using this
    · simp only [c1, c2, if_true, if_false]
      exact hc _ (L.mono (by omega))
  · simp only [c1, if_false]
    exact hc _ (L.mono (by omega))
theorem faulty_ok (h : Sr bx b1 b2) (hq : ∀ bx', Sr bx' b1 b2 → Same bx b1 b2 bx' → Q (.bl true) bx') : runM 1 7 (t32 (cmAt S (n + 5))) [.box b1] bx Q X := by
  refine ⟨rfl, ?_⟩
  obtain ⟨cp, e16, pick⟩ := pickC (n + 4)
  obtain ⟨cl, e30, lists⟩ := listsC n
  generalize cmAt S (n + 5) = cm at e16 e30 ⊢
  unfold t32
  have zl : ∀ {m : Nat}, m ≤ 1000 → m ≤ sizeLine := fun {m} h => by rw [sizeLine_eq]; omega
  simp only [↓wsSeq_a, ↓wsIf_a, ↓wtB_a, ↓wtNot_a, ↓wtAnd_a, ↓wtOr_a, ↓wTru_a, ↓wNot_a, ↓wAnd_a, ↓wOr_a, ↓wIf_a, ↓wOp2_a, ↓wSlot_a, ↓wC_a, ↓wsRet_a, ↓wsRetN_a, ↓wsSkip_a, ↓wsAsg_a, ↓wsExpr_a, ↓wgName_a, ↓wBin_a, ↓wCall_a, ↓wCons_a, ↓wNil_a, ↓wTup_a, ↓lst_a, ↓wAttrX_a, blt_len, blt_int, blt_isi, blt_list, blt_tuple, blt_repr, blt_all, blt_any, blt_str, List.map_cons, List.map_nil, List.replicate, List.cons_append, List.nil_append, List.getElem?_cons_succ, List.getElem?_cons_zero, List.set_cons_succ, List.set_cons_zero, Option.some.injEq, exists_eq_left', fin_val, Rs.val.injEq, D.bl.injEq, Bool.not_true, Bool.not_false, Bool.false_eq_true, if_false, if_true, true_and, and_true, ↓wsFor_a, ↓wiAny_a, ↓wMeth_a, ↓wSl_a, ↓woSome_a, ↓woNone_a, ↓wBm_a, ↓wsTry_a, ↓wNeg_a, ↓wRev_a, ↓wSlotF_a, ↓wsPar_a, callJ_at e16, callJ_at e30, List.length_cons, List.length_nil]
  refine ⟨zl (by omega), zl (by omega), zl (by omega), zl (by omega), zl (by omega), zl (by omega), _, rfl, ?_⟩
  simp only [wiRng1, ↓wsSeq_a, ↓wsIf_a, ↓wtB_a, ↓wtNot_a, ↓wtAnd_a, ↓wtOr_a, ↓wTru_a, ↓wNot_a, ↓wAnd_a, ↓wOr_a, ↓wIf_a, ↓wOp2_a, ↓wSlot_a, ↓wC_a, ↓wsRet_a, ↓wsRetN_a, ↓wsSkip_a, ↓wsAsg_a, ↓wsExpr_a, ↓wgName_a, ↓wBin_a, ↓wCall_a, ↓wCons_a, ↓wNil_a, ↓wTup_a, ↓lst_a, ↓wAttrX_a, blt_len, blt_int, blt_isi, blt_list, blt_tuple, blt_repr, blt_all, blt_any, blt_str, List.map_cons, List.map_nil, List.replicate, List.cons_append, List.nil_append, List.getElem?_cons_succ, List.getElem?_cons_zero, List.set_cons_succ, List.set_cons_zero, Option.some.injEq, exists_eq_left', fin_val, Rs.val.injEq, D.bl.injEq, Bool.not_true, Bool.not_false, Bool.false_eq_true, if_false, if_true, true_and, and_true, ↓wsFor_a, ↓wiAny_a, ↓wMeth_a, ↓wSl_a, ↓woSome_a, ↓woNone_a, ↓wBm_a, ↓wsTry_a, ↓wNeg_a, ↓wRev_a, ↓wSlotF_a, ↓wsPar_a]
  refine pick h (by decide) (by decide) fun bx1 v h1 f1 hv => ?_
  rw [bin_add]
  have ev : (2 : Int) + (v : Int) = ((2 + v : Nat) : Int) := by omega
  refine ⟨_, rfl, by omega, by omega, ?_⟩
  rw [ev, Int.toNat_natCast]
  refine for_rng (2 + v) (fun k sl b => ∃ ss ls ts x4 x5 x6, Ls (3 + 3 * k) ss ls ts ∧ Sr b b1 b2 ∧ Same bx b1 b2 b ∧ sl = [some (.box b1), some (.lst (ss.map .str)), some (.lst (ls.map d3)), some (.lst (ts.map d2)), x4, x5, x6]) ?_ ?_ _ _ ⟨_, _, _, _, _, _, ls_start, h1, f1, rfl⟩
  rotate_left
  · rintro k sl b hk ⟨ss, ls, ts, x4, x5, x6, L, hS, hF, rfl⟩ f hc
    simp only [↓wgName_a, List.set_cons_succ, List.set_cons_zero]
    rw [wsSeq_a, wsPar_a]
    simp only [↓wCons_a, ↓wNil_a, ↓wCall_a, ↓wSlot_a, ↓wC_a, List.getElem?_cons_zero, Option.some.injEq, exists_eq_left']
    refine pick hS (by decide) (by decide) fun bx2 w h2 f2 hw => ?_
    refine pick h2 (by decide) (by decide) fun bx3 a h3 f3 ha => ?_
    refine ⟨_, rfl, ?_⟩
    show wsSeq (sA cm) (wsSeq (sB cm) (wsSeq (sC cm) wsSkip)) _ _ (sl7 b1 ss ls ts (some (.int k)) w a) bx3
    rw [wsSeq_a]
    refine sA_ok L (by omega) (by omega) fun ss' L1 => ?_
    show wsSeq (sB cm) (wsSeq (sC cm) wsSkip) _ _ (sl7 b1 ss' ls ts (some (.int k)) w a) bx3
    rw [wsSeq_a]
    refine sB_ok L1 (by omega) (by omega) fun ls' L2 => ?_
    show wsSeq (sC cm) wsSkip _ _ (sl7 b1 ss' ls' ts (some (.int k)) w a) bx3
    rw [wsSeq_a]
    refine sC_ok L2 (by omega) (by omega) fun ts' L3 => ?_
    exact hc _ _ ⟨_, _, _, _, _, _, L3, h3, same_trans hF (same_trans f2 f3), rfl⟩
  rintro sl b ⟨ss, ls, ts, x4, x5, x6, L, hS, hF, rfl⟩
  simp only [↓wsSeq_a, ↓wsIf_a, ↓wtB_a, ↓wtNot_a, ↓wtAnd_a, ↓wtOr_a, ↓wTru_a, ↓wNot_a, ↓wAnd_a, ↓wOr_a, ↓wIf_a, ↓wOp2_a, ↓wSlot_a, ↓wC_a, ↓wsRet_a, ↓wsRetN_a, ↓wsSkip_a, ↓wsAsg_a, ↓wsExpr_a, ↓wgName_a, ↓wBin_a, ↓wCall_a, ↓wCons_a, ↓wNil_a, ↓wTup_a, ↓lst_a, ↓wAttrX_a, blt_len, blt_int, blt_isi, blt_list, blt_tuple, blt_repr, blt_all, blt_any, blt_str, List.map_cons, List.map_nil, List.replicate, List.cons_append, List.nil_append, List.getElem?_cons_succ, List.getElem?_cons_zero, List.set_cons_succ, List.set_cons_zero, Option.some.injEq, exists_eq_left', fin_val, Rs.val.injEq, D.bl.injEq, Bool.not_true, Bool.not_false, Bool.false_eq_true, if_false, if_true, true_and, and_true, ↓wsFor_a, ↓wiAny_a, ↓wMeth_a, ↓wSl_a, ↓woSome_a, ↓woNone_a, ↓wBm_a, ↓wsTry_a, ↓wNeg_a, ↓wRev_a, ↓wSlotF_a, ↓wsPar_a]
  refine lists (L.i (by omega)) L.z rfl rfl rfl ?_
  exact ⟨_, LeB.refl _, hq _ hS hF⟩
end
end Mk22
namespace Mk22
open PySem PySem.Spec Mi
def gdW (x : Str) : Prop := isW x = true ∧ okS x ∧ x ≠ "zzz"
/-- sorts and letters that make a frame without totals -/
structure Fz (ss : List Str) (ls : T3) : Prop where
  sn : ss.Nodup
  s : ∀ x ∈ ss, gdW x
  s3 : ss.length ≤ 3
  s0 : ss ≠ []
  nn : (ls.map (·.1)).Nodup
  nw : ∀ x ∈ ls.map (·.1), gdW x
  e : ∀ p ∈ ls, p.2.1 ∈ ss ∧ p.2.2 ∈ ss
  l : ls.length ≤ 8
  l0 : ls ≠ []
section
variable {ss : List Str} {ls : T3} {ts : T2}
theorem Fz.i (h : Fz ss ls) (h2 : ok2 ts) (hl : ts.length ≤ 100) : In ss ls ts :=
  ⟨fun x hx => (h.s x hx).2.1, fun p hp => ⟨(h.nw _ (List.mem_map.mpr ⟨p, hp, rfl⟩)).2.1, (h.s _ (h.e p hp).1).2.1, (h.s _ (h.e p hp).2).2.1⟩, h2, by have := h.s3; omega, by have := h.l; omega, by omega⟩
theorem Fz.z (h : Fz ss ls) : Zz ss ls := ⟨fun hx => (h.s _ hx).2.2 rfl, fun hx => (h.nw _ hx).2.2 rfl⟩
theorem Fz.gd (h : Fz ss ls) : Gd ss ls [] where
  i := h.i (by intro p hp; cases hp) (by simp)
  d := due_none (fun x hx => by
    rcases List.mem_append.mp hx with hx | hx
    · exact (h.s x hx).1
    · exact (h.nw x hx).1) h.sn h.nn h.e (by simp) List.nodup_nil (by simp) rnds_none
theorem Fz.revS (h : Fz ss ls) : Fz ss.reverse ls :=
  ⟨nodup_rev h.sn, fun x hx => h.s x (List.mem_reverse.mp hx), by rw [List.length_reverse]; exact h.s3, by simpa using h.s0, h.nn, h.nw, fun p hp => ⟨List.mem_reverse.mpr (h.e p hp).1, List.mem_reverse.mpr (h.e p hp).2⟩, h.l, h.l0⟩
theorem Fz.revL (h : Fz ss ls) : Fz ss ls.reverse :=
  ⟨h.sn, h.s, h.s3, h.s0, by rw [List.map_reverse]; exact nodup_rev h.nn, fun x hx => h.nw x (by rw [List.map_reverse] at hx; exact List.mem_reverse.mp hx), fun p hp => h.e p (List.mem_reverse.mp hp), by rw [List.length_reverse]; exact h.l, by simpa using h.l0⟩
theorem Fz.put (h : Fz ss ls) {a : Nat} (ha : a < ls.length) {q1 q2 : Str} (h1 : q1 ∈ ss) (h2 : q2 ∈ ss) : Fz ss (ls.take a ++ [(ls[a].1, q1, q2)] ++ ls.drop (a + 1)) := by
  have en : (ls.take a ++ [(ls[a].1, q1, q2)] ++ ls.drop (a + 1)).map (·.1) = ls.map (·.1) := by
    have : ls = ls.take a ++ [ls[a]] ++ ls.drop (a + 1) := by
      rw [List.append_assoc, List.singleton_append, ← List.drop_eq_getElem_cons ha, List.take_append_drop]
    conv => rhs; rw [this]
    simp only [List.map_append, List.map_cons, List.map_nil]
  have el := congrArg List.length en
  simp only [List.length_map] at el
  refine ⟨h.sn, h.s, h.s3, h.s0, by rw [en]; exact h.nn, by rw [en]; exact h.nw, fun p hp => ?_, by rw [el]; exact h.l, by simp⟩
  rcases List.mem_append.mp hp with hp | hp
  · rcases List.mem_append.mp hp with hp | hp
    · exact h.e p (List.mem_of_mem_take hp)
    · rw [List.mem_singleton] at hp; subst hp; exact ⟨h1, h2⟩
  · exact h.e p (List.mem_of_mem_drop hp)
end
def GS : List (List Str) := [["a"], ["a", "b"], ["b", "a", "c"], ["c", "b", "a"], ["s", "b", "c"]]
theorem gs_ok : ∀ ss ∈ GS, ss.Nodup ∧ (∀ x ∈ ss, gdW x) ∧ ss.length ≤ 3 ∧ ss ≠ [] := by unfold GS gdW okS; decide +kernel
theorem a_ok : gdW "a" ∧ ("a" : Str).length ≠ 3 := by unfold gdW okS; decide +kernel
theorem gs_at {j : Nat} (h : j < 5) : ∃ ss, ([D.lst [.str "a"], .lst [.str "a", .str "b"], .lst [.str "b", .str "a", .str "c"], .lst [.str "c", .str "b", .str "a"], .lst [.str "s", .str "b", .str "c"]] : List D)[j]? = some (.lst (ss.map .str)) ∧ ss ∈ GS := by
  have h' : j < GS.length := h
  exact ⟨GS[j], by
    have : ([D.lst [.str "a"], .lst [.str "a", .str "b"], .lst [.str "b", .str "a", .str "c"], .lst [.str "c", .str "b", .str "a"], .lst [.str "s", .str "b", .str "c"]] : List D) = GS.map fun ss => D.lst (ss.map .str) := rfl
    rw [this]
    simp [h'], List.getElem_mem h'⟩
theorem tot_at {j : Nat} {a : Str} (ha : okS a) (h : j < 6) : ∃ u : T2, ([D.lst [], .lst [], .lst [], .lst [.tup [.str a, .str "on"]], .lst [.tup [.str a, .str "back"]], .lst [.tup [.str a, .str "back"], .tup [.str a, .str "on"]]] : List D)[j]? = some (.lst (u.map d2)) ∧ ok2 u ∧ u.length ≤ 2 := by
  have o1 := ok_wd (.inl rfl)
  have o2 := ok_wd (.inr rfl)
  have : j = 0 ∨ j = 1 ∨ j = 2 ∨ j = 3 ∨ j = 4 ∨ j = 5 := by omega
  rcases this with rfl | rfl | rfl | rfl | rfl | rfl
  · exact ⟨[], rfl, (by intro p hp; cases hp), by simp⟩
  · exact ⟨[], rfl, (by intro p hp; cases hp), by simp⟩
  · exact ⟨[], rfl, (by intro p hp; cases hp), by simp⟩
  · exact ⟨[(a, "on")], rfl, by intro p hp; rw [List.mem_singleton] at hp; subst hp; exact ⟨ha, o1⟩, by simp⟩
  · exact ⟨[(a, "back")], rfl, by intro p hp; rw [List.mem_singleton] at hp; subst hp; exact ⟨ha, o2⟩, by simp⟩
  · exact ⟨[(a, "back"), (a, "on")], rfl, by
      intro p hp
      simp only [List.mem_cons, List.not_mem_nil, or_false] at hp
      rcases hp with rfl | rfl
      · exact ⟨ha, o2⟩
      · exact ⟨ha, o1⟩, by simp⟩
theorem if2 {p q : Bool} {P : Int → Prop} (h4 : P 4) (h6 : P 6) : if p = true then (if q = true then P 6 else P 4) else P 4 := by
  cases p <;> cases q <;> simp [h4, h6]
theorem pl_ss {ss : List Str} (h : ∀ x ∈ ss, okS x) : Pl 40 (.lst (ss.map .str)) := strs39' h
theorem pl_ls {ls : T3} (h : ok3 ls) : Pl 40 (.lst (ls.map d3)) := Pl.lst_map (n := 39) fun p hp => plc (h p hp)
/-- the loop's part: a letter more -/
structure Gi (ss : List Str) (done : T3) (ts : T2) : Prop where
  e : ∀ p ∈ done, p.2.1 ∈ ss ∧ p.2.2 ∈ ss
  t : ok2 ts
  l : ts.length ≤ 2 * done.length
section
variable {n : Nat} {cm : CM} {bx : Bx} {Q : VQ} {X : XQ} {b : Bool} {b1 b2 : Nat} {ss : List Str} {ls : T3} {ts : T2}
def gA (cm : CM) : WS := (wsFor (wiAny (wSl false (wOp2 (binC S cm false .Add) (wLst false (wCons (wC (.str "a")) wNil)) (callJ cm 17 (wCons (wSlot 0) (wCons (wC (.int 7)) wNil)))) woNone (woSome (wOp2 (binC S cm false .Add) (wC (.int 1)) (callJ cm 16 (wCons (wSlot 0) (wCons (wC (.int 8)) wNil))))))) (wgName 4) (wsSeq (wsPar [5, 6] (wCons (wBin false dIx (wSlot 1) (callJ cm 16 (wCons (wSlot 0) (wCons (bltJ S cm false "len" (wCons (wSlot 1) wNil)) wNil)))) (wCons (wBin false dIx (wSlot 1) (callJ cm 16 (wCons (wSlot 0) (wCons (bltJ S cm false "len" (wCons (wSlot 1) wNil)) wNil)))) wNil)))
  (wsSeq (wsExpr (wBm "list" cAppend (wSlot 2) (wCons (wTup (wCons (wSlot 4) (wCons (wSlot 5) (wCons (wSlot 6) wNil)))) wNil)))
  (wsSeq (wsAsg (wOp2 (binC S cm false .Add) (wSlot 3) (wBin false dIx (wLst false (wCons (wLst false wNil) (wCons (wLst false wNil) (wCons (wLst false wNil) (wCons (wLst false (wCons (wTup (wCons (wSlot 4) (wCons (wC (.str "on")) wNil))) wNil)) (wCons (wLst false (wCons (wTup (wCons (wSlot 4) (wCons (wC (.str "back")) wNil))) wNil)) (wCons (wLst false (wCons (wTup (wCons (wSlot 4) (wCons (wC (.str "back")) wNil))) (wCons (wTup (wCons (wSlot 4) (wCons (wC (.str "on")) wNil))) wNil))) wNil))))))) (callJ cm 16 (wCons (wSlot 0) (wCons (wIf (wtAnd (wtB (wOp2 (cmpC S cm false .Gt) (bltJ S cm false "len" (wCons (wSlot 1) wNil)) (wC (.int 1)))) (wtB (wOp2 (cmpC S cm false .NotEq) (wSlot 5) (wSlot 6)))) (wC (.int 6)) (wC (.int 4))) wNil))))) (wgName 3))
  wsSkip))))
theorem gA_ok {DD : En} {W : WXQ} {n2 : Nat} {cp cn : CallM} (e16 : cm 16 = some cp) (e17 : cm 17 = some cn)
    (pick : ∀ {bx : Bx} {b1 b2 : Nat} {k : Int} {Q : VQ} {X : XQ}, Sr bx b1 b2 → 1 ≤ k → k ≤ 10000000 → (∀ bx' (j : Nat), Sr bx' b1 b2 → Same bx b1 b2 bx' → (j : Int) < k → Q (.int j) bx') → cp [.box b1, .int k] bx Q X)
    (names : ∀ {bx : Bx} {b1 b2 : Nat} {Q : VQ} {X : XQ}, Sr bx b1 b2 → ∀ {m : Nat}, m ≤ 60 → (∀ bx' L, Sr bx' b1 b2 → Same bx b1 b2 bx' → Nms L → L.length = m → Q (.lst (L.map .str)) bx') → cn [.box b1, .int m] bx Q X)
    (h : Sr bx b1 b2) (hg : ss ∈ GS) (e1 : n2 ≠ b1) (e2 : n2 ≠ b2) (en : bx n2 = some (.lst []))
    (hc : ∀ bx' ls ts x4 x5 x6, Fz ss ls → ok2 ts → ts.length ≤ 20 → Sr bx' b1 b2 → (∀ i, i ≠ b1 → i ≠ b2 → i ≠ n2 → bx' i = bx i) → bx' n2 = some (.lst (ls.map d3)) → DD.nx [some (.box b1), some (.lst (ss.map .str)), some (.box n2), some (.lst (ts.map d2)), x4, x5, x6, none, none, none, none, none] bx') :
    gA cm DD W [some (.box b1), some (.lst (ss.map .str)), some (.box n2), some (.lst []), none, none, none, none, none, none, none, none] bx := by
  have zl : ∀ {m : Nat}, m ≤ 1000 → m ≤ sizeLine := fun {m} h => by rw [sizeLine_eq]; omega
  obtain ⟨s1, s2, s3, s4⟩ := gs_ok ss hg
  have hpos : 1 ≤ ss.length := List.length_pos_iff.mpr s4
  unfold gA
  simp only [↓wsSeq_a, ↓wsIf_a, ↓wtB_a, ↓wtNot_a, ↓wtAnd_a, ↓wtOr_a, ↓wTru_a, ↓wNot_a, ↓wAnd_a, ↓wOr_a, ↓wIf_a, ↓wOp2_a, ↓wSlot_a, ↓wC_a, ↓wsRet_a, ↓wsRetN_a, ↓wsSkip_a, ↓wsAsg_a, ↓wsExpr_a, ↓wgName_a, ↓wBin_a, ↓wCall_a, ↓wCons_a, ↓wNil_a, ↓wTup_a, ↓lst_a, ↓wAttrX_a, blt_len, blt_int, blt_isi, blt_list, blt_tuple, blt_repr, blt_all, blt_any, blt_str, List.map_cons, List.map_nil, List.replicate, List.cons_append, List.nil_append, List.getElem?_cons_succ, List.getElem?_cons_zero, List.set_cons_succ, List.set_cons_zero, Option.some.injEq, exists_eq_left', fin_val, Rs.val.injEq, D.bl.injEq, Bool.not_true, Bool.not_false, Bool.false_eq_true, if_false, if_true, true_and, and_true, ↓wsFor_a, ↓wiAny_a, ↓wMeth_a, ↓wSl_a, ↓woSome_a, ↓woNone_a, ↓wBm_a, ↓wsTry_a, ↓wNeg_a, ↓wRev_a, ↓wSlotF_a, ↓wsPar_a, callJ_at e16, callJ_at e17, List.length_cons, List.length_nil]
  refine ⟨zl (by omega), ?_⟩
  refine names (m := 7) h (by omega) fun bx1 L h1 f1 hN hL => ?_
  rw [add_l (x := [.str "a"]) (by simp only [List.length_cons, List.length_nil, List.length_map]; omega)]
  refine pick h1 (by decide) (by decide) fun bx2 v h2 f2 hv => ?_
  rw [bin_add]
  have ev : (1 : Int) + (v : Int) = ((1 + v : Nat) : Int) := by omega
  rw [ev]
  refine ⟨_, rfl, _, sl_take rfl (1 + v), ?_⟩
  simp only [fin_new]
  have F2 := same_trans f1 f2
  have eN : ([D.str "a"] ++ L.map D.str).take (1 + v) = ((("a" : Str) :: L).take (1 + v)).map D.str := by rw [List.map_take]; rfl
  rw [eN]
  have hNS : ((("a" : Str) :: L).take (1 + v)).Nodup ∧ (∀ x ∈ (("a" : Str) :: L).take (1 + v), gdW x) ∧ ((("a" : Str) :: L).take (1 + v)).length ≤ 8 ∧ (("a" : Str) :: L).take (1 + v) ≠ [] := by
    refine ⟨List.Nodup.sublist (List.take_sublist _ _) (List.nodup_cons.mpr ⟨fun hm => a_ok.2 (hN.l3 _ hm), hN.nd⟩), fun x hx => ?_, by rw [List.length_take, List.length_cons]; omega, ?_⟩
    · have := List.mem_of_mem_take hx
      rcases List.mem_cons.mp this with rfl | hm
      · exact a_ok.1
      · exact ⟨hN.w x hm, hN.ok x hm, fun e => hN.z (e ▸ hm)⟩
    · rw [Nat.add_comm, List.take_succ_cons]; simp
  generalize (("a" : Str) :: L).take (1 + v) = NS at hNS
  obtain ⟨w1, w2, w3, w4⟩ := hNS
  refine ⟨_, rfl, ?_⟩
  refine for_each (G := D.str) (P := fun as sl b => ∃ done ts x4 x5 x6, NS = done.map (·.1) ++ as ∧ Gi ss done ts ∧ Sr b b1 b2 ∧ (∀ i, i ≠ b1 → i ≠ b2 → i ≠ n2 → b i = bx i) ∧ b n2 = some (.lst (done.map d3)) ∧ sl = [some (.box b1), some (.lst (ss.map .str)), some (.box n2), some (.lst (ts.map d2)), x4, x5, x6, none, none, none, none, none]) ?_ ?_ _ _ _ ⟨[], [], _, _, _, rfl, ⟨by simp, (by intro p hp; cases hp), by simp⟩, h2, fun i i1 i2 i3 => F2 i i1 i2, by rw [F2 n2 e1 e2]; exact en, rfl⟩
  · rintro sl b ⟨done, ts, x4, x5, x6, e3, gi, hS, hF, eb, rfl⟩
    refine ⟨trivial, ?_⟩
    rw [List.append_nil] at e3
    have hl : done.length ≤ 8 := by rw [← List.length_map (·.1), ← e3]; exact w3
    refine hc b done ts x4 x5 x6 ⟨s1, s2, s3, s4, by rw [← e3]; exact w1, by rw [← e3]; exact w2, gi.e, hl, fun e => w4 (by rw [e3, e]; rfl)⟩ gi.t (by have := gi.l; omega) hS hF eb
  · rintro a as sl b ⟨done, ts, x4, x5, x6, e3, gi, hS, hF, eb, rfl⟩
    refine ⟨trivial, fun f hk => ?_⟩
    have oa : okS a := (w2 a (by rw [e3]; simp)).2.1
    have hlen : done.length + 1 ≤ 8 := by
      have := congrArg List.length e3
      rw [List.length_append, List.length_map, List.length_cons] at this
      omega
    have hlt := gi.l
    simp only [↓wsSeq_a, ↓wsIf_a, ↓wtB_a, ↓wtNot_a, ↓wtAnd_a, ↓wtOr_a, ↓wTru_a, ↓wNot_a, ↓wAnd_a, ↓wOr_a, ↓wIf_a, ↓wOp2_a, ↓wSlot_a, ↓wC_a, ↓wsRet_a, ↓wsRetN_a, ↓wsSkip_a, ↓wsAsg_a, ↓wsExpr_a, ↓wgName_a, ↓wBin_a, ↓wCall_a, ↓wCons_a, ↓wNil_a, ↓wTup_a, ↓lst_a, ↓wAttrX_a, blt_len, blt_int, blt_isi, blt_list, blt_tuple, blt_repr, blt_all, blt_any, blt_str, List.map_cons, List.map_nil, List.replicate, List.cons_append, List.nil_append, List.getElem?_cons_succ, List.getElem?_cons_zero, List.set_cons_succ, List.set_cons_zero, Option.some.injEq, exists_eq_left', fin_val, Rs.val.injEq, D.bl.injEq, Bool.not_true, Bool.not_false, Bool.false_eq_true, if_false, if_true, true_and, and_true, ↓wsFor_a, ↓wiAny_a, ↓wMeth_a, ↓wSl_a, ↓woSome_a, ↓woNone_a, ↓wBm_a, ↓wsTry_a, ↓wNeg_a, ↓wRev_a, ↓wSlotF_a, ↓wsPar_a, len_l, List.length_map]
    refine pick hS (by omega) (by omega) fun bx3 j1 h3 f3 hj1 => ?_
    obtain ⟨x, ex, mx⟩ := at_str (L := ss) (j := j1) (by omega)
    refine ⟨_, ix_lst rfl ex, ?_⟩
    simp only [fin_val]
    refine pick h3 (by omega) (by omega) fun bx4 j2 h4 f4 hj2 => ?_
    obtain ⟨y, ey, my⟩ := at_str (L := ss) (j := j2) (by omega)
    refine ⟨_, ix_lst rfl ey, ?_⟩
    simp only [fin_val]
    refine ⟨_, rfl, ?_⟩
    have F4 := same_trans f3 f4
    have eb4 : bx4 n2 = some (.lst (done.map d3)) := by rw [F4 n2 e1 e2]; exact eb
    simp only [↓wsSeq_a, ↓wsIf_a, ↓wtB_a, ↓wtNot_a, ↓wtAnd_a, ↓wtOr_a, ↓wTru_a, ↓wNot_a, ↓wAnd_a, ↓wOr_a, ↓wIf_a, ↓wOp2_a, ↓wSlot_a, ↓wC_a, ↓wsRet_a, ↓wsRetN_a, ↓wsSkip_a, ↓wsAsg_a, ↓wsExpr_a, ↓wgName_a, ↓wBin_a, ↓wCall_a, ↓wCons_a, ↓wNil_a, ↓wTup_a, ↓lst_a, ↓wAttrX_a, blt_len, blt_int, blt_isi, blt_list, blt_tuple, blt_repr, blt_all, blt_any, blt_str, List.map_cons, List.map_nil, List.replicate, List.cons_append, List.nil_append, List.getElem?_cons_succ, List.getElem?_cons_zero, List.set_cons_succ, List.set_cons_zero, Option.some.injEq, exists_eq_left', fin_val, Rs.val.injEq, D.bl.injEq, Bool.not_true, Bool.not_false, Bool.false_eq_true, if_false, if_true, true_and, and_true, ↓wsFor_a, ↓wiAny_a, ↓wMeth_a, ↓wSl_a, ↓woSome_a, ↓woNone_a, ↓wBm_a, ↓wsTry_a, ↓wNeg_a, ↓wRev_a, ↓wSlotF_a, ↓wsPar_a, List.length_cons, List.length_nil]
    refine ⟨by simp [isTy, dr, eb4], zl (by omega), n2, _, _, rfl, eb4, by rw [List.length_map]; exact zl (by omega), ?_⟩
    have h5 : Sr (upb bx4 n2 (.lst (done.map d3 ++ [.tup [.str a, .str x, .str y]]))) b1 b2 := h4.le (by simp [upb, e1.symm]) (by simp [upb, e2.symm])
    have F5 : ∀ i, i ≠ b1 → i ≠ b2 → i ≠ n2 → (upb bx4 n2 (.lst (done.map d3 ++ [.tup [.str a, .str x, .str y]]))) i = bx i := fun i i1 i2 i3 => by simp [upb, i3, F4 i i1 i2, hF i i1 i2 i3]
    have eb5 : (upb bx4 n2 (.lst (done.map d3 ++ [.tup [.str a, .str x, .str y]]))) n2 = some (.lst ((done ++ [(a, x, y)]).map d3)) := by rw [upb_at]; simp [d3]
    generalize upb bx4 n2 (.lst (done.map d3 ++ [.tup [.str a, .str x, .str y]])) = bx5 at h5 F5 eb5 ⊢
    refine ⟨zl (by omega), zl (by omega), zl (by omega), zl (by omega), zl (by omega), zl (by omega), zl (by omega), zl (by omega), zl (by omega), zl (by omega), zl (by omega), ?_⟩
    have step : ∀ k : Int, 1 ≤ k → k ≤ 6 → cp [.box b1, .int k] bx5 (fun e bx2 => ∃ rs, dIx bx2 (.lst [.lst [], .lst [], .lst [], .lst [.tup [.str a, .str "on"]], .lst [.tup [.str a, .str "back"]], .lst [.tup [.str a, .str "back"], .tup [.str a, .str "on"]]]) e = some rs ∧ fin false rs bx2 fun e bx2 => binC S cm false .Add [.lst (ts.map d2), e] bx2 (fun d bx' => f [some (.box b1), some (.lst (ss.map .str)), some (.box n2), some d, some (.str a), some (.str x), some (.str y), none, none, none, none, none] bx') (fun x_1 b => W x_1 [some (.box b1), some (.lst (ss.map .str)), some (.box n2), some (.lst (ts.map d2)), some (.str a), some (.str x), some (.str y), none, none, none, none, none] b)) (fun x_1 b => W x_1 [some (.box b1), some (.lst (ss.map .str)), some (.box n2), some (.lst (ts.map d2)), some (.str a), some (.str x), some (.str y), none, none, none, none, none] b) := fun k k1 k2 => by
      refine pick h5 k1 (by omega) fun bx6 j h6 f6 hj => ?_
      obtain ⟨u, eu, u1, u2⟩ := tot_at (j := j) oa (by omega)
      refine ⟨_, ix_lst rfl eu, ?_⟩
      simp only [fin_val]
      rw [add_l (by rw [List.length_map, List.length_map]; omega), ← List.map_append]
      refine hk _ _ ⟨done ++ [(a, x, y)], ts ++ u, _, _, _, by rw [e3]; simp, ⟨fun p hp => ?_, fun p hp => ?_, by simp only [List.length_append, List.length_cons, List.length_nil]; omega⟩, h6, fun i i1 i2 i3 => by rw [f6 i i1 i2]; exact F5 i i1 i2 i3, by rw [f6 n2 e1 e2]; exact eb5, rfl⟩
      · rcases List.mem_append.mp hp with hp | hp
        · exact gi.e p hp
        · rw [List.mem_singleton] at hp; subst hp; exact ⟨mx, my⟩
      · rcases List.mem_append.mp hp with hp | hp
        · exact gi.t p hp
        · exact u1 p hp
    simp only [len_l, cmp_gt, ne_txt, D.bl.injEq, exists_eq_left']
    exact if2 (P := fun k => cp [.box b1, .int k] bx5 _ _) (step 4 (by decide) (by decide)) (step 6 (by decide) (by decide))
end
end Mk22
namespace Mk22
open PySem PySem.Spec Mi
section
variable {n : Nat} {cm : CM} {bx : Bx} {Q : VQ} {X : XQ} {b : Bool} {b1 b2 : Nat} {ss : List Str} {ls : T3} {ts : T2}
theorem len_box {m : Nat} {l : List D} (h : bx m = some (.lst l)) : cSel 0 (cOwnLen (mthOf S cm "__len__")) (cOp b dLen) [.box m] bx Q X = Q (.int l.length) bx := len_at h
theorem add_b {d e : D} {x y : List D} (e1 : dr bx d = some (.lst x)) (e2 : dr bx e = some (.lst y)) (h : x.length + y.length ≤ 10000) : binC S cm false .Add [d, e] bx Q X = Q (.lst (x ++ y)) bx := add_at e1 e2 (by rw [sizeLine_eq]; omega)
theorem rev_at {d : D} {l : List D} (e : dr bx d = some (.lst l)) : dRev bx d = some (.new (.lst l.reverse)) := by
  simp [dRev, e]
/-- one of the fellows: its two lists -/
structure Fe (bx : Bx) (d : D) (ss : List Str) (ls : T3) (p : List Str × T3 × D) : Prop where
  e : d = .lst [.lst (p.1.map .str), p.2.2]
  d : dr bx p.2.2 = some (.lst (p.2.1.map d3))
  z : Fz p.1 p.2.1
def gfe (p : List Str × T3 × D) : D := .lst [.lst (p.1.map .str), p.2.2]
theorem gB_ok {DD : En} {W : WXQ} {n2 n8 : Nat} {ps : List (List Str × T3 × D)} (F : Fz ss ls) {x3 x4 x5 x6 x9 x10 x11 : Option D} {mk : CallM} {k : Nat} (ek : cm = cmAt S (k + 1))
    (make : ∀ {bx : Bx} {Q : VQ} {X : XQ} {ss : List Str} {ls : T3} {ts : T2} {ds dl dt : D} {sl : Sl} {ma : WA}, In ss ls ts → Sq bx ds (ss.map .str) → Sq bx dl (ls.map d3) → Sq bx dt (ts.map d2) → (∀ (Q : List D → Bx → Prop) (X : XQ), Q [ds, dl, dt] bx → ma sl bx Q X) →
    res (due ss ls ts) (Q (FR ss ls ts) bx) (fun x => X x bx) → wMake false 7 mk ma sl bx Q X)
    (e2 : bx n2 = some (.lst (ls.map d3))) (e8 : bx n8 = some (.lst (ps.map gfe))) (hp : ∀ p ∈ ps, Fz p.1 p.2.1 ∧ dr bx p.2.2 = some (.lst (p.2.1.map d3)))
    (hc : ∀ x10 x11, DD.nx [some (.box b1), some (.lst (ss.map .str)), some (.box n2), x3, x4, x5, x6, some (FR ss ls []), some (.box n8), x9, x10, x11] bx) :
    ∃ p, itemsOf bx (.box n8) = some p ∧ forW p.2 (wgTup 2 (wgCons (wgName 10) (wgCons (wgName 11) wgNil))) (wsSeq (wsIf (wtB (wOp2 (cmpC S cm false .NotEq) (bltJ S cm false "repr" (wCons (wOp2 (cmpC S cm false .Eq) (wMake false 7 mk (wCons (wSlot 10) (wCons (wSlot 11) (wCons (wLst false wNil) wNil)))) (wSlot 7)) wNil)) (bltJ S cm false "repr" (wCons (wAnd (wOp2 (cmpC S cm false .Eq) (wSlot 10) (wSlot 1)) (wOp2 (cmpC S cm false .Eq) (wSlot 11) (wSlot 2))) wNil)))) (wsSeq (wsRet (wC (.bl false)))
  wsSkip) wsSkip)
  wsSkip) DD W p.1 [some (.box b1), some (.lst (ss.map .str)), some (.box n2), x3, x4, x5, x6, some (FR ss ls []), some (.box n8), x9, x10, x11] bx := by
  subst ek
  refine ⟨_, by rw [itemsOf, e8], ?_⟩
  refine for_each (G := gfe) (P := fun as sl b => bx = b ∧ (∀ p ∈ as, p ∈ ps) ∧ ∃ x10 x11, sl = [some (.box b1), some (.lst (ss.map .str)), some (.box n2), x3, x4, x5, x6, some (FR ss ls []), some (.box n8), x9, x10, x11]) ?_ ?_ _ _ _ ⟨rfl, fun _ h => h, _, _, rfl⟩
  · rintro sl b ⟨rfl, -, x10, x11, rfl⟩
    exact ⟨e8, hc x10 x11⟩
  · rintro p as sl b ⟨rfl, ho, x10, x11, rfl⟩
    refine ⟨e8, fun f hk => ?_⟩
    obtain ⟨z, ed⟩ := hp p (ho p List.mem_cons_self)
    simp only [gfe]
    refine ⟨_, .inr (.inr rfl), rfl, _, _, rfl, _, _, rfl, rfl, ?_⟩
    simp only [↓wsSeq_a, ↓wsIf_a, ↓wtB_a, ↓wtNot_a, ↓wtAnd_a, ↓wtOr_a, ↓wTru_a, ↓wNot_a, ↓wAnd_a, ↓wOr_a, ↓wIf_a, ↓wOp2_a, ↓wSlot_a, ↓wC_a, ↓wsRet_a, ↓wsRetN_a, ↓wsSkip_a, ↓wsAsg_a, ↓wsExpr_a, ↓wgName_a, ↓wBin_a, ↓wCall_a, ↓wCons_a, ↓wNil_a, ↓wTup_a, ↓lst_a, ↓wAttrX_a, blt_len, blt_int, blt_isi, blt_list, blt_tuple, blt_repr, blt_all, blt_any, blt_str, List.map_cons, List.map_nil, List.replicate, List.cons_append, List.nil_append, List.getElem?_cons_succ, List.getElem?_cons_zero, List.set_cons_succ, List.set_cons_zero, Option.some.injEq, exists_eq_left', fin_val, Rs.val.injEq, D.bl.injEq, Bool.not_true, Bool.not_false, Bool.false_eq_true, if_false, if_true, true_and, and_true, ↓wsFor_a, ↓wiAny_a, ↓wMeth_a, ↓wSl_a, ↓woSome_a, ↓woNone_a, ↓wBm_a, ↓wsTry_a, ↓wNeg_a, ↓wRev_a, ↓wSlotF_a, ↓wsPar_a, List.length_nil]
    refine make (ss := p.1) (ls := p.2.1) (ts := []) (ds := .lst (p.1.map .str)) (dl := p.2.2) (dt := .lst []) z.gd.i (.inl rfl) (.inl ed) (.inl rfl) (fun Q X q => ?_) ?_
    · simp only [↓wsSeq_a, ↓wsIf_a, ↓wtB_a, ↓wtNot_a, ↓wtAnd_a, ↓wtOr_a, ↓wTru_a, ↓wNot_a, ↓wAnd_a, ↓wOr_a, ↓wIf_a, ↓wOp2_a, ↓wSlot_a, ↓wC_a, ↓wsRet_a, ↓wsRetN_a, ↓wsSkip_a, ↓wsAsg_a, ↓wsExpr_a, ↓wgName_a, ↓wBin_a, ↓wCall_a, ↓wCons_a, ↓wNil_a, ↓wTup_a, ↓lst_a, ↓wAttrX_a, blt_len, blt_int, blt_isi, blt_list, blt_tuple, blt_repr, blt_all, blt_any, blt_str, List.map_cons, List.map_nil, List.replicate, List.cons_append, List.nil_append, List.getElem?_cons_succ, List.getElem?_cons_zero, List.set_cons_succ, List.set_cons_zero, Option.some.injEq, exists_eq_left', fin_val, Rs.val.injEq, D.bl.injEq, Bool.not_true, Bool.not_false, Bool.false_eq_true, if_false, if_true, true_and, and_true, ↓wsFor_a, ↓wiAny_a, ↓wMeth_a, ↓wSl_a, ↓woSome_a, ↓woNone_a, ↓wBm_a, ↓wsTry_a, ↓wNeg_a, ↓wRev_a, ↓wSlotF_a, ↓wsPar_a, List.length_nil]
      exact ⟨Nat.zero_le _, q⟩
    rw [z.gd.d]
    simp only [res]
    refine eqF z.gd.i F.gd.i ?_
    rw [op_rp rp_bl]
    rw [cmp_eq (pl_ss z.gd.i.s) (pl_ss F.gd.i.s) .rfl .rfl]
    simp only [dTru, Option.some.injEq, exists_eq_left', D.lst.injEq, map_str]
    have fin : ∀ b : Bool, b = (decide (p.1 = ss) && (decide (p.2.1 = ls) && decide (([] : T2) = []))) → cOp false dReprA [.bl b] bx (fun e bx2 => cmpC S (cmAt S (k + 1)) false .NotEq [.str (rp bx (.bl (decide (p.1 = ss) && (decide (p.2.1 = ls) && decide (([] : T2) = []))))), e] bx2 (fun d bx' => ∃ k, d = .bl k ∧ if k = true then DD.rt (.bl false) bx' else f [some (.box b1), some (.lst (ss.map .str)), some (.box n2), x3, x4, x5, x6, some (FR ss ls []), some (.box n8), x9, some (.lst (p.1.map .str)), some p.2.2] bx') (fun x_1 b => W x_1 [some (.box b1), some (.lst (ss.map .str)), some (.box n2), x3, x4, x5, x6, some (FR ss ls []), some (.box n8), x9, some (.lst (p.1.map .str)), some p.2.2] b)) (fun x_1 b => W x_1 [some (.box b1), some (.lst (ss.map .str)), some (.box n2), x3, x4, x5, x6, some (FR ss ls []), some (.box n8), x9, some (.lst (p.1.map .str)), some p.2.2] b) := fun b hb => by
      rw [op_rp rp_bl, ne_txt, hb]
      simp only [decide_true, Bool.not_true, D.bl.injEq, exists_eq_left', Bool.false_eq_true, if_false]
      exact hk _ _ ⟨rfl, fun p hp => ho p (List.mem_cons_of_mem _ hp), _, _, rfl⟩
    by_cases c : p.1 = ss
    · simp only [c, decide_true, if_true]
      rw [cmp_eq (pl_ls z.gd.i.l) (pl_ls F.gd.i.l) (Sm.dr ed) (Sm.dr (d := .box n2) e2)]
      simp only [D.lst.injEq, map_d3]
      simpa [c] using fin (decide (p.2.1 = ls)) (by simp [c])
    · simp only [c, decide_false, Bool.false_eq_true, if_false]
      simpa [c] using fin false (by simp [c])
end
end Mk22
namespace Mk22
open PySem PySem.Spec Mi
section
variable {n : Nat} {cm : CM} {bx : Bx} {Q : VQ} {X : XQ} {b : Bool} {b1 b2 : Nat} {ss : List Str} {ls : T3} {ts : T2}
theorem leB_del {m : Nat} : LeB (delb bx m) bx := fun i d e => by
  by_cases q : i = m
  · subst q; simp [delb] at e
  · simpa [delb, q] using e
theorem same_del {b0 : Bx} {m k : Nat} (hm : b0 m = none) (hk : b0 k = none) (F : ∀ i, i ≠ b1 → i ≠ b2 → i ≠ m → i ≠ k → bx i = b0 i) : Same b0 b1 b2 (delb (delb bx m) k) := fun i i1 i2 => by
  by_cases e1 : i = k
  · subst e1; simp [delb, hk]
  · by_cases e2 : i = m
    · subst e2; simp [delb, e1, hm]
    · simp [delb, e1, e2, F i i1 i2 e2 e1]
theorem great_ok (h : Sr bx b1 b2) (hq : ∀ bx', Sr bx' b1 b2 → Same bx b1 b2 bx' → Q (.bl true) bx') : runM 1 12 (t31 (cmAt S (n + 5))) [.box b1] bx Q X := by
  refine ⟨rfl, ?_⟩
  have zl : ∀ {m : Nat}, m ≤ 1000 → m ≤ sizeLine := fun {m} h => by rw [sizeLine_eq]; omega
  obtain ⟨cp, e16, pick⟩ := pickC (n + 4)
  obtain ⟨cn, e17, names⟩ := namesC (n + 3)
  obtain ⟨cl, e30, lists⟩ := listsC n
  obtain ⟨mk, e7, make⟩ := makeC (n + 2)
  generalize hcm : cmAt S (n + 5) = cm at e16 e17 e30 e7 ⊢
  unfold t31
  rw [wsSeq_a]
  simp only [↓wsAsg_a, ↓wBin_a, ↓lst_a, ↓wCons_a, ↓wC_a, ↓wNil_a, ↓wSlot_a, ↓callJ_f e16, List.length_cons, List.length_nil, List.map_cons, List.map_nil, List.replicate, List.cons_append, List.nil_append, List.getElem?_cons_zero, Option.some.injEq, exists_eq_left']
  refine ⟨zl (by omega), zl (by omega), zl (by omega), zl (by omega), zl (by omega), zl (by omega), ?_⟩
  refine pick h (by decide) (by decide) fun bx1 g h1 f1 hg => ?_
  obtain ⟨ss, eg, hs⟩ := gs_at (j := g) (by omega)
  refine ⟨_, ix_lst rfl eg, ?_⟩
  simp only [fin_val, ↓wgName_a, List.set_cons_succ, List.set_cons_zero]
  rw [wsSeq_a]
  simp only [↓wsPar_a, ↓wCons_a, ↓lst_a, ↓wNil_a, lst_box, List.length_nil]
  refine ⟨Nat.zero_le _, fun n2 h2 => ⟨Nat.zero_le _, _, rfl, ?_⟩⟩
  have e21 := h1.ne1 h2
  have e22 := h1.ne2 h2
  have h2' : bx n2 = none := by rw [← f1 n2 e21 e22]; exact h2
  rw [wsSeq_a]
  refine gA_ok e16 e17 pick names (h1.up h2) hs e21 e22 upb_at fun bx3 ls ts x4 x5 x6 z o2 hl h3 F3 en => ?_
  have F3' : ∀ i, i ≠ b1 → i ≠ b2 → i ≠ n2 → bx3 i = bx i := fun i i1 i2 i3 => by rw [F3 i i1 i2 i3]; simp [upb, i3, f1 i i1 i2]
  have zi := z.i o2 (by omega)
  have zg := z.gd
  have zl8 := z.l
  have zl0 : 1 ≤ ls.length := List.length_pos_iff.mpr z.l0
  have zs0 : 1 ≤ ss.length := List.length_pos_iff.mpr z.s0
  simp only [↓wsSeq_a, ↓wsIf_a, ↓wtB_a, ↓wtNot_a, ↓wtAnd_a, ↓wtOr_a, ↓wTru_a, ↓wNot_a, ↓wAnd_a, ↓wOr_a, ↓wIf_a, ↓wOp2_a, ↓wSlot_a, ↓wC_a, ↓wsRet_a, ↓wsRetN_a, ↓wsSkip_a, ↓wsAsg_a, ↓wsExpr_a, ↓wgName_a, ↓wBin_a, ↓wCall_a, ↓wCons_a, ↓wNil_a, ↓wTup_a, ↓lst_a, ↓wAttrX_a, blt_len, blt_int, blt_isi, blt_list, blt_tuple, blt_repr, blt_all, blt_any, blt_str, List.map_cons, List.map_nil, List.replicate, List.cons_append, List.nil_append, List.getElem?_cons_succ, List.getElem?_cons_zero, List.set_cons_succ, List.set_cons_zero, Option.some.injEq, exists_eq_left', fin_val, Rs.val.injEq, D.bl.injEq, Bool.not_true, Bool.not_false, Bool.false_eq_true, if_false, if_true, true_and, and_true, ↓wsFor_a, ↓wiAny_a, ↓wMeth_a, ↓wSl_a, ↓woSome_a, ↓woNone_a, ↓wBm_a, ↓wsTry_a, ↓wNeg_a, ↓wRev_a, ↓wSlotF_a, ↓wsPar_a, callJ_at e16, callJ_at e30, makeJ_at e7, List.length_cons, List.length_nil]
  refine lists zi z.z rfl en rfl ?_
  simp only [dTru, Option.some.injEq, exists_eq_left', Bool.not_true, Bool.false_eq_true, if_false]
  refine make (ss := ss) (ls := ls) (ts := []) (ds := .lst (ss.map .str)) (dl := .box n2) (dt := .lst []) zg.i (.inl rfl) (.inl en) (.inl rfl) (fun Q X q => ?_) ?_
  · simp only [↓wsSeq_a, ↓wsIf_a, ↓wtB_a, ↓wtNot_a, ↓wtAnd_a, ↓wtOr_a, ↓wTru_a, ↓wNot_a, ↓wAnd_a, ↓wOr_a, ↓wIf_a, ↓wOp2_a, ↓wSlot_a, ↓wC_a, ↓wsRet_a, ↓wsRetN_a, ↓wsSkip_a, ↓wsAsg_a, ↓wsExpr_a, ↓wgName_a, ↓wBin_a, ↓wCall_a, ↓wCons_a, ↓wNil_a, ↓wTup_a, ↓lst_a, ↓wAttrX_a, blt_len, blt_int, blt_isi, blt_list, blt_tuple, blt_repr, blt_all, blt_any, blt_str, List.map_cons, List.map_nil, List.replicate, List.cons_append, List.nil_append, List.getElem?_cons_succ, List.getElem?_cons_zero, List.set_cons_succ, List.set_cons_zero, Option.some.injEq, exists_eq_left', fin_val, Rs.val.injEq, D.bl.injEq, Bool.not_true, Bool.not_false, Bool.false_eq_true, if_false, if_true, true_and, and_true, ↓wsFor_a, ↓wiAny_a, ↓wMeth_a, ↓wSl_a, ↓woSome_a, ↓woNone_a, ↓wBm_a, ↓wsTry_a, ↓wNeg_a, ↓wRev_a, ↓wSlotF_a, ↓wsPar_a, List.length_nil]
    exact ⟨Nat.zero_le _, q⟩
  rw [zg.d]
  simp only [res, lst_box, ↓wsSeq_a, ↓wsIf_a, ↓wtB_a, ↓wtNot_a, ↓wtAnd_a, ↓wtOr_a, ↓wTru_a, ↓wNot_a, ↓wAnd_a, ↓wOr_a, ↓wIf_a, ↓wOp2_a, ↓wSlot_a, ↓wC_a, ↓wsRet_a, ↓wsRetN_a, ↓wsSkip_a, ↓wsAsg_a, ↓wsExpr_a, ↓wgName_a, ↓wBin_a, ↓wCall_a, ↓wCons_a, ↓wNil_a, ↓wTup_a, ↓lst_a, ↓wAttrX_a, blt_len, blt_int, blt_isi, blt_list, blt_tuple, blt_repr, blt_all, blt_any, blt_str, List.map_cons, List.map_nil, List.replicate, List.cons_append, List.nil_append, List.getElem?_cons_succ, List.getElem?_cons_zero, List.set_cons_succ, List.set_cons_zero, Option.some.injEq, exists_eq_left', fin_val, Rs.val.injEq, D.bl.injEq, Bool.not_true, Bool.not_false, Bool.false_eq_true, if_false, if_true, true_and, and_true, ↓wsFor_a, ↓wiAny_a, ↓wMeth_a, ↓wSl_a, ↓woSome_a, ↓woNone_a, ↓wBm_a, ↓wsTry_a, ↓wNeg_a, ↓wRev_a, ↓wSlotF_a, ↓wsPar_a, List.length_cons, List.length_nil]
  refine ⟨_, rev_at rfl, ?_⟩
  simp only [fin_new]
  refine ⟨zl (by omega), _, rev_at en, ?_⟩
  simp only [fin_new]
  refine ⟨zl (by omega), zl (by omega), fun n8 h8 => ?_⟩
  have e81 := h3.ne1 h8
  have e82 := h3.ne2 h8
  have e82' : n8 ≠ n2 := by rintro rfl; rw [h8] at en; cases en
  have h8' : bx n8 = none := by rw [← F3' n8 e81 e82 e82']; exact h8
  have en4 : upb bx3 n8 (.lst [.lst [.lst (ss.map D.str).reverse, .box n2], .lst [.lst (ss.map D.str), .lst (ls.map d3).reverse]]) n2 = some (.lst (ls.map d3)) := by simp [upb, e82'.symm, en]
  have h4 := h3.up (d := .lst [.lst [.lst (ss.map D.str).reverse, .box n2], .lst [.lst (ss.map D.str), .lst (ls.map d3).reverse]]) h8
  have F4 : ∀ i, i ≠ b1 → i ≠ b2 → i ≠ n2 → i ≠ n8 → upb bx3 n8 (.lst [.lst [.lst (ss.map D.str).reverse, .box n2], .lst [.lst (ss.map D.str), .lst (ls.map d3).reverse]]) i = bx i := fun i i1 i2 i3 i4 => by simp [upb, i4, F3' i i1 i2 i3]
  have e8 : upb bx3 n8 (.lst [.lst [.lst (ss.map D.str).reverse, .box n2], .lst [.lst (ss.map D.str), .lst (ls.map d3).reverse]]) n8 = _ := upb_at
  generalize upb bx3 n8 (.lst [.lst [.lst (ss.map D.str).reverse, .box n2], .lst [.lst (ss.map D.str), .lst (ls.map d3).reverse]]) = bx4 at en4 h4 F4 e8 ⊢
  rw [len_box en4, List.length_map]
  refine pick h4 (by omega) (by omega) fun bx5 a h5 f5 ha => ?_
  have en5 : bx5 n2 = some (.lst (ls.map d3)) := by rw [f5 n2 e21 e22]; exact en4
  have e85 := (f5 n8 e81 e82).trans e8
  have F5 : ∀ i, i ≠ b1 → i ≠ b2 → i ≠ n2 → i ≠ n8 → bx5 i = bx i := fun i i1 i2 i3 i4 => by rw [f5 i i1 i2]; exact F4 i i1 i2 i3 i4
  have ha' : a < ls.length := by omega
  have ek : (ls.map d3)[a]? = some (d3 ls[a]) := by simp [ha']
  refine ⟨_, ix_lst en5 ek, ?_⟩
  have om := List.getElem_mem ha'
  obtain ⟨y0, ey0, my0⟩ := at_str (L := ss) (j := 0) (by omega)
  simp only [fin_val]
  have p1 := z.put ha' (z.e _ om).2 (z.e _ om).1
  have p2 := z.put ha' (z.e _ om).1 my0
  generalize ls[a] = p at om p1 p2
  simp only [d3]
  refine tg3 ?_
  have t1 : (ls.take a).length ≤ 8 := by rw [List.length_take]; omega
  have t2 : (ls.drop (a + 1)).length ≤ 8 := by rw [List.length_drop]; omega
  have ea : (a : Int) + 1 = ((a + 1 : Nat) : Int) := by omega
  simp only [↓wsSeq_a, ↓wsIf_a, ↓wtB_a, ↓wtNot_a, ↓wtAnd_a, ↓wtOr_a, ↓wTru_a, ↓wNot_a, ↓wAnd_a, ↓wOr_a, ↓wIf_a, ↓wOp2_a, ↓wSlot_a, ↓wC_a, ↓wsRet_a, ↓wsRetN_a, ↓wsSkip_a, ↓wsAsg_a, ↓wsExpr_a, ↓wgName_a, ↓wBin_a, ↓wCall_a, ↓wCons_a, ↓wNil_a, ↓wTup_a, ↓lst_a, ↓wAttrX_a, blt_len, blt_int, blt_isi, blt_list, blt_tuple, blt_repr, blt_all, blt_any, blt_str, List.map_cons, List.map_nil, List.replicate, List.cons_append, List.nil_append, List.getElem?_cons_succ, List.getElem?_cons_zero, List.set_cons_succ, List.set_cons_zero, Option.some.injEq, exists_eq_left', fin_val, Rs.val.injEq, D.bl.injEq, Bool.not_true, Bool.not_false, Bool.false_eq_true, if_false, if_true, true_and, and_true, ↓wsFor_a, ↓wiAny_a, ↓wMeth_a, ↓wSl_a, ↓woSome_a, ↓woNone_a, ↓wBm_a, ↓wsTry_a, ↓wNeg_a, ↓wRev_a, ↓wSlotF_a, ↓wsPar_a, List.length_cons, List.length_nil]
  have dn : ∀ {b : Bx}, b n2 = some (.lst (ls.map d3)) → dr b (.box n2) = some (.lst (ls.map d3)) := fun h => h
  refine ⟨by simp [isTy, dr, e85], _, rfl, _, sl_take (dn en5) a, ?_⟩
  simp only [fin_new]
  refine ⟨zl (by omega), zl (by omega), ?_⟩
  rw [← List.map_take, add_l (by rw [List.length_map]; simp only [List.length_cons, List.length_nil]; omega), bin_add, ea]
  refine ⟨_, rfl, _, sl_drop (dn en5) (a + 1), ?_⟩
  simp only [fin_new]
  rw [← List.map_drop, add_l (by simp only [List.length_append, List.length_map, List.length_cons, List.length_nil]; omega)]
  refine ⟨zl (by omega), n8, _, _, rfl, e85, zl (by simp), ?_⟩
  simp only [List.cons_append, List.nil_append]
  generalize hv : D.lst _ = v8
  have en6 : upb bx5 n8 v8 n2 = some (.lst (ls.map d3)) := by simp [upb, e82'.symm, en5]
  have h6 : Sr (upb bx5 n8 v8) b1 b2 := h5.le (by simp [upb, e81.symm]) (by simp [upb, e82.symm])
  have F6 : ∀ i, i ≠ b1 → i ≠ b2 → i ≠ n2 → i ≠ n8 → upb bx5 n8 v8 i = bx i := fun i i1 i2 i3 i4 => by simp [upb, i4, F5 i i1 i2 i3 i4]
  have e86 : upb bx5 n8 v8 n8 = some v8 := upb_at
  generalize upb bx5 n8 v8 = bx6 at en6 h6 F6 e86 ⊢
  subst hv
  refine ⟨by simp [isTy, dr, e86], _, rfl, _, sl_take (dn en6) a, ?_⟩
  simp only [fin_new]
  refine ⟨_, ix_lst (k := 0) rfl ey0, ?_⟩
  simp only [fin_val]
  refine ⟨zl (by omega), zl (by omega), ?_⟩
  rw [← List.map_take, add_l (by rw [List.length_map]; simp only [List.length_cons, List.length_nil]; omega), bin_add, ea]
  refine ⟨_, rfl, _, sl_drop (dn en6) (a + 1), ?_⟩
  simp only [fin_new]
  rw [← List.map_drop, add_l (by simp only [List.length_append, List.length_map, List.length_cons, List.length_nil]; omega)]
  refine ⟨zl (by omega), n8, _, _, rfl, e86, zl (by simp), ?_⟩
  simp only [List.cons_append, List.nil_append]
  generalize hv' : D.lst _ = v9
  have en7 : upb bx6 n8 v9 n2 = some (.lst (ls.map d3)) := by simp [upb, e82'.symm, en6]
  have h7 : Sr (upb bx6 n8 v9) b1 b2 := h6.le (by simp [upb, e81.symm]) (by simp [upb, e82.symm])
  have F7 : ∀ i, i ≠ b1 → i ≠ b2 → i ≠ n2 → i ≠ n8 → upb bx6 n8 v9 i = bx i := fun i i1 i2 i3 i4 => by simp [upb, i4, F6 i i1 i2 i3 i4]
  have e87 : upb bx6 n8 v9 n8 = some v9 := upb_at
  generalize upb bx6 n8 v9 = bx7 at en7 h7 F7 e87 ⊢
  subst hv'
  have p3 : D.lst [D.lst (ss.map D.str).reverse, D.box n2] = gfe (ss.reverse, ls, .box n2) := by simp [gfe]
  refine gB_ok (ps := [(ss.reverse, ls, .box n2), (ss, ls.reverse, .lst (ls.map d3).reverse), (ss, ls.take a ++ [(p.1, p.2.2, p.2.1)] ++ ls.drop (a + 1), .lst (List.map d3 (List.take a ls) ++ [D.tup [D.str p.fst, D.str p.snd.snd, D.str p.snd.fst]] ++ List.map d3 (List.drop (a + 1) ls))), (ss, ls.take a ++ [(p.1, p.2.1, y0)] ++ ls.drop (a + 1), .lst (List.map d3 (List.take a ls) ++ [D.tup [D.str p.fst, D.str p.snd.fst, D.str y0]] ++ List.map d3 (List.drop (a + 1) ls)))]) z hcm.symm make (dn en7) (by rw [e87, p3]; rfl) (fun q hq => ?_) (fun x10 x11 => ?_)
  · simp only [List.mem_cons, List.not_mem_nil, or_false] at hq
    rcases hq with rfl | rfl | rfl | rfl
    · exact ⟨z.revS, dn en7⟩
    · exact ⟨z.revL, by simp [dr]⟩
    · exact ⟨p1, by simp [dr, d3]⟩
    · exact ⟨p2, by simp [dr, d3]⟩
  simp only [↓wsSeq_a, ↓wsIf_a, ↓wtB_a, ↓wtNot_a, ↓wtAnd_a, ↓wtOr_a, ↓wTru_a, ↓wNot_a, ↓wAnd_a, ↓wOr_a, ↓wIf_a, ↓wOp2_a, ↓wSlot_a, ↓wC_a, ↓wsRet_a, ↓wsRetN_a, ↓wsSkip_a, ↓wsAsg_a, ↓wsExpr_a, ↓wgName_a, ↓wBin_a, ↓wCall_a, ↓wCons_a, ↓wNil_a, ↓wTup_a, ↓lst_a, ↓wAttrX_a, blt_len, blt_int, blt_isi, blt_list, blt_tuple, blt_repr, blt_all, blt_any, blt_str, List.map_cons, List.map_nil, List.replicate, List.cons_append, List.nil_append, List.getElem?_cons_succ, List.getElem?_cons_zero, List.set_cons_succ, List.set_cons_zero, Option.some.injEq, exists_eq_left', fin_val, Rs.val.injEq, D.bl.injEq, Bool.not_true, Bool.not_false, Bool.false_eq_true, if_false, if_true, true_and, and_true, ↓wsFor_a, ↓wiAny_a, ↓wMeth_a, ↓wSl_a, ↓woSome_a, ↓woNone_a, ↓wBm_a, ↓wsTry_a, ↓wNeg_a, ↓wRev_a, ↓wSlotF_a, ↓wsPar_a]
  refine ⟨_, (leB_del (m := n8)).trans (leB_del (m := n2)), hq _ (h7.le ?_ ?_) (same_del h2' h8' F7)⟩
  · simp [delb, e81.symm, e21.symm]
  · simp [delb, e82.symm, e22.symm]
end
end Mk22
namespace Mk22
open PySem PySem.Spec Mi
def toldD (ss : List Str) (ls : T3) (ts : T2) : D := match due ss ls ts with | some e => e.d | none => FR ss ls ts
section
variable {n : Nat} {cm : CM} {bx : Bx} {Q : VQ} {X : XQ} {b : Bool} {b1 b2 : Nat} {ss : List Str} {ls : T3} {ts : T2}
theorem dueC (n : Nat) : ∃ c, cmAt S (n + 2) 24 = some c ∧ ∀ {bx : Bx} {Q : VQ} {X : XQ} {ss : List Str} {ls : T3} {ts : T2} {ds dl dt : D}, In ss ls ts → dr bx ds = some (.lst (ss.map .str)) → dr bx dl = some (.lst (ls.map d3)) → dr bx dt = some (.lst (ts.map d2)) → Q (dueD (due ss ls ts)) bx → c [ds, dl, dt] bx Q X :=
  ⟨_, c24 (n + 1), fun I es el et h => due_ok I es el et h⟩
theorem toldC (n : Nat) : ∃ c, cmAt S (n + 4) 25 = some c ∧ ∀ {bx : Bx} {Q : VQ} {X : XQ} {ss : List Str} {ls : T3} {ts : T2} {ds dl dt : D}, In ss ls ts → Sq bx ds (ss.map .str) → Sq bx dl (ls.map d3) → Sq bx dt (ts.map d2) → Q (toldD ss ls ts) bx → c [ds, dl, dt] bx Q X :=
  ⟨_, c25 (n + 3), fun I es el et h => told_ok I es el et h⟩
theorem bentC (n : Nat) : ∃ c, cmAt S (n + 2) 26 = some c ∧ ∀ {bx : Bx} {Q : VQ} {X : XQ} {b1 b2 k : Nat} {ss : List Str} {ls : T3} {ts : T2}, Sr bx b1 b2 → Ls k ss ls ts → k ≤ 200 → ls ≠ [] → (∀ bx' ss' ls' ts', Sr bx' b1 b2 → Same bx b1 b2 bx' → Ls (k + 1) ss' ls' ts' → ls' ≠ [] → Q (.lst (LD ss' ls' ts')) bx') → c [.box b1, .lst (ss.map .str), .lst (ls.map d3), .lst (ts.map d2)] bx Q X :=
  ⟨_, c26 (n + 1), fun h L hk hne hq => bent_ok h L hk hne hq⟩
theorem rightC (n : Nat) : ∃ c, cmAt S (n + 4) 28 = some c ∧ ∀ {bx : Bx} {Q : VQ} {X : XQ} {ss : List Str} {ls : T3} {ts : T2} {ds dl dt : D}, Gd ss ls ts → NoOdd ss ls → dr bx ds = some (.lst (ss.map .str)) → dr bx dl = some (.lst (ls.map d3)) → dr bx dt = some (.lst (ts.map d2)) → Q (.bl true) bx → c [FR ss ls ts, ds, dl, dt] bx Q X :=
  ⟨_, c28 (n + 3), fun G z es el et h => right_ok G z es el et h⟩
theorem rp_LD {d : D} (I : In ss ls ts) (e : dr bx d = some (.lst (LD ss ls ts))) : rpOk bx d := by
  have n1 := I.ns
  have n2 := I.nl
  have n3 := I.nt
  refine rp_seq (B := 2 + 3 * (1000000 + 2)) (shw_lst (n := 39) (ds := LD ss ls ts) e fun d hd => ?_) (by decide) (.inl ⟨_, e⟩)
  simp only [LD, List.mem_cons, List.not_mem_nil, or_false] at hd
  rcases hd with rfl | rfl | rfl
  · refine (shw_lst (n := 38) (B := 1002) (ds := ss.map .str) rfl fun d hd => ?_).le (by rw [List.length_map]; omega)
    obtain ⟨x, hx, rfl⟩ := List.mem_map.mp hd
    exact shw_s (I.s x hx)
  · refine (shw_lst (n := 38) (B := 3 + 3 * (1002 + 2)) (ds := ls.map d3) rfl fun d hd => ?_).le (by rw [List.length_map]; omega)
    obtain ⟨x, hx, rfl⟩ := List.mem_map.mp hd
    refine shw_tup (n := 37) (B := 1002) (ds := [.str x.1, .str x.2.1, .str x.2.2]) fun d hd => ?_
    have o := I.l x hx
    simp only [List.mem_cons, List.not_mem_nil, or_false] at hd
    rcases hd with rfl | rfl | rfl
    · exact shw_s o.1
    · exact shw_s o.2.1
    · exact shw_s o.2.2
  · refine (shw_lst (n := 38) (B := 3 + 2 * (1002 + 2)) (ds := ts.map d2) rfl fun d hd => ?_).le (by rw [List.length_map]; omega)
    obtain ⟨x, hx, rfl⟩ := List.mem_map.mp hd
    refine shw_tup (n := 37) (B := 1002) (ds := [.str x.1, .str x.2]) fun d hd => ?_
    have o := I.t x hx
    simp only [List.mem_cons, List.not_mem_nil, or_false] at hd
    rcases hd with rfl | rfl
    · exact shw_s o.1
    · exact shw_s o.2
theorem ne_bl {k l : Bool} : cmpC S cm b .NotEq [.bl k, .bl l] bx Q X = Q (.bl (!decide (k = l))) bx := by
  cases k <;> cases l <;> simp [cmpC, cSel, clsD, dr, cOp, o2, dNe, dNeP, pyD, PyData.eqv, fin]
theorem LD_ix {d : D} (e : dr bx d = some (.lst (LD ss ls ts))) : dIx bx d (.int 0) = some (.val (.lst (ss.map .str))) ∧ dIx bx d (.int 1) = some (.val (.lst (ls.map d3))) ∧ dIx bx d (.int 2) = some (.val (.lst (ts.map d2))) :=
  ⟨ix_lst (k := 0) e rfl, ix_lst (k := 1) e rfl, ix_lst (k := 2) e rfl⟩
theorem same_box {m : Nat} {l : List D} {bx' : Bx} (F : Same bx b1 b2 bx') (e : bx m = some (.lst l)) (h1 : m ≠ b1) (h2 : m ≠ b2) : bx' m = some (.lst l) := by rw [F m h1 h2]; exact e
def lM (cm : CM) : WS := (wsFor (wiRng1 (wCons (wOp2 (binC S cm false .Add) (wC (.int 1)) (callJ cm 16 (wCons (wSlot 1) (wCons (wC (.int 3)) wNil)))) wNil)) (wgName 5) (wsSeq (wsAsg (callJ cm 26 (wCons (wSlot 1) (wCons (wBin false dIx (wSlot 3) (wC (.int 0))) (wCons (wBin false dIx (wSlot 3) (wC (.int 1))) (wCons (wBin false dIx (wSlot 3) (wC (.int 2))) wNil))))) (wgName 3))
  (wsSeq (wsPar [6, 7] (wCons (bltJ S cm false "repr" (wCons (wSlot 3) wNil)) (wCons (callJ cm 24 (wCons (wBin false dIx (wSlot 3) (wC (.int 0))) (wCons (wBin false dIx (wSlot 3) (wC (.int 1))) (wCons (wBin false dIx (wSlot 3) (wC (.int 2))) wNil)))) wNil)))
  (wsSeq (wsAsg (callJ cm 25 (wCons (wBin false dIx (wSlot 3) (wC (.int 0))) (wCons (wBin false dIx (wSlot 3) (wC (.int 1))) (wCons (wBin false dIx (wSlot 3) (wC (.int 2))) wNil)))) (wgName 8))
  (wsSeq (wsIf (wtOr (wtB (wOp2 (cmpC S cm false .NotEq) (bltJ S cm false "repr" (wCons (wSlot 3) wNil)) (wSlot 6))) (wtB (wOp2 (cmpC S cm false .NotEq) (bltJ S cm false "isinstance" (wCons (wSlot 8) (wCons (wC (.ty "list")) wNil))) (wOp2 (cmpC S cm false .IsNot) (wSlot 7) (wC .non))))) (wsSeq (wsRet (wC (.bl false)))
  wsSkip) wsSkip)
  (wsSeq (wsIf (wtAnd (wtB (wOp2 (cmpC S cm false .IsNot) (wSlot 7) (wC .non))) (wtB (wOp2 (cmpC S cm false .NotEq) (bltJ S cm false "repr" (wCons (wSlot 8) wNil)) (bltJ S cm false "repr" (wCons (wSlot 7) wNil))))) (wsSeq (wsRet (wC (.bl false)))
  wsSkip) wsSkip)
  (wsSeq (wsIf (wtAnd (wtB (wOp2 (cmpC S cm false .Is) (wSlot 7) (wC .non))) (wtNot (wTru (callJ cm 28 (wCons (wSlot 8) (wCons (wBin false dIx (wSlot 3) (wC (.int 0))) (wCons (wBin false dIx (wSlot 3) (wC (.int 1))) (wCons (wBin false dIx (wSlot 3) (wC (.int 2))) wNil)))))))) (wsSeq (wsRet (wC (.bl false)))
  wsSkip) wsSkip)
  wsSkip)))))))
/-- behind the turns: what the slots hold -/
structure LoE (bx : Bx) (b1 n3 : Nat) (x0 x2 : Option D) (ss : List Str) (ls : T3) (ts : T2) (sl : Sl) : Prop where
  e : ∃ d3' x5 x6 x7, sl = [x0, some (.box b1), x2, some d3', some (.box n3), x5, x6, x7, some (toldD ss ls ts), none, none, none, none, none] ∧ dr bx d3' = some (.lst (LD ss ls ts))
theorem lM_ok {DD : En} {W : WXQ} {n3 : Nat} {x0 x2 : Option D} {ss0 : List Str} {ls0 : T3} {ts0 : T2} (h : Sr bx b1 b2) (F0 : Fr0 ss0 ls0 ts0) (h31 : n3 ≠ b1) (h32 : n3 ≠ b2) (en : bx n3 = some (.lst (LD ss0 ls0 ts0)))
    (hc : ∀ bx' sl ss ls ts, Sr bx' b1 b2 → Same bx b1 b2 bx' → In ss ls ts → LoE bx' b1 n3 x0 x2 ss ls ts sl → DD.nx sl bx') :
    lM (cmAt S (n + 5)) DD W [x0, some (.box b1), x2, some (.box n3), some (.box n3), none, none, none, none, none, none, none, none, none] bx := by
  obtain ⟨cp, e16, pick⟩ := pickC (n + 4)
  obtain ⟨c24, e24, due_⟩ := dueC (n + 3)
  obtain ⟨c25, e25, told⟩ := toldC (n + 1)
  obtain ⟨c26, e26, bent⟩ := bentC (n + 3)
  obtain ⟨c28, e28, right⟩ := rightC (n + 1)
  generalize hcm : cmAt S (n + 5) = cm at e16 e24 e25 e26 e28 ⊢
  unfold lM
  rw [wsFor_a]
  simp only [wiRng1, ↓wCons_a, ↓wOp2_a, ↓wC_a, ↓wNil_a, ↓wSlot_a, ↓callJ_f e16, List.getElem?_cons_succ, List.getElem?_cons_zero, Option.some.injEq, exists_eq_left']
  refine pick h (by decide) (by decide) fun bx1 v h1 f1 hv => ?_
  rw [bin_add]
  have ev : (1 : Int) + (v : Int) = ((1 + v : Nat) : Int) := by omega
  refine ⟨_, rfl, by omega, by omega, ?_⟩
  rw [ev, Int.toNat_natCast]
  refine for_rng (1 + v) (fun k sl b => ∃ ss ls ts d3' x5 x6 x7 x8, Ls (10 + k) ss ls ts ∧ ls ≠ [] ∧ dr b d3' = some (.lst (LD ss ls ts)) ∧ Sr b b1 b2 ∧ Same bx b1 b2 b ∧ sl = [x0, some (.box b1), x2, some d3', some (.box n3), x5, x6, x7, x8, none, none, none, none, none] ∧ (0 < k → x8 = some (toldD ss ls ts))) ?_ ?_ _ _ ⟨_, _, _, _, _, _, _, _, F0.lsOk, F0.l0, show dr bx1 (.box n3) = _ from same_box f1 en h31 h32, h1, f1, rfl, fun h => by omega⟩
  · rintro sl b ⟨ss, ls, ts, d3', x5, x6, x7, x8, L, hne, ed, hS, hF, rfl, h8⟩
    exact hc _ _ ss ls ts hS hF (L.i (by omega)) ⟨d3', x5, x6, x7, by rw [h8 (by omega)], ed⟩
  rintro k sl b hk ⟨ss, ls, ts, d3', x5, x6, x7, x8, L, hne, ed, hS, hF, rfl, -⟩ f hc
  obtain ⟨i0, i1, i2⟩ := LD_ix ed
  simp only [↓wsSeq_a, ↓wsIf_a, ↓wtB_a, ↓wtNot_a, ↓wtAnd_a, ↓wtOr_a, ↓wTru_a, ↓wNot_a, ↓wAnd_a, ↓wOr_a, ↓wIf_a, ↓wOp2_a, ↓wSlot_a, ↓wC_a, ↓wsRet_a, ↓wsRetN_a, ↓wsSkip_a, ↓wsAsg_a, ↓wsExpr_a, ↓wgName_a, ↓wBin_a, ↓wCall_a, ↓wCons_a, ↓wNil_a, ↓wTup_a, ↓lst_a, ↓wAttrX_a, blt_len, blt_int, blt_isi, blt_list, blt_tuple, blt_repr, blt_all, blt_any, blt_str, List.map_cons, List.map_nil, List.replicate, List.cons_append, List.nil_append, List.getElem?_cons_succ, List.getElem?_cons_zero, List.set_cons_succ, List.set_cons_zero, Option.some.injEq, exists_eq_left', fin_val, Rs.val.injEq, D.bl.injEq, Bool.not_true, Bool.not_false, Bool.false_eq_true, if_false, if_true, true_and, and_true, ↓wsFor_a, ↓wiAny_a, ↓wMeth_a, ↓wSl_a, ↓woSome_a, ↓woNone_a, ↓wBm_a, ↓wsTry_a, ↓wNeg_a, ↓wRev_a, ↓wSlotF_a, ↓wsPar_a, callJ_at e26, callJ_at e24, callJ_at e25, callJ_at e28]
  refine ⟨_, i0, ?_⟩
  simp only [fin_val]
  refine ⟨_, i1, ?_⟩
  simp only [fin_val]
  refine ⟨_, i2, ?_⟩
  simp only [fin_val]
  refine bent hS L (by omega) hne fun bx2 ss' ls' ts' h2 f2 L' hne' => ?_
  have I := L'.i (by omega)
  have ed2 : dr bx2 (.lst (LD ss' ls' ts')) = some (.lst (LD ss' ls' ts')) := rfl
  obtain ⟨i0, i1, i2⟩ := LD_ix ed2
  rw [op_rp (rp_LD I ed2)]
  refine ⟨_, i0, ?_⟩
  simp only [fin_val]
  refine ⟨_, i1, ?_⟩
  simp only [fin_val]
  refine ⟨_, i2, ?_⟩
  simp only [fin_val]
  refine due_ I rfl rfl rfl ⟨_, rfl, ?_⟩
  simp only [↓wsSeq_a, ↓wsIf_a, ↓wtB_a, ↓wtNot_a, ↓wtAnd_a, ↓wtOr_a, ↓wTru_a, ↓wNot_a, ↓wAnd_a, ↓wOr_a, ↓wIf_a, ↓wOp2_a, ↓wSlot_a, ↓wC_a, ↓wsRet_a, ↓wsRetN_a, ↓wsSkip_a, ↓wsAsg_a, ↓wsExpr_a, ↓wgName_a, ↓wBin_a, ↓wCall_a, ↓wCons_a, ↓wNil_a, ↓wTup_a, ↓lst_a, ↓wAttrX_a, blt_len, blt_int, blt_isi, blt_list, blt_tuple, blt_repr, blt_all, blt_any, blt_str, List.map_cons, List.map_nil, List.replicate, List.cons_append, List.nil_append, List.getElem?_cons_succ, List.getElem?_cons_zero, List.set_cons_succ, List.set_cons_zero, Option.some.injEq, exists_eq_left', fin_val, Rs.val.injEq, D.bl.injEq, Bool.not_true, Bool.not_false, Bool.false_eq_true, if_false, if_true, true_and, and_true, ↓wsFor_a, ↓wiAny_a, ↓wMeth_a, ↓wSl_a, ↓woSome_a, ↓woNone_a, ↓wBm_a, ↓wsTry_a, ↓wNeg_a, ↓wRev_a, ↓wSlotF_a, ↓wsPar_a]
  refine ⟨_, i0, ?_⟩
  simp only [fin_val]
  refine ⟨_, i1, ?_⟩
  simp only [fin_val]
  refine ⟨_, i2, ?_⟩
  simp only [fin_val]
  refine told I (.inl rfl) (.inl rfl) (.inl rfl) ?_
  rw [op_rp (rp_LD I ed2), ne_txt]
  simp only [decide_true, Bool.not_true, D.bl.injEq, exists_eq_left', Bool.false_eq_true, if_false]
  have done : ∀ x5 x6 x7, f [x0, some (.box b1), x2, some (.lst (LD ss' ls' ts')), some (.box n3), x5, x6, x7, some (toldD ss' ls' ts'), none, none, none, none, none] bx2 := fun x5 x6 x7 => hc _ _ ⟨ss', ls', ts', _, _, _, _, _, L', hne', ed2, h2, same_trans hF f2, rfl, fun _ => rfl⟩
  generalize hT : toldD ss' ls' ts' = T at done ⊢
  unfold toldD at hT
  cases e : due ss' ls' ts' with
  | some e' =>
    rw [e] at hT
    subst hT
    simp only [dueD, isl_d, isnot_non, is_non, isNon_d, Bool.not_false, D.bl.injEq, exists_eq_left', if_true, ne_bl, decide_true, Bool.not_true, Bool.false_eq_true, if_false]
    rw [op_rp (er_rp (due_good I e) bx2), op_rp (er_rp (due_good I e) bx2), ne_txt]
    simp only [decide_true, Bool.not_true, D.bl.injEq, exists_eq_left', Bool.false_eq_true, if_false]
    exact done _ _ _
  | none =>
    rw [e] at hT
    subst hT
    have G : Gd ss' ls' ts' := ⟨I, e⟩
    simp only [dueD, isl_F, isnot_non, is_non, isNon, Bool.not_false, D.bl.injEq, exists_eq_left', if_true, ne_bl, decide_true, Bool.not_true, Bool.false_eq_true, if_false]
    refine ⟨_, i0, ?_⟩
    simp only [fin_val]
    refine ⟨_, i1, ?_⟩
    simp only [fin_val]
    refine ⟨_, i2, ?_⟩
    simp only [fin_val]
    refine right G (G.noOdd L'.z) rfl rfl rfl ?_
    simp only [dTru, Option.some.injEq, exists_eq_left', Bool.not_true, Bool.false_eq_true, if_false]
    exact done _ _ _
end
end Mk22
namespace Mk22
open PySem PySem.Spec Mi
section
variable {n : Nat} {cm : CM} {bx : Bx} {Q : VQ} {X : XQ} {b : Bool} {b1 b2 : Nat} {ss : List Str} {ls : T3} {ts : T2}
theorem list_lB {l : List D} : cOp true dList [.lst l] bx Q X = ∀ n, bx n = none → Q (.box n) (upb bx n (.lst l)) := by simp [cOp, dList, dr, fin]
theorem sortsC (n : Nat) : ∃ c, mthOf S (cmAt S (n + 1)) "sorts" 7 = some c ∧ ∀ {bx : Bx} {Q : VQ} {X : XQ} {ss : List Str} {ls : T3} {ts : T2}, (∀ m, bx m = none → Q (.box m) (upb bx m (.lst (ss.map .str)))) → c [FR ss ls ts] bx Q X := ⟨_, c7 n, fun h => sorts_ok h⟩
theorem lettersC (n : Nat) : ∃ c, mthOf S (cmAt S (n + 1)) "letters" 7 = some c ∧ ∀ {bx : Bx} {Q : VQ} {X : XQ} {ss : List Str} {ls : T3} {ts : T2}, (∀ m, bx m = none → Q (.box m) (upb bx m (.lst (ls.map d3)))) → c [FR ss ls ts] bx Q X := ⟨_, c8 n, fun h => letters_ok h⟩
theorem totsC (n : Nat) : ∃ c, mthOf S (cmAt S (n + 1)) "totals" 7 = some c ∧ ∀ {bx : Bx} {Q : VQ} {X : XQ} {ss : List Str} {ls : T3} {ts : T2}, (∀ m, bx m = none → Q (.box m) (upb bx m (.lst (ts.map d2)))) → c [FR ss ls ts] bx Q X := ⟨_, c9 n, fun h => tots_ok h⟩
theorem fromC (n : Nat) : ∃ c, mthOf S (cmAt S (n + 2)) "totals_from" 7 = some c ∧ ∀ {bx : Bx} {Q : VQ} {X : XQ} {ss : List Str} {ls : T3} {ts : T2} {x : Str}, Gd ss ls ts → okS x → x ∈ ss → (∀ m, bx m = none → Q (.box m) (upb bx m (.lst ((fromT ls ts x).map d2)))) → c [FR ss ls ts, .str x] bx Q X := ⟨_, c13 (n + 1), fun G hx hm h => from_yes G hx hm h⟩
/-- lists of our own, each in a box told anew -/
def Own (b0 b : Bx) (k : Nat) (ms : List Nat) : Prop := LeB b0 b ∧ ∀ m ∈ ms, b0 m = none ∧ ∃ l, b m = some (.lst l) ∧ l.length ≤ k
theorem Own.new {b0 b : Bx} {k m : Nat} {ms : List Nat} {l : List D} (h : Own b0 b k ms) (hm : b m = none) (hl : l.length ≤ k) : Own b0 (upb b m (.lst l)) k (ms ++ [m]) := by
  refine ⟨h.1.trans (leB_up hm), fun i hi => ?_⟩
  rcases List.mem_append.mp hi with hi | hi
  · obtain ⟨h1, l', h2, h3⟩ := h.2 i hi
    have : i ≠ m := by rintro rfl; rw [hm] at h2; cases h2
    exact ⟨h1, l', by simp [upb, this, h2], h3⟩
  · rw [List.mem_singleton] at hi
    subst hi
    refine ⟨?_, l, upb_at, hl⟩
    cases e : b0 i with
    | none => rfl
    | some d => rw [h.1 _ _ e] at hm; cases hm
theorem Own.mono {b0 b : Bx} {k k' : Nat} {ms : List Nat} (h : Own b0 b k ms) (l : k ≤ k') : Own b0 b k' ms :=
  ⟨h.1, fun m hm => ⟨(h.2 m hm).1, (h.2 m hm).2.imp fun _ q => ⟨q.1, by omega⟩⟩⟩
theorem Own.app {b0 b : Bx} {k m : Nat} {ms : List Nat} {l : List D} {e : D} (h : Own b0 b k ms) (hm : m ∈ ms) (hb : b m = some (.lst l)) : Own b0 (upb b m (.lst (l ++ [e]))) (k + 1) ms := by
  obtain ⟨h1, l1, h2, h3⟩ := h.2 m hm
  rw [hb] at h2
  obtain rfl : l = l1 := by injection h2 with h2; injection h2
  refine ⟨fun i d q => ?_, fun i hi => ?_⟩
  · have : i ≠ m := by rintro rfl; rw [h1] at q; cases q
    simpa [upb, this] using h.1 _ _ q
  · obtain ⟨a1, l2, a2, a3⟩ := h.2 i hi
    by_cases q : i = m
    · subst q
      exact ⟨a1, _, upb_at, by simp; omega⟩
    · exact ⟨a1, l2, by simp [upb, q, a2], by omega⟩
theorem fromT_le {x : Str} : (fromT ls ts x).length ≤ ts.length := List.length_filter_le _ _
def lN (cm : CM) : WS := (wsSeq (wsAsg (wLc false (.one 11) [11] (wiAny (wSlot 4)) wtYes (bltJ S cm true "list" (wCons (wSlot 11) wNil))) (wgName 9))
  (wsSeq (wsAsg (makeJ S cm false 7 (wCons (wBin false dIx (wSlot 9) (wC (.int 0))) (wCons (wBin false dIx (wSlot 9) (wC (.int 1))) (wCons (wBin false dIx (wSlot 9) (wC (.int 2))) wNil)))) (wgName 10))
  (wsSeq (wsFor (wiAny (wOp2 (binC S cm false .Add) (wSlot 9) (wLst false (wCons (wMeth (mthOf S cm "sorts") "sorts" (wSlot 10) wNil) (wCons (wMeth (mthOf S cm "letters") "letters" (wSlot 10) wNil) (wCons (wMeth (mthOf S cm "totals") "totals" (wSlot 10) wNil) (wCons (wMeth (mthOf S cm "totals_from") "totals_from" (wSlot 10) (wCons (wBin false dIx (wBin false dIx (wSlot 4) (wC (.int 0))) (wC (.int 0))) wNil)) wNil))))))) (wgName 11) (wsSeq (wsExpr (wBm "list" cAppend (wSlot 11) (wCons (wTup (wCons (wC (.str "x")) (wCons (wC (.str "a")) (wCons (wC (.str "a")) wNil)))) wNil)))
  wsSkip))
  (wsSeq (wsIf (wtOr (wtNot (wTru (callJ cm 28 (wCons (wSlot 10) (wCons (wBin false dIx (wSlot 4) (wC (.int 0))) (wCons (wBin false dIx (wSlot 4) (wC (.int 1))) (wCons (wBin false dIx (wSlot 4) (wC (.int 2))) wNil))))))) (wtOr (wtB (wOp2 (cmpC S cm false .Eq) (wSlot 10) (wSlot 4))) (wtB (wOp2 (cmpC S cm false .Eq) (wSlot 10) (wC (.int 0)))))) (wsSeq (wsRet (wC (.bl false)))
  wsSkip) wsSkip)
  (wsSeq (wsIf (wtB (wOp2 (cmpC S cm false .NotEq) (wSlot 10) (makeJ S cm false 7 (wCons (bltJ S cm false "tuple" (wCons (wBin false dIx (wSlot 4) (wC (.int 0))) wNil)) (wCons (bltJ S cm false "tuple" (wCons (wBin false dIx (wSlot 4) (wC (.int 1))) wNil)) (wCons (bltJ S cm false "tuple" (wCons (wBin false dIx (wSlot 4) (wC (.int 2))) wNil)) wNil)))))) (wsSeq (wsRet (wC (.bl false)))
  wsSkip) wsSkip)
  (wsSeq (wsIf (wtNot (wTru (callJ cm 28 (wCons (makeJ S cm false 7 (wCons (wLst false wNil) (wCons (wLst false wNil) (wCons (wLst false wNil) wNil)))) (wCons (wLst false wNil) (wCons (wLst false wNil) (wCons (wLst false wNil) wNil))))))) (wsSeq (wsRet (wC (.bl false)))
  wsSkip) wsSkip)
  (wsSeq (wsAsg (makeJ S cm false 7 (wCons (wBin false dIx (wSlot 4) (wC (.int 0))) (wCons (wBin false dIx (wSlot 4) (wC (.int 1))) (wCons (wRev false (wBin false dIx (wSlot 4) (wC (.int 2)))) wNil)))) (wgName 12))
  (wsSeq (wsIf (wtB (wOp2 (cmpC S cm false .NotEq) (wOp2 (cmpC S cm false .Eq) (wSlot 12) (wSlot 10)) (wOp2 (cmpC S cm false .Eq) (wBin false dIx (wSlot 4) (wC (.int 2))) (wRev false (wBin false dIx (wSlot 4) (wC (.int 2))))))) (wsSeq (wsRet (wC (.bl false)))
  wsSkip) wsSkip)
  (wsSeq (wsAsg (wOp2 (cmpC S cm false .Eq) (bltJ S cm false "repr" (wCons (wSlot 3) wNil)) (bltJ S cm false "repr" (wCons (wSlot 4) wNil))) (wgName 7))
  (wsSeq (wsRet (wOr (wSlot 7) (wOr (wOp2 (cmpC S cm false .IsNot) (callJ cm 24 (wCons (wBin false dIx (wSlot 3) (wC (.int 0))) (wCons (wBin false dIx (wSlot 3) (wC (.int 1))) (wCons (wBin false dIx (wSlot 3) (wC (.int 2))) wNil)))) (wC .non)) (wOp2 (cmpC S cm false .NotEq) (wSlot 8) (wSlot 10)))))
  wsSkip))))))))))
theorem gd0 : Gd [] [] [] ∧ Zz [] [] := by
  refine ⟨⟨⟨by simp, (by intro p hp; cases hp), (by intro p hp; cases hp), by simp, by simp, by simp⟩, due_none (by simp) List.nodup_nil List.nodup_nil (by simp) (by simp) List.nodup_nil (by simp) rnds_none⟩, by simp [Zz]⟩
theorem lN_ok {DD : En} {W : WXQ} {n3 : Nat} {x0 x2 : Option D} {ss0 : List Str} {ls0 : T3} {ts0 : T2} {sl : Sl} (F0 : Fr0 ss0 ls0 ts0) (en : bx n3 = some (.lst (LD ss0 ls0 ts0))) (I : In ss ls ts) (E : LoE bx b1 n3 x0 x2 ss ls ts sl)
    (hr : ∀ bx', DD.rt (.bl true) bx') : lN (cmAt S (n + 5)) DD W sl bx := by
  have zl : ∀ {m : Nat}, m ≤ 1000 → m ≤ sizeLine := fun {m} h => by rw [sizeLine_eq]; omega
  obtain ⟨c24, e24, due_⟩ := dueC (n + 3)
  obtain ⟨c28, e28, right⟩ := rightC (n + 1)
  obtain ⟨mk, e7, make⟩ := makeC (n + 2)
  obtain ⟨mS, eS, sorts⟩ := sortsC (n + 4)
  obtain ⟨mL, eL, letters⟩ := lettersC (n + 4)
  obtain ⟨mT, eT, tots⟩ := totsC (n + 4)
  obtain ⟨mF, eF, from_⟩ := fromC (n + 3)
  have eqL' : ∀ {bx : Bx} {Q : VQ} {X : XQ} {d : D} {l : List D}, dr bx d = some (.lst l) → Q (.bl false) bx → cmpC S (cmAt S (n + 5)) false .Eq [FR ss0 ls0 ts0, d] bx Q X := fun e h => eqL (n := n + 4) e h
  have eqI' : ∀ {bx : Bx} {Q : VQ} {X : XQ} {i : Int}, Q (.bl false) bx → cmpC S (cmAt S (n + 5)) false .Eq [FR ss0 ls0 ts0, .int i] bx Q X := fun h => eqI (n := n + 4) h
  have eqF' : ∀ {bx : Bx} {Q : VQ} {X : XQ} {ss ss' : List Str} {ls ls' : T3} {ts ts' : T2}, In ss ls ts → In ss' ls' ts' → Q (.bl (decide (ss = ss') && (decide (ls = ls') && decide (ts = ts')))) bx → cmpC S (cmAt S (n + 5)) false .Eq [FR ss ls ts, FR ss' ls' ts'] bx Q X := fun I I' h => eqF (n := n + 4) I I' h
  have neF' : ∀ {bx : Bx} {Q : VQ} {X : XQ} {ss ss' : List Str} {ls ls' : T3} {ts ts' : T2}, In ss ls ts → In ss' ls' ts' → Q (.bl (!(decide (ss = ss') && (decide (ls = ls') && decide (ts = ts'))))) bx → cmpC S (cmAt S (n + 5)) false .NotEq [FR ss ls ts, FR ss' ls' ts'] bx Q X := fun I I' h => neF (n := n + 4) I I' h
  generalize hcm : cmAt S (n + 5) = cm at e24 e28 e7 eS eL eT eF eqL' eqI' eqF' neF' ⊢
  have G0 := F0.gd
  have s3 := F0.s3
  have l1 := F0.l1
  have tl := F0.tl
  obtain ⟨d3', x5, x6, x7, rfl, ed⟩ := E
  have dn : ∀ {b : Bx}, b n3 = some (.lst (LD ss0 ls0 ts0)) → dr b (.box n3) = some (.lst (LD ss0 ls0 ts0)) := fun h => h
  obtain ⟨x0', ex0, mx0⟩ := at_str (L := ss0) (j := 0) (List.length_pos_iff.mpr F0.s0)
  unfold lN
  rw [wsSeq_a, wsAsg_a]
  refine lc_new (l := [ss0.map D.str, ls0.map d3, ts0.map d2]) (g := D.lst) (c := id) (cond := fun b => b n3 = some (.lst (LD ss0 ls0 ts0))) (fun Qi q => ⟨_, rfl, _, by rw [itemsOf, en], q⟩) (fun b' le => le _ _ en) (zl (by simp)) (fun a ha => ⟨_, rfl, fun b' le Qe X q => ?_⟩) fun b3 ms le B => ?_
  · simp only [↓wsSeq_a, ↓wsIf_a, ↓wtB_a, ↓wtNot_a, ↓wtAnd_a, ↓wtOr_a, ↓wTru_a, ↓wNot_a, ↓wAnd_a, ↓wOr_a, ↓wIf_a, ↓wOp2_a, ↓wSlot_a, ↓wC_a, ↓wsRet_a, ↓wsRetN_a, ↓wsSkip_a, ↓wsAsg_a, ↓wsExpr_a, ↓wgName_a, ↓wBin_a, ↓wCall_a, ↓wCons_a, ↓wNil_a, ↓wTup_a, ↓lst_a, ↓wAttrX_a, blt_len, blt_int, blt_isi, blt_list, blt_tuple, blt_repr, blt_all, blt_any, blt_str, List.map_cons, List.map_nil, List.replicate, List.cons_append, List.nil_append, List.getElem?_cons_succ, List.getElem?_cons_zero, List.set_cons_succ, List.set_cons_zero, Option.some.injEq, exists_eq_left', fin_val, Rs.val.injEq, D.bl.injEq, Bool.not_true, Bool.not_false, Bool.false_eq_true, if_false, if_true, true_and, and_true, ↓wsFor_a, ↓wiAny_a, ↓wMeth_a, ↓wSl_a, ↓woSome_a, ↓woNone_a, ↓wBm_a, ↓wsTry_a, ↓wNeg_a, ↓wRev_a, ↓wSlotF_a, ↓wsPar_a, wipeD, list_lB]
    exact q
  obtain ⟨g0, g1, g2, rfl, p0, p1, p2, q0, q1, q2⟩ : ∃ g0 g1 g2, ms = [g0, g1, g2] ∧ b3 g0 = some (.lst (ss0.map .str)) ∧ b3 g1 = some (.lst (ls0.map d3)) ∧ b3 g2 = some (.lst (ts0.map d2)) ∧ bx g0 = none ∧ bx g1 = none ∧ bx g2 = none := by
    cases B with | cons h0 r0 t => cases t with | cons h1 r1 t => cases t with | cons h2 r2 t => cases t; exact ⟨_, _, _, rfl, h0, h1, h2, r0, r1, r2⟩
  have O3 : Own bx b3 301 [g0, g1, g2] := ⟨le, fun m hm => by
    simp only [List.mem_cons, List.not_mem_nil, or_false] at hm
    rcases hm with rfl | rfl | rfl
    · exact ⟨q0, _, p0, by rw [List.length_map]; omega⟩
    · exact ⟨q1, _, p1, by rw [List.length_map]; omega⟩
    · exact ⟨q2, _, p2, by rw [List.length_map]; omega⟩⟩
  have en3 := le _ _ en
  clear B
  simp only [↓wsSeq_a, ↓wsIf_a, ↓wtB_a, ↓wtNot_a, ↓wtAnd_a, ↓wtOr_a, ↓wTru_a, ↓wNot_a, ↓wAnd_a, ↓wOr_a, ↓wIf_a, ↓wOp2_a, ↓wSlot_a, ↓wC_a, ↓wsRet_a, ↓wsRetN_a, ↓wsSkip_a, ↓wsAsg_a, ↓wsExpr_a, ↓wgName_a, ↓wBin_a, ↓wCall_a, ↓wCons_a, ↓wNil_a, ↓wTup_a, ↓lst_a, ↓wAttrX_a, blt_len, blt_int, blt_isi, blt_list, blt_tuple, blt_repr, blt_all, blt_any, blt_str, List.map_cons, List.map_nil, List.replicate, List.cons_append, List.nil_append, List.getElem?_cons_succ, List.getElem?_cons_zero, List.set_cons_succ, List.set_cons_zero, Option.some.injEq, exists_eq_left', fin_val, Rs.val.injEq, D.bl.injEq, Bool.not_true, Bool.not_false, Bool.false_eq_true, if_false, if_true, true_and, and_true, ↓wsFor_a, ↓wiAny_a, ↓wMeth_a, ↓wSl_a, ↓woSome_a, ↓woNone_a, ↓wBm_a, ↓wsTry_a, ↓wNeg_a, ↓wRev_a, ↓wSlotF_a, ↓wsPar_a, makeJ_at e7]
  refine make (ss := ss0) (ls := ls0) (ts := ts0) (ds := .box g0) (dl := .box g1) (dt := .box g2) G0.i (.inl p0) (.inl p1) (.inl p2) (fun Q X q => ?_) ?_
  · simp only [↓wsSeq_a, ↓wsIf_a, ↓wtB_a, ↓wtNot_a, ↓wtAnd_a, ↓wtOr_a, ↓wTru_a, ↓wNot_a, ↓wAnd_a, ↓wOr_a, ↓wIf_a, ↓wOp2_a, ↓wSlot_a, ↓wC_a, ↓wsRet_a, ↓wsRetN_a, ↓wsSkip_a, ↓wsAsg_a, ↓wsExpr_a, ↓wgName_a, ↓wBin_a, ↓wCall_a, ↓wCons_a, ↓wNil_a, ↓wTup_a, ↓lst_a, ↓wAttrX_a, blt_len, blt_int, blt_isi, blt_list, blt_tuple, blt_repr, blt_all, blt_any, blt_str, List.map_cons, List.map_nil, List.replicate, List.cons_append, List.nil_append, List.getElem?_cons_succ, List.getElem?_cons_zero, List.set_cons_succ, List.set_cons_zero, Option.some.injEq, exists_eq_left', fin_val, Rs.val.injEq, D.bl.injEq, Bool.not_true, Bool.not_false, Bool.false_eq_true, if_false, if_true, true_and, and_true, ↓wsFor_a, ↓wiAny_a, ↓wMeth_a, ↓wSl_a, ↓woSome_a, ↓woNone_a, ↓wBm_a, ↓wsTry_a, ↓wNeg_a, ↓wRev_a, ↓wSlotF_a, ↓wsPar_a]
    refine ⟨_, ix_lst (k := 0) rfl rfl, ?_⟩
    simp only [fin_val]
    refine ⟨_, ix_lst (k := 1) rfl rfl, ?_⟩
    simp only [fin_val]
    refine ⟨_, ix_lst (k := 2) rfl rfl, ?_⟩
    simp only [fin_val]
    exact q
  rw [G0.d]
  simp only [res, ↓wsSeq_a, ↓wsIf_a, ↓wtB_a, ↓wtNot_a, ↓wtAnd_a, ↓wtOr_a, ↓wTru_a, ↓wNot_a, ↓wAnd_a, ↓wOr_a, ↓wIf_a, ↓wOp2_a, ↓wSlot_a, ↓wC_a, ↓wsRet_a, ↓wsRetN_a, ↓wsSkip_a, ↓wsAsg_a, ↓wsExpr_a, ↓wgName_a, ↓wBin_a, ↓wCall_a, ↓wCons_a, ↓wNil_a, ↓wTup_a, ↓lst_a, ↓wAttrX_a, blt_len, blt_int, blt_isi, blt_list, blt_tuple, blt_repr, blt_all, blt_any, blt_str, List.map_cons, List.map_nil, List.replicate, List.cons_append, List.nil_append, List.getElem?_cons_succ, List.getElem?_cons_zero, List.set_cons_succ, List.set_cons_zero, Option.some.injEq, exists_eq_left', fin_val, Rs.val.injEq, D.bl.injEq, Bool.not_true, Bool.not_false, Bool.false_eq_true, if_false, if_true, true_and, and_true, ↓wsFor_a, ↓wiAny_a, ↓wMeth_a, ↓wSl_a, ↓woSome_a, ↓woNone_a, ↓wBm_a, ↓wsTry_a, ↓wNeg_a, ↓wRev_a, ↓wSlotF_a, ↓wsPar_a]
  refine ⟨7, FRf ss0 ls0 ts0, mS, rfl, rfl, eS, sorts fun m1 h1 => ?_⟩
  have O4 := O3.new (l := ss0.map .str) h1 (by rw [List.length_map]; omega)
  generalize upb b3 m1 (.lst (ss0.map .str)) = b4 at O4 ⊢
  refine ⟨7, FRf ss0 ls0 ts0, mL, rfl, rfl, eL, letters fun m2 h2 => ?_⟩
  have O5 := O4.new (l := ls0.map d3) h2 (by rw [List.length_map]; omega)
  generalize upb b4 m2 (.lst (ls0.map d3)) = b5 at O5 ⊢
  refine ⟨7, FRf ss0 ls0 ts0, mT, rfl, rfl, eT, tots fun m3 h3 => ?_⟩
  have O6 := O5.new (l := ts0.map d2) h3 (by rw [List.length_map]; omega)
  generalize upb b5 m3 (.lst (ts0.map d2)) = b6 at O6 ⊢
  refine ⟨7, FRf ss0 ls0 ts0, mF, rfl, rfl, eF, ?_⟩
  refine ⟨_, (LD_ix (dn (O6.1 _ _ en))).1, ?_⟩
  simp only [fin_val]
  refine ⟨_, ix_lst (k := 0) rfl ex0, ?_⟩
  simp only [fin_val]
  refine from_ G0 (G0.i.s _ mx0) mx0 fun m4 h4 => ?_
  have O7 := O6.new (l := (fromT ls0 ts0 x0').map d2) h4 (by rw [List.length_map]; exact Nat.le_trans fromT_le (by omega))
  generalize upb b6 m4 (.lst ((fromT ls0 ts0 x0').map d2)) = b7 at O7 ⊢
  simp only [List.length_cons, List.length_nil]
  refine ⟨zl (by omega), ?_⟩
  rw [add_l (by simp)]
  refine ⟨_, rfl, ?_⟩
  show forW always _ _ _ _ (([g0, g1, g2, m1, m2, m3, m4] : List Nat).map D.box) _ _
  refine for_each (G := D.box) (P := fun as sl b => Own bx b (400 - as.length) ([g0, g1, g2] ++ [m1] ++ [m2] ++ [m3] ++ [m4]) ∧ as.length ≤ 7 ∧ (∀ m ∈ as, m ∈ ([g0, g1, g2] ++ [m1] ++ [m2] ++ [m3] ++ [m4])) ∧ ∃ y9 y11, sl = [x0, some (.box b1), x2, some d3', some (.box n3), x5, x6, x7, some (toldD ss ls ts), y9, some (FR ss0 ls0 ts0), y11, none, none]) ?_ ?_ _ _ _ ⟨O7.mono (by simp), by simp, fun m hm => hm, _, _, rfl⟩
  rotate_left
  · rintro m as sl b ⟨O, hl, hs, y9, y11, rfl⟩
    refine ⟨trivial, fun f hk => ?_⟩
    have hm := hs m List.mem_cons_self
    obtain ⟨-, l, hb, hbl⟩ := O.2 m hm
    simp only [List.length_cons] at hl hbl O
    simp only [↓wsSeq_a, ↓wsIf_a, ↓wtB_a, ↓wtNot_a, ↓wtAnd_a, ↓wtOr_a, ↓wTru_a, ↓wNot_a, ↓wAnd_a, ↓wOr_a, ↓wIf_a, ↓wOp2_a, ↓wSlot_a, ↓wC_a, ↓wsRet_a, ↓wsRetN_a, ↓wsSkip_a, ↓wsAsg_a, ↓wsExpr_a, ↓wgName_a, ↓wBin_a, ↓wCall_a, ↓wCons_a, ↓wNil_a, ↓wTup_a, ↓lst_a, ↓wAttrX_a, blt_len, blt_int, blt_isi, blt_list, blt_tuple, blt_repr, blt_all, blt_any, blt_str, List.map_cons, List.map_nil, List.replicate, List.cons_append, List.nil_append, List.getElem?_cons_succ, List.getElem?_cons_zero, List.set_cons_succ, List.set_cons_zero, Option.some.injEq, exists_eq_left', fin_val, Rs.val.injEq, D.bl.injEq, Bool.not_true, Bool.not_false, Bool.false_eq_true, if_false, if_true, true_and, and_true, ↓wsFor_a, ↓wiAny_a, ↓wMeth_a, ↓wSl_a, ↓woSome_a, ↓woNone_a, ↓wBm_a, ↓wsTry_a, ↓wNeg_a, ↓wRev_a, ↓wSlotF_a, ↓wsPar_a, List.length_cons, List.length_nil]
    refine ⟨by simp [isTy, dr, hb], zl (by omega), m, _, _, rfl, hb, zl (by omega), ?_⟩
    exact hk _ _ ⟨(O.app hm hb).mono (by omega), by omega, fun i hi => hs i (List.mem_cons_of_mem _ hi), _, _, rfl⟩
  rintro sl b8 ⟨O8, -, -, y9, y11, rfl⟩
  refine ⟨trivial, ?_⟩
  have en8 := dn (O8.1 _ _ en)
  have ed8 := dr_le O8.1 ed
  obtain ⟨i0, i1, i2⟩ := LD_ix en8
  obtain ⟨k0, k1, k2⟩ := LD_ix ed8
  generalize hNB : ([g0, g1, g2] ++ [m1] ++ [m2] ++ [m3] ++ [m4] : List Nat) = nb at O8
  clear O8 hNB O7 O6 O5 O4 O3
  simp only [↓wsSeq_a, ↓wsIf_a, ↓wtB_a, ↓wtNot_a, ↓wtAnd_a, ↓wtOr_a, ↓wTru_a, ↓wNot_a, ↓wAnd_a, ↓wOr_a, ↓wIf_a, ↓wOp2_a, ↓wSlot_a, ↓wC_a, ↓wsRet_a, ↓wsRetN_a, ↓wsSkip_a, ↓wsAsg_a, ↓wsExpr_a, ↓wgName_a, ↓wBin_a, ↓wCall_a, ↓wCons_a, ↓wNil_a, ↓wTup_a, ↓lst_a, ↓wAttrX_a, blt_len, blt_int, blt_isi, blt_list, blt_tuple, blt_repr, blt_all, blt_any, blt_str, List.map_cons, List.map_nil, List.replicate, List.cons_append, List.nil_append, List.getElem?_cons_succ, List.getElem?_cons_zero, List.set_cons_succ, List.set_cons_zero, Option.some.injEq, exists_eq_left', fin_val, Rs.val.injEq, D.bl.injEq, Bool.not_true, Bool.not_false, Bool.false_eq_true, if_false, if_true, true_and, and_true, ↓wsFor_a, ↓wiAny_a, ↓wMeth_a, ↓wSl_a, ↓woSome_a, ↓woNone_a, ↓wBm_a, ↓wsTry_a, ↓wNeg_a, ↓wRev_a, ↓wSlotF_a, ↓wsPar_a, makeJ_at e7, callJ_at e28, callJ_at e24]
  refine ⟨_, i0, ?_⟩
  simp only [fin_val]
  refine ⟨_, i1, ?_⟩
  simp only [fin_val]
  refine ⟨_, i2, ?_⟩
  simp only [fin_val]
  refine right G0 (G0.noOdd F0.lsOk.z) rfl rfl rfl ?_
  simp only [dTru, Option.some.injEq, exists_eq_left', Bool.not_true, Bool.false_eq_true, if_false]
  refine eqL' en8 ⟨_, rfl, ?_⟩
  simp only [Bool.false_eq_true, if_false]
  refine eqI' ⟨_, rfl, ?_⟩
  simp only [Bool.false_eq_true, if_false]
  -- from tuples
  refine make (ss := ss0) (ls := ls0) (ts := ts0) (ds := .tup (ss0.map .str)) (dl := .tup (ls0.map d3)) (dt := .tup (ts0.map d2)) G0.i (.inr rfl) (.inr rfl) (.inr rfl) (fun Q X q => ?_) ?_
  · simp only [↓wsSeq_a, ↓wsIf_a, ↓wtB_a, ↓wtNot_a, ↓wtAnd_a, ↓wtOr_a, ↓wTru_a, ↓wNot_a, ↓wAnd_a, ↓wOr_a, ↓wIf_a, ↓wOp2_a, ↓wSlot_a, ↓wC_a, ↓wsRet_a, ↓wsRetN_a, ↓wsSkip_a, ↓wsAsg_a, ↓wsExpr_a, ↓wgName_a, ↓wBin_a, ↓wCall_a, ↓wCons_a, ↓wNil_a, ↓wTup_a, ↓lst_a, ↓wAttrX_a, blt_len, blt_int, blt_isi, blt_list, blt_tuple, blt_repr, blt_all, blt_any, blt_str, List.map_cons, List.map_nil, List.replicate, List.cons_append, List.nil_append, List.getElem?_cons_succ, List.getElem?_cons_zero, List.set_cons_succ, List.set_cons_zero, Option.some.injEq, exists_eq_left', fin_val, Rs.val.injEq, D.bl.injEq, Bool.not_true, Bool.not_false, Bool.false_eq_true, if_false, if_true, true_and, and_true, ↓wsFor_a, ↓wiAny_a, ↓wMeth_a, ↓wSl_a, ↓woSome_a, ↓woNone_a, ↓wBm_a, ↓wsTry_a, ↓wNeg_a, ↓wRev_a, ↓wSlotF_a, ↓wsPar_a]
    refine ⟨_, i0, ?_⟩
    simp only [fin_val]
    rw [tuple_at rfl]
    refine ⟨_, i1, ?_⟩
    simp only [fin_val]
    rw [tuple_at rfl]
    refine ⟨_, i2, ?_⟩
    simp only [fin_val]
    rw [tuple_at rfl]
    exact q
  rw [G0.d]
  simp only [res]
  refine neF' G0.i G0.i ⟨_, rfl, ?_⟩
  simp only [decide_true, Bool.and_self, Bool.not_true, Bool.false_eq_true, if_false]
  -- nothing
  refine make (ss := []) (ls := []) (ts := []) (ds := .lst []) (dl := .lst []) (dt := .lst []) gd0.1.i (.inl rfl) (.inl rfl) (.inl rfl) (fun Q X q => ?_) ?_
  · simp only [↓wsSeq_a, ↓wsIf_a, ↓wtB_a, ↓wtNot_a, ↓wtAnd_a, ↓wtOr_a, ↓wTru_a, ↓wNot_a, ↓wAnd_a, ↓wOr_a, ↓wIf_a, ↓wOp2_a, ↓wSlot_a, ↓wC_a, ↓wsRet_a, ↓wsRetN_a, ↓wsSkip_a, ↓wsAsg_a, ↓wsExpr_a, ↓wgName_a, ↓wBin_a, ↓wCall_a, ↓wCons_a, ↓wNil_a, ↓wTup_a, ↓lst_a, ↓wAttrX_a, blt_len, blt_int, blt_isi, blt_list, blt_tuple, blt_repr, blt_all, blt_any, blt_str, List.map_cons, List.map_nil, List.replicate, List.cons_append, List.nil_append, List.getElem?_cons_succ, List.getElem?_cons_zero, List.set_cons_succ, List.set_cons_zero, Option.some.injEq, exists_eq_left', fin_val, Rs.val.injEq, D.bl.injEq, Bool.not_true, Bool.not_false, Bool.false_eq_true, if_false, if_true, true_and, and_true, ↓wsFor_a, ↓wiAny_a, ↓wMeth_a, ↓wSl_a, ↓woSome_a, ↓woNone_a, ↓wBm_a, ↓wsTry_a, ↓wNeg_a, ↓wRev_a, ↓wSlotF_a, ↓wsPar_a, List.length_nil]
    exact ⟨Nat.zero_le _, Nat.zero_le _, Nat.zero_le _, q⟩
  rw [gd0.1.d]
  simp only [res, List.length_nil]
  refine ⟨Nat.zero_le _, Nat.zero_le _, Nat.zero_le _, ?_⟩
  refine right gd0.1 (gd0.1.noOdd gd0.2) rfl rfl rfl ?_
  simp only [dTru, Option.some.injEq, exists_eq_left', Bool.not_true, Bool.false_eq_true, if_false]
  -- the totals from behind
  have G1 := F0.revT.gd
  refine make (ss := ss0) (ls := ls0) (ts := ts0.reverse) (ds := .lst (ss0.map .str)) (dl := .lst (ls0.map d3)) (dt := .lst (ts0.reverse.map d2)) G1.i (.inl rfl) (.inl rfl) (.inl rfl) (fun Q X q => ?_) ?_
  · simp only [↓wsSeq_a, ↓wsIf_a, ↓wtB_a, ↓wtNot_a, ↓wtAnd_a, ↓wtOr_a, ↓wTru_a, ↓wNot_a, ↓wAnd_a, ↓wOr_a, ↓wIf_a, ↓wOp2_a, ↓wSlot_a, ↓wC_a, ↓wsRet_a, ↓wsRetN_a, ↓wsSkip_a, ↓wsAsg_a, ↓wsExpr_a, ↓wgName_a, ↓wBin_a, ↓wCall_a, ↓wCons_a, ↓wNil_a, ↓wTup_a, ↓lst_a, ↓wAttrX_a, blt_len, blt_int, blt_isi, blt_list, blt_tuple, blt_repr, blt_all, blt_any, blt_str, List.map_cons, List.map_nil, List.replicate, List.cons_append, List.nil_append, List.getElem?_cons_succ, List.getElem?_cons_zero, List.set_cons_succ, List.set_cons_zero, Option.some.injEq, exists_eq_left', fin_val, Rs.val.injEq, D.bl.injEq, Bool.not_true, Bool.not_false, Bool.false_eq_true, if_false, if_true, true_and, and_true, ↓wsFor_a, ↓wiAny_a, ↓wMeth_a, ↓wSl_a, ↓woSome_a, ↓woNone_a, ↓wBm_a, ↓wsTry_a, ↓wNeg_a, ↓wRev_a, ↓wSlotF_a, ↓wsPar_a]
    refine ⟨_, i0, ?_⟩
    simp only [fin_val]
    refine ⟨_, i1, ?_⟩
    simp only [fin_val]
    refine ⟨_, i2, ?_⟩
    simp only [fin_val]
    refine ⟨_, rev_at rfl, ?_⟩
    simp only [fin_new, ← List.map_reverse]
    exact q
  rw [G1.d]
  simp only [res]
  refine eqF' G1.i G0.i ?_
  refine ⟨_, i2, ?_⟩
  simp only [fin_val]
  refine ⟨_, i2, ?_⟩
  simp only [fin_val]
  refine ⟨_, rev_at rfl, ?_⟩
  simp only [fin_new, ← List.map_reverse]
  have pT : ∀ {l : T2}, ok2 l → Pl 40 (.lst (l.map d2)) := fun h => Pl.lst_map (n := 39) fun x hx => pl2 (h x hx)
  rw [cmp_eq (pT G0.i.t) (pT G1.i.t) .rfl .rfl, ne_bl]
  simp only [D.lst.injEq, map_d2, decide_true, Bool.true_and, eq_comm (a := ts0) (b := ts0.reverse), Bool.not_true, D.bl.injEq, exists_eq_left', Bool.false_eq_true, if_false]
  -- the last lists, printed
  rw [op_rp (rp_LD I ed8), op_rp (rp_LD G0.i en8), eq_txt]
  simp only [dTru, Option.some.injEq, exists_eq_left']
  by_cases hp : rp b8 d3' = rp b8 (.box n3)
  · simp only [hp, decide_true, if_true]
    exact hr _
  simp only [hp, decide_false, Bool.false_eq_true, if_false]
  refine ⟨_, k0, ?_⟩
  simp only [fin_val]
  refine ⟨_, k1, ?_⟩
  simp only [fin_val]
  refine ⟨_, k2, ?_⟩
  simp only [fin_val]
  refine due_ I rfl rfl rfl ?_
  rw [isnot_non]
  cases e : due ss ls ts with
  | some e' =>
    simp only [dueD, isNon_d, Bool.not_false, if_true, Option.some.injEq, exists_eq_left']
    exact hr _
  | none =>
    simp only [dueD, isNon, Bool.not_true, Bool.false_eq_true, if_false, Option.some.injEq, exists_eq_left']
    rw [show toldD ss ls ts = FR ss ls ts by unfold toldD; rw [e]]
    refine neF' I G0.i ?_
    have : (decide (ss = ss0) && (decide (ls = ls0) && decide (ts = ts0))) = false := by
      rw [Bool.eq_false_iff]
      intro h
      simp only [Bool.and_eq_true, decide_eq_true_eq] at h
      obtain ⟨rfl, rfl, rfl⟩ := h
      exact hp (by rw [rp_dr ed8, rp_dr en8])
    rw [this]
    exact hr _
end
end Mk22
namespace Mk22
open PySem PySem.Spec Mi
section
variable {n : Nat} {cm : CM} {bx : Bx} {Q : VQ} {X : XQ} {b : Bool} {b1 b2 : Nat} {ss : List Str} {ls : T3} {ts : T2}
theorem sourceC (n : Nat) : ∃ c, cmAt S (n + 1) 15 = some c ∧ ∀ {bx : Bx} {ns : List Int} {Q : VQ} {X : XQ}, ns.length ≤ 63 → (∀ bx' b1 b2, Sr bx' b1 b2 → bx b1 = none → bx b2 = none → Same bx b1 b2 bx' → Q (.box b1) bx') → c [scrD ns] bx Q X :=
  ⟨_, c15 n, fun hn hq => sourceR hn hq⟩
theorem greatC (n : Nat) : ∃ c, cmAt S (n + 6) 31 = some c ∧ ∀ {bx : Bx} {b1 b2 : Nat} {Q : VQ} {X : XQ}, Sr bx b1 b2 → (∀ bx', Sr bx' b1 b2 → Same bx b1 b2 bx' → Q (.bl true) bx') → c [.box b1] bx Q X :=
  ⟨_, c31 (n + 5), fun h hq => great_ok h hq⟩
theorem faultyC (n : Nat) : ∃ c, cmAt S (n + 6) 32 = some c ∧ ∀ {bx : Bx} {b1 b2 : Nat} {Q : VQ} {X : XQ}, Sr bx b1 b2 → (∀ bx', Sr bx' b1 b2 → Same bx b1 b2 bx' → Q (.bl true) bx') → c [.box b1] bx Q X :=
  ⟨_, c32 (n + 5), fun h hq => faulty_ok h hq⟩
theorem frameC (n : Nat) : ∃ c, cmAt S (n + 5) 18 = some c ∧ ∀ {bx : Bx} {b1 b2 : Nat} {Q : VQ} {X : XQ}, Sr bx b1 b2 → ∀ {s m : Nat}, 1 ≤ s ∧ s ≤ 3 → 1 ≤ m ∧ m ≤ 10 → (∀ bx' ss ls, Sr bx' b1 b2 → Same bx b1 b2 bx' → Fr0 ss ls [] → Q (frameD ss ls []) bx') → c [.box b1, .int s, .int m] bx Q X :=
  ⟨_, c18 (n + 4), fun h _ _ hs hm hq => frame_ok h hs hm hq⟩
theorem withTC (n : Nat) : ∃ c, cmAt S (n + 5) 20 = some c ∧ ∀ {bx : Bx} {b1 b2 : Nat} {Q : VQ} {X : XQ} {ss : List Str} {ls : T3}, Sr bx b1 b2 → Fr0 ss ls [] → (∀ bx' ts, Sr bx' b1 b2 → Same bx b1 b2 bx' → Fr0 ss ls ts → Q (frameD ss ls ts) bx') → c [.box b1, frameD ss ls []] bx Q X :=
  ⟨_, c20 (n + 4), fun h F hq => withT_ok h F hq⟩
theorem law_ok (n : Nat) (ns : List Int) (hn : ns.length ≤ 63) : runM 1 14 (t33 (cmAt S (n + 6))) [scrD ns] bx0 (fun d _ => d = .bl true) (fun _ _ => False) := by
  refine ⟨rfl, ?_⟩
  have zl : ∀ {m : Nat}, m ≤ 1000 → m ≤ sizeLine := fun {m} h => by rw [sizeLine_eq]; omega
  obtain ⟨cs, e15, source⟩ := sourceC (n + 5)
  obtain ⟨cp, e16, pick⟩ := pickC (n + 5)
  obtain ⟨c18, e18, frame⟩ := frameC (n + 1)
  obtain ⟨c20, e20, withT⟩ := withTC (n + 1)
  obtain ⟨c31, e31, great⟩ := greatC n
  obtain ⟨c32, e32, faulty⟩ := faultyC n
  have hM := fun {bx : Bx} {b1 b2 : Nat} {DD : En} {W : WXQ} {n3 : Nat} {x0 x2 : Option D} {ss0 : List Str} {ls0 : T3} {ts0 : T2} h F0 h31 h32 en hc => lM_ok (n := n + 1) (bx := bx) (b1 := b1) (b2 := b2) (DD := DD) (W := W) (n3 := n3) (x0 := x0) (x2 := x2) (ss0 := ss0) (ls0 := ls0) (ts0 := ts0) h F0 h31 h32 en hc
  have hN := fun {bx : Bx} {b1 : Nat} {ss : List Str} {ls : T3} {ts : T2} {DD : En} {W : WXQ} {n3 : Nat} {x0 x2 : Option D} {ss0 : List Str} {ls0 : T3} {ts0 : T2} {sl : Sl} F0 en I E hr => lN_ok (n := n + 1) (bx := bx) (b1 := b1) (ss := ss) (ls := ls) (ts := ts) (DD := DD) (W := W) (n3 := n3) (x0 := x0) (x2 := x2) (ss0 := ss0) (ls0 := ls0) (ts0 := ts0) (sl := sl) F0 en I E hr
  generalize hcm : cmAt S (n + 6) = cm at e15 e16 e18 e20 e31 e32 hM hN ⊢
  unfold t33
  rw [wsSeq_a]
  simp only [↓wsAsg_a, ↓callJ_f e15, ↓wCons_a, ↓wSlot_a, ↓wNil_a, List.map_cons, List.map_nil, List.replicate, List.cons_append, List.nil_append, List.getElem?_cons_zero, Option.some.injEq, exists_eq_left']
  refine source hn fun bx1 b1 b2 h1 _ _ f1 => ?_
  simp only [wgName_a, List.set_cons_succ, List.set_cons_zero]
  rw [wsSeq_a]
  simp only [↓wsIf_a, ↓wtOr_a, ↓wtNot_a, ↓wTru_a, ↓callJ_f e31, ↓callJ_f e32, ↓wCons_a, ↓wSlot_a, ↓wNil_a, List.getElem?_cons_succ, List.getElem?_cons_zero, Option.some.injEq, exists_eq_left']
  refine great h1 fun bx2 h2 f2 => ?_
  simp only [dTru, Option.some.injEq, exists_eq_left', Bool.not_true, Bool.false_eq_true, if_false]
  refine faulty h2 fun bx3 h3 f3 => ?_
  simp only [dTru, Option.some.injEq, exists_eq_left', Bool.not_true, Bool.false_eq_true, if_false, ↓wsSkip_a]
  rw [wsSeq_a]
  simp only [↓wsAsg_a, ↓callJ_f e18, ↓callJ_f e16, ↓wOp2_a, ↓wC_a, ↓wCons_a, ↓wSlot_a, ↓wNil_a, List.getElem?_cons_succ, List.getElem?_cons_zero, Option.some.injEq, exists_eq_left']
  refine pick h3 (by decide) (by decide) fun bx4 v h4 f4 hv => ?_
  rw [bin_add]
  refine pick h4 (by decide) (by decide) fun bx5 w h5 f5 hw => ?_
  rw [bin_add]
  have ev : (1 : Int) + (v : Int) = ((1 + v : Nat) : Int) := by omega
  have ew : (1 : Int) + (w : Int) = ((1 + w : Nat) : Int) := by omega
  rw [ev, ew]
  refine frame h5 (by omega) (by omega) fun bx6 ss ls h6 f6 F6 => ?_
  simp only [wgName_a, List.set_cons_succ, List.set_cons_zero]
  rw [wsSeq_a]
  simp only [↓wsAsg_a, ↓callJ_f e20, ↓wCons_a, ↓wSlot_a, ↓wNil_a, List.getElem?_cons_succ, List.getElem?_cons_zero, Option.some.injEq, exists_eq_left']
  refine withT h6 F6 fun bx7 ts h7 f7 F7 => ?_
  simp only [wgName_a, List.set_cons_succ, List.set_cons_zero]
  rw [wsSeq_a]
  have G := F7.gd
  have s3 := F7.s3
  have l1 := F7.l1
  simp only [↓wsAsg_a, lst_box, ↓wCons_a, ↓wNil_a, ↓wBin_a, ↓wSlot_a, ↓wC_a, List.getElem?_cons_succ, List.getElem?_cons_zero, Option.some.injEq, exists_eq_left']
  refine ⟨_, fr_sorts, ?_⟩
  simp only [fin_val]
  refine lc_all (l := ls) (g := fun p => .str p.1) (f := d3) (cond := always) (fun Qi q => ⟨_, rfl, _, fr_order, _, by rw [itemsOf], by rw [List.map_map]; exact q⟩) (fun m d hm => trivial) (by rw [sizeLine_eq]; omega) (fun p hp => ⟨_, rfl, fun m e hm Qe X q => ?_⟩) ?_
  · have lk : ∀ b : Bx, dIx b (.dic false (ls.map kv3)) (.str p.1) = some (.val (d2 p.2)) := fun b => ix_dic (f := d2) (l := ls) rfl (G.look p hp)
    simp only [↓wsSeq_a, ↓wsIf_a, ↓wtB_a, ↓wtNot_a, ↓wtAnd_a, ↓wtOr_a, ↓wTru_a, ↓wNot_a, ↓wAnd_a, ↓wOr_a, ↓wIf_a, ↓wOp2_a, ↓wSlot_a, ↓wC_a, ↓wsRet_a, ↓wsRetN_a, ↓wsSkip_a, ↓wsAsg_a, ↓wsExpr_a, ↓wgName_a, ↓wBin_a, ↓wCall_a, ↓wCons_a, ↓wNil_a, ↓wTup_a, ↓lst_a, ↓wAttrX_a, blt_len, blt_int, blt_isi, blt_list, blt_tuple, blt_repr, blt_all, blt_any, blt_str, List.map_cons, List.map_nil, List.replicate, List.cons_append, List.nil_append, List.getElem?_cons_succ, List.getElem?_cons_zero, List.set_cons_succ, List.set_cons_zero, Option.some.injEq, exists_eq_left', fin_val, Rs.val.injEq, D.bl.injEq, Bool.not_true, Bool.not_false, Bool.false_eq_true, if_false, if_true, true_and, and_true, ↓wsFor_a, ↓wiAny_a, ↓wMeth_a, ↓wSl_a, ↓woSome_a, ↓woNone_a, ↓wBm_a, ↓wsTry_a, ↓wNeg_a, ↓wRev_a, ↓wSlotF_a, ↓wsPar_a, wipeD, List.length_cons, List.length_nil]
    refine ⟨zl (by omega), _, fr_letters, ?_⟩
    simp only [fin_val]
    refine ⟨_, lk _, ?_⟩
    simp only [fin_val, d2]
    rw [add_tup (zl (by simp))]
    exact q
  simp only [Bool.false_eq_true, if_false]
  refine ⟨_, fr_totals, ?_⟩
  simp only [fin_val, List.length_cons, List.length_nil]
  refine ⟨zl (by omega), fun n3 e3 => ?_⟩
  simp only [wgName_a, List.set_cons_succ, List.set_cons_zero]
  have e31' := h7.ne1 e3
  have e32' := h7.ne2 e3
  have en : upb bx7 n3 (.lst [.lst (ss.map .str), .lst (ls.map d3), .lst (ts.map d2)]) n3 = some (.lst (LD ss ls ts)) := upb_at
  have h8 : Sr (upb bx7 n3 (.lst [.lst (ss.map .str), .lst (ls.map d3), .lst (ts.map d2)])) b1 b2 := h7.up e3
  generalize upb bx7 n3 (.lst [.lst (ss.map .str), .lst (ls.map d3), .lst (ts.map d2)]) = bx8 at en h8 ⊢
  obtain ⟨ss0, hss⟩ : ∃ ss0, ss0 = ss := ⟨_, rfl⟩
  have rest : ∀ (DD : En) (W : WXQ) (bx' : Bx) (ss : List Str), (∀ b, DD.rt (.bl true) b) → Fr0 ss ls ts → Sr bx' b1 b2 → bx' n3 = some (.lst (LD ss ls ts)) → wsSeq (wsAsg (wSlot 3) (wgName 4)) (wsSeq (lM cm) (lN cm)) DD W [some (scrD ns), some (.box b1), some (frameD ss0 ls ts), some (.box n3), none, none, none, none, none, none, none, none, none, none] bx' := fun DD W bx' ss hr F0 hS en => by
    rw [wsSeq_a]
    simp only [↓wsAsg_a, ↓wSlot_a, List.getElem?_cons_succ, List.getElem?_cons_zero, Option.some.injEq, exists_eq_left', wgName_a, List.set_cons_succ, List.set_cons_zero]
    rw [wsSeq_a]
    refine hM hS F0 e31' e32' en fun bx2 sl2 ss2 ls2 ts2 h2 f2 I2 E2 => ?_
    exact hN F0 (same_box f2 en e31' e32') I2 E2 hr
  rw [wsSeq_a]
  simp only [↓wsIf_a, ↓wtB_a, ↓callJ_f e16, ↓wOp2_a, ↓wC_a, ↓wCons_a, ↓wSlot_a, ↓wNil_a, List.getElem?_cons_succ, List.getElem?_cons_zero, Option.some.injEq, exists_eq_left']
  refine pick h8 (by decide) (by decide) fun bx9 u h9 f9 hu => ?_
  rw [eq_int]
  refine ⟨_, rfl, ?_⟩
  have en9 := same_box f9 en e31' e32'
  by_cases c : (u : Int) = 0
  · simp only [c, decide_true, if_true]
    rw [wsSeq_a]
    simp only [↓wsAsg_a, ↓wRev_a, ↓wBin_a, ↓wC_a, ↓wSlot_a, ↓wsSkip_a, List.getElem?_cons_succ, List.getElem?_cons_zero, Option.some.injEq, exists_eq_left']
    refine ⟨_, (LD_ix (d := .box n3) en9).1, ?_⟩
    simp only [fin_val]
    refine ⟨_, rev_at rfl, ?_⟩
    simp only [fin_new, ← List.map_reverse]
    refine ⟨_, rfl, n3, rfl, .inl ⟨_, 0, 0, en9, rfl, rfl, ?_⟩⟩
    subst hss
    exact rest _ _ _ ss0.reverse (fun b => ⟨_, LeB.refl _, rfl⟩) F7.revS (h9.le (by simp [upb, e31'.symm]) (by simp [upb, e32'.symm])) (by rw [upb_at]; rfl)
  · simp only [c, decide_false, Bool.false_eq_true, if_false, ↓wsSkip_a]
    subst hss
    exact rest _ _ _ ss0 (fun b => ⟨_, LeB.refl _, rfl⟩) F7 h9 en9
end
end Mk22
namespace Mk22
open PySem PySem.W PySem.Calls PyProof.Rows
abbrev Rw : OpenRow := OpenLaw.row PySem.Challenge.rw_pairlaws_k22_frames
abbrev qv : Program := view Rw.prog [41]
def names0 : List PySem.Str := ["PairError", "NameMissing", "BadName", "TwiceTold", "BadFrame", "ComesRound", "UnknownName", "FIRSTS", "SIGNS", "MOST_SIGNS", "is_word", "ON", "BACK", "look_at_words", "look_at_ends", "look_at_totals", "step_of", "sorts_coming_round", "Frame", "_law_source", "_law_pick", "_law_names", "_law_frame", "_law_framed", "_law_with_totals", "_law_is_word", "_law_twice", "_law_round", "_law_due", "_law_told"]
def names1 : List PySem.Str := ["_law_bent", "_law_refused", "_law_right", "_law_is_apart", "_law_lists_right", "_law_great_right", "_law_faulty_right"]
def names : List PySem.Str := names0 ++ names1
theorem run1 (w : World) (os : OsState) : (Mi.EndM Rw 20000 w os).map (fun s => (HandSHeadRun.looksF Rw.prog (boot_heap w.params) s.abs, HandSHeadRun.seenQ qv names (importedModules Rw.prog.main.body) (fun s => xlAt qv [] s && recOk Rw.toRowW.records s) s.abs, S.fns.zipIdx.map (fun p => Mi.fnV (Mi.fnObj (Mi.kOf 5 s) hd.nm p.2)), hd.exs.map (fun x => Mi.fnV (Mi.exObj (Mi.kOf 5 s) hd.nm x)))) = some (true, openGood qv names, (Mi.valM S hd).2.1, (Mi.valM S hd).2.2) := by
  kernel_rfl
theorem run2 (w : World) (os : OsState) : (Mi.EndM Rw 20000 w os).map (fun s => Mi.isiC (Mi.kOf 5 s) hd.nm hd.up hd.tys hd.ab) = some true := by
  kernel_rfl
theorem run3 (w : World) (os : OsState) : (Mi.EndM Rw 20000 w os).map (fun s => Mi.stR (Mi.kOf 5 s) PySem.Challenge.rw_pairlaws_k22_frames.prog S hd) = some true := by
  kernel_rfl
theorem room12 : L2.Room (2 * 7 + 2) PySem.callerA := ⟨rfl, by decide, by decide⟩
end Mk22
open PySem PySem.W PySem.Calls PyProof.Rows
theorem PySem.Challenge.cw_pairlaws_k22_frames_holds : PySem.Challenge.rw_pairlaws_k22_frames.Holds := by
  w_on; o_law
  refine HandSHeadRun.head_any (r := OpenLaw.row PySem.Challenge.rw_pairlaws_k22_frames) (q := Mk22.qv) (H := Mi.hookM 5 PySem.Challenge.rw_pairlaws_k22_frames.prog Mk22.S Mk22.hd) (ob := Mi.obM 5 PySem.Challenge.rw_pairlaws_k22_frames.prog Mk22.S Mk22.hd) (M := 20000) (loose := Mk22.names) (d := HandSHeadRun.topDef (OpenLaw.row PySem.Challenge.rw_pairlaws_k22_frames).prog 41) (kwd := []) (Mi.obM_eq _ _ _ _)
    (by kernel_rfl) (fun s => by kernel_rfl) (fun w => Mi.runM_of (Mk22.run1 w) (Mk22.run2 w) (Mk22.run3 w)) (by kernel_rfl) (by kernel_rfl) (by kernel_rfl) (by rfl) (by first | assumption | decide +kernel) (by decide +kernel) ⟨rfl, rfl, rfl, rfl, rfl, by decide +kernel⟩ ?hw ?hc
  case hw => w_witness2
  case hc => exact Mi.walkM (l := PySem.Challenge.rw_pairlaws_k22_frames) (S := Mk22.S) (hd := Mk22.hd) (j := 33) (n := 7) rfl (by kernel_rfl) Mk22.room12 (Mk22.c33 6) (by kernel_rfl) rfl (Mk22.law_ok 0)
