import PyProof.Rows.All
import Wide.All
import OpenK.AllK
import Wide.FinOn
import HandS.ForMost
import HandS.Exc
import HandS.WordsExc
import HandS.ExcOwn
import HandS.CallSlots
import HandS.HeadHook1
import HandS.Wide
import HandS.WideBits
import HandS.IsInst
import HandS.Text
import HandS.WordsDict
import HandS.Defaults
import HandS.Zip
import KE.GoesNew
import HandS.Small
import KE.KExcIs
import HandS.ExcInit
import HandS.TryMany
import HandS.ExcField
import HandS.ExcValue
import HandS.SortRule
import HandS.Strs
import HandS.SetTxt0
import HandS.RevRange
import HandS.Style
import HandS.TupAny
import HandS.ReplaceLit
import HandS.ReplaceDef
import KE.DataMinMax
import KE.SortData
import HandS.HeadHook2
import HandS.ReplaceList
import HandS.Head0
import HandS.Head1
import HandS.Head2
import HandS.HeadEnd
import PySem.Challenge.RW_gapweave_k22_small_rows_listed
set_option Elab.async false
set_option linter.all false
set_option maxRecDepth 100000
set_option maxHeartbeats 4000000
set_option autoImplicit false
/-! Plain data over the hand layer: what a body gives is a plain function of plain data. -/
namespace GW
open PySem L2

/-- plain data -/
inductive D where
  | non | bl (b : Bool) | int (i : Int) | str (x : Str)
  | tup (ds : List D) | lst (ds : List D) | dct (kvs : List (Key × D)) | obj (C : Addr) (fs : List (Str × D))
  | err (c : Nat) (fs : List (Str × Int))

abbrev AS := Addr → Prop
/-- the program's own errors, by number -/
def exN : Nat → Str
  | 0 => "WeaveError"
  | 1 => "NoPrices"
  | 2 => "NoLaying"
  | 3 => "NoManner"
  | 4 => "NoPlace"
  | 5 => "NoBlock"
  | 6 => "NoRow"
  | 7 => "NoTree"
  | 8 => "NoMost"
  | 9 => "NoSign"
  | 10 => "NoNote"
  | _ => "NoText"
def ec (K : PySem.W.Frag) (c : Nat) : Addr := He.ga K (exN c)
/-- an error that was raised once -/
def ErO (C : Addr) (d : Option Addr) (a : Addr) : HO := .ext fun h => ∃ (oe : Obj) (vs : Array Value), h.get? a = some oe ∧ Zc (.ref C) d oe ∧ oe.data = .fields vs
/-- its fields -/
def ErD (F : Hp) (od : Option Addr) (fs : List (Str × Int)) : Prop := (fs = [] ∧ od = none) ∨ ∃ d, od = some d ∧ F d = some (.xd (fs.map fun p => (p.1, V.int p.2)))
theorem ErD.mono {F F' : Hp} {od : Option Addr} {fs : List (Str × Int)} (h : ErD F od fs) (s : Same F F') : ErD F' od fs := by
  rcases h with h | ⟨d, h1, h2⟩
  · exact .inl h
  · exact .inr ⟨d, h1, s _ _ h2⟩
abbrev DS := List (Option D)

/-- what may be written -/
def Mk : HO → Bool
  | .lst _ => true
  | .dK _ => true
  | .ins _ _ _ => true
  | _ => false

/-- v stands for d; to the depth k the lists, dicts, instances are one's own (at A, in H), below that they stand in F -/
inductive Rp (K : PySem.W.Frag) (F H : Hp) : Nat → V → D → AS → Prop
  | non {k : Nat} {A : AS} : Rp K F H k .non .non A
  | bl {k : Nat} {A : AS} {b : Bool} : Rp K F H k (.bl b) (.bl b) A
  | int {k : Nat} {A : AS} {i : Int} : Rp K F H k (.int i) (.int i) A
  | str {k : Nat} {A : AS} {x : Str} : Rp K F H k (.str x) (.str x) A
  | tup {k : Nat} {A : AS} {p : Addr} {vs : List V} {ds : List D} (h : SqT K H p vs) (l : vs.length = ds.length) (c : ∀ (i : Nat) v d, vs[i]? = some v → ds[i]? = some d → Rp K F H 0 v d A) : Rp K F H k (.ref p) (.tup ds) A
  | lst {A : AS} {p : Addr} {vs : List V} {ds : List D} (h : SqL K F p vs) (l : vs.length = ds.length) (c : ∀ (i : Nat) v d, vs[i]? = some v → ds[i]? = some d → Rp K F H 0 v d A) : Rp K F H 0 (.ref p) (.lst ds) A
  | lstO {k : Nat} {A : AS} {p : Addr} {vs : List V} {ds : List D} (As : Nat → AS) (h : H p = some (.lst vs)) (hA : A p) (l : vs.length = ds.length) (c : ∀ (i : Nat) v d, vs[i]? = some v → ds[i]? = some d → Rp K F H k v d (As i))
      (s : ∀ (i : Nat) a, As i a → A a ∧ a ≠ p) (dj : ∀ (i j : Nat) a, As i a → As j a → i = j) : Rp K F H (k + 1) (.ref p) (.lst ds) A
  | dct {A : AS} {p : Addr} {kvs : List (Key × V)} {kds : List (Key × D)} (h : F p = some (.dK kvs)) (l : kvs.map (·.1) = kds.map (·.1)) (c : ∀ (i : Nat) v d, (kvs.map (·.2))[i]? = some v → (kds.map (·.2))[i]? = some d → Rp K F H 0 v d A) : Rp K F H 0 (.ref p) (.dct kds) A
  | dctO {k : Nat} {A : AS} {p : Addr} {kvs : List (Key × V)} {kds : List (Key × D)} (h : H p = some (.dK kvs)) (hA : A p) (l : kvs.map (·.1) = kds.map (·.1)) (c : ∀ (i : Nat) v d, (kvs.map (·.2))[i]? = some v → (kds.map (·.2))[i]? = some d → Rp K F H 0 v d A) : Rp K F H (k + 1) (.ref p) (.dct kds) A
  | obj {A : AS} {p C dx : Addr} {fs : List (Str × V)} {fds : List (Str × D)} (h : F p = some (.ins C dx fs)) (l : fs.map (·.1) = fds.map (·.1)) (c : ∀ (i : Nat) v d, (fs.map (·.2))[i]? = some v → (fds.map (·.2))[i]? = some d → Rp K F H 0 v d A) : Rp K F H 0 (.ref p) (.obj C fds) A
  | objO {k : Nat} {A : AS} {p C dx : Addr} {fs : List (Str × V)} {fds : List (Str × D)} (As : Nat → AS) (h : H p = some (.ins C dx fs)) (hA : A p) (l : fs.map (·.1) = fds.map (·.1)) (c : ∀ (i : Nat) v d, (fs.map (·.2))[i]? = some v → (fds.map (·.2))[i]? = some d → Rp K F H k v d (As i))
      (s : ∀ (i : Nat) a, As i a → A a ∧ a ≠ p) (dj : ∀ (i j : Nat) a, As i a → As j a → i = j) : Rp K F H (k + 1) (.ref p) (.obj C fds) A
  | err {k : Nat} {A : AS} {p : Addr} {c : Nat} {od : Option Addr} {fs : List (Str × Int)} (h : F p = some (ErO (ec K c) od p)) (x : ErD F od fs) : Rp K F H k (.ref p) (.err c fs) A

theorem sqL_mono {K : PySem.W.Frag} {F G : Hp} {p : Addr} {vs : List V} (h : SqL K F p vs) (e : Same F G) : SqL K G p vs := e.seq h
theorem sqT_mono {K : PySem.W.Frag} {H H' : Hp} {p : Addr} {vs : List V} (h : SqT K H p vs) (e : ∀ a o, H a = some o → Mk o = false → H' a = some o) : SqT K H' p vs := by
  rcases h with (h | ⟨o, h⟩) | h
  · exact .inl (.inl (e _ _ h rfl))
  · exact .inl (.inr ⟨o, e _ _ h rfl⟩)
  · exact .inr h

section
variable {K : PySem.W.Frag} {F F' H H' : Hp} {k : Nat} {v : V} {d : D} {A A' : AS}
/-- kept, where what is one's own stands and the rest has grown -/
theorem Rp.mono (r : Rp K F H k v d A) (hF : Same F F') (hT : ∀ a o, H a = some o → Mk o = false → H' a = some o) (hA : ∀ a o, A a → H a = some o → H' a = some o) : Rp K F' H' k v d A := by
  induction r with
  | non => exact .non
  | bl => exact .bl
  | int => exact .int
  | str => exact .str
  | tup h l c ih => exact .tup (sqT_mono h hT) l fun i v d a b => ih i v d a b hA
  | lst h l c ih => exact .lst (sqL_mono h hF) l fun i v d a b => ih i v d a b hA
  | lstO As h hp l c s dj ih => exact .lstO As (hA _ _ hp h) hp l (fun i v d a b => ih i v d a b fun x o hx => hA x o (s i x hx).1) s dj
  | dct h l c ih => exact .dct (hF _ _ h) l fun i v d a b => ih i v d a b hA
  | dctO h hp l c ih => exact .dctO (hA _ _ hp h) hp l fun i v d a b => ih i v d a b hA
  | obj h l c ih => exact .obj (hF _ _ h) l fun i v d a b => ih i v d a b hA
  | objO As h hp l c s dj ih => exact .objO As (hA _ _ hp h) hp l (fun i v d a b => ih i v d a b fun x o hx => hA x o (s i x hx).1) s dj
  | err h x => exact .err (hF _ _ h) (x.mono hF)
/-- nothing is one's own at depth nought: any A -/
theorem Rp.zero (r : Rp K F H k v d A) (hk : k = 0) (A' : AS) : Rp K F H 0 v d A' := by
  induction r with
  | non => exact .non
  | bl => exact .bl
  | int => exact .int
  | str => exact .str
  | tup h l c ih => exact .tup h l fun i v d a b => ih i v d a b rfl
  | lst h l c ih => exact .lst h l fun i v d a b => ih i v d a b rfl
  | lstO => cases hk
  | dct h l c ih => exact .dct h l fun i v d a b => ih i v d a b rfl
  | dctO => cases hk
  | obj h l c ih => exact .obj h l fun i v d a b => ih i v d a b rfl
  | objO => cases hk
  | err h x => exact .err h x
theorem Rp.z (r : Rp K F H 0 v d A) {A' : AS} : Rp K F H 0 v d A' := r.zero rfl A'
theorem Rp.sup (r : Rp K F H k v d A) (h : ∀ a, A a → A' a) : Rp K F H k v d A' := by
  induction r generalizing A' with
  | non => exact .non
  | bl => exact .bl
  | int => exact .int
  | str => exact .str
  | tup hh l c ih => exact .tup hh l fun i v d a b => (c i v d a b).z
  | lst hh l c ih => exact .lst hh l fun i v d a b => (c i v d a b).z
  | lstO As hh hp l c s dj ih => exact .lstO As hh (h _ hp) l c (fun i a x => ⟨h _ (s i a x).1, (s i a x).2⟩) dj
  | dct hh l c ih => exact .dct hh l fun i v d a b => (c i v d a b).z
  | dctO hh hp l c ih => exact .dctO hh (h _ hp) l fun i v d a b => (c i v d a b).z
  | obj hh l c ih => exact .obj hh l fun i v d a b => (c i v d a b).z
  | objO As hh hp l c s dj ih => exact .objO As hh (h _ hp) l c (fun i a x => ⟨h _ (s i a x).1, (s i a x).2⟩) dj
  | err hh x => exact .err hh x
/-- all of it kept in G: read as what stands there -/
theorem Rp.frz (r : Rp K F H k v d A) {G : Hp} (hF : Same F G) (hA : ∀ a o, A a → H a = some o → G a = some o) {A' : AS} : Rp K G H 0 v d A' := by
  induction r generalizing A' with
  | non => exact .non
  | bl => exact .bl
  | int => exact .int
  | str => exact .str
  | tup h l c ih => exact .tup h l fun i v d a b => ih i v d a b hA
  | lst h l c ih => exact .lst (sqL_mono h hF) l fun i v d a b => ih i v d a b hA
  | lstO As h hp l c s dj ih => exact .lst (.inl (.inl (hA _ _ hp h))) l fun i v d a b => ih i v d a b fun x o hx => hA x o (s i x hx).1
  | dct h l c ih => exact .dct (hF _ _ h) l fun i v d a b => ih i v d a b hA
  | dctO h hp l c ih => exact .dct (hA _ _ hp h) l fun i v d a b => ih i v d a b hA
  | obj h l c ih => exact .obj (hF _ _ h) l fun i v d a b => ih i v d a b hA
  | objO As h hp l c s dj ih => exact .obj (hA _ _ hp h) l fun i v d a b => ih i v d a b fun x o hx => hA x o (s i x hx).1
  | err h x => exact .err (hF _ _ h) (x.mono hF)
end

/-! ### scalars, flat data -/
def scV : D → Option V
  | .non => some .non
  | .bl b => some (.bl b)
  | .int i => some (.int i)
  | .str x => some (.str x)
  | _ => none
mutual
def flat : D → Bool
  | .non => true
  | .bl _ => true
  | .int _ => true
  | .str _ => true
  | .tup ds => flats ds
  | _ => false
def flats : List D → Bool
  | [] => true
  | d :: ds => flat d && flats ds
end
theorem flats_get : ∀ {ds : List D} {i : Nat} {d : D}, flats ds = true → ds[i]? = some d → flat d = true
  | _ :: _, 0, _, h, e => by
    simp only [flats, Bool.and_eq_true] at h
    simp only [List.getElem?_cons_zero, Option.some.injEq] at e
    subst e; exact h.1
  | _ :: r, i + 1, _, h, e => by
    simp only [flats, Bool.and_eq_true] at h
    exact flats_get (i := i) h.2 (by simpa using e)
theorem Rp.flat_any {K : PySem.W.Frag} {F H : Hp} {k : Nat} {v : V} {d : D} {A : AS} (r : Rp K F H k v d A) (h : flat d = true) (F' : Hp) (k' : Nat) (A' : AS) : Rp K F' H k' v d A' := by
  induction r generalizing k' A' with
  | non => exact .non
  | bl => exact .bl
  | int => exact .int
  | str => exact .str
  | tup hh l c ih =>
    simp only [flat] at h
    exact .tup hh l fun i v d a b => ih i v d a b (flats_get h b) 0 A'
  | lst => cases h
  | lstO => cases h
  | dct => cases h
  | dctO => cases h
  | obj => cases h
  | objO => cases h
  | err => cases h
theorem Rp.of_sc {K : PySem.W.Frag} {F H : Hp} {k : Nat} {v : V} {d : D} {A : AS} (h : scV d = some v) : Rp K F H k v d A := by
  cases d <;> simp [scV] at h <;> subst h <;> constructor
theorem Rp.sc {K : PySem.W.Frag} {F H : Hp} {k : Nat} {v w : V} {d : D} {A : AS} (r : Rp K F H k v d A) (h : scV d = some w) : v = w := by
  cases r <;> simp [scV] at h <;> exact h
section
variable {K : PySem.W.Frag} {F H : Hp} {k : Nat} {v : V} {A : AS}
theorem Rp.int_ {i : Int} (r : Rp K F H k v (.int i) A) : v = .int i := r.sc rfl
theorem Rp.bl_ {b : Bool} (r : Rp K F H k v (.bl b) A) : v = .bl b := r.sc rfl
theorem Rp.str_ {x : Str} (r : Rp K F H k v (.str x) A) : v = .str x := r.sc rfl
theorem Rp.non_ (r : Rp K F H k v .non A) : v = .non := r.sc rfl
end

/-! ### the state -/
structure Ctx where
  K : PySem.W.Frag
  /-- the counting cell, where the def is handed one -/
  q : Option Addr
  /-- how deep a slot's thing is one's own -/
  T : Nat → Nat
  /-- slots whose value stays -/
  pn : Nat → Option V

structure Sim (C : Ctx) (F : Hp) (B : AS) (σ : L2.St) (H : Hp) (n : Int) (ds : DS) : Prop where
  fh : Same F H
  bok : ∀ a, B a → F a = none ∧ ∃ o, H a = some o ∧ Mk o = true
  cell : ∀ q, C.q = some q → B q ∧ H q = some (.lst [.int n])
  pin : ∀ i v, C.pn i = some v → σ[i]? = some (some v)
  len : σ.length = ds.length
  rep : ∃ A : Nat → AS, (∀ (i : Nat) d, ds[i]? = some (some d) → ∃ v, σ[i]? = some (some v) ∧ Rp C.K F H (C.T i) v d (A i)) ∧ (∀ i a, A i a → B a ∧ C.q ≠ some a) ∧ (∀ i j a, A i a → A j a → i = j)

/-- what the reckoning of an expression does to the heap -/
structure GoE (q : Option Addr) (F H F' H' : Hp) : Prop where
  ff : Same F F'
  fh : Same F' H'
  hh : ∀ a o, H a = some o → q ≠ some a → H' a = some o
  ht : ∀ a o, H a = some o → Mk o = false → H' a = some o
  nf : ∀ a o, F a = none → H a = some o → F' a = none
theorem none_some {α β : Type} {f : α → Option β} {g : α → Option β} (dm : ∀ a o, f a = some o → ∃ o', g a = some o') {a : α} (h : g a = none) : f a = none := by
  cases e : f a with
  | none => rfl
  | some o => obtain ⟨o', e'⟩ := dm a o e; rw [h] at e'; cases e'
section
variable {q : Option Addr} {F H F1 H1 F2 H2 : Hp}
theorem GoE.refl (h : Same F H) : GoE q F H F H := ⟨Same.refl _, h, fun _ _ e _ => e, fun _ _ e _ => e, fun _ _ e _ => e⟩
/-- the cell stands as a list all along -/
structure GoC (q : Option Addr) (F H F' H' : Hp) : Prop where
  go : GoE q F H F' H'
  dm : ∀ a o, H a = some o → ∃ o', H' a = some o'
theorem GoC.refl (h : Same F H) : GoC q F H F H := ⟨GoE.refl h, fun _ o e => ⟨o, e⟩⟩
theorem GoC.trans (a : GoC q F H F1 H1) (b : GoC q F1 H1 F2 H2) : GoC q F H F2 H2 where
  go := {
    ff := a.go.ff.trans b.go.ff
    fh := b.go.fh
    hh := fun x o e n => b.go.hh x o (a.go.hh x o e n) n
    ht := fun x o e n => b.go.ht x o (a.go.ht x o e n) n
    nf := fun x o n e => by
      obtain ⟨o', e'⟩ := a.dm x o e
      exact b.go.nf x o' (a.go.nf x o n e) e' }
  dm := fun x o e => by
    obtain ⟨o', e'⟩ := a.dm x o e
    exact b.dm x o' e'
theorem GoC.free (a : GoC q F H F1 H1) {x : Addr} (h : H1 x = none) : H x = none := none_some a.dm h
/-- a new object, kept in what stands | one's own -/
theorem GoC.new {p : Addr} {o : HO} (fh : Same F H) (hp : H p = none) : GoC q F H (upd F p o) (upd H p o) where
  go := {
    ff := fun a u e => by rw [upd_ne (ne_of_none (fh a u e) hp)]; exact e
    fh := fun a u e => by
      by_cases h : a = p
      · subst h; rw [upd_same] at e ⊢; exact e
      · rw [upd_ne h] at e ⊢; exact fh a u e
    hh := fun a u e _ => by rw [upd_ne (ne_of_none e hp)]; exact e
    ht := fun a u e _ => by rw [upd_ne (ne_of_none e hp)]; exact e
    nf := fun a u n e => by rw [upd_ne (ne_of_none e hp)]; exact n }
  dm := fun a u e => ⟨u, by rw [upd_ne (ne_of_none e hp)]; exact e⟩
theorem GoC.newO {p : Addr} {o : HO} (fh : Same F H) (hp : H p = none) : GoC q F H F (upd H p o) where
  go := {
    ff := Same.refl _
    fh := fun a u e => by rw [upd_ne (ne_of_none (fh a u e) hp)]; exact fh a u e
    hh := fun a u e _ => by rw [upd_ne (ne_of_none e hp)]; exact e
    ht := fun a u e _ => by rw [upd_ne (ne_of_none e hp)]; exact e
    nf := fun a u n e => n }
  dm := fun a u e => ⟨u, by rw [upd_ne (ne_of_none e hp)]; exact e⟩
end

/-- where a thing is read: what stands | all but the cell (to be read now) -/
inductive Rg where
  | fz | bo
def rg (q : Option Addr) : Rg → Hp → Hp → Hp
  | .fz, F, _ => F
  | .bo, _, H => fun a => if q = some a then none else H a
section
variable {q : Option Addr} {F H F1 H1 : Hp}
theorem rg_same {g : Rg} (fh : Same F H) : Same (rg q g F H) H := by
  cases g with
  | fz => exact fh
  | bo =>
    intro a o e
    have e : (if q = some a then none else H a) = some o := e
    by_cases h : q = some a
    · rw [if_pos h] at e; cases e
    · rw [if_neg h] at e; exact e
theorem rg_go {g : Rg} (a : GoE q F H F1 H1) : Same (rg q g F H) (rg q g F1 H1) := by
  cases g with
  | fz => exact a.ff
  | bo =>
    intro x o e
    have e : (if q = some x then none else H x) = some o := e
    show (if q = some x then none else H1 x) = some o
    by_cases h : q = some x
    · rw [if_pos h] at e; cases e
    · rw [if_neg h] at e ⊢
      exact a.hh x o e h
end

/-- what is new -/
def Fr (F' H H' : Hp) (A : AS) : Prop := ∀ a, A a → H a = none ∧ F' a = none ∧ ∃ o, H' a = some o ∧ Mk o = true
theorem Fr.no {F' H H' : Hp} : Fr F' H H' (fun _ => False) := fun _ h => h.elim

section
variable {C : Ctx} {F F' H H' : Hp} {B : AS} {σ : L2.St} {n n' : Int} {ds : DS} {k : Nat} {v : V} {d : D} {A : AS}
theorem Sim.go (S : Sim C F B σ H n ds) (g : GoC C.q F H F' H') (hc : ∀ q, C.q = some q → H' q = some (.lst [.int n'])) : Sim C F' B σ H' n' ds where
  fh := g.go.fh
  bok := fun a ha => by
    obtain ⟨h1, o, h2, h3⟩ := S.bok a ha
    refine ⟨g.go.nf a o h1 h2, ?_⟩
    by_cases hq : C.q = some a
    · exact ⟨_, hc a hq, rfl⟩
    · exact ⟨o, g.go.hh a o h2 hq, h3⟩
  cell := fun q hq => ⟨(S.cell q hq).1, hc q hq⟩
  pin := S.pin
  len := S.len
  rep := by
    obtain ⟨A, h1, h2, h3⟩ := S.rep
    refine ⟨A, fun i d e => ?_, h2, h3⟩
    obtain ⟨v, e1, r⟩ := h1 i d e
    exact ⟨v, e1, r.mono g.go.ff g.go.ht fun a o ha e => g.go.hh a o e (h2 i a ha).2⟩
/-- the cell untouched -/
theorem Sim.go0 (S : Sim C F B σ H n ds) (g : GoC none F H F' H') : Sim C F' B σ H' n ds :=
  S.go ⟨⟨g.go.ff, g.go.fh, fun a o e _ => g.go.hh a o e (by simp), g.go.ht, g.go.nf⟩, g.dm⟩ fun q hq => g.go.hh _ _ (S.cell q hq).2 (by simp)
theorem GoC.of0 {q : Option Addr} (g : GoC none F H F' H') : GoC q F H F' H' := ⟨⟨g.go.ff, g.go.fh, fun a o e _ => g.go.hh a o e (by simp), g.go.ht, g.go.nf⟩, g.dm⟩
theorem Sim.nq (S : Sim C F B σ H n ds) {q : Addr} (hq : C.q = some q) : H q ≠ none := by rw [(S.cell q hq).2]; simp
/-- a thing in hand stands while another is reckoned -/
theorem Rp.go {F0 H0 : Hp} {g : Rg} (r : Rp C.K (rg C.q g F H) H k v d A) (G : GoC C.q F H F' H') (hA : ∀ a, A a → C.q ≠ some a) : Rp C.K (rg C.q g F' H') H' k v d A :=
  r.mono (rg_go G.go) G.go.ht fun a o ha e => G.go.hh a o e (hA a ha)
theorem Rp.go0 {g : Rg} (r : Rp C.K (rg C.q g F H) H 0 v d A) (G : GoC C.q F H F' H') {A' : AS} : Rp C.K (rg C.q g F' H') H' 0 v d A' :=
  Rp.z ((r.z (A' := fun _ => False)).mono (rg_go G.go) G.go.ht fun a o ha e => ha.elim)
/-- what stands may be read now -/
theorem Rp.read (S : Sim C F B σ H n ds) (r : Rp C.K F H k v d A) (hA : ∀ a, A a → C.q ≠ some a) {A' : AS} : Rp C.K (rg C.q .bo F H) H 0 v d A' := by
  refine r.frz (fun a o e => ?_) fun a o ha e => ?_
  · show (if C.q = some a then none else H a) = some o
    rw [if_neg fun hq => ?_]
    · exact S.fh a o e
    · obtain ⟨h1, _⟩ := S.bok a (S.cell a hq).1
      rw [h1] at e; cases e
  · show (if C.q = some a then none else H a) = some o
    rw [if_neg (hA a ha)]
    exact e
theorem Rp.any (S : Sim C F B σ H n ds) {g : Rg} (r : Rp C.K F H 0 v d A) {A' : AS} : Rp C.K (rg C.q g F H) H 0 v d A' := by
  cases g with
  | fz => exact r.z
  | bo => exact Rp.read S (r.z (A' := fun _ => False)) fun _ h => h.elim
end
end GW

namespace GW
open PySem L2

inductive Ot (α : Type) where
  | ok (a : α) | ex (c : Nat) (fs : List (Str × Int))
abbrev Mo (α : Type) := Int → DS → Option (Ot α × Int)
abbrev M := Mo D
def mb {α β : Type} (m : Mo α) (f : α → Mo β) : Mo β := fun n ds => match m n ds with
  | none => none
  | some (.ex C fs, n1) => some (.ex C fs, n1)
  | some (.ok a, n1) => f a n1 ds
def ret {α : Type} (o : Option α) : Mo α := fun n _ => match o with
  | none => none
  | some d => some (.ok d, n)

/-- an error's dict, made since H -/
def ExR (H H' : Hp) (od : Option Addr) (fs : List (Str × Int)) : Prop := (fs = [] ∧ od = none) ∨ ∃ d, od = some d ∧ H d = none ∧ H' d = some (.xd (fs.map fun p => (p.1, V.int p.2)))
theorem ExR.tr {q : Option Addr} {F H F1 H1 H2 : Hp} {od : Option Addr} {fs : List (Str × Int)} (G : GoC q F H F1 H1) (h : ExR H1 H2 od fs) : ExR H H2 od fs := by
  rcases h with h | ⟨d, h1, h2, h3⟩
  · exact .inl h
  · exact .inr ⟨d, h1, G.free h2, h3⟩

def WL (C : Ctx) (wx : WX) {α β : Type} (R : Hp → Hp → Hp → β → α → Prop) (m : Mo α) (F : Hp) (B : AS) (n : Int) (ds : DS) (σ : L2.St) (H : Hp) (Q : β → Hp → Prop) : Prop :=
  match m n ds with
  | none => False
  | some (.ok d, n') => ∀ v F' H', GoC C.q F H F' H' → Sim C F' B σ H' n' ds → R H F' H' v d → Q v H'
  | some (.ex c fs, n') => ∀ F' H' od, GoC C.q F H F' H' → Sim C F' B σ H' n' ds → ExR H H' od fs → wx (.ref (ec C.K c)) od σ H'
def WW (C : Ctx) (wx : WX) {α β : Type} (R : Hp → Hp → Hp → β → α → Prop) (m : Mo α) : L2.St → Hp → (β → Hp → Prop) → Prop :=
  fun σ H Q => ∃ F B n ds, Sim C F B σ H n ds ∧ WL C wx R m F B n ds σ H Q

def RV (C : Ctx) (g : Rg) (k : Nat) : Hp → Hp → Hp → V → D → Prop := fun H F' H' v d => ∃ A, Rp C.K (rg C.q g F' H') H' k v d A ∧ Fr F' H H' A
def RT : Hp → Hp → Hp → Bool → Bool → Prop := fun _ _ _ v d => v = d
abbrev RpL (K : PySem.W.Frag) (G H : Hp) (vs : List V) (ds : List D) : Prop := vs.length = ds.length ∧ ∀ (i : Nat) v d, vs[i]? = some v → ds[i]? = some d → Rp K G H 0 v d (fun _ => False)
def RA (C : Ctx) (g : Rg) : Hp → Hp → Hp → List V → List D → Prop := fun _ F' H' vs ds => RpL C.K (rg C.q g F' H') H' vs ds
abbrev W (C : Ctx) (wx : WX) (g : Rg) (k : Nat) (m : M) : TE := WW C wx (RV C g k) m
abbrev WT (C : Ctx) (wx : WX) (m : Mo Bool) : TT := WW C wx RT m
abbrev WA (C : Ctx) (wx : WX) (g : Rg) (m : Mo (List D)) : TA := WW C wx (RA C g) m

section
variable {C : Ctx} {wx : WX} {α β γ δ : Type} {R : Hp → Hp → Hp → β → α → Prop} {m : Mo α} {F : Hp} {B : AS} {n : Int} {ds : DS} {σ : L2.St} {H : Hp} {Q Q' : β → Hp → Prop}
theorem WL.mono (h : WL C wx R m F B n ds σ H Q) (hQ : ∀ v H', Q v H' → Q' v H') : WL C wx R m F B n ds σ H Q' := by
  unfold WL at h ⊢
  cases e : m n ds with
  | none => rw [e] at h; exact h
  | some p =>
    rw [e] at h
    obtain ⟨o, n'⟩ := p
    cases o with
    | ok d => exact fun v F' H' g S r => hQ v H' (h v F' H' g S r)
    | ex c fs => exact h
theorem WL.bind {f : α → Mo γ} {R2 : Hp → Hp → Hp → δ → γ → Prop} {P : δ → Hp → Prop} (h : WL C wx R2 (mb m f) F B n ds σ H P)
    (tr : ∀ F1 H1 F2 H2 v d, GoC C.q F H F1 H1 → R2 H1 F2 H2 v d → R2 H F2 H2 v d) :
    WL C wx R m F B n ds σ H fun v H1 => ∃ F1 n1 d, GoC C.q F H F1 H1 ∧ Sim C F1 B σ H1 n1 ds ∧ R H F1 H1 v d ∧ WL C wx R2 (f d) F1 B n1 ds σ H1 P := by
  unfold WL at h ⊢
  cases e : m n ds with
  | none => simp only [mb, e] at h
  | some p =>
    obtain ⟨o, n'⟩ := p
    cases o with
    | ex c fs => simp only [mb, e] at h; exact h
    | ok d =>
      simp only [mb, e] at h
      intro v F1 H1 g S r
      refine ⟨F1, n', d, g, S, r, ?_⟩
      cases e2 : f d n' ds with
      | none => rw [e2] at h; exact h
      | some p2 =>
        rw [e2] at h
        obtain ⟨o2, n2⟩ := p2
        cases o2 with
        | ok d2 => exact fun v2 F2 H2 g2 S2 r2 => h v2 F2 H2 (g.trans g2) S2 (tr F1 H1 F2 H2 v2 d2 g r2)
        | ex c fs => exact fun F2 H2 od g2 S2 r2 => h F2 H2 od (g.trans g2) S2 (r2.tr g)
theorem RV.tr {g : Rg} {k : Nat} {F1 H1 F2 H2 : Hp} {v : V} {d : D} (G : GoC C.q F H F1 H1) (r : RV C g k H1 F2 H2 v d) : RV C g k H F2 H2 v d := by
  obtain ⟨A, r, f⟩ := r
  exact ⟨A, r, fun a ha => ⟨G.free (f a ha).1, (f a ha).2⟩⟩
theorem WW.imp {t : L2.St → Hp → (β → Hp → Prop) → Prop} (h : ∀ F B n ds, Sim C F B σ H n ds → WL C wx R m F B n ds σ H Q → t σ H Q) (w : WW C wx R m σ H Q) : t σ H Q := by
  obtain ⟨F, B, n, ds, S, h2⟩ := w
  exact h F B n ds S h2
end

section
variable {X : Cx} {e : Expr} {es : List Expr}
theorem _root_.L2.PE.wk {t t' : TE} (h : PE X e t) (w : ∀ σ H Q, t' σ H Q → t σ H Q) : PE X e t' := ⟨fun pins s σ H Q I q => h.run pins s σ H Q I (w _ _ _ q)⟩
theorem _root_.L2.PT.wk {t t' : TT} (h : PT X e t) (w : ∀ σ H Q, t' σ H Q → t σ H Q) : PT X e t' := ⟨fun pins s σ H Q I q => h.run pins s σ H Q I (w _ _ _ q)⟩
theorem _root_.L2.PW.wk {t t' : TT} (h : PW X e t) (w : ∀ σ H Q, t' σ H Q → t σ H Q) : PW X e t' := ⟨fun whole pins s σ H Q I q => h.run whole pins s σ H Q I (w _ _ _ q)⟩
theorem _root_.L2.PA.wk {t t' : TA} (h : PA X es t) (w : ∀ σ H Q, t' σ H Q → t σ H Q) : PA X es t' := ⟨fun pos pins s σ H Q I q => h.run pos pins s σ H Q I (w _ _ _ q)⟩
theorem _root_.L2.PS.wk {st : Stmt} {t t' : TS} (h : PS X st t) (w : ∀ D σ H, t' D σ H → t D σ H) : PS X st t' := ⟨fun pins s σ H D I q => h.run pins s σ H D I (w _ _ _ q)⟩
theorem _root_.L2.PSs.wk {st : List Stmt} {t t' : TS} (h : PSs X st t) (w : ∀ D σ H, t' D σ H → t D σ H) : PSs X st t' := ⟨fun pins s σ H D I q => h.run pins s σ H D I (w _ _ _ q)⟩
end

/-! ### what a value's reckoning ends with -/
section
variable {C : Ctx} {wx : WX} {g : Rg} {k : Nat} {F : Hp} {B : AS} {n : Int} {ds : DS} {σ : L2.St} {H : Hp} {Q : VK} {d : D} {o : Option D}
theorem WL.retE {α β : Type} {R : Hp → Hp → Hp → β → α → Prop} {o : Option α} {Q : β → Hp → Prop} (h : WL C wx R (ret o) F B n ds σ H Q) : ∃ d, o = some d ∧ ∀ v F' H', GoC C.q F H F' H' → Sim C F' B σ H' n ds → R H F' H' v d → Q v H' := by
  unfold WL at h
  cases o with
  | none => exact h.elim
  | some d => exact ⟨d, rfl, h⟩
/-- a scalar -/
theorem WL.sc (S : Sim C F B σ H n ds) (h : WL C wx (RV C g k) (ret o) F B n ds σ H Q) : ∃ d, o = some d ∧ ∀ v, scV d = some v → Q v H := by
  obtain ⟨d, e, q⟩ := h.retE
  exact ⟨d, e, fun v hv => q v F H (GoC.refl S.fh) S ⟨fun _ => False, Rp.of_sc hv, Fr.no⟩⟩
/-- what is told as it stands -/
theorem WL.same {A : AS} (S : Sim C F B σ H n ds) (h : WL C wx (RV C g 0) (ret o) F B n ds σ H Q) : ∃ d, o = some d ∧ ∀ v, Rp C.K (rg C.q g F H) H 0 v d A → Q v H := by
  obtain ⟨d, e, q⟩ := h.retE
  exact ⟨d, e, fun v hv => q v F H (GoC.refl S.fh) S ⟨fun _ => False, hv.z, Fr.no⟩⟩
end

/-! ### names, constants -/
def mVar (i : Nat) : M := fun n ds => match ds[i]? with
  | some (some d) => some (.ok d, n)
  | _ => none
section
variable {X : Cx} {C : Ctx} {wx : WX} {g : Rg} {k : Nat} {e : Expr}
theorem ve_var {i : Nat} (h : PE X e (tVar i)) (hT : C.T i = 0 ∨ g = .bo) : PE X e (W C wx g 0 (mVar i)) := by
  refine h.wk fun σ H Q w => w.imp fun F B n ds S h => ?_
  unfold WL mVar at h
  cases e : ds[i]? with
  | none => rw [e] at h; exact h.elim
  | some x =>
    cases x with
    | none => rw [e] at h; exact h.elim
    | some d =>
      rw [e] at h
      obtain ⟨A, h1, h2, h3⟩ := S.rep
      obtain ⟨v, hv, r⟩ := h1 i d e
      refine ⟨v, hv, h v F H (GoC.refl S.fh) S ⟨fun _ => False, ?_, Fr.no⟩⟩
      rcases hT with hT | hT
      · rw [hT] at r; exact Rp.any S r
      · subst hT; exact Rp.read S r fun a ha => (h2 i a ha).2
def mC (d : D) : M := ret (some d)
theorem ve_c {v : V} {d : D} (h : PE X e (tC v)) (hd : scV d = some v) : PE X e (W C wx g k (mC d)) := by
  refine h.wk fun σ H Q w => w.imp fun F B n ds S h => ?_
  obtain ⟨d', e, q⟩ := h.sc S
  cases e
  exact q v hd
theorem ve_int {i : Int} {j : Nat} {pos : Pos} : PE X (.Constant (.int i) j pos) (W C wx g k (mC (.int i))) := ve_c pe_int rfl
theorem ve_str {x : Str} {j : Nat} {pos : Pos} : PE X (.Constant (.str x) j pos) (W C wx g k (mC (.str x))) := ve_c pe_str rfl
theorem ve_bl {x : Bool} {j : Nat} {pos : Pos} : PE X (.Constant (.bool x) j pos) (W C wx g k (mC (.bl x))) := ve_c pe_bl rfl
theorem ve_non {j : Nat} {pos : Pos} : PE X (.Constant .none j pos) (W C wx g k (mC .non)) := ve_c pe_non rfl

/-! ### from one way of standing to another -/
theorem ve_bo {m : M} (h : PE X e (W C wx .fz k m)) : PE X e (W C wx .bo 0 m) := by
  refine h.wk fun σ H Q w => ?_
  obtain ⟨F, B, n, ds, S, h⟩ := w
  refine ⟨F, B, n, ds, S, ?_⟩
  unfold WL at h ⊢
  cases e : m n ds with
  | none => rw [e] at h; exact h
  | some p =>
    rw [e] at h
    obtain ⟨o, n'⟩ := p
    cases o with
    | ex c fs => exact h
    | ok d =>
      rintro v F' H' G S' ⟨A, r, f⟩
      exact h v F' H' G S' ⟨fun _ => False, Rp.read S' r fun a ha q => by
        have := (f a ha).1
        exact S.nq q this, Fr.no⟩
/-- a thing that is one's own is let stand -/
theorem W.frz {m : M} {σ : L2.St} {H : Hp} {Q : VK} (w : W C wx .fz 0 m σ H Q) : W C wx .fz k m σ H Q := by
  obtain ⟨F, B, n, ds, S, h⟩ := w
  refine ⟨F, B, n, ds, S, ?_⟩
  unfold WL at h ⊢
  cases e : m n ds with
  | none => rw [e] at h; exact h
  | some p =>
    rw [e] at h
    obtain ⟨o, n'⟩ := p
    cases o with
    | ex c fs => exact h
    | ok d =>
      rintro v F' H' G S' ⟨A, r, f⟩
      classical
      let G' : Hp := fun a => if A a then H' a else F' a
      have hA : ∀ a, A a → G' a = H' a := fun a ha => if_pos ha
      have hN : ∀ a, ¬ A a → G' a = F' a := fun a ha => if_neg ha
      have ff : Same F' G' := fun a o e => by
        by_cases ha : A a
        · rw [(f a ha).2.1] at e; cases e
        · rw [hN a ha]; exact e
      have fh : Same G' H' := fun a o e => by
        by_cases ha : A a
        · rw [hA a ha] at e; exact e
        · rw [hN a ha] at e; exact S'.fh a o e
      have g2 : GoC C.q F H G' H' := ⟨⟨G.go.ff.trans ff, fh, G.go.hh, G.go.ht, fun a o n e => by
        by_cases ha : A a
        · have := (f a ha).1; rw [e] at this; cases this
        · rw [hN a ha]; exact G.go.nf a o n e⟩, G.dm⟩
      have S2 : Sim C G' B σ H' n' ds := ⟨fh, fun a ha => ⟨by
          by_cases hA' : A a
          · obtain ⟨_, o, h2, _⟩ := S.bok a ha
            have := (f a hA').1
            rw [h2] at this; cases this
          · rw [hN a hA']; exact (S'.bok a ha).1, (S'.bok a ha).2⟩, S'.cell, S'.pin, S'.len, by
        obtain ⟨A2, h1, h2, h3⟩ := S'.rep
        exact ⟨A2, fun i d e => by
          obtain ⟨v, e1, r⟩ := h1 i d e
          exact ⟨v, e1, r.mono ff (fun _ _ e _ => e) fun _ _ _ e => e⟩, h2, h3⟩⟩
      exact h v G' H' g2 S2 ⟨fun _ => False, r.frz ff fun a o ha e => by rw [hA a ha]; exact e, Fr.no⟩
theorem ve_frz {m : M} (h : PE X e (W C wx .fz k m)) : PE X e (W C wx .fz 0 m) := h.wk fun σ H Q w => W.frz w
def mFlat (m : M) : M := mb m fun d => ret (if flat d = true then some d else none)
theorem ve_flat {m : M} (h : PE X e (W C wx .bo 0 m)) : PE X e (W C wx g k (mFlat m)) := by
  refine h.wk fun σ H Q w => ?_
  obtain ⟨F, B, n, ds, S, h⟩ := w
  refine ⟨F, B, n, ds, S, (h.bind fun F1 H1 F2 H2 v d G r => r.tr G).mono fun v H1 ⟨F1, n1, d, G, S1, ⟨A, r, f⟩, h1⟩ => ?_⟩
  obtain ⟨d', e1, q⟩ := h1.retE
  by_cases hf : flat d = true
  · rw [if_pos hf] at e1
    cases e1
    exact q v F1 H1 (GoC.refl S1.fh) S1 ⟨fun _ => False, r.flat_any hf _ _ _, Fr.no⟩
  · rw [if_neg hf] at e1; cases e1
end

/-! ### operators -/
section
variable {X : Cx} {C : Ctx} {wx : WX} {g : Rg} {k : Nat} {a b c e : Expr} {pos : Pos}
/-- two values, then what they make -/
def m2 (ma mc : M) (o : D → D → Option D) : M := mb ma fun x => mb mc fun y => ret (o x y)
def m1 (ma : M) (o : D → Option D) : M := mb ma fun x => ret (o x)
/-- an operation on values that gives a scalar: r allows it where o tells one -/
def OpS (K : PySem.W.Frag) (r : R2) (o : D → D → Option D) : Prop := ∀ (G H : Hp) (x y : V) (a b d : D) (A A' : AS), Same G H → Rp K G H 0 x a A → Rp K G H 0 y b A' → o a b = some d → ∃ v, scV d = some v ∧ ∀ Q : VK, Q v H → r x y H Q
def UnS (K : PySem.W.Frag) (r : V → Hp → VK → Prop) (o : D → Option D) : Prop := ∀ (G H : Hp) (x : V) (a d : D) (A : AS), Same G H → Rp K G H 0 x a A → o a = some d → ∃ v, scV d = some v ∧ ∀ Q : VK, Q v H → r x H Q
theorem tOp_of {ma mc : M} {r : R2} {o : D → D → Option D} (ho : OpS C.K r o) {σ : L2.St} {H : Hp} {Q : VK} (w : W C wx g k (m2 ma mc o) σ H Q) : tOp r (W C wx .bo 0 ma) (W C wx .bo 0 mc) σ H Q := by
  refine w.imp (t := fun σ H Q => tOp r _ _ σ H Q) fun F B n ds S h => ?_
  refine ⟨F, B, n, ds, S, (h.bind fun F1 H1 F2 H2 v d G r => r.tr G).mono fun x H1 ⟨F1, n1, da, G1, S1, ⟨A1, r1, f1⟩, h1⟩ => ?_⟩
  refine ⟨F1, B, n1, ds, S1, (h1.bind fun F1 H1 F2 H2 v d G r => r.tr G).mono fun y H2 ⟨F2, n2, db, G2, S2, ⟨A2, r2, f2⟩, h2⟩ => ?_⟩
  obtain ⟨d, e, q⟩ := h2.sc S2
  have r1' : Rp C.K (rg C.q .bo F2 H2) H2 0 x da (fun _ => False) := Rp.go0 (g := .bo) r1 G2
  obtain ⟨v, hv, hr⟩ := ho _ _ x y da db d _ _ (rg_same S2.fh) r1' r2 e
  exact hr Q (q v hv)
theorem ve_op {op : Operator} {ma mc : M} {r : R2} {o : D → D → Option D} (hr : OpR X (binaryOp op) r) (ho : OpS C.K r o) (ha : PE X a (W C wx .bo 0 ma)) (hb : PE X b (W C wx .bo 0 mc)) : PE X (.BinOp a op b pos) (W C wx g k (m2 ma mc o)) :=
  (pe_op hr ha hb).wk fun σ H Q w => tOp_of ho w
theorem ve_cmp {op : CmpOp} {ma mc : M} {r : R2} {o : D → D → Option D} (hr : OpR X (compareOp op) r) (ho : OpS C.K r o) (ha : PE X a (W C wx .bo 0 ma)) (hb : PE X b (W C wx .bo 0 mc)) (hm : behindInMarks op b = false) : PE X (.Compare a [op] [b] pos) (W C wx g k (m2 ma mc o)) :=
  (pe_cmpR hr ha hb hm).wk fun σ H Q w => tOp_of ho w
theorem tUn_of {ma : M} {r : V → Hp → VK → Prop} {o : D → Option D} (ho : UnS C.K r o) {σ : L2.St} {H : Hp} {Q : VK} (w : W C wx g k (m1 ma o) σ H Q) : tUn r (W C wx .bo 0 ma) σ H Q := by
  refine w.imp (t := fun σ H Q => tUn r _ σ H Q) fun F B n ds S h => ?_
  refine ⟨F, B, n, ds, S, (h.bind fun F1 H1 F2 H2 v d G r => r.tr G).mono fun x H1 ⟨F1, n1, da, G1, S1, ⟨A1, r1, f1⟩, h1⟩ => ?_⟩
  obtain ⟨d, e, q⟩ := h1.sc S1
  obtain ⟨v, hv, hr⟩ := ho _ _ x da d _ (rg_same S1.fh) r1 e
  exact hr Q (q v hv)
theorem ve_un {op : UnaryOp} {ma : M} {r : V → Hp → VK → Prop} {o : D → Option D} (hr : UnR X (unaryOp op) r) (ho : UnS C.K r o) (ha : PE X a (W C wx .bo 0 ma)) : PE X (.UnaryOp op a pos) (W C wx g k (m1 ma o)) :=
  (pe_un hr ha).wk fun σ H Q w => tUn_of ho w
end

/-! ### ints and texts -/
/-- a proposition's truth, not to be reckoned -/
noncomputable def dec (P : Prop) : Bool := @decide P (Classical.propDecidable P)
theorem dec_iff {P : Prop} : dec P = true ↔ P := by
  unfold dec; exact @decide_eq_true_iff P (Classical.propDecidable P)
theorem dec_of {P : Prop} (h : P) : dec P = true := dec_iff.mpr h
noncomputable def mulOk (i j : Int) : Bool := dec ((-18446744073709551616 < i ∧ i < 18446744073709551616) ∨ (-18446744073709551616 < j ∧ j < 18446744073709551616) ∨ i.natAbs.log2 + j.natAbs.log2 < 1000000)
noncomputable def divOk (j : Int) : Bool := dec (0 < j ∧ j.natAbs.log2 < 9000)
noncomputable def powOk (i j : Int) : Bool := dec (0 ≤ j ∧ j ≤ 1000000 ∧ i.natAbs < 18446744073709551616)
def oAdd : D → D → Option D
  | .int i, .int j => some (.int (i + j))
  | .str x, .str y => if x.length + y.length ≤ sizeLine then some (.str (x ++ y)) else none
  | _, _ => none
def oSub : D → D → Option D
  | .int i, .int j => some (.int (i - j))
  | _, _ => none
noncomputable def oMul : D → D → Option D
  | .int i, .int j => if mulOk i j = true then some (.int (i * j)) else none
  | _, _ => none
noncomputable def oDiv : D → D → Option D
  | .int i, .int j => if divOk j = true then some (.int (i / j)) else none
  | _, _ => none
def oMod : D → D → Option D
  | .int i, .int j => if 0 < j then some (.int (i % j)) else none
  | _, _ => none
noncomputable def oPow : D → D → Option D
  | .int i, .int j => if powOk i j = true then some (.int (i ^ j.toNat)) else none
  | _, _ => none
def oNeg : D → Option D
  | .int i => some (.int (-i))
  | _ => none
def rAddIS : R2 := fun x y H Q => (rI0 fun i j => .int (i + j)) x y H Q ∨ (fun x y H Q => ∃ i j, x = .str i ∧ y = .str j ∧ i.length + j.length ≤ sizeLine ∧ Q (.str (i ++ j)) H : R2) x y H Q
def rMulW : R2 := fun x y H Q => (rI CMul fun i j => .int (i * j)) x y H Q ∨ (rI CMulW fun i j => .int (i * j)) x y H Q
section
variable {K : PySem.W.Frag} {X : Cx}
theorem op_addIS : OpR X (binaryOp .Add) rAddIS := op_add.or op_add_str
theorem op_mulIW : OpR X (binaryOp .Mult) rMulW := op_mul.or op_mulW
theorem os_add : OpS K rAddIS oAdd := by
  intro G H x y a b d A A' hs ra rb e
  unfold oAdd at e
  split at e
  · cases e
    exact ⟨_, rfl, fun Q q => .inl ⟨_, _, ra.int_, rb.int_, q⟩⟩
  · split at e
    · rename_i hl
      cases e
      exact ⟨_, rfl, fun Q q => .inr ⟨_, _, ra.str_, rb.str_, hl, q⟩⟩
    · cases e
  · cases e
theorem os_sub : OpS K (rI0 fun i j => .int (i - j)) oSub := by
  intro G H x y a b d A A' hs ra rb e
  unfold oSub at e
  split at e
  · cases e
    exact ⟨_, rfl, fun Q q => ⟨_, _, ra.int_, rb.int_, q⟩⟩
  · cases e
theorem os_mul : OpS K rMulW oMul := by
  intro G H x y a b d A A' hs ra rb e
  unfold oMul at e
  split at e
  · split at e
    · rename_i hl
      cases e
      refine ⟨_, rfl, fun Q q => ?_⟩
      unfold mulOk at hl
      rcases dec_iff.mp hl with hl | hl | hl
      · exact .inl ⟨_, _, ra.int_, rb.int_, .inl ⟨by omega, by omega⟩, q⟩
      · exact .inl ⟨_, _, ra.int_, rb.int_, .inr ⟨by omega, by omega⟩, q⟩
      · exact .inr ⟨_, _, ra.int_, rb.int_, (hl : _ + _ < 1000000), q⟩
    · cases e
  · cases e
theorem divOk.ok {i j : Int} (h : divOk j = true) : CDivW i j := by
  unfold divOk at h
  exact dec_iff.mp h
theorem os_div : OpS K (rI CDivW fun i j => .int (i / j)) oDiv := by
  intro G H x y a b d A A' hs ra rb e
  unfold oDiv at e
  split at e
  · split at e
    · rename_i hl
      cases e
      exact ⟨_, rfl, fun Q q => ⟨_, _, ra.int_, rb.int_, divOk.ok hl, q⟩⟩
    · cases e
  · cases e
theorem os_mod : OpS K (rI (fun _ j => 0 < j) fun i j => .int (i % j)) oMod := by
  intro G H x y a b d A A' hs ra rb e
  unfold oMod at e
  split at e
  · split at e
    · rename_i hl
      cases e
      exact ⟨_, rfl, fun Q q => ⟨_, _, ra.int_, rb.int_, hl, q⟩⟩
    · cases e
  · cases e
theorem os_pow : OpS K (rI CPow fun i j => .int (i ^ j.toNat)) oPow := by
  intro G H x y a b d A A' hs ra rb e
  unfold oPow at e
  split at e
  · split at e
    · rename_i hl
      cases e
      unfold powOk at hl
      have hl := dec_iff.mp hl
      exact ⟨_, rfl, fun Q q => ⟨_, _, ra.int_, rb.int_, ⟨hl.1, hl.2.1, by have := hl.2.2; omega⟩, q⟩⟩
    · cases e
  · cases e
theorem us_neg : UnS K (rU fun i => .int (-i)) oNeg := by
  intro G H x a d A hs ra e
  unfold oNeg at e
  split at e
  · cases e
    exact ⟨_, rfl, fun Q q => ⟨_, ra.int_, q⟩⟩
  · cases e
/-! ### comparisons -/
def oCmp (p : Int → Int → Bool) : D → D → Option D
  | .int i, .int j => some (.bl (p i j))
  | _, _ => none
theorem os_cmp {p : Int → Int → Bool} : OpS K (rI0 fun i j => .bl (p i j)) (oCmp p) := by
  intro G H x y a b d A A' hs ra rb e
  unfold oCmp at e
  split at e
  · cases e
    exact ⟨_, rfl, fun Q q => ⟨_, _, ra.int_, rb.int_, q⟩⟩
  · cases e
def oLt := oCmp fun i j => decide (i < j)
def oLe := oCmp fun i j => decide (i ≤ j)
def oGt := oCmp fun i j => decide (j < i)
def oGe := oCmp fun i j => decide (j ≤ i)
/-- == of scalars -/
def oEq (a b : D) : Option D := match scV a, scV b with
  | some x, some y => if scal x y = true then some (.bl (decide (x = y))) else none
  | _, _ => none
def oNe (a b : D) : Option D := match scV a, scV b with
  | some x, some y => if scal x y = true then some (.bl (!decide (x = y))) else none
  | _, _ => none
theorem os_eq : OpS K rEq oEq := by
  intro G H x y a b d A A' hs ra rb e
  unfold oEq at e
  split at e
  · rename_i x' y' h1 h2
    split at e
    · rename_i hl
      cases e
      have e1 := ra.sc h1
      have e2 := rb.sc h2
      subst e1 e2
      exact ⟨_, rfl, fun Q q => ⟨hl, q⟩⟩
    · cases e
  · cases e
theorem os_ne : OpS K rNe oNe := by
  intro G H x y a b d A A' hs ra rb e
  unfold oNe at e
  split at e
  · rename_i x' y' h1 h2
    split at e
    · rename_i hl
      cases e
      have e1 := ra.sc h1
      have e2 := rb.sc h2
      subst e1 e2
      exact ⟨_, rfl, fun Q q => ⟨hl, q⟩⟩
    · cases e
  · cases e
def isNon : D → Bool
  | .non => true
  | _ => false
theorem Rp.isNon {G H : Hp} {k : Nat} {x : V} {a : D} {A : AS} (r : Rp K G H k x a A) : decide (x = .non) = isNon a := by
  cases r <;> simp [GW.isNon]
def oIs (a b : D) : Option D := if isNon b = true then some (.bl (isNon a)) else none
def oIsNot (a b : D) : Option D := if isNon b = true then some (.bl (!isNon a)) else none
theorem isNon_eq {b : D} (h : isNon b = true) : b = .non := by
  cases b <;> simp [isNon] at h
  rfl
theorem os_is : OpS K (fun x y H Q => y = .non ∧ Q (.bl (decide (x = .non))) H) oIs := by
  intro G H x y a b d A A' hs ra rb e
  unfold oIs at e
  split at e
  · rename_i hl
    cases e
    have hb := isNon_eq hl
    subst hb
    exact ⟨_, rfl, fun Q q => ⟨rb.non_, by rw [ra.isNon]; exact q⟩⟩
  · cases e
theorem os_isnot : OpS K (fun x y H Q => y = .non ∧ Q (.bl (!decide (x = .non))) H) oIsNot := by
  intro G H x y a b d A A' hs ra rb e
  unfold oIsNot at e
  split at e
  · rename_i hl
    cases e
    have hb := isNon_eq hl
    subst hb
    exact ⟨_, rfl, fun Q q => ⟨rb.non_, by rw [ra.isNon]; exact q⟩⟩
  · cases e
end
end GW

namespace GW
open PySem L2

theorem RV_of0 {C : Ctx} {g : Rg} {k : Nat} {H F' H' : Hp} {v : V} {d : D} (r : Rp C.K (rg C.q g F' H') H' k v d (fun _ => False)) : RV C g k H F' H' v d := ⟨_, r, Fr.no⟩

/-! ### tests -/
def mTest (m : M) : Mo Bool := mb m fun d => ret (match d with | .bl b => some b | _ => none)
section
variable {X : Cx} {C : Ctx} {wx : WX} {g : Rg} {k : Nat} {a b c e : Expr} {es : List Expr} {pos : Pos} {ma mc m : M} {ta tc : Mo Bool}
theorem test_bl {d : D} {b : Bool} (h : (match d with | .bl b => some b | _ => none) = some b) : d = .bl b := by
  cases d <;> first | (cases h; rfl) | cases h
theorem tB_of {t : TE} (ht : ∀ σ H Q, W C wx .bo 0 m σ H Q → t σ H Q) {σ : L2.St} {H : Hp} {Q : Bool → Hp → Prop} (w : WT C wx (mTest m) σ H Q) : t σ H fun x H1 => ∃ c, x = .bl c ∧ Q c H1 := by
  refine ht _ _ _ ?_
  obtain ⟨F, B, n, ds, S, h⟩ := w
  refine ⟨F, B, n, ds, S, (h.bind fun F1 H1 F2 H2 v d G r => r).mono fun x H1 ⟨F1, n1, d, G1, S1, ⟨A1, r1, f1⟩, h1⟩ => ?_⟩
  obtain ⟨b, e, q⟩ := h1.retE
  have := test_bl e
  subst this
  exact ⟨b, r1.bl_, q b F1 H1 (GoC.refl S1.fh) S1 rfl⟩
theorem vt_val (h : PE X e (W C wx .bo 0 m)) (he : ∀ whole, isTrue e X.env whole = (do let v ← whole; standAt e.pos; holding [v] (truthy v)) := by intro _; rfl) : PT X e (WT C wx (mTest m)) :=
  (pt_val h he).wk fun σ H Q w => tB_of (t := W C wx .bo 0 m) (fun _ _ _ z => z) w
theorem vt_cmp {op : CmpOp} {r : R2} {o : D → D → Option D} (hr : OpR X (compareOp op) r) (ho : OpS C.K r o) (ha : PE X a (W C wx .bo 0 ma)) (hb : PE X b (W C wx .bo 0 mc)) (hm : behindInMarks op b = false) : PT X (.Compare a [op] [b] pos) (WT C wx (mTest (m2 ma mc o))) :=
  (pt_cmpR hr ha hb hm).wk fun σ H Q w => tB_of (t := tOp r _ _) (fun _ _ _ z => tOp_of ho z) w
def mNot (t : Mo Bool) : Mo Bool := mb t fun b => ret (some (!b))
theorem vt_not (h : PT X a (WT C wx ta)) : PT X (.UnaryOp .Not a pos) (WT C wx (mNot ta)) := by
  refine (pt_not h).wk fun σ H Q w => ?_
  obtain ⟨F, B, n, ds, S, h⟩ := w
  refine ⟨F, B, n, ds, S, (h.bind fun F1 H1 F2 H2 v d G r => r).mono fun x H1 ⟨F1, n1, d, G1, S1, r1, h1⟩ => ?_⟩
  obtain ⟨b, e, q⟩ := h1.retE
  cases e
  have r1 : x = d := r1
  subst r1
  exact q _ F1 H1 (GoC.refl S1.fh) S1 rfl
def mAnd (t u : Mo Bool) : Mo Bool := mb t fun b => match b with | true => u | false => ret (some false)
def mOr (t u : Mo Bool) : Mo Bool := mb t fun b => match b with | true => ret (some true) | false => u
theorem vw_one_and (h : PT X a (WT C wx ta)) : PW X (.BoolOp .And [a] pos) (WT C wx ta) := pw_and1 h
theorem vw_one_or (h : PT X a (WT C wx ta)) : PW X (.BoolOp .Or [a] pos) (WT C wx ta) := pw_or1 h
theorem vw_and {rest : List Expr} (ha : PT X a (WT C wx ta)) (hb : PW X (.BoolOp .And (b :: rest) pos) (WT C wx tc)) : PW X (.BoolOp .And (a :: b :: rest) pos) (WT C wx (mAnd ta tc)) := by
  refine (pw_and ha hb).wk fun σ H Q w => ?_
  obtain ⟨F, B, n, ds, S, h⟩ := w
  refine ⟨F, B, n, ds, S, (h.bind fun F1 H1 F2 H2 v d G r => r).mono fun x H1 ⟨F1, n1, d, G1, S1, r1, h1⟩ => ?_⟩
  have r1 : x = d := r1
  subst r1
  cases x with
  | true => rw [if_pos rfl]; exact ⟨F1, B, n1, ds, S1, h1⟩
  | false =>
    rw [if_neg Bool.false_ne_true]
    obtain ⟨b, e, q⟩ := h1.retE
    cases e
    exact q _ F1 H1 (GoC.refl S1.fh) S1 rfl
theorem vw_or {rest : List Expr} (ha : PT X a (WT C wx ta)) (hb : PW X (.BoolOp .Or (b :: rest) pos) (WT C wx tc)) : PW X (.BoolOp .Or (a :: b :: rest) pos) (WT C wx (mOr ta tc)) := by
  refine (pw_or ha hb).wk fun σ H Q w => ?_
  obtain ⟨F, B, n, ds, S, h⟩ := w
  refine ⟨F, B, n, ds, S, (h.bind fun F1 H1 F2 H2 v d G r => r).mono fun x H1 ⟨F1, n1, d, G1, S1, r1, h1⟩ => ?_⟩
  have r1 : x = d := r1
  subst r1
  cases x with
  | false => rw [if_neg Bool.false_ne_true]; exact ⟨F1, B, n1, ds, S1, h1⟩
  | true =>
    rw [if_pos rfl]
    obtain ⟨b, e, q⟩ := h1.retE
    cases e
    exact q _ F1 H1 (GoC.refl S1.fh) S1 rfl
/-- truth of any value -/
def oTru : D → Option Bool
  | .non => some false
  | .bl b => some b
  | .int i => some (i != 0)
  | .str x => if x.length ≤ sizeLine then some ((x.length : Int) != 0) else none
  | .tup ds => some (!ds.isEmpty)
  | .lst ds => some (!ds.isEmpty)
  | _ => none
theorem isEmpty_len {α β : Type} {xs : List α} {ys : List β} (h : xs.length = ys.length) : xs.isEmpty = ys.isEmpty := by
  cases xs <;> cases ys <;> simp at h ⊢
theorem tru_of {K : PySem.W.Frag} {G H : Hp} {x : V} {d : D} {A : AS} {b : Bool} (s : Same G H) (r : Rp K G H 0 x d A) (e : oTru d = some b) : TruV K x H b := by
  cases r with
  | non => cases e; rfl
  | bl => cases e; rfl
  | int => cases e; rfl
  | str =>
    simp only [oTru] at e
    split at e
    · rename_i h; cases e; exact ⟨h, rfl⟩
    · cases e
  | tup h l c => cases e; exact .inr (.inl ⟨_, h, by rw [isEmpty_len l]⟩)
  | lst h l c => cases e; exact .inl ⟨_, sqL_mono h s, by rw [isEmpty_len l]⟩
  | dct => cases e
  | obj => cases e
  | err => cases e
def mTru (m : M) : Mo Bool := mb m fun d => ret (oTru d)
theorem vt_tru (h : PE X e (W C wx .bo 0 m)) (he : ∀ whole, isTrue e X.env whole = (do let v ← whole; standAt e.pos; holding [v] (truthy v)) := by intro _; rfl) (hK : X.K = C.K := by rfl) : PT X e (WT C wx (mTru m)) := by
  refine (pt_truth h he).wk fun σ H Q w => ?_
  obtain ⟨F, B, n, ds, S, h⟩ := w
  refine ⟨F, B, n, ds, S, (h.bind fun F1 H1 F2 H2 v d G r => r).mono fun x H1 ⟨F1, n1, d, G1, S1, ⟨A1, r1, f1⟩, h1⟩ => ?_⟩
  obtain ⟨b, e, q⟩ := h1.retE
  exact ⟨b, by rw [hK]; exact tru_of (rg_same S1.fh) r1 e, q b F1 H1 (GoC.refl S1.fh) S1 rfl⟩
/-! ### bools as values -/
def mAndV (ma mc : M) : M := mb ma fun d => match d with | .bl true => mc | .bl false => ret (some (.bl false)) | _ => ret none
def mOrV (ma mc : M) : M := mb ma fun d => match d with | .bl true => ret (some (.bl true)) | .bl false => mc | _ => ret none
theorem ve_one {op : BoolOp} (h : PE X a (W C wx g k m)) : PE X (.BoolOp op [a] pos) (W C wx g k m) := pe_one h

theorem ve_and {rest : List Expr} (ha : PE X a (W C wx .bo 0 ma)) (hb : PE X (.BoolOp .And (b :: rest) pos) (W C wx g k mc)) : PE X (.BoolOp .And (a :: b :: rest) pos) (W C wx g k (mAndV ma mc)) := by
  refine (pe_and ha hb).wk fun σ H Q w => ?_
  obtain ⟨F, B, n, ds, S, h⟩ := w
  refine ⟨F, B, n, ds, S, (h.bind fun F1 H1 F2 H2 v d G r => r.tr G).mono fun x H1 ⟨F1, n1, d, G1, S1, ⟨A1, r1, f1⟩, h1⟩ => ?_⟩
  cases d with
  | bl b =>
    refine ⟨b, r1.bl_, ?_⟩
    cases b with
    | true => rw [if_pos rfl]; exact ⟨F1, B, n1, ds, S1, h1⟩
    | false =>
      rw [if_neg Bool.false_ne_true]
      obtain ⟨d, e, q⟩ := h1.sc S1
      cases e
      exact q _ rfl
  | _ => obtain ⟨d, e, q⟩ := h1.sc S1; cases e
theorem ve_or {rest : List Expr} (ha : PE X a (W C wx .bo 0 ma)) (hb : PE X (.BoolOp .Or (b :: rest) pos) (W C wx g k mc)) : PE X (.BoolOp .Or (a :: b :: rest) pos) (W C wx g k (mOrV ma mc)) := by
  refine (pe_or ha hb).wk fun σ H Q w => ?_
  obtain ⟨F, B, n, ds, S, h⟩ := w
  refine ⟨F, B, n, ds, S, (h.bind fun F1 H1 F2 H2 v d G r => r.tr G).mono fun x H1 ⟨F1, n1, d, G1, S1, ⟨A1, r1, f1⟩, h1⟩ => ?_⟩
  cases d with
  | bl b =>
    refine ⟨b, r1.bl_, ?_⟩
    cases b with
    | false => rw [if_neg Bool.false_ne_true]; exact ⟨F1, B, n1, ds, S1, h1⟩
    | true =>
      rw [if_pos rfl]
      obtain ⟨d, e, q⟩ := h1.sc S1
      cases e
      exact q _ rfl
  | _ => obtain ⟨d, e, q⟩ := h1.sc S1; cases e
def oNotV : D → Option D
  | .bl b => some (.bl (!b))
  | _ => none
theorem ve_not (ha : PE X a (W C wx .bo 0 ma)) : PE X (.UnaryOp .Not a pos) (W C wx g k (m1 ma oNotV)) := by
  refine (pe_not ha).wk fun σ H Q w => ?_
  obtain ⟨F, B, n, ds, S, h⟩ := w
  refine ⟨F, B, n, ds, S, (h.bind fun F1 H1 F2 H2 v d G r => r.tr G).mono fun x H1 ⟨F1, n1, d, G1, S1, ⟨A1, r1, f1⟩, h1⟩ => ?_⟩
  obtain ⟨d', e, q⟩ := h1.sc S1
  cases d with
  | bl b => cases e; exact ⟨b, r1.bl_, q _ rfl⟩
  | _ => cases e
/-- a if t else b -/
def mIf (t : Mo Bool) (ma mc : M) : M := mb t fun b => match b with | true => ma | false => mc
theorem ve_if (hc : PT X c (WT C wx ta)) (ha : PE X a (W C wx g k ma)) (hb : PE X b (W C wx g k mc)) : PE X (.IfExp c a b pos) (W C wx g k (mIf ta ma mc)) := by
  refine (pe_ifExp hc ha hb).wk fun σ H Q w => ?_
  obtain ⟨F, B, n, ds, S, h⟩ := w
  refine ⟨F, B, n, ds, S, (h.bind fun F1 H1 F2 H2 v d G r => r.tr G).mono fun x H1 ⟨F1, n1, d, G1, S1, r1, h1⟩ => ?_⟩
  have r1 : x = d := r1
  subst r1
  cases x with
  | true => rw [if_pos rfl]; exact ⟨F1, B, n1, ds, S1, h1⟩
  | false => rw [if_neg Bool.false_ne_true]; exact ⟨F1, B, n1, ds, S1, h1⟩
/-- a op1 b op2 c -/
def m3c (ma mc md : M) (o o' : D → D → Option D) : M := mb ma fun x => mb mc fun y => mb (ret (o x y)) fun z => match z with | .bl true => mb md fun w => ret (o' y w) | .bl false => ret (some (.bl false)) | _ => ret none
theorem tChain_of {md : M} {r r' : R2} {o o' : D → D → Option D} (ho : OpS C.K r o) (ho' : OpS C.K r' o') {σ : L2.St} {H : Hp} {Q : VK} (w : W C wx g k (m3c ma mc md o o') σ H Q) : tChain r r' (W C wx .bo 0 ma) (W C wx .bo 0 mc) (W C wx .bo 0 md) σ H Q := by
  obtain ⟨F, B, n, ds, S, h⟩ := w
  refine ⟨F, B, n, ds, S, (h.bind fun F1 H1 F2 H2 v d G r => r.tr G).mono fun x H1 ⟨F1, n1, da, G1, S1, ⟨A1, r1, f1⟩, h1⟩ => ?_⟩
  refine ⟨F1, B, n1, ds, S1, (h1.bind fun F1 H1 F2 H2 v d G r => r.tr G).mono fun y H2 ⟨F2, n2, db, G2, S2, ⟨A2, r2, f2⟩, h2⟩ => ?_⟩
  have h3 := h2.bind (β := V) (R := RV C .bo 0) fun F1 H1 F2 H2 v d G r => r.tr G
  obtain ⟨dz, ez, qz⟩ := h3.retE
  obtain ⟨v, hv, hr⟩ := ho _ _ x y da db dz _ _ (rg_same S2.fh) (Rp.go0 (A' := fun _ => False) r1 G2) r2 ez
  refine hr _ ?_
  obtain ⟨F3, n3, d3, G3, S3, ⟨A3, r3, f3⟩, h4⟩ := qz v F2 H2 (GoC.refl S2.fh) S2 ⟨fun _ => False, Rp.of_sc hv, Fr.no⟩
  cases d3 with
  | bl kk =>
    refine ⟨kk, r3.bl_, ?_⟩
    cases kk with
    | true =>
      rw [if_pos rfl]
      refine ⟨F3, B, n3, ds, S3, (h4.bind fun F1 H1 F2 H2 v d G r => r.tr G).mono fun z H4 ⟨F4, n4, d4, G4, S4, ⟨A4, r4, f4⟩, h5⟩ => ?_⟩
      obtain ⟨d5, e5, q5⟩ := h5.sc S4
      obtain ⟨v5, hv5, hr5⟩ := ho' _ _ y z db d4 d5 _ _ (rg_same S4.fh) (Rp.go0 (A' := fun _ => False) r2 (G3.trans G4)) r4 e5
      exact hr5 Q (q5 v5 hv5)
    | false =>
      rw [if_neg Bool.false_ne_true]
      obtain ⟨d5, e5, q5⟩ := h4.sc S3
      cases e5
      exact q5 _ rfl
  | _ => obtain ⟨d5, e5, q5⟩ := h4.sc S3; cases e5
end
end GW

namespace GW
open PySem L2
section
variable {X : Cx} {C : Ctx} {wx : WX} {g : Rg} {k : Nat} {a b c e : Expr} {es : List Expr} {pos : Pos} {ma mc md m : M} {ta tc : Mo Bool}
theorem ve_chain {op op' : CmpOp} {r r' : R2} {o o' : D → D → Option D} (hr : OpR X (compareOp op) r) (ho : OpS C.K r o) (hr' : OpR X (compareOp op') r') (ho' : OpS C.K r' o') (ha : PE X a (W C wx .bo 0 ma)) (hb : PE X b (W C wx .bo 0 mc)) (hc : PE X c (W C wx .bo 0 md))
    (hm : lastMarks [op, op'] [b, c] = false := by with_unfolding_all rfl) : PE X (.Compare a [op, op'] [b, c] pos) (W C wx g k (m3c ma mc md o o')) :=
  (pe_chain hr hr' ha hb hc hm).wk fun σ H Q w => tChain_of ho ho' w
theorem vt_chain {op op' : CmpOp} {r r' : R2} {o o' : D → D → Option D} (hr : OpR X (compareOp op) r) (ho : OpS C.K r o) (hr' : OpR X (compareOp op') r') (ho' : OpS C.K r' o') (ha : PE X a (W C wx .bo 0 ma)) (hb : PE X b (W C wx .bo 0 mc)) (hc : PE X c (W C wx .bo 0 md))
    (hm : lastMarks [op, op'] [b, c] = false := by with_unfolding_all rfl) : PT X (.Compare a [op, op'] [b, c] pos) (WT C wx (mTest (m3c ma mc md o o'))) :=
  (pt_chain hr hr' ha hb hc hm).wk fun σ H Q w => tB_of (t := tChain r r' _ _ _) (fun _ _ _ z => tChain_of ho ho' z) w

/-! ### arguments -/
def mCons (m : M) (ms : Mo (List D)) : Mo (List D) := mb m fun d => mb ms fun ds => ret (some (d :: ds))
theorem RpL.nil {K : PySem.W.Frag} {G H : Hp} : RpL K G H [] [] := ⟨rfl, fun i v d h => by simp at h⟩
theorem RpL.cons {K : PySem.W.Frag} {G H : Hp} {v : V} {vs : List V} {d : D} {ds : List D} {A : AS} (r : Rp K G H 0 v d A) (h : RpL K G H vs ds) : RpL K G H (v :: vs) (d :: ds) := by
  refine ⟨by simp [h.1], fun i v' d' h1 h2 => ?_⟩
  cases i with
  | zero =>
    simp only [List.getElem?_cons_zero, Option.some.injEq] at h1 h2
    subst h1 h2
    exact r.z
  | succ i => exact h.2 i v' d' (by simpa using h1) (by simpa using h2)
theorem va_nil : PA X [] (WA C wx g (ret (some []))) := by
  refine pa_nil.wk fun σ H Q w => ?_
  obtain ⟨F, B, n, ds, S, h⟩ := w
  obtain ⟨d, e, q⟩ := h.retE
  cases e
  exact q [] F H (GoC.refl S.fh) S RpL.nil
theorem va_cons {ms : Mo (List D)} (ha : PE X e (W C wx g 0 m)) (hr : PA X es (WA C wx g ms)) (hs : starEach (e :: es) X.env = (false, eval e X.env) :: starEach es X.env := by rfl) : PA X (e :: es) (WA C wx g (mCons m ms)) := by
  refine (pa_cons ha hr hs).wk fun σ H Q w => ?_
  obtain ⟨F, B, n, ds, S, h⟩ := w
  refine ⟨F, B, n, ds, S, (h.bind fun F1 H1 F2 H2 v d G r => r).mono fun x H1 ⟨F1, n1, d, G1, S1, ⟨A1, r1, f1⟩, h1⟩ => ?_⟩
  refine ⟨F1, B, n1, ds, S1, (h1.bind fun F1 H1 F2 H2 v d G r => r).mono fun xs H2 ⟨F2, n2, d2, G2, S2, r2, h2⟩ => ?_⟩
  obtain ⟨d3, e3, q⟩ := h2.retE
  cases e3
  exact q (x :: xs) F2 H2 (GoC.refl S2.fh) S2 (RpL.cons (r1.go0 (A' := fun _ => False) G2) r2)

/-! ### displays -/
theorem rg_self {q : Option Addr} {F H : Hp} {p : Addr} {o : HO} (hq : q ≠ some p) : rg q .bo F (upd H p o) p = some o := by
  show (if q = some p then none else upd H p o p) = some o
  rw [if_neg hq, upd_same]
/-- a new object of one's own -/
theorem Sim.newO {F H : Hp} {B : AS} {σ : L2.St} {n : Int} {ds : DS} {p : Addr} {o : HO} (S : Sim C F B σ H n ds) (hp : H p = none) : GoC C.q F H F (upd H p o) ∧ Sim C F B σ (upd H p o) n ds :=
  ⟨GoC.newO S.fh hp, S.go0 (GoC.newO S.fh hp)⟩
theorem Sim.nqp {F H : Hp} {B : AS} {σ : L2.St} {n : Int} {ds : DS} {p : Addr} (S : Sim C F B σ H n ds) (hp : H p = none) : C.q ≠ some p := fun e => S.nq e hp
theorem Fr.one {F H : Hp} {p : Addr} {o : HO} (fh : Same F H) (hp : H p = none) (ho : Mk o = true) : Fr F H (upd H p o) (fun a => a = p) := fun a ha => by
  subst ha
  refine ⟨hp, ?_, o, upd_same, ho⟩
  cases e : F a with
  | none => exact Eq.refl _
  | some u => have := fh a u e; rw [hp] at this; cases this
def mTup (ms : Mo (List D)) : M := mb ms fun ds => ret (if ds.length ≤ 16777216 then some (.tup ds) else none)
theorem ve_tup {x1 : Nat} {ms : Mo (List D)} (h : PA X es (WA C wx g ms)) : PE X (.Tuple es x1 pos) (W C wx g k (mTup ms)) := by
  refine (pe_tup h).wk fun σ H Q w => ?_
  obtain ⟨F, B, n, ds, S, h⟩ := w
  refine ⟨F, B, n, ds, S, (h.bind fun F1 H1 F2 H2 v d G r => r.tr G).mono fun xs H1 ⟨F1, n1, d, G1, S1, r1, h1⟩ => ?_⟩
  obtain ⟨d2, e2, q⟩ := h1.retE
  split at e2
  · rename_i hl
    cases e2
    refine ⟨by rw [sizeLine_eq, r1.1]; exact hl, fun p hp => ?_⟩
    obtain ⟨G2, S2⟩ := S1.newO (o := .tup xs) hp
    refine q (.ref p) F1 _ G2 S2 (RV_of0 (.tup (.inl (.inl upd_same)) r1.1 fun i v d a b => ?_))
    exact Rp.go0 (r1.2 i v d a b) G2
  · cases e2
def mLst (ms : Mo (List D)) : M := mb ms fun ds => ret (if ds.length ≤ 16777216 then some (.lst ds) else none)
/-- a list display: one's own | to be read now -/
theorem ve_lst1 {ms : Mo (List D)} (h : PA X es (WA C wx .fz ms)) : PE X (.List es pos) (W C wx .fz 1 (mLst ms)) := by
  refine (pe_lst h).wk fun σ H Q w => ?_
  obtain ⟨F, B, n, ds, S, h⟩ := w
  refine ⟨F, B, n, ds, S, (h.bind fun F1 H1 F2 H2 v d G r => r.tr G).mono fun xs H1 ⟨F1, n1, d, G1, S1, r1, h1⟩ => ?_⟩
  obtain ⟨d2, e2, q⟩ := h1.retE
  split at e2
  · rename_i hl
    cases e2
    refine ⟨by rw [sizeLine_eq, r1.1]; exact hl, fun p hp => ?_⟩
    obtain ⟨G2, S2⟩ := S1.newO (o := .lst xs) hp
    refine q (.ref p) F1 _ G2 S2 ⟨fun a => a = p, .lstO (fun _ _ => False) upd_same rfl r1.1 (fun i v d a b => ?_) (fun _ _ h => h.elim) (fun _ _ _ h => h.elim), Fr.one S1.fh hp rfl⟩
    exact Rp.go0 (g := .fz) (r1.2 i v d a b) G2
  · cases e2
theorem ve_lstb {ms : Mo (List D)} (h : PA X es (WA C wx .bo ms)) : PE X (.List es pos) (W C wx .bo 0 (mLst ms)) := by
  refine (pe_lst h).wk fun σ H Q w => ?_
  obtain ⟨F, B, n, ds, S, h⟩ := w
  refine ⟨F, B, n, ds, S, (h.bind fun F1 H1 F2 H2 v d G r => r.tr G).mono fun xs H1 ⟨F1, n1, d, G1, S1, r1, h1⟩ => ?_⟩
  obtain ⟨d2, e2, q⟩ := h1.retE
  split at e2
  · rename_i hl
    cases e2
    refine ⟨by rw [sizeLine_eq, r1.1]; exact hl, fun p hp => ?_⟩
    obtain ⟨G2, S2⟩ := S1.newO (o := .lst xs) hp
    refine q (.ref p) F1 _ G2 S2 (RV_of0 (.lst (.inl (.inl (rg_self (S1.nqp hp)))) r1.1 fun i v d a b => ?_))
    exact Rp.go0 (g := .bo) (r1.2 i v d a b) G2
  · cases e2

/-! ### subscripts -/
/-- an operation whose answer is a part of the first thing -/
def OpG (K : PySem.W.Frag) (r : R2) (o : D → D → Option D) : Prop := ∀ (G G2 H : Hp) (x y : V) (a b d : D) (A A' : AS), Same G H → Rp K G H 0 x a A → Rp K G2 H 0 y b A' → o a b = some d → ∃ v, Rp K G H 0 v d (fun _ => False) ∧ ∀ Q : VK, Q v H → r x y H Q
theorem tOpG_of {r : R2} {o : D → D → Option D} (ho : OpG C.K r o) {σ : L2.St} {H : Hp} {Q : VK} (w : W C wx g 0 (m2 ma mc o) σ H Q) : tOp r (W C wx g 0 ma) (W C wx .bo 0 mc) σ H Q := by
  obtain ⟨F, B, n, ds, S, h⟩ := w
  refine ⟨F, B, n, ds, S, (h.bind fun F1 H1 F2 H2 v d G r => r.tr G).mono fun x H1 ⟨F1, n1, da, G1, S1, ⟨A1, r1, f1⟩, h1⟩ => ?_⟩
  refine ⟨F1, B, n1, ds, S1, (h1.bind fun F1 H1 F2 H2 v d G r => r.tr G).mono fun y H2 ⟨F2, n2, db, G2, S2, ⟨A2, r2, f2⟩, h2⟩ => ?_⟩
  obtain ⟨d, e, q⟩ := h2.retE
  obtain ⟨v, hv, hr⟩ := ho _ _ _ x y da db d _ _ (rg_same S2.fh) (Rp.go0 (g := g) (A' := fun _ => False) r1 G2) r2 e
  exact hr Q (q v F2 H2 (GoC.refl S2.fh) S2 (RV_of0 hv))
def oIx : D → D → Option D
  | .lst ds, .int i => atI ds i
  | .tup ds, .int i => atI ds i
  | .str x, .int i => if x.length ≤ sizeLine then (atI x.cps.toList i).map fun c => .str ⟨#[c]⟩ else none
  | _, _ => none
theorem atI_pair {vs : List V} {ds : List D} (h : vs.length = ds.length) {i : Int} {d : D} (e : atI ds i = some d) : ∃ (j : Nat) (v : V), atI vs i = some v ∧ vs[j]? = some v ∧ ds[j]? = some d := by
  unfold atI at e ⊢
  rw [h]
  cases hj : ixN ds.length i with
  | none => rw [hj] at e; cases e
  | some j =>
    rw [hj] at e
    have e' : ds[j]? = some d := e
    have hlt : j < ds.length := (List.getElem?_eq_some_iff.mp e').1
    exact ⟨j, vs[j]'(by omega), by show vs[j]? = _; simp [h, hlt], by simp [h, hlt], e'⟩
theorem og_ix {K : PySem.W.Frag} : OpG K (rIx K) oIx := by
  intro G G2 H x y a b d A A' hs ra rb e
  cases b with
  | int i =>
    have ey := rb.int_
    subst ey
    cases ra with
    | lst h l c =>
      obtain ⟨j, v, h1, h2, h3⟩ := atI_pair l e
      exact ⟨v, (c j v d h2 h3).z, fun Q q => .inl ⟨_, _, _, _, rfl, rfl, sqL_mono h hs, h1, q⟩⟩
    | tup h l c =>
      obtain ⟨j, v, h1, h2, h3⟩ := atI_pair l e
      exact ⟨v, (c j v d h2 h3).z, fun Q q => .inr (.inl ⟨_, _, _, _, rfl, rfl, h, h1, q⟩)⟩
    | str =>
      rename_i x
      simp only [oIx] at e
      split at e
      · rename_i hl
        cases hc : atI x.cps.toList i with
        | none => rw [hc] at e; cases e
        | some cc =>
          rw [hc] at e
          cases e
          exact ⟨_, .str, fun Q q => .inr (.inr ⟨_, _, _, rfl, rfl, hl, hc, q⟩)⟩
      · cases e
    | non => cases e
    | bl => cases e
    | int => cases e
    | dct => cases e
    | obj => cases e
    | err => cases e
  | _ => cases a <;> cases e
theorem ve_ix (ha : PE X a (W C wx g 0 ma)) (hb : PE X b (W C wx .bo 0 mc)) (hs : PlainIx b := by intro _ _; rfl) (hK : X.K = C.K := by rfl) : PE X (.Subscript a b pos) (W C wx g 0 (m2 ma mc oIx)) :=
  (pe_ix (by rw [← hK]; exact ix_seq) ha hb hs).wk fun σ H Q w => tOpG_of og_ix w
/-! ### d[k] of a dict -/
def keyD : D → Option Key
  | .int i => some (.inl i)
  | .str x => some (.inr x)
  | _ => none
def valD (kvs : List (Key × D)) (k : Key) : Option D := (kvs.find? fun kv => decide (kv.1 = k)).map (·.2)
def oDGet (a b : D) : Option D := match a, keyD b with
  | .dct kvs, some k => valD kvs k
  | _, _ => none
theorem val_pair {kvs : List (Key × V)} {kds : List (Key × D)} (h : kvs.map (·.1) = kds.map (·.1)) {k : Key} {d : D} (e : valD kds k = some d) : ∃ (j : Nat) (v : V), valV kvs k = some v ∧ (kvs.map (·.2))[j]? = some v ∧ (kds.map (·.2))[j]? = some d := by
  induction kds generalizing kvs with
  | nil => cases e
  | cons p r ih =>
    cases kvs with
    | nil => cases h
    | cons p' r' =>
      simp only [List.map_cons, List.cons.injEq] at h
      by_cases hk : p.1 = k
      · have e' : p.2 = d := by simp [valD, List.find?_cons, hk] at e; exact e
        refine ⟨0, p'.2, valV_pos (h.1.trans hk), by simp, by simp [e']⟩
      · have e' : valD r k = some d := by simp [valD, List.find?_cons, hk] at e ⊢; exact e
        obtain ⟨j, v, h1, h2, h3⟩ := ih h.2 e'
        exact ⟨j + 1, v, by rw [valV_neg (by rw [h.1]; exact hk)]; exact h1, by simpa using h2, by simpa using h3⟩
theorem key_rel {K : PySem.W.Frag} {G H : Hp} {y : V} {b : D} {A : AS} {k : Key} (r : Rp K G H 0 y b A) (e : keyD b = some k) : y = kV k := by
  cases b <;> simp [keyD] at e
  · subst e; exact r.int_
  · subst e; exact r.str_
theorem ve_dget (hu : X.A.units + 1 < cLine) (ha : PE X a (W C wx g 0 ma)) (hb : PE X b (W C wx .bo 0 mc)) (hs : NoSl b := by intro _ _; rfl) : PE X (.Subscript a b pos) (W C wx g 0 (m2 ma mc oDGet)) := by
  refine (pe_dget hu ha hb hs).wk fun σ H Q w => ?_
  obtain ⟨F, B, n, ds, S, h⟩ := w
  refine ⟨F, B, n, ds, S, (h.bind fun F1 H1 F2 H2 v d G r => r.tr G).mono fun x H1 ⟨F1, n1, da, G1, S1, ⟨A1, r1, f1⟩, h1⟩ => ?_⟩
  refine ⟨F1, B, n1, ds, S1, (h1.bind fun F1 H1 F2 H2 v d G r => r.tr G).mono fun y H2 ⟨F2, n2, db, G2, S2, ⟨A2, r2, f2⟩, h2⟩ => ?_⟩
  obtain ⟨d, e, q⟩ := h2.retE
  have r1' := Rp.go0 (g := g) (A' := fun _ => False) r1 G2
  cases hk : keyD db with
  | none => cases da <;> simp [oDGet, hk] at e
  | some kk =>
    cases r1' with
    | dct h l c =>
      simp only [oDGet, hk] at e
      obtain ⟨j, v, h1, h3, h4⟩ := val_pair l e
      have hy := key_rel r2 hk
      subst hy
      exact ⟨_, v, rfl, .inl ⟨_, kk, .inl (rg_same S2.fh _ _ h), rfl, h1.symm⟩, q v F2 H2 (GoC.refl S2.fh) S2 (RV_of0 (c j v d h3 h4))⟩
    | _ => simp [oDGet] at e
/-! ### attributes -/
def fldD (fs : List (Str × D)) (f : Str) : Option D := fs.lookup f
def oFld (C0 : Addr) (f : Str) : D → Option D
  | .obj C1 fs => if C1 = C0 then fs.lookup f else none
  | _ => none
theorem lookup_pair {fs : List (Str × V)} {fds : List (Str × D)} (h : fs.map (·.1) = fds.map (·.1)) {f : Str} {d : D} (e : fds.lookup f = some d) : ∃ (j : Nat) (v : V), fs.lookup f = some v ∧ (fs.map (·.2))[j]? = some v ∧ (fds.map (·.2))[j]? = some d := by
  induction fds generalizing fs with
  | nil => cases e
  | cons p r ih =>
    cases fs with
    | nil => cases h
    | cons p' r' =>
      obtain ⟨pk, pd⟩ := p
      obtain ⟨pk', pv⟩ := p'
      simp only [List.map_cons, List.cons.injEq] at h
      obtain ⟨h1, h2⟩ := h
      subst h1
      by_cases hk : f = pk'
      · subst hk
        rw [List.lookup_cons_self] at e
        cases e
        exact ⟨0, pv, List.lookup_cons_self, by simp, by simp⟩
      · have hb : (f == pk') = false := by simpa using hk
        rw [List.lookup_cons, hb] at e
        obtain ⟨j, v, h1, h3, h4⟩ := ih h2 e
        exact ⟨j + 1, v, by rw [List.lookup_cons, hb]; exact h1, by simpa using h3, by simpa using h4⟩
theorem ve_fld {C0 : Addr} {f : Str} (hc : Cls C.K C0) (hn : NoAttr C.K C0 f) (ha : PE X a (W C wx g 0 ma)) (hb : attributeBase a f X.env (eval a X.env) = eval a X.env := by rfl) (hK : X.K = C.K := by rfl) : PE X (.Attribute a f pos) (W C wx g 0 (m1 ma (oFld C0 f))) := by
  refine (pe_fld ha hb).wk fun σ H Q w => ?_
  obtain ⟨F, B, n, ds, S, h⟩ := w
  refine ⟨F, B, n, ds, S, (h.bind fun F1 H1 F2 H2 v d G r => r.tr G).mono fun x H1 ⟨F1, n1, da, G1, S1, ⟨A1, r1, f1⟩, h1⟩ => ?_⟩
  obtain ⟨d, e, q⟩ := h1.retE
  cases r1 with
  | obj hh l c =>
    simp only [oFld] at e
    split at e
    · rename_i hC
      subst hC
      obtain ⟨j, v, h2, h3, h4⟩ := lookup_pair l e
      rw [hK]
      exact ⟨_, _, _, _, v, rfl, rg_same S1.fh _ _ hh, hc, hn, h2, q v F1 H1 (GoC.refl S1.fh) S1 (RV_of0 (c j v d h3 h4).z)⟩
    · cases e
  | _ => cases e
/-! ### slices -/
def mNoPart : Mo (Option Int) := ret (some none)
def mPart (m : M) : Mo (Option Int) := mb m fun d => ret (match d with | .int i => some (some i) | _ => none)
abbrev WO (C : Ctx) (wx : WX) (m : Mo (Option Int)) : TO := WW C wx (fun _ _ _ v d => v = d) m
theorem _root_.L2.PO.wk {e : Option Expr} {t t' : TO} (h : PO X e t) (w : ∀ σ H Q, t' σ H Q → t σ H Q) : PO X e t' := ⟨fun pins s σ H Q I q => h.run pins s σ H Q I (w _ _ _ q)⟩
theorem vo_none : PO X none (WO C wx mNoPart) := po_none.wk fun σ H Q w => by
  obtain ⟨F, B, n, ds, S, h⟩ := w
  obtain ⟨d, e, q⟩ := h.retE
  cases e
  exact q none F H (GoC.refl S.fh) S rfl
theorem vo_some (h : PE X e (W C wx .bo 0 m)) : PO X (some e) (WO C wx (mPart m)) := (po_some h).wk fun σ H Q w => by
  obtain ⟨F, B, n, ds, S, h⟩ := w
  refine ⟨F, B, n, ds, S, (h.bind fun F1 H1 F2 H2 v d G r => r).mono fun x H1 ⟨F1, n1, d, G1, S1, ⟨A1, r1, f1⟩, h1⟩ => ?_⟩
  obtain ⟨o, e, q⟩ := h1.retE
  cases d with
  | int i => cases e; exact ⟨i, r1.int_, q _ F1 H1 (GoC.refl S1.fh) S1 rfl⟩
  | _ => cases e
def cutD (ds : List D) (lo hi : Option Int) : List D := (ds.drop (HT.sIx ds.length 0 lo)).take (HT.sIx ds.length ds.length hi - HT.sIx ds.length 0 lo)
def oSl (lo hi : Option Int) : D → Option D
  | .lst ds => some (.lst (cutD ds lo hi))
  | .tup ds => if HT.sIx ds.length 0 lo = 0 ∧ HT.sIx ds.length ds.length hi = ds.length then none else some (.tup (cutD ds lo hi))
  | .str x => if x.length ≤ sizeLine then some (.str (cutS x lo hi)) else none
  | _ => none
def mSl (m : M) (ml mh : Mo (Option Int)) : M := mb m fun d => mb ml fun lo => mb mh fun hi => ret (oSl lo hi d)
def rSl (K : PySem.W.Frag) : V → Option Int → Option Int → Hp → VK → Prop := fun x lo hi H Q => rSlL K x lo hi H Q ∨ (fun x lo hi H Q => rSlT K x lo hi H Q ∨ rSlS x lo hi H Q : V → Option Int → Option Int → Hp → VK → Prop) x lo hi H Q
theorem sl_all : SlR X (rSl X.K) := sl_list.or (sl_tup.or sl_str)
theorem cut_pair {K : PySem.W.Frag} {G H G' H' : Hp} {vs : List V} {ds : List D} (l : vs.length = ds.length) (c : ∀ (i : Nat) v d, vs[i]? = some v → ds[i]? = some d → Rp K G' H' 0 v d (fun _ => False)) (lo hi : Option Int) :
    (cutV vs lo hi).length = (cutD ds lo hi).length ∧ ∀ (i : Nat) v d, (cutV vs lo hi)[i]? = some v → (cutD ds lo hi)[i]? = some d → Rp K G' H' 0 v d (fun _ => False) := by
  unfold cutV cutD
  rw [l]
  refine ⟨by rw [List.length_take, List.length_take, List.length_drop, List.length_drop, l], fun i v d h1 h2 => ?_⟩
  rw [List.getElem?_take] at h1 h2
  split at h1
  · rename_i hi
    rw [if_pos hi] at h2
    rw [List.getElem?_drop] at h1 h2
    exact c _ v d h1 h2
  · cases h1
theorem tSl_of {ml mh : Mo (Option Int)} {Rr : Hp → Hp → Hp → V → D → Prop} (htr : ∀ F H F1 H1 F2 H2 v d, GoC C.q F H F1 H1 → Rr H1 F2 H2 v d → Rr H F2 H2 v d)
    (hend : ∀ F B σ H n ds x d d' lo hi (Q : VK), Sim C F B σ H n ds → Rp C.K (rg C.q g F H) H 0 x d (fun _ => False) → oSl lo hi d = some d' → (∀ v F' H', GoC C.q F H F' H' → Sim C F' B σ H' n ds → Rr H F' H' v d' → Q v H') → rSl C.K x lo hi H Q)
    {σ : L2.St} {H : Hp} {Q : VK} (w : WW C wx Rr (mSl m ml mh) σ H Q) : tSl (rSl C.K) (W C wx g 0 m) (WO C wx ml) (WO C wx mh) σ H Q := by
  obtain ⟨F, B, n, ds, S, h⟩ := w
  refine ⟨F, B, n, ds, S, (h.bind fun F1 H1 F2 H2 v d G r => htr _ _ _ _ _ _ _ _ G r).mono fun x H1 ⟨F1, n1, d, G1, S1, ⟨A1, r1, f1⟩, h1⟩ => ?_⟩
  refine ⟨F1, B, n1, ds, S1, (h1.bind fun F1 H1 F2 H2 v d G r => htr _ _ _ _ _ _ _ _ G r).mono fun lo H2 ⟨F2, n2, lo', G2, S2, e2, h2⟩ => ?_⟩
  have e2 : lo = lo' := e2
  subst e2
  refine ⟨F2, B, n2, ds, S2, (h2.bind fun F1 H1 F2 H2 v d G r => htr _ _ _ _ _ _ _ _ G r).mono fun hi H3 ⟨F3, n3, hi', G3, S3, e3, h3⟩ => ?_⟩
  have e3 : hi = hi' := e3
  subst e3
  obtain ⟨d4, e4, q⟩ := h3.retE
  exact hend F3 B σ H3 n3 ds x d d4 lo hi Q S3 (Rp.go0 (g := g) r1 (G2.trans G3)) e4 q
/-- a[lo:hi]: a new thing of one's own | to be read now -/
theorem ve_sl1 {lo hi : Option Expr} {ml mh : Mo (Option Int)} {p2 : Pos} (ha : PE X a (W C wx .fz 0 m)) (hl : PO X lo (WO C wx ml)) (hh : PO X hi (WO C wx mh)) (hK : X.K = C.K := by rfl) : PE X (.Subscript a (.Slice lo hi none p2) pos) (W C wx .fz 1 (mSl m ml mh)) := by
  refine (pe_slice sl_all ha hl hh).wk fun σ H Q w => ?_
  rw [hK]
  refine tSl_of (g := .fz) (fun F H F1 H1 F2 H2 v d G r => r.tr G) (fun F B σ H n ds x d d' lo hi Q S r e q => ?_) w
  cases r with
  | lst h l c =>
    cases e
    refine .inl ⟨_, _, rfl, sqL_mono h S.fh, fun p hp => ?_⟩
    obtain ⟨G2, S2⟩ := S.newO (o := .lst (cutV _ lo hi)) hp
    obtain ⟨l2, c2⟩ := cut_pair (G := F) (H := H) l (fun i v d a b => Rp.go0 (g := .fz) (c i v d a b) G2) lo hi
    exact q (.ref p) F _ G2 S2 ⟨fun a => a = p, .lstO (fun _ _ => False) upd_same rfl l2 c2 (fun _ _ h => h.elim) (fun _ _ _ h => h.elim), Fr.one S.fh hp rfl⟩
  | tup h l c =>
    simp only [oSl] at e
    split at e
    · cases e
    · rename_i hn
      cases e
      refine .inr (.inl ⟨_, _, rfl, h, by rw [l]; exact hn, fun p hp => ?_⟩)
      obtain ⟨G2, S2⟩ := S.newO (o := .tup (cutV _ lo hi)) hp
      obtain ⟨l2, c2⟩ := cut_pair (G := F) (H := H) l (fun i v d a b => Rp.go0 (g := .fz) (c i v d a b) G2) lo hi
      exact q (.ref p) F _ G2 S2 ⟨fun _ => False, .tup (.inl (.inl upd_same)) l2 c2, Fr.no⟩
  | str =>
    simp only [oSl] at e
    split at e
    · rename_i hz
      cases e
      exact .inr (.inr ⟨_, rfl, hz, q _ F H (GoC.refl S.fh) S ⟨fun _ => False, .str, Fr.no⟩⟩)
    · cases e
  | _ => cases e
theorem ve_slb {lo hi : Option Expr} {ml mh : Mo (Option Int)} {p2 : Pos} (ha : PE X a (W C wx .bo 0 m)) (hl : PO X lo (WO C wx ml)) (hh : PO X hi (WO C wx mh)) (hK : X.K = C.K := by rfl) : PE X (.Subscript a (.Slice lo hi none p2) pos) (W C wx .bo 0 (mSl m ml mh)) := by
  refine (pe_slice sl_all ha hl hh).wk fun σ H Q w => ?_
  rw [hK]
  refine tSl_of (g := .bo) (fun F H F1 H1 F2 H2 v d G r => r.tr G) (fun F B σ H n ds x d d' lo hi Q S r e q => ?_) w
  cases r with
  | lst h l c =>
    cases e
    refine .inl ⟨_, _, rfl, sqL_mono h (rg_same S.fh), fun p hp => ?_⟩
    obtain ⟨G2, S2⟩ := S.newO (o := .lst (cutV _ lo hi)) hp
    obtain ⟨l2, c2⟩ := cut_pair (G := F) (H := H) l (fun i v d a b => Rp.go0 (g := .bo) (c i v d a b) G2) lo hi
    exact q (.ref p) F _ G2 S2 (RV_of0 (.lst (.inl (.inl (rg_self (S.nqp hp)))) l2 c2))
  | tup h l c =>
    simp only [oSl] at e
    split at e
    · cases e
    · rename_i hn
      cases e
      refine .inr (.inl ⟨_, _, rfl, h, by rw [l]; exact hn, fun p hp => ?_⟩)
      obtain ⟨G2, S2⟩ := S.newO (o := .tup (cutV _ lo hi)) hp
      obtain ⟨l2, c2⟩ := cut_pair (G := F) (H := H) l (fun i v d a b => Rp.go0 (g := .bo) (c i v d a b) G2) lo hi
      exact q (.ref p) F _ G2 S2 (RV_of0 (.tup (.inl (.inl upd_same)) l2 c2))
  | str =>
    simp only [oSl] at e
    split at e
    · rename_i hz
      cases e
      exact .inr (.inr ⟨_, rfl, hz, q _ F H (GoC.refl S.fh) S (RV_of0 .str)⟩)
    · cases e
  | _ => cases e
end
end GW

namespace GW
open PySem L2
section
variable {X : Cx} {C : Ctx} {wx : WX} {g : Rg} {k : Nat} {a b c e : Expr} {es : List Expr} {p pos : Pos} {x : Str} {bid bT : String} {ms : Mo (List D)} {m : M}
/-! ### built-in functions that give a scalar -/
def mCB (ms : Mo (List D)) (o : List D → Option D) : M := mb ms fun ds => ret (o ds)
def CalS (K : PySem.W.Frag) (r : List V → Hp → VK → Prop) (o : List D → Option D) : Prop := ∀ (G H : Hp) (vs : List V) (ds : List D) (d : D), Same G H → RpL K G H vs ds → o ds = some d → ∃ v, scV d = some v ∧ ∀ Q : VK, Q v H → r vs H Q
theorem tCB_of {r : List V → Hp → VK → Prop} {o : List D → Option D} (ho : CalS C.K r o) {σ : L2.St} {H : Hp} {Q : VK} (w : W C wx g k (mCB ms o) σ H Q) : tCB r (WA C wx .bo ms) σ H Q := by
  obtain ⟨F, B, n, ds, S, h⟩ := w
  refine ⟨F, B, n, ds, S, (h.bind fun F1 H1 F2 H2 v d G r => r.tr G).mono fun xs H1 ⟨F1, n1, da, G1, S1, r1, h1⟩ => ?_⟩
  obtain ⟨d, e, q⟩ := h1.sc S1
  obtain ⟨v, hv, hr⟩ := ho _ _ xs da d (rg_same S1.fh) r1 e
  exact hr Q (q v hv)
theorem ve_callB {r : List V → Hp → VK → Prop} {o : List D → Option D} (hc : CallR X (.builtin bid) r) (ho : CalS C.K r o) (hm : X.mg x = none) (hv : bootBuiltins x = some (.builtin bid)) (ha : PA X (e :: es) (WA C wx .bo ms)) (hg : Gl X x := by rfl) (hn : x ≠ "__name__" := by decide) (hdb : (x == ("__debug__" : Str)) = false := by decide)
    (hs : starEach (e :: es) X.env = (false, eval e X.env) :: starEach es X.env := by rfl) (hpl : (backTo pos (starEach es X.env)).any (·.1) = false := by rfl) : PE X (.Call (.Name x p) (e :: es) [] pos) (W C wx g k (mCB ms o)) :=
  (pe_callB hc hg hm hv ha hn hdb hs hpl).wk fun σ H Q w => tCB_of ho w
theorem ve_callTy {r : List V → Hp → VK → Prop} {o : List D → Option D} (hc : CallR X (.type bT) r) (ho : CalS C.K r o) (hm : X.mg x = none) (hv : bootBuiltins x = some (.type bT)) (ha : PA X (e :: es) (WA C wx .bo ms)) (hg : Gl X x := by rfl) (hn : x ≠ "__name__" := by decide) (hdb : (x == ("__debug__" : Str)) = false := by decide)
    (hs : starEach (e :: es) X.env = (false, eval e X.env) :: starEach es X.env := by rfl) (hpl : (backTo pos (starEach es X.env)).any (·.1) = false := by rfl) : PE X (.Call (.Name x p) (e :: es) [] pos) (W C wx g k (mCB ms o)) :=
  (pe_callTy hc hg hm hv ha hn hdb hs hpl).wk fun σ H Q w => tCB_of ho w
/-- len -/
def oLen : List D → Option D
  | [.str x] => if x.length ≤ sizeLine then some (.int x.length) else none
  | [.tup ds] => some (.int ds.length)
  | [.lst ds] => some (.int ds.length)
  | [.dct ds] => some (.int ds.length)
  | _ => none
def rLenA (K : PySem.W.Frag) : List V → Hp → VK → Prop := fun xs H Q => (∃ x n, xs = [x] ∧ LenV K x H n ∧ Q (.int n) H) ∨ (∃ a kvs, xs = [V.ref a] ∧ H a = some (.dK kvs) ∧ Q (.int kvs.length) H)
theorem cr_lenA : CallR X (.builtin "len") (rLenA X.K) := call_len.or call_lenD
theorem RpL.one {K : PySem.W.Frag} {G H : Hp} {vs : List V} {d : D} (r : RpL K G H vs [d]) : ∃ v, vs = [v] ∧ Rp K G H 0 v d (fun _ => False) := by
  obtain ⟨l, c⟩ := r
  match vs, l with
  | [v], _ => exact ⟨v, rfl, c 0 v d rfl rfl⟩
theorem RpL.two {K : PySem.W.Frag} {G H : Hp} {vs : List V} {d d' : D} (r : RpL K G H vs [d, d']) : ∃ v v', vs = [v, v'] ∧ Rp K G H 0 v d (fun _ => False) ∧ Rp K G H 0 v' d' (fun _ => False) := by
  obtain ⟨l, c⟩ := r
  match vs, l with
  | [v, v'], _ => exact ⟨v, v', rfl, c 0 v d rfl rfl, c 1 v' d' rfl rfl⟩
theorem cs_len {K : PySem.W.Frag} : CalS K (rLenA K) oLen := by
  intro G H vs ds d hs r0 e
  unfold oLen at e
  split at e
  · obtain ⟨v, rfl, r⟩ := r0.one
    split at e
    · rename_i hl; cases e
      exact ⟨_, rfl, fun Q q => .inl ⟨_, _, rfl, by rw [r.str_]; exact ⟨hl, rfl⟩, q⟩⟩
    · cases e
  · obtain ⟨v, rfl, r⟩ := r0.one
    cases e
    cases r with
    | tup h l c => exact ⟨_, rfl, fun Q q => .inl ⟨_, _, rfl, .inr ⟨_, h, l.symm⟩, q⟩⟩
  · obtain ⟨v, rfl, r⟩ := r0.one
    cases e
    cases r with
    | lst h l c => exact ⟨_, rfl, fun Q q => .inl ⟨_, _, rfl, .inl ⟨_, sqL_mono h hs, l.symm⟩, q⟩⟩
  · obtain ⟨v, rfl, r⟩ := r0.one
    cases e
    cases r with
    | dct h l c =>
      refine ⟨_, rfl, fun Q q => .inr ⟨_, _, rfl, hs _ _ h, ?_⟩⟩
      have := congrArg List.length l
      rw [List.length_map, List.length_map] at this
      rw [this]; exact q
  · cases e
theorem ve_len (hm : X.mg "len" = none) (ha : PA X [e] (WA C wx .bo ms)) (hg : Gl X "len" := by rfl) (hs : starEach [e] X.env = (false, eval e X.env) :: starEach [] X.env := by rfl) (hpl : (backTo pos (starEach [] X.env)).any (·.1) = false := by rfl) (hK : X.K = C.K := by rfl) : PE X (.Call (.Name "len" p) [e] [] pos) (W C wx g k (mCB ms oLen)) :=
  ve_callB (r := rLenA C.K) (by rw [← hK]; exact cr_lenA) cs_len hm PySem.boot_len ha hg (hs := hs) (hpl := hpl)
/-- abs, ord, int -/
def oAbs : List D → Option D
  | [.int i] => some (.int (if i < 0 then -i else i))
  | _ => none
theorem cs_abs {K : PySem.W.Frag} : CalS K (fun xs H Q => ∃ i, xs = [.int i] ∧ Q (.int (if i < 0 then -i else i)) H) oAbs := by
  intro G H vs ds d hs r0 e
  unfold oAbs at e
  split at e
  · obtain ⟨v, rfl, r⟩ := r0.one
    cases e
    exact ⟨_, rfl, fun Q q => ⟨_, by rw [r.int_], q⟩⟩
  · cases e
theorem ve_abs (hm : X.mg "abs" = none) (ha : PA X [e] (WA C wx .bo ms)) (hg : Gl X "abs" := by rfl) (hs : starEach [e] X.env = (false, eval e X.env) :: starEach [] X.env := by rfl) (hpl : (backTo pos (starEach [] X.env)).any (·.1) = false := by rfl) : PE X (.Call (.Name "abs" p) [e] [] pos) (W C wx g k (mCB ms oAbs)) :=
  ve_callB call_abs cs_abs hm PyProof.Rows.boot_abs ha hg (hs := hs) (hpl := hpl)
def oOrd : List D → Option D
  | [.str x] => if x.length = 1 then some (.int (x.cps.getD 0 0 : Nat)) else none
  | _ => none
theorem cs_ord {K : PySem.W.Frag} : CalS K (fun xs H Q => ∃ x, xs = [.str x] ∧ x.length = 1 ∧ Q (.int (x.cps.getD 0 0 : Nat)) H) oOrd := by
  intro G H vs ds d hs r0 e
  unfold oOrd at e
  split at e
  · obtain ⟨v, rfl, r⟩ := r0.one
    split at e
    · rename_i hl; cases e
      exact ⟨_, rfl, fun Q q => ⟨_, by rw [r.str_], hl, q⟩⟩
    · cases e
  · cases e
theorem ve_ord (hm : X.mg "ord" = none) (ha : PA X [e] (WA C wx .bo ms)) (hg : Gl X "ord" := by rfl) (hs : starEach [e] X.env = (false, eval e X.env) :: starEach [] X.env := by rfl) (hpl : (backTo pos (starEach [] X.env)).any (·.1) = false := by rfl) : PE X (.Call (.Name "ord" p) [e] [] pos) (W C wx g k (mCB ms oOrd)) :=
  ve_callB call_ord cs_ord hm PyProof.Rows.boot_ord ha hg (hs := hs) (hpl := hpl)
def oInt1 : List D → Option D
  | [.int i] => some (.int i)
  | [.bl b] => some (.int (if b then 1 else 0))
  | _ => none
theorem cs_int1 {K : PySem.W.Frag} : CalS K (fun xs H Q => (∃ i, xs = [.int i] ∧ Q (.int i) H) ∨ ∃ k, xs = [.bl k] ∧ Q (.int (if k then 1 else 0)) H) oInt1 := by
  intro G H vs ds d hs r0 e
  unfold oInt1 at e
  split at e
  · obtain ⟨v, rfl, r⟩ := r0.one
    cases e
    exact ⟨_, rfl, fun Q q => .inl ⟨_, by rw [r.int_], q⟩⟩
  · obtain ⟨v, rfl, r⟩ := r0.one
    cases e
    exact ⟨_, rfl, fun Q q => .inr ⟨_, by rw [r.bl_], q⟩⟩
  · cases e
theorem ve_int1 (hm : X.mg "int" = none) (ha : PA X [e] (WA C wx .bo ms)) (hg : Gl X "int" := by rfl) (hs : starEach [e] X.env = (false, eval e X.env) :: starEach [] X.env := by rfl) (hpl : (backTo pos (starEach [] X.env)).any (·.1) = false := by rfl) : PE X (.Call (.Name "int" p) [e] [] pos) (W C wx g k (mCB ms oInt1)) :=
  ve_callTy call_int1 cs_int1 hm PyProof.Rows.boot_int ha hg (hs := hs) (hpl := hpl)
/-- of lists of bools, of ints -/
def blsD : List D → Option (List Bool)
  | [] => some []
  | .bl b :: r => (blsD r).map (b :: ·)
  | _ :: _ => none
def intsD : List D → Option (List Int)
  | [] => some []
  | .int b :: r => (intsD r).map (b :: ·)
  | _ :: _ => none
theorem RpL.tail {K : PySem.W.Frag} {G H : Hp} {v : V} {vs : List V} {d : D} {ds : List D} (r : RpL K G H (v :: vs) (d :: ds)) : Rp K G H 0 v d (fun _ => False) ∧ RpL K G H vs ds :=
  ⟨r.2 0 v d rfl rfl, by simpa using r.1, fun i v' d' h1 h2 => r.2 (i + 1) v' d' (by simpa using h1) (by simpa using h2)⟩
theorem bls_of {K : PySem.W.Frag} {G H : Hp} : ∀ {vs : List V} {ds : List D} {bs : List Bool}, RpL K G H vs ds → blsD ds = some bs → vs = bs.map V.bl
  | [], [], bs, _, e => by cases e; rfl
  | [], _ :: _, _, r, _ => by cases r.1
  | _ :: _, [], _, r, _ => by cases r.1
  | v :: vs, d :: ds, bs, r, e => by
    obtain ⟨r1, r2⟩ := r.tail
    cases d <;> simp only [blsD] at e <;> first | cases e | skip
    rename_i b
    cases h : blsD ds with
    | none => rw [h] at e; cases e
    | some l => rw [h] at e; cases e; rw [r1.bl_, bls_of r2 h]; rfl
theorem ints_of {K : PySem.W.Frag} {G H : Hp} : ∀ {vs : List V} {ds : List D} {bs : List Int}, RpL K G H vs ds → intsD ds = some bs → vs = bs.map V.int
  | [], [], bs, _, e => by cases e; rfl
  | [], _ :: _, _, r, _ => by cases r.1
  | _ :: _, [], _, r, _ => by cases r.1
  | v :: vs, d :: ds, bs, r, e => by
    obtain ⟨r1, r2⟩ := r.tail
    cases d <;> simp only [intsD] at e <;> first | cases e | skip
    rename_i b
    cases h : intsD ds with
    | none => rw [h] at e; cases e
    | some l => rw [h] at e; cases e; rw [r1.int_, ints_of r2 h]; rfl
theorem RpL.of {K : PySem.W.Frag} {G H : Hp} {vs : List V} {ds : List D} {A : AS} (l : vs.length = ds.length) (c : ∀ (i : Nat) v d, vs[i]? = some v → ds[i]? = some d → Rp K G H 0 v d A) : RpL K G H vs ds := ⟨l, fun i v d a b => (c i v d a b).z⟩
def oAll : List D → Option D
  | [.lst ds] => (blsD ds).map fun bs => .bl (bs.all id)
  | _ => none
def oAny : List D → Option D
  | [.lst ds] => (blsD ds).map fun bs => .bl (bs.any id)
  | _ => none
def oSum : List D → Option D
  | [.lst ds] => (intsD ds).map fun bs => .int bs.sum
  | _ => none
theorem cs_all {K : PySem.W.Frag} : CalS K (rAll K) oAll := by
  intro G H vs ds d hs r0 e
  unfold oAll at e
  split at e
  · rename_i l
    obtain ⟨v, rfl, r⟩ := r0.one
    cases hb : blsD l with
    | none => rw [hb] at e; cases e
    | some bs =>
      rw [hb] at e; cases e
      cases r with
      | lst h l c => 
        have := bls_of (RpL.of l c) hb
        subst this
        exact ⟨_, rfl, fun Q q => ⟨_, _, rfl, sqL_mono h hs, q⟩⟩
  · cases e
theorem cs_any {K : PySem.W.Frag} : CalS K (rAny K) oAny := by
  intro G H vs ds d hs r0 e
  unfold oAny at e
  split at e
  · rename_i l
    obtain ⟨v, rfl, r⟩ := r0.one
    cases hb : blsD l with
    | none => rw [hb] at e; cases e
    | some bs =>
      rw [hb] at e; cases e
      cases r with
      | lst h l c => 
        have := bls_of (RpL.of l c) hb
        subst this
        exact ⟨_, rfl, fun Q q => ⟨_, _, rfl, sqL_mono h hs, q⟩⟩
  · cases e
theorem cs_sum {K : PySem.W.Frag} : CalS K (rSum K) oSum := by
  intro G H vs ds d hs r0 e
  unfold oSum at e
  split at e
  · rename_i l
    obtain ⟨v, rfl, r⟩ := r0.one
    cases hb : intsD l with
    | none => rw [hb] at e; cases e
    | some bs =>
      rw [hb] at e; cases e
      cases r with
      | lst h l c => 
        have := ints_of (RpL.of l c) hb
        subst this
        exact ⟨_, rfl, fun Q q => ⟨_, _, rfl, sqL_mono h hs, q⟩⟩
  · cases e
theorem ve_all (hm : X.mg "all" = none) (ha : PA X [e] (WA C wx .bo ms)) (hg : Gl X "all" := by rfl) (hs : starEach [e] X.env = (false, eval e X.env) :: starEach [] X.env := by rfl) (hpl : (backTo pos (starEach [] X.env)).any (·.1) = false := by rfl) (hc : X.calm = true := by rfl) (hK : X.K = C.K := by rfl) : PE X (.Call (.Name "all" p) [e] [] pos) (W C wx g k (mCB ms oAll)) :=
  ve_callB (r := rAll C.K) (by rw [← hK]; exact cr_all hc) cs_all hm PyProof.Rows.boot_all ha hg (hs := hs) (hpl := hpl)
theorem ve_any (hm : X.mg "any" = none) (ha : PA X [e] (WA C wx .bo ms)) (hg : Gl X "any" := by rfl) (hs : starEach [e] X.env = (false, eval e X.env) :: starEach [] X.env := by rfl) (hpl : (backTo pos (starEach [] X.env)).any (·.1) = false := by rfl) (hc : X.calm = true := by rfl) (hK : X.K = C.K := by rfl) : PE X (.Call (.Name "any" p) [e] [] pos) (W C wx g k (mCB ms oAny)) :=
  ve_callB (r := rAny C.K) (by rw [← hK]; exact cr_any hc) cs_any hm PyProof.Rows.boot_any ha hg (hs := hs) (hpl := hpl)
theorem ve_sum (hm : X.mg "sum" = none) (ha : PA X [e] (WA C wx .bo ms)) (hg : Gl X "sum" := by rfl) (hs : starEach [e] X.env = (false, eval e X.env) :: starEach [] X.env := by rfl) (hpl : (backTo pos (starEach [] X.env)).any (·.1) = false := by rfl) (hc : X.calm = true := by rfl) (hK : X.K = C.K := by rfl) : PE X (.Call (.Name "sum" p) [e] [] pos) (W C wx g k (mCB ms oSum)) :=
  ve_callB (r := rSum C.K) (by rw [← hK]; exact cr_sum hc) cs_sum hm PyProof.Rows.boot_sum ha hg (hs := hs) (hpl := hpl)
/-! ### isinstance of a built-in class -/
def tyN : D → Option String
  | .non => some "NoneType"
  | .bl _ => some "bool"
  | .int _ => some "int"
  | .str _ => some "str"
  | .tup _ => some "tuple"
  | .lst _ => some "list"
  | .dct _ => some "dict"
  | _ => none
def isT (T : String) : D → Option Bool
  | .non => some false
  | .bl _ => some (T == "bool" || T == "int")
  | .int _ => some (T == "int")
  | .str _ => some (T == "str")
  | .tup _ => some (T == "tuple")
  | .lst _ => some (T == "list")
  | .dct _ => some (T == "dict")
  | _ => none
def okT (T : String) : Bool := T == "int" || T == "bool" || T == "str" || T == "list" || T == "tuple" || T == "dict"
theorem isT_kit {T : String} (hT : okT T = true) {d : D} {b : Bool} {t : String} (e : isT T d = some b) (h : tyN d = some t) : kitB t T = some b := by
  simp only [okT, Bool.or_eq_true, beq_iff_eq] at hT
  cases d <;> simp only [tyN, Option.some.injEq, isT] at e h <;> first | cases h | skip
  all_goals (subst e; rcases hT with ((((hT | hT) | hT) | hT) | hT) | hT <;> subst hT <;> decide +kernel)
theorem tyX_of {K : PySem.W.Frag} {G H : Hp} {x : V} {d : D} {A : AS} {t : String} (hs : Same G H) (r : Rp K G H 0 x d A) (h : tyN d = some t) : TyX K H x (.type t) := by
  revert h
  cases r with
  | non => intro h; cases h; exact .base .non
  | bl => intro h; cases h; exact .base (.bl _)
  | int => intro h; cases h; exact .base (.int _)
  | str => intro h; cases h; exact .base (.str _)
  | tup hh l c =>
    intro h; cases h
    rcases hh with (hh | ⟨o, hh⟩) | ⟨o, its, n, h1, h2, _⟩
    · exact .base (.tup hh)
    · exact .fTuple hh
    · exact .kTuple h1 h2
  | lst hh l c =>
    intro h; cases h
    rcases hh with (hh | ⟨o, hh⟩) | ⟨o, its, n, h1, h2, _⟩
    · exact .base (.lst (hs _ _ hh))
    · exact .base (.frz (hs _ _ hh))
    · exact .kList h1 h2
  | dct hh l c => intro h; cases h; exact .base (.dK (hs _ _ hh))
  | obj => intro h; cases h
  | err => intro h; cases h
def oIsi (T : String) (d : D) : Option D := (isT T d).map D.bl
theorem isT_ty {T : String} {d : D} {b : Bool} (e : isT T d = some b) : ∃ t, tyN d = some t := by
  cases d <;> first | exact ⟨_, rfl⟩ | cases e
theorem ve_isi {m : M} {y : Str} {p2 : Pos} {T : String} (hm : X.mg "isinstance" = none) (hmT : X.mg y = none) (hvT : bootBuiltins y = some (.type T)) (hT : okT T = true) (ha : PE X e (W C wx .bo 0 m)) (hgT : Gl X y := by rfl) (hnT : y ≠ "__name__" := by decide) (hdT : (y == ("__debug__" : Str)) = false := by decide) (hg : Gl X "isinstance" := by rfl)
    (hs : starEach [e, .Name y p2] X.env = (false, eval e X.env) :: starEach [.Name y p2] X.env := by rfl) (hs2 : starEach [.Name y p2] X.env = (false, eval (.Name y p2) X.env) :: starEach [] X.env := by rfl) (hpl : (backTo pos (starEach [.Name y p2] X.env)).any (·.1) = false := by rfl) (hK : X.K = C.K := by rfl) :
    PE X (.Call (.Name "isinstance" p) [e, .Name y p2] [] pos) (W C wx g k (m1 m (oIsi T))) := by
  refine (pe_callB call_isi hg hm PyProof.Rows.boot_isinstance (pa_cons ha (pa_cons (pe_bltn (v := .ty T) hgT hmT hvT rfl hnT hdT) pa_nil hs2) hs) (by decide) (by decide) hs hpl).wk fun σ H Q w => ?_
  obtain ⟨F, B, n, ds, S, h⟩ := w
  refine ⟨F, B, n, ds, S, (h.bind fun F1 H1 F2 H2 v d G r => r.tr G).mono fun x H1 ⟨F1, n1, d, G1, S1, ⟨A1, r1, f1⟩, h1⟩ => ?_⟩
  obtain ⟨d2, e2, q⟩ := h1.sc S1
  cases hb : isT T d with
  | none => simp [oIsi, hb] at e2
  | some bb =>
    simp only [oIsi, hb, Option.map_some, Option.some.injEq] at e2
    subst e2
    obtain ⟨t, ht⟩ := isT_ty hb
    rw [hK]
    exact ⟨x, .ty T, .type t, .type T, bb, rfl, .ty T, tyX_of (rg_same S1.fh) r1 ht, kit_ty (isT_kit hT hb ht), q _ rfl⟩
/-! ### divmod, tuple(..), list(..): a new thing -/
noncomputable def oDivmod : List D → Option D
  | [.int i, .int j] => if divOk j = true then some (.tup [.int (i / j), .int (i % j)]) else none
  | _ => none
theorem divOk.pp {i j : Int} (h : divOk j = true) : CDivP i j := by
  have q : CDivW i j := divOk.ok h
  exact ⟨q.1, PyProof.noPylong_of_log2 q.2⟩
theorem ve_divmod (hm : X.mg "divmod" = none) (ha : PA X (e :: es) (WA C wx .bo ms)) (hg : Gl X "divmod" := by rfl)
    (hs : starEach (e :: es) X.env = (false, eval e X.env) :: starEach es X.env := by rfl) (hpl : (backTo pos (starEach es X.env)).any (·.1) = false := by rfl) : PE X (.Call (.Name "divmod" p) (e :: es) [] pos) (W C wx g k (mCB ms oDivmod)) := by
  refine (pe_callB call_divmodW hg hm PyProof.Rows.boot_divmod ha (by decide) (by decide) hs hpl).wk fun σ H Q w => ?_
  obtain ⟨F, B, n, ds, S, h⟩ := w
  refine ⟨F, B, n, ds, S, (h.bind fun F1 H1 F2 H2 v d G r => r.tr G).mono fun xs H1 ⟨F1, n1, da, G1, S1, r1, h1⟩ => ?_⟩
  obtain ⟨d, e, q⟩ := h1.retE
  unfold oDivmod at e
  split at e
  · split at e
    · rename_i i j hd
      cases e
      obtain ⟨v, v', rfl, ra, rb⟩ := r1.two
      refine ⟨i, j, by rw [ra.int_, rb.int_], divOk.pp hd, fun p hp => ?_⟩
      obtain ⟨G2, S2⟩ := S1.newO (o := .tup [.int (i / j), .int (i % j)]) hp
      exact q (.ref p) F1 _ G2 S2 (RV_of0 (.tup (.inl (.inl upd_same)) rfl (RpL.cons (A := fun _ => False) .int (RpL.cons (A := fun _ => False) .int RpL.nil)).2))
    · cases e
  · cases e
def oTuple : List D → Option D
  | [.lst ds] => some (.tup ds)
  | [.tup ds] => some (.tup ds)
  | _ => none
theorem ve_tuple (hm : X.mg "tuple" = none) (ha : PA X [e] (WA C wx g ms)) (hg : Gl X "tuple" := by rfl)
    (hs : starEach [e] X.env = (false, eval e X.env) :: starEach [] X.env := by rfl) (hpl : (backTo pos (starEach [] X.env)).any (·.1) = false := by rfl) (hK : X.K = C.K := by rfl) : PE X (.Call (.Name "tuple" p) [e] [] pos) (W C wx g k (mCB ms oTuple)) := by
  refine (pe_callTy call_tuple_of hg hm PyProof.Rows.boot_tuple ha (by decide) (by decide) hs hpl).wk fun σ H Q w => ?_
  obtain ⟨F, B, n, ds, S, h⟩ := w
  refine ⟨F, B, n, ds, S, (h.bind fun F1 H1 F2 H2 v d G r => r.tr G).mono fun xs H1 ⟨F1, n1, da, G1, S1, r1, h1⟩ => ?_⟩
  obtain ⟨d, e, q⟩ := h1.retE
  unfold oTuple at e
  split at e
  · cases e
    obtain ⟨v, rfl, r⟩ := r1.one
    cases r with
    | lst hh l c =>
      rw [hK]
      refine ⟨_, _, rfl, .inl ⟨sqL_mono hh (rg_same S1.fh), fun p hp => ?_⟩⟩
      obtain ⟨G2, S2⟩ := S1.newO (o := .tup _) hp
      exact q (.ref p) F1 _ G2 S2 (RV_of0 (.tup (.inl (.inl upd_same)) l fun i v d a b => Rp.go0 (c i v d a b) G2))
  · cases e
    obtain ⟨v, rfl, r⟩ := r1.one
    cases r with
    | tup hh l c =>
      rw [hK]
      exact ⟨_, _, rfl, .inr ⟨hh, q _ F1 H1 (GoC.refl S1.fh) S1 (RV_of0 (.tup hh l c))⟩⟩
  · cases e
def oList : List D → Option D
  | [.lst ds] => some (.lst ds)
  | [.tup ds] => some (.lst ds)
  | _ => none
theorem ve_list (hm : X.mg "list" = none) (ha : PA X [e] (WA C wx .fz ms)) (hg : Gl X "list" := by rfl)
    (hs : starEach [e] X.env = (false, eval e X.env) :: starEach [] X.env := by rfl) (hpl : (backTo pos (starEach [] X.env)).any (·.1) = false := by rfl) (hK : X.K = C.K := by rfl) : PE X (.Call (.Name "list" p) [e] [] pos) (W C wx .fz 1 (mCB ms oList)) := by
  refine (pe_callTy call_list_of hg hm PyProof.Rows.boot_list ha (by decide) (by decide) hs hpl).wk fun σ H Q w => ?_
  obtain ⟨F, B, n, ds, S, h⟩ := w
  refine ⟨F, B, n, ds, S, (h.bind fun F1 H1 F2 H2 v d G r => r.tr G).mono fun xs H1 ⟨F1, n1, da, G1, S1, r1, h1⟩ => ?_⟩
  obtain ⟨d, e, q⟩ := h1.retE
  unfold oList at e
  split at e
  · cases e
    obtain ⟨v, rfl, r⟩ := r1.one
    cases r with
    | lst hh l c =>
      rw [hK]
      refine ⟨_, _, rfl, .inl (sqL_mono hh S1.fh), fun p hp => ?_⟩
      obtain ⟨G2, S2⟩ := S1.newO (o := .lst _) hp
      exact q (.ref p) F1 _ G2 S2 ⟨fun a => a = p, .lstO (fun _ _ => False) upd_same rfl l (fun i v d a b => Rp.go0 (g := .fz) (c i v d a b) G2) (fun _ _ h => h.elim) (fun _ _ _ h => h.elim), Fr.one S1.fh hp rfl⟩
  · cases e
    obtain ⟨v, rfl, r⟩ := r1.one
    cases r with
    | tup hh l c =>
      rw [hK]
      refine ⟨_, _, rfl, .inr hh, fun p hp => ?_⟩
      obtain ⟨G2, S2⟩ := S1.newO (o := .lst _) hp
      exact q (.ref p) F1 _ G2 S2 ⟨fun a => a = p, .lstO (fun _ _ => False) upd_same rfl l (fun i v d a b => Rp.go0 (g := .fz) (c i v d a b) G2) (fun _ _ h => h.elim) (fun _ _ _ h => h.elim), Fr.one S1.fh hp rfl⟩
  · cases e

/-! ### a def's promise, its call -/
abbrev FM := Int → List D → Option (Ot D × Int)
def pureF (f : List D → Option (Ot D)) : FM := fun n ds => (f ds).map fun o => (o, n)
def spM (K : PySem.W.Frag) (ci : Option Nat) (np kr : Nat) (fm : FM) : Sp := fun vs H Q E => vs.length = np ∧ ∃ (F : Hp) (q : Option Addr) (n : Int) (ds : List D), Same F H ∧ (ci = none → q = none) ∧
  (∀ i, ci = some i → ∃ a, q = some a ∧ vs[i]? = some (.ref a) ∧ H a = some (.lst [.int n]) ∧ F a = none) ∧ vs.length = ds.length ∧
  (∀ (i : Nat) v d, ci ≠ some i → vs[i]? = some v → ds[i]? = some d → Rp K F H 0 v d (fun _ => False)) ∧
  match fm n ds with
  | none => False
  | some (.ok d, n') => ∀ v F' H', GoC q F H F' H' → (∀ a, q = some a → H' a = some (.lst [.int n'])) → (∃ A, Rp K F' H' kr v d A ∧ Fr F' H H' A) → Q v H'
  | some (.ex c fs, n') => ∀ F' H' od, GoC q F H F' H' → (∀ a, q = some a → H' a = some (.lst [.int n'])) → ExR H H' od fs → E (.ref (ec K c)) od H'
def qOf (ci : Option Nat) (q : Option Addr) : Option Addr := match ci with
  | none => none
  | some _ => q
def RAc (C : Ctx) (g : Rg) (ci : Option Nat) : Hp → Hp → Hp → List V → List D → Prop := fun _ F' H' vs ds => vs.length = ds.length ∧
  (∀ (i : Nat) v d, ci ≠ some i → vs[i]? = some v → ds[i]? = some d → Rp C.K (rg C.q g F' H') H' 0 v d (fun _ => False)) ∧ ∀ i, ci = some i → ∃ q, C.q = some q ∧ vs[i]? = some (.ref q)
abbrev WAc (C : Ctx) (wx : WX) (g : Rg) (ci : Option Nat) (m : Mo (List D)) : TA := WW C wx (RAc C g ci) m
theorem vc_all {g : Rg} (h : PA X es (WA C wx g ms)) : PA X es (WAc C wx g none ms) := by
  refine h.wk fun σ H Q w => ?_
  obtain ⟨F, B, n, ds, S, h⟩ := w
  refine ⟨F, B, n, ds, S, ?_⟩
  unfold WL at h ⊢
  cases e : ms n ds with
  | none => rw [e] at h; exact h
  | some p =>
    rw [e] at h
    obtain ⟨o, n'⟩ := p
    cases o with
    | ex c fs => exact h
    | ok d => exact fun v F' H' G S r => h v F' H' G S ⟨r.1, fun i v d _ a b => r.2 i v d a b, fun i hi => by cases hi⟩
theorem vc_cons {m : M} {ci : Option Nat} (ha : PE X e (W C wx g 0 m)) (hr : PA X es (WAc C wx g ci ms)) (hs : starEach (e :: es) X.env = (false, eval e X.env) :: starEach es X.env := by rfl) : PA X (e :: es) (WAc C wx g (ci.map (· + 1)) (mCons m ms)) := by
  refine (pa_cons ha hr hs).wk fun σ H Q w => ?_
  obtain ⟨F, B, n, ds, S, h⟩ := w
  refine ⟨F, B, n, ds, S, (h.bind fun F1 H1 F2 H2 v d G r => r).mono fun x H1 ⟨F1, n1, d, G1, S1, ⟨A1, r1, f1⟩, h1⟩ => ?_⟩
  refine ⟨F1, B, n1, ds, S1, (h1.bind fun F1 H1 F2 H2 v d G r => r).mono fun xs H2 ⟨F2, n2, d2, G2, S2, r2, h2⟩ => ?_⟩
  obtain ⟨d3, e3, q⟩ := h2.retE
  cases e3
  refine q (x :: xs) F2 H2 (GoC.refl S2.fh) S2 ⟨by simp [r2.1], fun i v' d' hi h1 h2 => ?_, fun i hi => ?_⟩
  · cases i with
    | zero =>
      simp only [List.getElem?_cons_zero, Option.some.injEq] at h1 h2
      subst h1 h2
      exact Rp.go0 r1 G2
    | succ i =>
      refine r2.2.1 i v' d' (fun z => hi ?_) (by simpa using h1) (by simpa using h2)
      rw [z]; rfl
  · cases ci with
    | none => cases hi
    | some j =>
      cases hi
      obtain ⟨q, h1, h2⟩ := r2.2.2 j rfl
      exact ⟨q, h1, by simpa using h2⟩
/-- the cell's name as an argument -/
theorem vc_cell {i : Nat} (h : PE X e (tVar i)) (hq : ∃ q, C.q = some q ∧ C.pn i = some (.ref q)) (hr : PA X es (WAc C wx g none ms)) (hs : starEach (e :: es) X.env = (false, eval e X.env) :: starEach es X.env := by rfl) : PA X (e :: es) (WAc C wx g (some 0) (mCons (mC .non) ms)) := by
  refine (pa_cons h hr hs).wk fun σ H Q w => ?_
  obtain ⟨F, B, n, ds, S, h⟩ := w
  obtain ⟨q, hq1, hq2⟩ := hq
  have h' : WL C wx (RAc C g (some 0)) (mb ms fun ds => ret (some (.non :: ds))) F B n ds σ H Q := h
  refine ⟨_, S.pin i _ hq2, ?_⟩
  refine ⟨F, B, n, ds, S, (h'.bind fun F1 H1 F2 H2 v d G r => r).mono fun xs H2 ⟨F2, n2, d2, G2, S2, r2, h2⟩ => ?_⟩
  obtain ⟨d3, e3, q3⟩ := h2.retE
  cases e3
  refine q3 _ F2 H2 (GoC.refl S2.fh) S2 ⟨by simp [r2.1], fun i v' d' hi h1 h2 => ?_, fun i hi => ?_⟩
  · cases i with
    | zero => exact (hi rfl).elim
    | succ i => exact r2.2.1 i v' d' (by simp) (by simpa using h1) (by simpa using h2)
  · cases hi
    exact ⟨q, hq1, rfl⟩
theorem WL.strong {α β : Type} {R : Hp → Hp → Hp → β → α → Prop} {m : Mo α} {P : α → Prop} {F : Hp} {B : AS} {n : Int} {ds : DS} {σ : L2.St} {H : Hp} {Q : β → Hp → Prop} (hP : ∀ n ds d n', m n ds = some (.ok d, n') → P d) (h : WL C wx (fun H F' H' v d => R H F' H' v d ∧ P d) m F B n ds σ H Q) : WL C wx R m F B n ds σ H Q := by
  unfold WL at h ⊢
  cases e : m n ds with
  | none => rw [e] at h; exact h
  | some p =>
    rw [e] at h
    obtain ⟨o, n'⟩ := p
    cases o with
    | ok d => exact fun v F' H' g S r => h v F' H' g S ⟨r, hP _ _ _ _ e⟩
    | ex c fs => exact h
def mCall (fm : FM) (ms : Mo (List D)) : M := mb ms fun ds => fun n _ => fm n ds
theorem spM_of {fm : FM} {ci : Option Nat} {np kr : Nat} {F : Hp} {B : AS} {n : Int} {ds : DS} {σ : L2.St} {H : Hp} {vs : List V} {as : List D} {Q : VK} (hp : ci = none → ∃ f, fm = pureF f) (S : Sim C F B σ H n ds) (r : RAc C g ci H F H vs as) (hl : as.length = np)
    {RR : Hp → Hp → Hp → V → D → Prop} (hR : ∀ d v F' H', GoC C.q F H F' H' → (∃ A, Rp C.K F' H' kr v d A ∧ Fr F' H H' A) → g = .fz → RR H F' H' v d)
    (hRb : ∀ d v F2 H', g = .bo → GoC C.q F H F H' → (∃ A, Rp C.K F2 H' kr v d A ∧ Fr F2 H H' A) → RR H F H' v d)
    (w : WL C wx RR (fun n _ => fm n as) F B n ds σ H Q) : spM C.K ci np kr fm vs H Q (WE wx σ) := by
  have hq : ∀ i, ci = some i → ∃ a, C.q = some a ∧ vs[i]? = some (.ref a) ∧ H a = some (.lst [.int n]) ∧ rg C.q g F H a = none := fun i hi => by
    obtain ⟨a, h1, h2⟩ := r.2.2 i hi
    obtain ⟨h3, h4⟩ := S.cell a h1
    refine ⟨a, h1, h2, h4, ?_⟩
    cases g with
    | fz => exact (S.bok a h3).1
    | bo => show (if C.q = some a then none else H a) = none; rw [if_pos h1]
  refine ⟨r.1.trans hl, rg C.q g F H, (qOf ci C.q), n, as, rg_same S.fh, fun h => by rw [h]; rfl, fun i hi => by
    obtain ⟨a, h1, h2⟩ := hq i hi
    refine ⟨a, ?_, h2⟩
    rw [hi]; exact h1, r.1, r.2.1, ?_⟩
  unfold WL at w
  -- the heap's step, seen from here
  have step : ∀ F' H' n', GoC (qOf ci C.q) (rg C.q g F H) H F' H' → (∀ a, (qOf ci C.q) = some a → H' a = some (.lst [.int n'])) → (ci = none → n' = n) →
      ∃ F1, GoC C.q F H F1 H' ∧ Sim C F1 B σ H' n' ds ∧ (g = .fz → F1 = F') ∧ (g = .bo → F1 = F) := fun F' H' n' G hc hn => by
    have hcell : ∀ a, C.q = some a → H' a = some (.lst [.int n']) := fun a ha => by
      cases ci with
      | none =>
        rw [hn rfl]
        exact G.go.hh a _ (S.cell a ha).2 (by simp [qOf])
      | some i => exact hc a ha
    cases g with
    | fz =>
      have G' : GoC C.q F H F' H' := by
        cases ci with
        | none => exact GoC.of0 G
        | some i => exact G
      exact ⟨F', G', S.go G' hcell, fun _ => rfl, fun h => by cases h⟩
    | bo =>
      have hne : ∀ a o, F a = some o → C.q ≠ some a := fun a o e z => by
        have := (S.bok a (S.cell a z).1).1
        rw [this] at e; cases e
      have G' : GoC C.q F H F H' := ⟨⟨Same.refl _, fun a o e => G.go.hh a o (S.fh a o e) (by
          cases ci with
          | none => simp [qOf]
          | some i => exact hne a o e), fun a o e z => G.go.hh a o e (by
          cases ci with
          | none => simp [qOf]
          | some i => exact z), G.go.ht, fun a o n _ => n⟩, G.dm⟩
      exact ⟨F, G', S.go G' hcell, (fun h => by cases h), fun _ => rfl⟩
  have hn : ∀ o n', fm n as = some (o, n') → ci = none → n' = n := fun o n' e hi => by
    obtain ⟨f, hf⟩ := hp hi
    rw [hf] at e
    unfold pureF at e
    cases hfa : f as with
    | none => rw [hfa] at e; cases e
    | some oo => rw [hfa] at e; cases e; rfl
  cases e : fm n as with
  | none => simp only [e] at w
  | some p =>
    obtain ⟨o, n'⟩ := p
    simp only [e] at w
    cases o with
    | ok d =>
      rintro v F' H' G hc ⟨A, rr, ff⟩
      obtain ⟨F1, G1, S1, e1, e2⟩ := step F' H' n' G hc (hn _ _ e)
      refine w v F1 H' G1 S1 ?_
      cases hg : g with
      | fz => have z := e1 hg; subst z; exact hR d v F1 H' G1 ⟨A, rr, ff⟩ hg
      | bo => have z := e2 hg; subst z; exact hRb d v F' H' hg G1 ⟨A, rr, ff⟩
    | ex c fs =>
      intro F' H' od G hc hx
      obtain ⟨F1, G1, S1, _, _⟩ := step F' H' n' G hc (hn _ _ e)
      exact w F1 H' od G1 S1 hx
section
variable {kk : Nat} {f : Addr} {fd : FuncData} {ps : List Str} {fm : FM} {ci : Option Nat} {np kr : Nat}
/-- f(..): the things stand | they are read now, and what it tells is flat -/
theorem ve_call (F : FnOk X.prog X.w X.K X.mg X.base (L2.CX X.prog X.w) kk f fd ps (spM C.K ci np kr fm)) (hp : ci = none → ∃ f, fm = pureF f) (hr : Room kk X.A) (hm : X.mg x = some (.ref f)) (hk : PySem.W.keepIn X.K (.ref f) = true) (hb : Binds X.K fd ps []) (tk : Takes X wx)
    (ha : PA X (e :: es) (WAc C wx .fz ci ms)) (hlen : ∀ n ds d n', ms n ds = some (.ok d, n') → d.length = np) (hg : Gl X x := by rfl) (hdb : (x == ("__debug__" : Str)) = false := by decide) (he : starEach (e :: es) X.env = (false, eval e X.env) :: starEach es X.env := by rfl) (hpl : (backTo pos (starEach es X.env)).any (·.1) = false := by rfl) :
    PE X (.Call (.Name x p) (e :: es) [] pos) (W C wx .fz kr (mCall fm ms)) := by
  refine (pe_callS F hr hg hm hk hb (fun σ => passAt tk σ) ha hdb he hpl).wk fun σ H Q w => ?_
  obtain ⟨F, B, n, ds, S, h⟩ := w
  refine ⟨F, B, n, ds, S, WL.strong hlen ((h.bind (R := fun H F' H' vs as => RAc C .fz ci H F' H' vs as ∧ as.length = np) fun F1 H1 F2 H2 v d G r => r.tr G).mono fun vs H1 ⟨F2, n2, d2, G2, S2, ⟨r2, hl⟩, h2⟩ => ?_)⟩
  exact spM_of (RR := RV C .fz kr) hp S2 r2 hl (fun d v F' H' G r _ => r) (fun _ _ _ _ h => by cases h) h2
theorem ve_callb (F : FnOk X.prog X.w X.K X.mg X.base (L2.CX X.prog X.w) kk f fd ps (spM C.K ci np kr fm)) (hp : ci = none → ∃ f, fm = pureF f) (hr : Room kk X.A) (hm : X.mg x = some (.ref f)) (hk : PySem.W.keepIn X.K (.ref f) = true) (hb : Binds X.K fd ps []) (tk : Takes X wx)
    (ha : PA X (e :: es) (WAc C wx .bo ci ms)) (hlen : ∀ n ds d n', ms n ds = some (.ok d, n') → d.length = np) (hg : Gl X x := by rfl) (hdb : (x == ("__debug__" : Str)) = false := by decide) (he : starEach (e :: es) X.env = (false, eval e X.env) :: starEach es X.env := by rfl) (hpl : (backTo pos (starEach es X.env)).any (·.1) = false := by rfl) :
    PE X (.Call (.Name x p) (e :: es) [] pos) (W C wx g k (mFlat (mCall fm ms))) := by
  refine (pe_callS F hr hg hm hk hb (fun σ => passAt tk σ) ha hdb he hpl).wk fun σ H Q w => ?_
  obtain ⟨F, B, n, ds, S, h⟩ := w
  have hb := h.bind (R := fun H F' H' v d => ∃ G' A, Rp C.K G' H' kr v d A) fun F1 H1 F2 H2 v d G r => r.tr G
  refine ⟨F, B, n, ds, S, WL.strong hlen ((hb.bind (R := fun H F' H' vs as => RAc C .bo ci H F' H' vs as ∧ as.length = np) fun F1 H1 F2 H2 v d G r => r).mono fun vs H1 ⟨F2, n2, d2, G2, S2, ⟨r2, hl⟩, h2⟩ => ?_)⟩
  refine spM_of (RR := fun H F' H' v d => ∃ G' A, Rp C.K G' H' kr v d A) hp S2 r2 hl (fun d v F' H' G r h => by cases h) (fun d v F2 H' _ G ⟨A, r, _⟩ => ⟨F2, A, r⟩) (WL.mono h2 fun v H' ⟨F3, n3, d3, G3, S3, ⟨G', A, r3⟩, h3⟩ => ?_)
  obtain ⟨d4, e4, q⟩ := h3.retE
  by_cases hf : flat d3 = true
  · rw [if_pos hf] at e4
    cases e4
    exact q v F3 H' (GoC.refl S3.fh) S3 ⟨fun _ => False, r3.flat_any hf _ _ _, Fr.no⟩
  · rw [if_neg hf] at e4; cases e4
end
end
end GW

namespace GW
open PySem L2
def LenM (ms : Mo (List D)) (k : Nat) : Prop := ∀ n ds d n', ms n ds = some (.ok d, n') → d.length = k
theorem LenM.nil : LenM (ret (some [])) 0 := fun n ds d n' h => by cases h; rfl
theorem LenM.cons {m : M} {ms : Mo (List D)} {k : Nat} (h : LenM ms k) : LenM (mCons m ms) (k + 1) := fun n ds d n' e => by
  unfold mCons mb at e
  split at e <;> try cases e
  dsimp only at e
  split at e <;> try cases e
  rename_i e2
  rw [List.length_cons, h _ _ _ _ e2]

/-! ### statements -/
inductive Fl where
  | nx | bk | ct | rt (d : D) | ex (c : Nat) (fs : List (Str × Int))
abbrev MS := Int → DS → Option (Fl × Int × DS)
/-- what a statement does to the heap -/
structure GoS (B : AS) (F H : Hp) (B' : AS) (F' H' : Hp) : Prop where
  ff : Same F F'
  fh : Same F' H'
  hh : ∀ a o, H a = some o → ¬ B a → H' a = some o
  ht : ∀ a o, H a = some o → Mk o = false → H' a = some o
  nf : ∀ a o, F a = none → H a = some o → ¬ B a → F' a = none
  bb : ∀ a, B' a → B a ∨ H a = none
  dm : ∀ a o, H a = some o → ∃ o', H' a = some o'
section
variable {B B1 B2 : AS} {F H F1 H1 F2 H2 : Hp}
theorem GoS.refl (h : Same F H) : GoS B F H B F H := ⟨Same.refl _, h, fun _ _ e _ => e, fun _ _ e _ => e, fun _ _ e _ _ => e, fun _ h => .inl h, fun _ o e => ⟨o, e⟩⟩
theorem GoS.trans (a : GoS B F H B1 F1 H1) (b : GoS B1 F1 H1 B2 F2 H2) : GoS B F H B2 F2 H2 where
  ff := a.ff.trans b.ff
  fh := b.fh
  hh := fun x o e n => b.hh x o (a.hh x o e n) fun z => by
    rcases a.bb x z with z | z
    · exact n z
    · rw [e] at z; cases z
  ht := fun x o e n => b.ht x o (a.ht x o e n) n
  nf := fun x o n e z => by
    have e1 := a.hh x o e z
    exact b.nf x o (a.nf x o n e z) e1 fun z' => by
      rcases a.bb x z' with q | q
      · exact z q
      · rw [e] at q; cases q
  bb := fun x z => by
    rcases b.bb x z with z | z
    · exact a.bb x z
    · right
      exact none_some a.dm z
  dm := fun x o e => by
    obtain ⟨o', e'⟩ := a.dm x o e
    exact b.dm x o' e'
theorem ExR.trS {B B1 : AS} {F H F1 H1 H2 : Hp} {od : Option Addr} {fs : List (Str × Int)} (G : GoS B F H B1 F1 H1) (h : ExR H1 H2 od fs) : ExR H H2 od fs := by
  rcases h with h | ⟨d, h1, h2, h3⟩
  · exact .inl h
  · exact .inr ⟨d, h1, none_some G.dm h2, h3⟩
theorem GoC.toS {q : Option Addr} (g : GoC q F H F1 H1) (hq : ∀ a, q = some a → B a) : GoS B F H B F1 H1 :=
  ⟨g.go.ff, g.go.fh, fun a o e n => g.go.hh a o e fun z => n (hq a z), g.go.ht, fun a o n e _ => g.go.nf a o n e, fun _ h => .inl h, g.dm⟩
end
theorem Sim.qB {C : Ctx} {F H : Hp} {B : AS} {σ : L2.St} {n : Int} {ds : DS} (S : Sim C F B σ H n ds) : ∀ a, C.q = some a → B a := fun a h => (S.cell a h).1

/-- what is told at a return: the thing, the cell -/
def RtP (C : Ctx) (kr : Nat) (B : AS) (F H : Hp) (n' : Int) (d : D) (Q : VK) : Prop :=
  ∀ v B' F' H' A, GoS B F H B' F' H' → (∀ q, C.q = some q → H' q = some (.lst [.int n']) ∧ F' q = none) → Rp C.K F' H' kr v d A → (∀ a, A a → (B a ∨ H a = none) ∧ F' a = none ∧ C.q ≠ some a ∧ ∃ o, H' a = some o ∧ Mk o = true) → Q v H'
def WSL (C : Ctx) (wx : WX) (kr : Nat) (ms : MS) (F : Hp) (B : AS) (n : Int) (ds : DS) (H : Hp) (E : Ends) : Prop :=
  match ms n ds with
  | none => False
  | some (.nx, n', ds') => ∀ σ' F' B' H', GoS B F H B' F' H' → Sim C F' B' σ' H' n' ds' → E.nx σ' H'
  | some (.bk, n', ds') => ∀ σ' F' B' H', GoS B F H B' F' H' → Sim C F' B' σ' H' n' ds' → E.bk σ' H'
  | some (.ct, n', ds') => ∀ σ' F' B' H', GoS B F H B' F' H' → Sim C F' B' σ' H' n' ds' → E.ct σ' H'
  | some (.rt d, n', _) => RtP C kr B F H n' d E.rt
  | some (.ex c fs, n', ds') => ∀ σ' F' B' H' od, GoS B F H B' F' H' → Sim C F' B' σ' H' n' ds' → ExR H H' od fs → wx (.ref (ec C.K c)) od σ' H'
def WS (C : Ctx) (wx : WX) (kr : Nat) (ms : MS) : TS := fun E σ H => ∃ F B n ds, Sim C F B σ H n ds ∧ WSL C wx kr ms F B n ds H E

def sNx : MS := fun n ds => some (.nx, n, ds)
def sSeq (a b : MS) : MS := fun n ds => match a n ds with
  | some (.nx, n1, ds1) => b n1 ds1
  | r => r
def sNone : MS := fun _ _ => none
section
variable {X : Cx} {C : Ctx} {wx : WX} {kr : Nat} {st : Stmt} {sts : List Stmt} {ma mc : MS} {pos : Pos}
theorem RtP.tr {B B1 : AS} {F H F1 H1 : Hp} {n' : Int} {d : D} {Q : VK} (G : GoS B F H B1 F1 H1) (h : RtP C kr B F H n' d Q) : RtP C kr B1 F1 H1 n' d Q := fun v B' F' H' A G2 hc r f =>
  h v B' F' H' A (G.trans G2) hc r fun a ha => by
    obtain ⟨z, z2⟩ := f a ha
    refine ⟨?_, z2⟩
    rcases z with z | z
    · exact G.bb a z
    · right; exact none_some G.dm z
/-- from a later state on -/
theorem WSL.tr {B B1 : AS} {F H F1 H1 : Hp} {n n1 : Int} {ds ds1 : DS} {E : Ends} {m m1 : MS} (G : GoS B F H B1 F1 H1) (e : m n ds = m1 n1 ds1) (h : WSL C wx kr m F B n ds H E) : WSL C wx kr m1 F1 B1 n1 ds1 H1 E := by
  unfold WSL at h ⊢
  rw [← e]
  cases e2 : m n ds with
  | none => rw [e2] at h; exact h
  | some p =>
    rw [e2] at h
    obtain ⟨fl, n', ds'⟩ := p
    cases fl with
    | nx => exact fun σ' F' B' H' G2 S => h σ' F' B' H' (G.trans G2) S
    | bk => exact fun σ' F' B' H' G2 S => h σ' F' B' H' (G.trans G2) S
    | ct => exact fun σ' F' B' H' G2 S => h σ' F' B' H' (G.trans G2) S
    | rt d => exact RtP.tr G h
    | ex c fs => exact fun σ' F' B' H' od G2 S x => h σ' F' B' H' od (G.trans G2) S (x.trS G)
theorem ws_nil : PSs X [] (WS C wx kr sNx) := pss_nil.wk fun E σ H w => by
  obtain ⟨F, B, n, ds, S, h⟩ := w
  exact h σ F B H (GoS.refl S.fh) S
theorem wsl_seq {F H : Hp} {B : AS} {n : Int} {ds : DS} {E : Ends} (h : WSL C wx kr (sSeq ma mc) F B n ds H E) : WSL C wx kr ma F B n ds H { E with nx := WS C wx kr mc E } := by
  have h0 := h
  unfold WSL at h ⊢
  cases e : ma n ds with
  | none => simp only [sSeq, e] at h
  | some p =>
    obtain ⟨fl, n', ds'⟩ := p
    cases fl with
    | nx =>
      intro σ' F' B' H' G S
      exact ⟨F', B', n', ds', S, WSL.tr G (by simp only [sSeq, e]) h0⟩
    | bk => simp only [sSeq, e] at h; exact h
    | ct => simp only [sSeq, e] at h; exact h
    | rt d => simp only [sSeq, e] at h; exact h
    | ex c fs => simp only [sSeq, e] at h; exact h
theorem ws_cons (h1 : PS X st (WS C wx kr ma)) (h2 : PSs X sts (WS C wx kr mc)) : PSs X (st :: sts) (WS C wx kr (sSeq ma mc)) := (pss_cons h1 h2).wk fun E σ H w => by
  obtain ⟨F, B, n, ds, S, h⟩ := w
  exact ⟨F, B, n, ds, S, wsl_seq h⟩
theorem ws_one (h1 : PS X st (WS C wx kr ma)) : PSs X [st] (WS C wx kr ma) := pss_one h1
theorem ws_pass : PS X (.Pass pos) (WS C wx kr sNx) := ps_pass.wk fun E σ H w => by
  obtain ⟨F, B, n, ds, S, h⟩ := w
  exact h σ F B H (GoS.refl S.fh) S
def sBk : MS := fun n ds => some (.bk, n, ds)
def sCt : MS := fun n ds => some (.ct, n, ds)
theorem ws_break : PS X (.Break pos) (WS C wx kr sBk) := ps_break.wk fun E σ H w => by
  obtain ⟨F, B, n, ds, S, h⟩ := w
  exact h σ F B H (GoS.refl S.fh) S
theorem ws_cont : PS X (.Continue pos) (WS C wx kr sCt) := ps_continue.wk fun E σ H w => by
  obtain ⟨F, B, n, ds, S, h⟩ := w
  exact h σ F B H (GoS.refl S.fh) S
theorem ws_never : PS X st (WS C wx kr sNone) := ps_never.wk fun E σ H w => by
  obtain ⟨F, B, n, ds, S, h⟩ := w
  exact h
theorem wss_never : PSs X sts (WS C wx kr sNone) := pss_never.wk fun E σ H w => by
  obtain ⟨F, B, n, ds, S, h⟩ := w
  exact h
/-- an expression ahead of a statement's own doing -/
def sE {α : Type} (m : Mo α) (f : α → MS) : MS := fun n ds => match m n ds with
  | none => none
  | some (.ex C fs, n1) => some (.ex C fs, n1, ds)
  | some (.ok a, n1) => f a n1 ds
theorem wsl_e0 {α β : Type} {R : Hp → Hp → Hp → β → α → Prop} {m : Mo α} {f : α → MS} {F H F0 H0 : Hp} {B B0 : AS} {n : Int} {ds : DS} {σ : L2.St} {E : Ends} (Gr : GoS B0 F0 H0 B F H) (S : Sim C F B σ H n ds) (h : WSL C wx kr (sE m f) F0 B0 n ds H0 E) :
    WL C wx R m F B n ds σ H fun v H1 => ∃ F1 n1 d, GoC C.q F H F1 H1 ∧ Sim C F1 B σ H1 n1 ds ∧ R H F1 H1 v d ∧ WSL C wx kr (f d) F0 B0 n1 ds H0 E := by
  unfold WSL at h
  unfold WL
  cases e : m n ds with
  | none => simp only [sE, e] at h
  | some p =>
    obtain ⟨o, n'⟩ := p
    cases o with
    | ex c fs =>
      simp only [sE, e] at h
      exact fun F' H' od G S' x => h σ F' B H' od (Gr.trans (G.toS S.qB)) S' (x.trS Gr)
    | ok d =>
      intro v F' H' G S' r
      simp only [sE, e] at h
      exact ⟨F', n', d, G, S', r, h⟩
theorem wsl_e {α β : Type} {R : Hp → Hp → Hp → β → α → Prop} {m : Mo α} {f : α → MS} {F H : Hp} {B : AS} {n : Int} {ds : DS} {σ : L2.St} {E : Ends} (S : Sim C F B σ H n ds) (h : WSL C wx kr (sE m f) F B n ds H E) :
    WL C wx R m F B n ds σ H fun v H1 => ∃ F1 n1 d, GoC C.q F H F1 H1 ∧ Sim C F1 B σ H1 n1 ds ∧ R H F1 H1 v d ∧ WSL C wx kr (f d) F B n1 ds H E := wsl_e0 (GoS.refl S.fh) S h
/-- if -/
def sIf (t : Mo Bool) (a b : MS) : MS := sE t fun c => match c with | true => a | false => b
theorem ws_if {c : Expr} {sa sb : List Stmt} {t : Mo Bool} (hc : PT X c (WT C wx t)) (ha : PSs X sa (WS C wx kr ma)) (hb : PSs X sb (WS C wx kr mc)) : PS X (.If c sa sb pos) (WS C wx kr (sIf t ma mc)) := (ps_if hc ha hb).wk fun E σ H w => by
  obtain ⟨F, B, n, ds, S, h⟩ := w
  refine ⟨F, B, n, ds, S, (wsl_e (R := RT) S h).mono fun b H1 ⟨F1, n1, d, G1, S1, r1, h1⟩ => ?_⟩
  have r1 : b = d := r1
  subst r1
  cases b with
  | true => rw [if_pos rfl]; exact ⟨F1, B, n1, ds, S1, h1.tr (G1.toS S.qB) rfl⟩
  | false => rw [if_neg Bool.false_ne_true]; exact ⟨F1, B, n1, ds, S1, h1.tr (G1.toS S.qB) rfl⟩
/-! ### a name is stored -/
theorem Sim.set {F H0 H : Hp} {B : AS} {σ : L2.St} {n : Int} {ds : DS} {i : Nat} {v : V} {d : D} {A : AS} (S : Sim C F B σ H n ds) (r : Rp C.K F H (C.T i) v d A) (f : ∀ a, A a → ¬ B a ∧ F a = none ∧ ∃ o, H a = some o ∧ Mk o = true) (hp : C.pn i = none) (hq : ∀ a, A a → C.q ≠ some a) :
    Sim C F (fun a => B a ∨ A a) (σ.set i (some v)) H n (ds.set i (some d)) where
  fh := S.fh
  bok := fun a ha => by
    rcases ha with h | h
    · exact S.bok a h
    · exact (f a h).2
  cell := fun q h => ⟨.inl (S.cell q h).1, (S.cell q h).2⟩
  pin := fun j w h => by
    have hj : i ≠ j := fun z => by subst z; rw [hp] at h; cases h
    rw [List.getElem?_set_ne hj]
    exact S.pin j w h
  len := by rw [List.length_set, List.length_set, S.len]
  rep := by
    obtain ⟨A0, h1, h2, h3⟩ := S.rep
    classical
    refine ⟨fun j => if j = i then A else A0 j, fun j d' e => ?_, fun j a ha => ?_, fun j j' a ha ha' => ?_⟩
    · by_cases hj : j = i
      · subst hj
        have hl : j < ds.length := by
          have := (List.getElem?_eq_some_iff.mp e).1
          rwa [List.length_set] at this
        rw [List.getElem?_set_self hl] at e
        cases e
        refine ⟨v, List.getElem?_set_self (by rw [S.len]; exact hl), ?_⟩
        simp only [if_true]
        exact r
      · rw [List.getElem?_set_ne (Ne.symm hj)] at e
        obtain ⟨w, e1, r1⟩ := h1 j d' e
        refine ⟨w, by rw [List.getElem?_set_ne (Ne.symm hj)]; exact e1, ?_⟩
        simp only [if_neg hj]
        exact r1
    · by_cases hj : j = i
      · simp only [if_pos hj] at ha
        exact ⟨.inr ha, hq a ha⟩
      · simp only [if_neg hj] at ha
        exact ⟨.inl (h2 j a ha).1, (h2 j a ha).2⟩
    · by_cases hj : j = i <;> by_cases hj' : j' = i
      · rw [hj, hj']
      · simp only [if_pos hj] at ha
        simp only [if_neg hj'] at ha'
        exact ((f a ha).1 (h2 j' a ha').1).elim
      · simp only [if_neg hj] at ha
        simp only [if_pos hj'] at ha'
        exact ((f a ha').1 (h2 j a ha).1).elim
      · simp only [if_neg hj] at ha
        simp only [if_neg hj'] at ha'
        exact h3 j j' a ha ha'
theorem Sim.set0 {F H : Hp} {B : AS} {σ : L2.St} {n : Int} {ds : DS} {i : Nat} {v : V} {d : D} (S : Sim C F B σ H n ds) {A : AS} (r : Rp C.K F H 0 v d A) (hT : C.T i = 0) (hp : C.pn i = none) :
    Sim C F B (σ.set i (some v)) H n (ds.set i (some d)) := by
  have S2 := S.set (H0 := H) (i := i) (A := fun _ => False) (by rw [hT]; exact r.z) (fun _ h => h.elim) hp fun _ h => h.elim
  exact ⟨S2.fh, fun a ha => S2.bok a (.inl ha), fun q h => ⟨(S.cell q h).1, (S.cell q h).2⟩, S2.pin, S2.len, by
    obtain ⟨A0, h1, h2, h3⟩ := S2.rep
    exact ⟨A0, h1, fun i a ha => ⟨(h2 i a ha).1.elim id fun z => z.elim, (h2 i a ha).2⟩, h3⟩⟩
def sSet (i : Nat) (m : M) : MS := sE m fun d n ds => some (.nx, n, ds.set i (some d))
theorem fresh_ok {F H F1 H1 : Hp} {B : AS} {σ : L2.St} {n : Int} {ds : DS} {A : AS} (S : Sim C F B σ H n ds) (f : Fr F1 H H1 A) : (∀ a, A a → ¬ B a ∧ F1 a = none ∧ ∃ o, H1 a = some o ∧ Mk o = true) ∧ ∀ a, A a → C.q ≠ some a :=
  ⟨fun a ha => ⟨fun hb => by
    obtain ⟨_, o, h2, _⟩ := S.bok a hb
    have q := (f a ha).1
    rw [h2] at q
    exact absurd q (by simp), (f a ha).2⟩, fun a ha z => S.nq z (f a ha).1⟩
theorem goS_new {F H F1 H1 : Hp} {B : AS} {σ : L2.St} {n : Int} {ds : DS} {A : AS} (S : Sim C F B σ H n ds) (G : GoC C.q F H F1 H1) (f : Fr F1 H H1 A) : GoS B F H (fun a => B a ∨ A a) F1 H1 :=
  have g := G.toS (B := B) S.qB
  ⟨g.ff, g.fh, g.hh, g.ht, g.nf, fun a ha => ha.elim .inl fun z => .inr (f a z).1, g.dm⟩
theorem ws_set {i : Nat} {x : Str} {e : Expr} {p' : Pos} {m : M} {k : Nat} (he : PE X e (W C wx .fz k m)) (hT : C.T i = k) (hp : C.pn i = none) (hN : X.N.Nodup) (hi : X.N[i]? = some x := by rfl) (hx : Loc X.env.scope x := by first | exact Or.inl rfl | exact Or.inr rfl) (hs : swapsWith e (some (.Name x p')) pos.line X.env = pure false := by rfl) (hf : X.fn x = true ∨ X.env.scope.names.lookup x = some .local := by first | exact .inl rfl | exact .inr rfl | assumption) :
    PS X (.Assign [.Name x p'] e pos) (WS C wx kr (sSet i m)) := (ps_set hN hi hx he hs hf).wk fun E σ H w => by
  obtain ⟨F, B, n, ds, S, h⟩ := w
  refine ⟨F, B, n, ds, S, (wsl_e (R := RV C .fz k) S h).mono fun v H1 ⟨F1, n1, d, G1, S1, ⟨A, r, f⟩, h1⟩ => ?_⟩
  obtain ⟨f1, f2⟩ := fresh_ok S f
  have S2 := S1.set (H0 := H) (by rw [hT]; exact r) f1 hp f2
  exact h1 _ F1 _ H1 (goS_new S G1 f) S2

/-! ### name op= e, a value dropped, return -/
def sAug (i : Nat) (m : M) (o : D → D → Option D) : MS := fun n ds => match ds[i]? with
  | some (some d0) => sE m (fun d n ds => match o d0 d with
    | some d2 => some (.nx, n, ds.set i (some d2))
    | none => none) n ds
  | _ => none
theorem ws_aug {i : Nat} {x : Str} {e : Expr} {op : Operator} {p' : Pos} {m : M} {r : R2} {o : D → D → Option D} (hr : OpR X (inplaceOp op) r) (ho : OpS C.K r o) (he : PE X e (W C wx .bo 0 m)) (hT : C.T i = 0) (hp : C.pn i = none) (hN : X.N.Nodup) (hi : X.N[i]? = some x := by rfl) (hx : Loc X.env.scope x := by first | exact Or.inl rfl | exact Or.inr rfl)
    (hf : X.fn x = true ∨ X.env.scope.names.lookup x = some .local := by first | exact .inl rfl | exact .inr rfl | assumption) : PS X (.AugAssign (.Name x p') op e pos) (WS C wx kr (sAug i m o)) := (ps_aug hN hi hx he (ti := r) (fun pins s σ H x y v u Q I rx ry h => hr pins s σ H x y v u Q I rx ry h) hf).wk fun E σ H w => by
  obtain ⟨F, B, n, ds, S, h⟩ := w
  cases e0 : ds[i]? with
  | none => unfold WSL sAug at h; simp only [e0] at h
  | some x =>
    cases x with
    | none => unfold WSL sAug at h; simp only [e0] at h
    | some d0 =>
      have h' : WSL C wx kr (sE m (fun d n ds => match o d0 d with
        | some d2 => some (.nx, n, ds.set i (some d2))
        | none => none)) F B n ds H E := h.tr (GoS.refl S.fh) (by simp only [sAug, e0])
      obtain ⟨A0, h1, h2, h3⟩ := S.rep
      obtain ⟨v0, hv0, r0⟩ := h1 i d0 e0
      refine ⟨v0, hv0, F, B, n, ds, S, (wsl_e (R := RV C .bo 0) S h').mono fun v H1 ⟨F1, n1, d, G1, S1, ⟨A, r1, f⟩, h4⟩ => ?_⟩
      cases ho2 : o d0 d with
      | none => unfold WSL at h4; simp only [ho2] at h4
      | some d2 =>
        unfold WSL at h4
        simp only [ho2] at h4
        rw [hT] at r0
        have r0' : Rp C.K (rg C.q .bo F1 H1) H1 0 v0 d0 (fun _ => False) := Rp.go0 (g := .bo) (Rp.any S r0 (A' := fun _ => False)) G1
        obtain ⟨w2, hw2, hr2⟩ := ho _ _ v0 v d0 d d2 _ _ (rg_same S1.fh) r0' r1 ho2
        exact hr2 _ (h4 _ F1 B H1 (G1.toS S.qB) (S1.set0 (A := fun _ => False) (Rp.of_sc hw2) hT hp))
def sDrop (m : M) : MS := sE m fun _ n ds => some (.nx, n, ds)
theorem ws_expr {e : Expr} {m : M} {g : Rg} {k : Nat} (he : PE X e (W C wx g k m)) (hs : swapsWith e none pos.line X.env = pure false := by rfl) : PS X (.Expr e pos) (WS C wx kr (sDrop m)) := (ps_expr he hs).wk fun E σ H w => by
  obtain ⟨F, B, n, ds, S, h⟩ := w
  refine ⟨F, B, n, ds, S, (wsl_e (R := RV C g k) S h).mono fun v H1 ⟨F1, n1, d, G1, S1, ⟨A, r1, f⟩, h4⟩ => ?_⟩
  exact h4 _ F1 B H1 (G1.toS S.qB) S1
/-- at a return all that is one's own is let stand -/
def Ctx.stand (C : Ctx) : Ctx := { C with T := fun _ => 0 }
theorem Sim.stand {F H : Hp} {B : AS} {σ : L2.St} {n : Int} {ds : DS} (S : Sim C F B σ H n ds) : ∃ F1, GoS B F H (fun a => C.q = some a) F1 H ∧ Sim C.stand F1 (fun a => C.q = some a) σ H n ds := by
  classical
  let F1 : Hp := fun a => if B a ∧ C.q ≠ some a then H a else F a
  have hA : ∀ a, B a → C.q ≠ some a → F1 a = H a := fun a h h' => if_pos ⟨h, h'⟩
  have hN : ∀ a, ¬ (B a ∧ C.q ≠ some a) → F1 a = F a := fun a h => if_neg h
  have ff : Same F F1 := fun a o e => by
    by_cases h : B a ∧ C.q ≠ some a
    · have q := (S.bok a h.1).1
      rw [q] at e; cases e
    · rw [hN a h]; exact e
  have fh : Same F1 H := fun a o e => by
    by_cases h : B a ∧ C.q ≠ some a
    · rw [hA a h.1 h.2] at e; exact e
    · rw [hN a h] at e; exact S.fh a o e
  refine ⟨F1, ⟨ff, fh, fun _ _ e _ => e, fun _ _ e _ => e, fun a o n e hb => ?_, fun a ha => .inl (S.cell a ha).1, fun _ o e => ⟨o, e⟩⟩, ⟨fh, fun a ha => ?_, fun q hq => ⟨hq, (S.cell q hq).2⟩, S.pin, S.len, ?_⟩⟩
  · rw [hN a fun z => hb z.1]; exact n
  · refine ⟨?_, (S.bok a (S.cell a ha).1).2⟩
    rw [hN a fun z => z.2 ha]
    exact (S.bok a (S.cell a ha).1).1
  · obtain ⟨A, h1, h2, h3⟩ := S.rep
    refine ⟨fun _ _ => False, fun i d e => ?_, fun _ _ h => h.elim, fun _ _ _ h => h.elim⟩
    obtain ⟨v, e1, r⟩ := h1 i d e
    exact ⟨v, e1, r.frz ff fun a o ha e => by rw [hA a (h2 i a ha).1 (h2 i a ha).2]; exact e⟩
def sRet (m : M) : MS := sE m fun d n ds => some (.rt d, n, ds)
theorem ws_ret {e : Expr} {m : M} (he : PE X e (W C.stand wx .fz kr m)) (hs : kr = kr := by rfl) : PS X (.Return (some e) pos) (WS C wx kr (sRet m)) := (ps_ret he).wk fun E σ H w => by
  obtain ⟨F, B, n, ds, S, h⟩ := w
  obtain ⟨F0, G0, S0⟩ := S.stand
  refine ⟨F0, fun a => C.q = some a, n, ds, S0, ?_⟩
  unfold WSL at h
  unfold WL
  cases e : m n ds with
  | none => simp only [sRet, sE, e] at h
  | some p =>
    obtain ⟨o, n'⟩ := p
    cases o with
    | ok d =>
      simp only [sRet, sE, e] at h
      rintro v F' H' G S' ⟨A, r, f⟩
      refine h v (fun a => C.q = some a) F' H' A (G0.trans (G.toS fun _ z => z)) (fun q hq => ⟨(S'.cell q hq).2, (S'.bok q hq).1⟩) r fun a ha => ?_
      exact ⟨.inr (f a ha).1, (f a ha).2.1, fun z => S.nq z (f a ha).1, (f a ha).2.2⟩
    | ex c fs =>
      simp only [sRet, sE, e] at h
      intro F' H' od G S' x
      have G1 : GoC C.q F H F H' := ⟨⟨Same.refl _, fun a o e => G.go.hh a o (S.fh a o e) fun z => by
        have q := (S.bok a (S.cell a z).1).1
        rw [q] at e; exact absurd e (by simp), G.go.hh, G.go.ht, fun a o n _ => n⟩, G.dm⟩
      exact h σ F B H' od (G1.toS S.qB) (S.go G1 fun q hq => (S'.cell q hq).2) x

theorem ws_retN : PS X (.Return none pos) (WS C wx kr (sRet (mC .non))) := ps_retN.wk fun E σ H w => by
  obtain ⟨F, B, n, ds, S, h⟩ := w
  exact h .non B F H (fun _ => False) (GoS.refl S.fh) (fun q hq => ⟨(S.cell q hq).2, (S.bok q (S.cell q hq).1).1⟩) .non fun _ h => h.elim
/-- return of a name whose thing is one's own -/
def sRetV (i : Nat) : MS := fun n ds => match ds[i]? with
  | some (some d) => some (.rt d, n, ds)
  | _ => none
theorem ws_retV {i : Nat} {e : Expr} (h : PE X e (tVar i)) (hT : C.T i = kr) : PS X (.Return (some e) pos) (WS C wx kr (sRetV i)) := (ps_ret h).wk fun E σ H w => by
  obtain ⟨F, B, n, ds, S, h⟩ := w
  unfold WSL sRetV at h
  cases e : ds[i]? with
  | none => simp only [e] at h
  | some x =>
    cases x with
    | none => simp only [e] at h
    | some d =>
      simp only [e] at h
      obtain ⟨A, h1, h2, h3⟩ := S.rep
      obtain ⟨v, hv, r⟩ := h1 i d e
      rw [hT] at r
      exact ⟨v, hv, h v B F H (A i) (GoS.refl S.fh) (fun q hq => ⟨(S.cell q hq).2, (S.bok q (S.cell q hq).1).1⟩) r fun a ha => ⟨.inl (h2 i a ha).1, (S.bok a (h2 i a ha).1).1, (h2 i a ha).2, (S.bok a (h2 i a ha).1).2⟩⟩

/-! ### targets -/
/-- a target: a name; names of a tuple -/
inductive Tg where
  | one (i : Nat) | tup (is : List Nat)
def bindL : List Nat → List D → DS → Option DS
  | [], [], s => some s
  | i :: is, d :: ds, s => bindL is ds (s.set i (some d))
  | _, _, _ => none
def Tg.bind : Tg → D → DS → Option DS
  | .one i, d, s => some (s.set i (some d))
  | .tup is, .tup ds, s => bindL is ds s
  | _, _, _ => none
def Tg.slots : Tg → List Nat
  | .one i => [i]
  | .tup is => is
/-- what a target's store leaves -/
def GT (C : Ctx) (tg : Tg) : TG := fun v σ H Q => ∃ F B n ds d ds', Sim C F B σ H n ds ∧ Rp C.K F H 0 v d (fun _ => False) ∧ tg.bind d ds = some ds' ∧
  ∀ σ', Sim C F B σ' H n ds' → σ'.length = σ.length → (∀ i, i ∉ tg.slots → σ'[i]? = σ[i]?) → Q σ' H
def GTs (C : Ctx) (is : List Nat) : TGs := fun vs σ H Q => ∃ F B n ds as ds', Sim C F B σ H n ds ∧ RpL C.K F H vs as ∧ bindL is as ds = some ds' ∧
  ∀ σ', Sim C F B σ' H n ds' → σ'.length = σ.length → (∀ i, i ∉ is → σ'[i]? = σ[i]?) → Q σ' H
def SlotOk (C : Ctx) (i : Nat) : Prop := C.T i = 0 ∧ C.pn i = none
theorem _root_.L2.PG.wk {e : Expr} {t t' : TG} (h : PG X e t) (w : ∀ v σ H Q, t' v σ H Q → t v σ H Q) : PG X e t' := ⟨fun pins s σ H v u Q I r q => h.run pins s σ H v u Q I r (w _ _ _ _ q)⟩
theorem _root_.L2.PGs.wk {es : List Expr} {t t' : TGs} (h : PGs X es t) (w : ∀ vs σ H Q, t' vs σ H Q → t vs σ H Q) : PGs X es t' := ⟨fun pins s σ H v u Q I r q => h.run pins s σ H v u Q I r (w _ _ _ _ q)⟩
theorem vg_name {i : Nat} {x : Str} {p : Pos} (hs : SlotOk C i) (hN : X.N.Nodup) (hi : X.N[i]? = some x := by rfl) (hx : Loc X.env.scope x := by first | exact Or.inl rfl | exact Or.inr rfl) (hf : X.fn x = true ∨ X.env.scope.names.lookup x = some .local := by first | exact .inl rfl | exact .inr rfl | assumption) : PG X (.Name x p) (GT C (.one i)) :=
  (pg_name hN hi hx hf).wk fun v σ H Q w => by
    obtain ⟨F, B, n, ds, d, ds', S, r, e, q⟩ := w
    cases e
    exact q _ (S.set0 r hs.1 hs.2) (List.length_set) fun j hj => List.getElem?_set_ne (fun z => hj (by simp [Tg.slots, z]))
theorem vgs_nil : PGs X [] (GTs C []) := pgs_nil.wk fun vs σ H Q w => by
  obtain ⟨F, B, n, ds, as, ds', S, r, e, q⟩ := w
  cases as with
  | nil =>
    cases e
    have : vs = [] := List.eq_nil_of_length_eq_zero r.1
    exact ⟨this, q σ S rfl fun _ _ => rfl⟩
  | cons a as => cases e
theorem vgs_cons {i : Nat} {is : List Nat} {x : Str} {p : Pos} {es : List Expr} (hs : SlotOk C i) (hN : X.N.Nodup) (h2 : PGs X es (GTs C is)) (hi : X.N[i]? = some x := by rfl) (hx : Loc X.env.scope x := by first | exact Or.inl rfl | exact Or.inr rfl) (hf : X.fn x = true ∨ X.env.scope.names.lookup x = some .local := by first | exact .inl rfl | exact .inr rfl | assumption) :
    PGs X (.Name x p :: es) (GTs C (i :: is)) := (pgs_cons (pg_name hN hi hx hf) h2).wk fun vs σ H Q w => by
  obtain ⟨F, B, n, ds, as, ds', S, r, e, q⟩ := w
  cases as with
  | nil => cases e
  | cons a as =>
    cases vs with
    | nil => cases r.1
    | cons v vs =>
      obtain ⟨r1, r2⟩ := r.tail
      refine ⟨v, vs, rfl, F, B, n, _, as, ds', S.set0 r1 hs.1 hs.2, r2, e, fun σ' S' hl hi' => q σ' S' (hl.trans List.length_set) fun j hj => ?_⟩
      rw [List.mem_cons, not_or] at hj
      rw [hi' j hj.2, List.getElem?_set_ne (Ne.symm hj.1)]
theorem bindL_len : ∀ {is : List Nat} {ds : List D} {s s' : DS}, bindL is ds s = some s' → is.length = ds.length
  | [], [], _, _, _ => rfl
  | i :: is, d :: ds, s, s', h => by
    rw [List.length_cons, List.length_cons, bindL_len (is := is) (ds := ds) h]
  | [], _ :: _, _, _, h => by cases h
  | _ :: _, [], _, _, h => by cases h
theorem vg_tup {es : List Expr} {k : Nat} {is : List Nat} {p : Pos} (hc : X.calm = true) (h : PGs X es (GTs C is)) (hn : (assignEach es X.env).length = is.length := by rfl) (hst : (assignEach es X.env).findIdx? (·.1) = none := by rfl) (hK : X.K = C.K := by rfl) : PG X (.Tuple es k p) (GT C (.tup is)) :=
  (pg_tup hc h hn hst).wk fun v σ H Q w => by
    obtain ⟨F, B, n, ds, d, ds', S, r, e, q⟩ := w
    cases d with
    | tup as =>
      have hl := bindL_len (show bindL is as ds = some ds' from e)
      cases r with
      | tup hh l c =>
        rw [hK]
        exact ⟨_, _, rfl, hh, l.trans hl.symm, F, B, n, ds, as, ds', S, ⟨l, c⟩, e, q⟩
    | _ => cases e
/-- target = e -/
def sAsg (tg : Tg) (m : M) : MS := sE m fun d n ds => match tg.bind d ds with
  | some ds' => some (.nx, n, ds')
  | none => none
theorem ws_asg {t e : Expr} {tg : Tg} {m : M} (he : PE X e (W C wx .fz 0 m)) (hg : PG X t (GT C tg)) (hs : swapsWithSole [t] e pos.line X.env = pure false := by rfl) (hw : swappedStores [t] e X.env = pure none := by rfl) (h1 : (assignEach [t] X.env).map (·.2) = [assign t X.env] := by rfl) : PS X (.Assign [t] e pos) (WS C wx kr (sAsg tg m)) := (ps_asg he hg hs hw h1).wk fun E σ H w => by
  obtain ⟨F, B, n, ds, S, h⟩ := w
  refine ⟨F, B, n, ds, S, (wsl_e (R := RV C .fz 0) S h).mono fun v H1 ⟨F1, n1, d, G1, S1, ⟨A, r1, f⟩, h4⟩ => ?_⟩
  cases e : tg.bind d ds with
  | none => unfold WSL at h4; simp only [e] at h4
  | some ds' =>
    unfold WSL at h4
    simp only [e] at h4
    exact ⟨F1, B, n1, ds, d, ds', S1, r1.z, e, fun σ' S' _ _ => h4 σ' F1 B H1 (G1.toS S.qB) S'⟩
/-- a, b = x, y -/
def sPar (i j : Nat) (ms : Mo (List D)) : MS := sE ms fun as n ds => match as with
  | [a, b] => some (.nx, n, (ds.set i (some a)).set j (some b))
  | _ => none
theorem ws_par {i j : Nat} {x y : Str} {a b : Expr} {px py pt : Pos} {kt k2 : Nat} {pt2 : Pos} {ms : Mo (List D)} (hi : SlotOk C i) (hj : SlotOk C j)
    (h : PS X (.Assign [.Tuple [.Name x px, .Name y py] kt pt] (.Tuple [a, b] k2 pt2) pos) (tPar i j (WA C wx .fz ms))) : PS X (.Assign [.Tuple [.Name x px, .Name y py] kt pt] (.Tuple [a, b] k2 pt2) pos) (WS C wx kr (sPar i j ms)) := h.wk fun E σ H w => by
  obtain ⟨F, B, n, ds, S, h⟩ := w
  refine ⟨F, B, n, ds, S, (wsl_e (R := RA C .fz) S h).mono fun vs H1 ⟨F1, n1, as, G1, S1, r1, h4⟩ => ?_⟩
  match as with
  | [d1, d2] =>
    obtain ⟨v, v', rfl, ra, rb⟩ := RpL.two r1
    exact ⟨v, v', rfl, h4 _ F1 B H1 (G1.toS S.qB) ((S1.set0 ra hi.1 hi.2).set0 rb hj.1 hj.2)⟩
  | [] => exact h4.elim
  | [_] => exact h4.elim
  | _ :: _ :: _ :: _ => exact h4.elim
end
end GW

namespace GW
open PySem L2

/-! ### what is walked -/
structure Later (F H F' H' : Hp) : Prop where
  ff : Same F F'
  fh : Same F' H'
  ht : ∀ a o, H a = some o → Mk o = false → H' a = some o
  dm : ∀ a o, H a = some o → ∃ o', H' a = some o'
theorem Later.refl {F H : Hp} (h : Same F H) : Later F H F H := ⟨Same.refl _, h, fun _ _ e _ => e, fun _ o e => ⟨o, e⟩⟩
theorem Later.trans {F H F1 H1 F2 H2 : Hp} (a : Later F H F1 H1) (b : Later F1 H1 F2 H2) : Later F H F2 H2 :=
  ⟨a.ff.trans b.ff, b.fh, fun x o e n => b.ht x o (a.ht x o e n) n, fun x o e => by
    obtain ⟨o', e'⟩ := a.dm x o e
    exact b.dm x o' e'⟩
theorem GoC.later {q : Option Addr} {F H F1 H1 : Hp} (g : GoC q F H F1 H1) : Later F H F1 H1 := ⟨g.go.ff, g.go.fh, g.go.ht, g.dm⟩
theorem GoS.later {B B1 : AS} {F H F1 H1 : Hp} (g : GoS B F H B1 F1 H1) : Later F H F1 H1 := ⟨g.ff, g.fh, g.ht, g.dm⟩
theorem len_none {α : Type} {l : List α} {i : Nat} (h : l.length = i) : l[i]? = none := by subst h; simp
def Yld (K : PySem.W.Frag) (F H : Hp) (J : It) (ds : List D) : Prop := ∀ F' H', Later F H F' H' → ∀ i,
  (∀ d, ds[i]? = some d → J.go i H' ∧ ∀ x H'', J.yld i H' x H'' → (H'' = H' ∨ ∃ p vs, H' p = none ∧ H'' = upd H' p (.tup vs)) ∧ Rp K F' H'' 0 x d (fun _ => False)) ∧ (ds.length = i → J.stop i H')
abbrev WI (C : Ctx) (wx : WX) (m : Mo (List D)) : TI := WW C wx (fun _ F' H' J as => Yld C.K F' H' J as) m
theorem _root_.L2.PI.wk {X : Cx} {tg iter : Expr} {t t' : TI} (h : PI X tg iter t) (w : ∀ σ H Q, t' σ H Q → t σ H Q) : PI X tg iter t' := ⟨fun pins s σ H R I q => h.run pins s σ H R I (w _ _ _ q)⟩
section
variable {X : Cx} {C : Ctx} {wx : WX} {kr k : Nat} {e tg : Expr} {es : List Expr} {p pos : Pos} {m : M} {ms : Mo (List D)}
def mItL (m : M) : Mo (List D) := mb m fun d => ret (match d with | .lst ds => some ds | _ => none)
def mItT (m : M) : Mo (List D) := mb m fun d => ret (match d with | .tup ds => some ds | _ => none)
def signsD (x : Str) : List D := x.cps.toList.map fun c => .str ⟨#[c]⟩
def mItS (m : M) : Mo (List D) := mb m fun d => ret (match d with | .str x => some (signsD x) | _ => none)
theorem vi_list (he : PE X e (W C wx .fz 0 m)) (hK : X.K = C.K := by rfl) : PI X tg e (WI C wx (mItL m)) := (pi_list he).wk fun σ H Q w => by
  obtain ⟨F, B, n, ds, S, h⟩ := w
  refine ⟨F, B, n, ds, S, (h.bind fun F1 H1 F2 H2 v d G r => r).mono fun v H1 ⟨F1, n1, d, G1, S1, ⟨A, r1, f⟩, h1⟩ => ?_⟩
  obtain ⟨as, e, q⟩ := h1.retE
  cases r1 with
  | @lst A' a vs as' hh l c =>
    cases e
    rw [hK]
    refine ⟨a, rfl, ⟨vs, sqL_mono hh S1.fh⟩, q _ F1 H1 (GoC.refl S1.fh) S1 fun F' H' L i => ⟨fun d hd => ?_, fun hn0 => (fun hn => ?_) (len_none hn0)⟩⟩
    · have hq : SqL C.K H' a vs := sqL_mono hh (L.ff.trans L.fh)
      have hv : vs[i]? = some (vs[i]'(by have := (List.getElem?_eq_some_iff.mp hd).1; omega)) := by
        have := (List.getElem?_eq_some_iff.mp hd).1
        simp [l, this]
      refine ⟨⟨vs, _, hq, hv⟩, fun x H'' y => ?_⟩
      obtain ⟨y1, y2⟩ := y
      subst y1
      have := y2 vs hq
      exact ⟨.inl rfl, (Rp.z (c i x d this hd)).mono L.ff L.ht fun _ _ h => h.elim⟩
    · refine ⟨vs, sqL_mono hh (L.ff.trans L.fh), ?_⟩
      rw [l]
      exact List.getElem?_eq_none_iff.mp hn
  | _ => cases e
theorem vi_tup (he : PE X e (W C wx .fz 0 m)) (hK : X.K = C.K := by rfl) : PI X tg e (WI C wx (mItT m)) := (pi_tup he).wk fun σ H Q w => by
  obtain ⟨F, B, n, ds, S, h⟩ := w
  refine ⟨F, B, n, ds, S, (h.bind fun F1 H1 F2 H2 v d G r => r).mono fun v H1 ⟨F1, n1, d, G1, S1, ⟨A, r1, f⟩, h1⟩ => ?_⟩
  obtain ⟨as, e, q⟩ := h1.retE
  cases r1 with
  | @tup k' A' a vs as' hh l c =>
    cases e
    rw [hK]
    refine ⟨a, rfl, ⟨vs, hh⟩, q _ F1 H1 (GoC.refl S1.fh) S1 fun F' H' L i => ⟨fun d hd => ?_, fun hn0 => (fun hn => ?_) (len_none hn0)⟩⟩
    · have hq : SqT C.K H' a vs := sqT_mono hh L.ht
      have hv : vs[i]? = some (vs[i]'(by have := (List.getElem?_eq_some_iff.mp hd).1; omega)) := by
        have := (List.getElem?_eq_some_iff.mp hd).1
        simp [l, this]
      refine ⟨⟨vs, _, hq, hv⟩, fun x H'' y => ?_⟩
      obtain ⟨y1, y2⟩ := y
      subst y1
      have := y2 vs hq
      exact ⟨.inl rfl, (Rp.z (c i x d this hd)).mono L.ff L.ht fun _ _ h => h.elim⟩
    · refine ⟨vs, sqT_mono hh L.ht, ?_⟩
      rw [l]
      exact List.getElem?_eq_none_iff.mp hn
  | _ => cases e
theorem vi_str {g : Rg} (he : PE X e (W C wx g 0 m)) : PI X tg e (WI C wx (mItS m)) := (pi_str he).wk fun σ H Q w => by
  obtain ⟨F, B, n, ds, S, h⟩ := w
  refine ⟨F, B, n, ds, S, (h.bind fun F1 H1 F2 H2 v d G r => r).mono fun v H1 ⟨F1, n1, d, G1, S1, ⟨A, r1, f⟩, h1⟩ => ?_⟩
  obtain ⟨as, e, q⟩ := h1.retE
  cases r1 with
  | @str k' A' x =>
    cases e
    refine ⟨x, rfl, q _ F1 H1 (GoC.refl S1.fh) S1 fun F' H' L i => ⟨fun d hd => ?_, fun hn0 => (fun hn => ?_) (len_none hn0)⟩⟩
    · unfold signsD at hd
      rw [List.getElem?_map] at hd
      cases hc : x.cps.toList[i]? with
      | none => rw [hc] at hd; cases hd
      | some cc =>
        rw [hc] at hd
        cases hd
        have hlt : i < x.cps.size := by
          have := (List.getElem?_eq_some_iff.mp hc).1
          simpa using this
        refine ⟨hlt, fun v H'' y => ?_⟩
        obtain ⟨y1, c2, y2, y3⟩ := y
        subst y1 y3
        have : c2 = cc := by
          have h3 : x.cps[i]? = some cc := by rw [← Array.getElem?_toList]; exact hc
          rw [h3] at y2; exact (Option.some.inj y2).symm
        subst this
        exact ⟨.inl rfl, .str⟩
    · unfold signsD at hn
      have h1 := List.getElem?_eq_none_iff.mp hn
      have h2 : x.cps.size ≤ i := by simpa using h1
      exact h2
  | _ => cases e
def rngD (lo : Int) (n : Nat) : List D := (List.range n).map fun (i : Nat) => .int (lo + (i : Int))
noncomputable def r62 (i : Int) : Bool := dec (-4611686018427387904 ≤ i ∧ i < 4611686018427387904)
noncomputable def oRng : List D → Option (List D)
  | [.int j] => if r62 j = true then some (rngD 0 j.toNat) else none
  | [.int i, .int j] => if r62 i = true ∧ r62 j = true then some (rngD i (j - i).toNat) else none
  | _ => none
noncomputable def mRng (ms : Mo (List D)) : Mo (List D) := mb ms fun ds => ret (oRng ds)
theorem yld_rng {F H : Hp} {lo : Int} {n : Nat} : Yld C.K F H (Itr lo n) (rngD lo n) := fun F' H' L i => by
  have hl : (rngD lo n).length = n := by unfold rngD; simp
  refine ⟨fun d hd => ?_, fun hn0 => (fun hn => ?_) (len_none hn0)⟩
  · have hlt : i < n := by
      have := (List.getElem?_eq_some_iff.mp hd).1
      omega
    have he : d = .int (lo + (i : Int)) := by
      unfold rngD at hd
      rw [List.getElem?_map, List.getElem?_range hlt] at hd
      cases hd; rfl
    subst he
    refine ⟨hlt, fun x H'' y => ?_⟩
    obtain ⟨y1, y2⟩ := y
    subst y1 y2
    exact ⟨.inl rfl, .int⟩
  · have := List.getElem?_eq_none_iff.mp hn
    exact hl ▸ this
theorem r62_ok {i : Int} (h : r62 i = true) : -(2 ^ 62) ≤ i ∧ i < 2 ^ 62 := by
  unfold r62 at h
  have := dec_iff.mp h
  omega
theorem vi_range1 {a : Expr} (hm : X.mg "range" = none) (ha : PA X [a] (WA C wx .bo ms)) (hg : Gl X "range" := by rfl) (hs : starEach [a] X.env = [(false, eval a X.env)] := by rfl) (hlen : LenM ms 1 := by exact LenM.cons LenM.nil) : PI X tg (.Call (.Name "range" p) [a] [] pos) (WI C wx (mRng ms)) := (pi_range1 hg hm ha hs).wk fun σ H Q w => by
  obtain ⟨F, B, n, ds, S, h⟩ := w
  refine ⟨F, B, n, ds, S, WL.strong hlen ((h.bind (R := fun H F' H' vs as => RA C .bo H F' H' vs as ∧ as.length = 1) fun F1 H1 F2 H2 v d G r => r).mono fun vs H1 ⟨F1, n1, as, G1, S1, ⟨r1, hl⟩, h1⟩ => ?_)⟩
  obtain ⟨is, e, q⟩ := h1.retE
  match as, hl with
  | [d], _ =>
    obtain ⟨v, rfl, r⟩ := RpL.one r1
    cases d with
    | int j =>
      simp only [oRng] at e
      split at e
      · rename_i hj
        cases e
        exact ⟨j, by rw [r.int_], (r62_ok hj).1, (r62_ok hj).2, q _ F1 H1 (GoC.refl S1.fh) S1 yld_rng⟩
      · cases e
    | _ => cases e
theorem vi_range2 {a b : Expr} (hm : X.mg "range" = none) (ha : PA X [a, b] (WA C wx .bo ms)) (hg : Gl X "range" := by rfl) (hs : starEach [a, b] X.env = [(false, eval a X.env), (false, eval b X.env)] := by rfl) (hs2 : starEach [b] X.env = [(false, eval b X.env)] := by rfl) (hlen : LenM ms 2 := by exact LenM.cons (LenM.cons LenM.nil)) : PI X tg (.Call (.Name "range" p) [a, b] [] pos) (WI C wx (mRng ms)) := (pi_range2 hg hm ha hs hs2).wk fun σ H Q w => by
  obtain ⟨F, B, n, ds, S, h⟩ := w
  refine ⟨F, B, n, ds, S, WL.strong hlen ((h.bind (R := fun H F' H' vs as => RA C .bo H F' H' vs as ∧ as.length = 2) fun F1 H1 F2 H2 v d G r => r).mono fun vs H1 ⟨F1, n1, as, G1, S1, ⟨r1, hl⟩, h1⟩ => ?_)⟩
  obtain ⟨is, e, q⟩ := h1.retE
  match as, hl with
  | [d, d'], _ =>
    obtain ⟨v, v', rfl, r, r'⟩ := RpL.two r1
    cases d with
    | int i =>
      cases d' with
      | int j =>
        simp only [oRng] at e
        split at e
        · rename_i hj
          cases e
          exact ⟨i, j, by rw [r.int_, r'.int_], ⟨(r62_ok hj.1).1, (r62_ok hj.1).2, (r62_ok hj.2).1, (r62_ok hj.2).2⟩, q _ F1 H1 (GoC.refl S1.fh) S1 yld_rng⟩
        · cases e
      | _ => cases e
    | _ => cases e

/-! ### for -/
def forL (tg : Tg) (body : MS) : List D → MS
  | [] => sNx
  | d :: r => fun n ds => match tg.bind d ds with
    | none => none
    | some ds1 => match body n ds1 with
      | none => none
      | some (.nx, n', ds') => forL tg body r n' ds'
      | some (.ct, n', ds') => forL tg body r n' ds'
      | some (.bk, n', ds') => some (.nx, n', ds')
      | some (.rt d, n', ds') => some (.rt d, n', ds')
      | some (.ex c fs, n', ds') => some (.ex c fs, n', ds')
def sFor (mi : Mo (List D)) (tg : Tg) (body : MS) : MS := sE mi fun as => forL tg body as
theorem Sim.yld {F H H' : Hp} {B : AS} {σ : L2.St} {n : Int} {ds : DS} (S : Sim C F B σ H n ds) (h : H' = H ∨ ∃ p vs, H p = none ∧ H' = upd H p (.tup vs)) : GoC C.q F H F H' ∧ Sim C F B σ H' n ds := by
  rcases h with h | ⟨p, vs, hp, h⟩
  · subst h; exact ⟨GoC.refl S.fh, S⟩
  · subst h; exact S.newO hp
theorem ws_for {iter : Expr} {body : List Stmt} {mi : Mo (List D)} {t : Tg} {mbody : MS} (hp : PassesOwn (model X.prog X.w) X.A X.env X.xe) (hi : PI X tg iter (WI C wx mi)) (hg : PG X tg (GT C t)) (hb : PSs X body (WS C wx kr mbody)) (hc : X.calm = true := by rfl)
    (hs : ∀ x, foldedSetIterable iter X.env x = pure x := by intro _; rfl) : PS X (.For tg iter body [] pos) (WS C wx kr (sFor mi t mbody)) := (ps_for hp hc hi hg hb hs).wk fun E σ H w => by
  obtain ⟨F, B, n, ds, S, h⟩ := w
  refine ⟨F, B, n, ds, S, (wsl_e S h).mono fun J H1 ⟨F1, n1, as, G1, S1, y, h1⟩ => ?_⟩
  refine ⟨fun i m σi Hi => m + i = as.length ∧ ∃ Fi Bi ni dsi, GoS B F H Bi Fi Hi ∧ Later F1 H1 Fi Hi ∧ Sim C Fi Bi σi Hi ni dsi ∧ WSL C wx kr (forL t mbody (as.drop i)) F B ni dsi H E, ⟨as.length, rfl, F1, B, n1, ds, G1.toS S.qB, Later.refl S1.fh, S1, by rw [List.drop_zero]; exact h1⟩, ?_⟩
  rintro i m σi Hi ⟨hm, Fi, Bi, ni, dsi, Gi, Li, Si, hi⟩
  cases hd : as[i]? with
  | none =>
    have hlen := List.getElem?_eq_none_iff.mp hd
    left
    refine ⟨(y Fi Hi Li i).2 (by have := List.getElem?_eq_none_iff.mp hd; omega), ?_⟩
    rw [List.drop_eq_nil_of_le hlen] at hi
    exact hi σi Fi Bi Hi Gi Si
  | some d =>
    have hlt := (List.getElem?_eq_some_iff.mp hd).1
    right
    obtain ⟨hgo, hy⟩ := (y Fi Hi Li i).1 d hd
    refine ⟨hgo, fun σ' H' => (m - 1) + (i + 1) = as.length ∧ ∃ Fi Bi ni dsi, GoS B F H Bi Fi H' ∧ Later F1 H1 Fi H' ∧ Sim C Fi Bi σ' H' ni dsi ∧ WSL C wx kr (forL t mbody (as.drop (i + 1))) F B ni dsi H E, fun σ' H' hn => ⟨m - 1, by omega, hn⟩, fun x H' hx => ?_⟩
    obtain ⟨hH, rx⟩ := hy x H' hx
    obtain ⟨G2, S2⟩ := Si.yld hH
    have hdrop : as.drop i = d :: as.drop (i + 1) := by
      rw [List.drop_eq_getElem_cons hlt]
      rw [(List.getElem?_eq_some_iff.mp hd).2]
    rw [hdrop] at hi
    cases hbd : t.bind d dsi with
    | none => unfold WSL at hi; simp only [forL, hbd] at hi
    | some ds1 =>
      refine ⟨Fi, Bi, ni, dsi, d, ds1, S2, rx, hbd, fun σ2 S3 _ _ => ?_⟩
      refine ⟨Fi, Bi, ni, ds1, S3, ?_⟩
      have Gn : GoS B F H Bi Fi H' := Gi.trans (G2.toS Si.qB)
      have Ln : Later F1 H1 Fi H' := Li.trans G2.later
      have hi0 := hi
      unfold WSL at hi ⊢
      cases eb : mbody ni ds1 with
      | none => simp only [forL, hbd, eb] at hi
      | some pp =>
        obtain ⟨fl, n', ds'⟩ := pp
        cases fl with
        | nx => exact fun σ' F' B' H'' G3 S4 => ⟨by omega, F', B', n', ds', Gn.trans G3, Ln.trans G3.later, S4, WSL.tr (GoS.refl S.fh) (by simp only [forL, hbd, eb]) hi0⟩
        | ct => exact fun σ' F' B' H'' G3 S4 => ⟨by omega, F', B', n', ds', Gn.trans G3, Ln.trans G3.later, S4, WSL.tr (GoS.refl S.fh) (by simp only [forL, hbd, eb]) hi0⟩
        | bk =>
          simp only [forL, hbd, eb] at hi
          exact fun σ' F' B' H'' G3 S4 => hi σ' F' B' H'' (Gn.trans G3) S4
        | rt d =>
          simp only [forL, hbd, eb] at hi
          exact RtP.tr Gn hi
        | ex c fs =>
          simp only [forL, hbd, eb] at hi
          exact fun σ' F' B' H'' od G3 S4 x => hi σ' F' B' H'' od (Gn.trans G3) S4 (x.trS Gn)

/-! ### while -/
def whileL (t : Mo Bool) (body : MS) : Nat → MS
  | 0 => sNone
  | k + 1 => sE t fun b => match b with
    | false => sNx
    | true => fun n ds => match body n ds with
      | none => none
      | some (.nx, n', ds') => whileL t body k n' ds'
      | some (.ct, n', ds') => whileL t body k n' ds'
      | some (.bk, n', ds') => some (.nx, n', ds')
      | some (.rt d, n', ds') => some (.rt d, n', ds')
      | some (.ex c fs, n', ds') => some (.ex c fs, n', ds')
@[irreducible] def FUEL : Nat := 2 ^ 100000
def sWhile (t : Mo Bool) (body : MS) : MS := whileL t body FUEL
theorem ws_whileK {c : Expr} {body : List Stmt} {t : Mo Bool} {mbody : MS} (fuel : Nat) (hp : PassesOwn (model X.prog X.w) X.A X.env X.xe) (hc : PT X c (WT C wx t)) (hb : PSs X body (WS C wx kr mbody)) : PS X (.While c body [] pos) (WS C wx kr (whileL t mbody fuel)) := (ps_while hp hc hb).wk fun E σ H w => by
  obtain ⟨F, B, n, ds, S, h⟩ := w
  refine ⟨fun m σi Hi => ∃ Fi Bi ni dsi, GoS B F H Bi Fi Hi ∧ Sim C Fi Bi σi Hi ni dsi ∧ WSL C wx kr (whileL t mbody m) F B ni dsi H E, ⟨fuel, F, B, n, ds, GoS.refl S.fh, S, h⟩, ?_⟩
  rintro m σi Hi ⟨Fi, Bi, ni, dsi, Gi, Si, hi⟩
  cases m with
  | zero => exact hi.elim
  | succ m =>
    refine ⟨Fi, Bi, ni, dsi, Si, (wsl_e0 (R := RT) Gi Si hi).mono fun b H1 ⟨F1, n1, d, G1, S1, r1, h1⟩ => ?_⟩
    have r1 : b = d := r1
    subst r1
    have Gn : GoS B F H Bi F1 H1 := Gi.trans (G1.toS Si.qB)
    cases b with
    | false =>
      rw [if_neg Bool.false_ne_true]
      exact h1 σi F1 Bi H1 Gn S1
    | true =>
      rw [if_pos rfl]
      refine ⟨fun σ' H' => ∃ Fi Bi ni dsi, GoS B F H Bi Fi H' ∧ Sim C Fi Bi σ' H' ni dsi ∧ WSL C wx kr (whileL t mbody m) F B ni dsi H E, fun σ' H' hn => ⟨m, Nat.lt_succ_self m, hn⟩, F1, Bi, n1, dsi, S1, ?_⟩
      have h1' := h1
      unfold WSL at h1 ⊢
      cases eb : mbody n1 dsi with
      | none => simp only [eb] at h1
      | some pp =>
        obtain ⟨fl, n', ds'⟩ := pp
        cases fl with
        | nx => exact fun σ' F' B' H'' G3 S4 => ⟨F', B', n', ds', Gn.trans G3, S4, WSL.tr (GoS.refl S.fh) (by simp only [eb]) h1'⟩
        | ct => exact fun σ' F' B' H'' G3 S4 => ⟨F', B', n', ds', Gn.trans G3, S4, WSL.tr (GoS.refl S.fh) (by simp only [eb]) h1'⟩
        | bk =>
          simp only [eb] at h1
          exact fun σ' F' B' H'' G3 S4 => h1 σ' F' B' H'' (Gn.trans G3) S4
        | rt d =>
          simp only [eb] at h1
          exact RtP.tr Gn h1
        | ex c fs =>
          simp only [eb] at h1
          exact fun σ' F' B' H'' od G3 S4 x => h1 σ' F' B' H'' od (Gn.trans G3) S4 (x.trS Gn)
theorem ws_while {c : Expr} {body : List Stmt} {t : Mo Bool} {mbody : MS} (hp : PassesOwn (model X.prog X.w) X.A X.env X.xe) (hc : PT X c (WT C wx t)) (hb : PSs X body (WS C wx kr mbody)) : PS X (.While c body [] pos) (WS C wx kr (sWhile t mbody)) := ws_whileK FUEL hp hc hb
end
end GW

namespace GW
open PySem L2 PyProof.Rows
abbrev wx0 : WX := fun _ _ _ _ => False
section
variable {X : Cx} {C : Ctx} {wx : WX} {kr k : Nat} {e tg iter elt : Expr} {es : List Expr} {p pos : Pos} {m : M} {ms : Mo (List D)}
/-! ### comprehensions -/
def wipeD (ds : DS) : List Nat → DS
  | [] => ds
  | v :: vs => (wipeD ds vs).set v none
theorem Sim.wipe {F H : Hp} {B : AS} {σ : L2.St} {n : Int} {ds : DS} (S : Sim C F B σ H n ds) {vs : List Nat} (hv : ∀ i ∈ vs, C.pn i = none) : Sim C F B (L2.wipe σ vs) H n (wipeD ds vs) := by
  induction vs with
  | nil => exact S
  | cons v vs ih =>
    have S2 := ih fun i hi => hv i (List.mem_cons_of_mem _ hi)
    refine ⟨S2.fh, S2.bok, S2.cell, fun i w h => ?_, ?_, ?_⟩
    · have hne : v ≠ i := fun z => by
        have := hv v List.mem_cons_self
        rw [z, h] at this; cases this
      show ((L2.wipe σ vs).set v none)[i]? = _
      rw [List.getElem?_set_ne hne]
      exact S2.pin i w h
    · show ((L2.wipe σ vs).set v none).length = ((wipeD ds vs).set v none).length
      rw [List.length_set, List.length_set]; exact S2.len
    · obtain ⟨A, h1, h2, h3⟩ := S2.rep
      refine ⟨A, fun i d e => ?_, h2, h3⟩
      have e : ((wipeD ds vs).set v none)[i]? = some (some d) := e
      by_cases hi : v = i
      · subst hi
        by_cases hl : v < (wipeD ds vs).length
        · rw [List.getElem?_set_self hl] at e; cases e
        · rw [List.getElem?_eq_none (by simpa using hl)] at e; cases e
      · rw [List.getElem?_set_ne hi] at e
        obtain ⟨w, e1, r⟩ := h1 i d e
        exact ⟨w, by show ((L2.wipe σ vs).set v none)[i]? = _; rw [List.getElem?_set_ne hi]; exact e1, r⟩
theorem wipe_get {σ : L2.St} {i : Nat} : ∀ {vs : List Nat}, i ∈ vs → i < σ.length → (L2.wipe σ vs)[i]? = some none
  | v :: vs, hm, hl => by
    show ((L2.wipe σ vs).set v none)[i]? = _
    by_cases hv : v = i
    · subst hv
      rw [List.getElem?_set_self (by rw [wipe_length]; exact hl)]
    · rw [List.getElem?_set_ne hv]
      rcases List.mem_cons.mp hm with z | z
      · exact (hv z.symm).elim
      · exact wipe_get z hl
theorem wipe_same {σ σ2 : L2.St} {vs : List Nat} (hl : σ2.length = (L2.wipe σ vs).length) (h : ∀ i, i ∉ vs → σ2[i]? = (L2.wipe σ vs)[i]?) : L2.wipe σ2 vs = L2.wipe σ vs := by
  rw [wipe_length] at hl
  refine List.ext_getElem? fun i => ?_
  by_cases hi : i ∈ vs
  · by_cases hlt : i < σ.length
    · rw [wipe_get hi (by rw [hl]; exact hlt), wipe_get hi hlt]
    · rw [List.getElem?_eq_none (by rw [wipe_length, hl]; omega), List.getElem?_eq_none (by rw [wipe_length]; omega)]
  · rw [wipe_out hi, h i hi]
def compL (tg : Tg) (tt : Mo Bool) (me : M) (vs : List Nat) : List D → Mo (List D)
  | [] => ret (some [])
  | d :: r => fun n ds => match tg.bind d (wipeD ds vs) with
    | none => none
    | some ds1 => match tt n ds1 with
      | some (.ok true, n1) => (match me n1 ds1 with
        | some (.ok y, n2) => (match compL tg tt me vs r n2 ds with
          | some (.ok ys, n3) => some (.ok (y :: ys), n3)
          | _ => none)
        | _ => none)
      | some (.ok false, n1) => compL tg tt me vs r n1 ds
      | _ => none
def mLc (mi : Mo (List D)) (tg : Tg) (tt : Mo Bool) (me : M) (vs : List Nat) : M := mb mi fun as => mb (compL tg tt me vs as) fun ys => ret (if as.length ≤ 16777215 then some (.lst ys) else none)
theorem compL_len {tg : Tg} {tt : Mo Bool} {me : M} {vs : List Nat} : ∀ {as : List D} {n : Int} {ds : DS} {ys : List D} {n' : Int}, compL tg tt me vs as n ds = some (.ok ys, n') → ys.length ≤ as.length
  | [], n, ds, ys, n', h => by cases h; exact Nat.le_refl _
  | d :: r, n, ds, ys, n', h => by
    unfold compL at h
    split at h
    · cases h
    · split at h
      · split at h
        · split at h
          · rename_i h2
            cases h
            have := compL_len h2
            simp only [List.length_cons]; omega
          · cases h
        · cases h
      · have := compL_len h
        simp only [List.length_cons]; omega
      · cases h
/-- an own thing that the state does not speak of is written -/
theorem Sim.updO {F H : Hp} {B : AS} {σ : L2.St} {n : Int} {ds : DS} (S : Sim C F B σ H n ds) {p : Addr} {o o' : HO} (hp : H p = some o) (ho : Mk o = true) (hF : F p = none) (hB : ¬ B p) : Sim C F B σ (upd H p o') n ds where
  fh := fun a u e => by
    have hne : a ≠ p := fun z => by rw [z, hF] at e; cases e
    rw [upd_ne hne]; exact S.fh a u e
  bok := fun a ha => by
    have hne : a ≠ p := fun z => hB (z ▸ ha)
    obtain ⟨h1, u, h2, h3⟩ := S.bok a ha
    exact ⟨h1, u, by rw [upd_ne hne]; exact h2, h3⟩
  cell := fun q hq => by
    have hne : q ≠ p := fun z => hB (z ▸ (S.cell q hq).1)
    exact ⟨(S.cell q hq).1, by rw [upd_ne hne]; exact (S.cell q hq).2⟩
  pin := S.pin
  len := S.len
  rep := by
    obtain ⟨A, h1, h2, h3⟩ := S.rep
    refine ⟨A, fun i d e => ?_, h2, h3⟩
    obtain ⟨v, e1, r⟩ := h1 i d e
    refine ⟨v, e1, r.mono (Same.refl _) (fun a u e n => ?_) fun a u ha e => ?_⟩
    · have hne : a ≠ p := fun z => by rw [z, hp] at e; cases e; rw [ho] at n; cases n
      rw [upd_ne hne]; exact e
    · have hne : a ≠ p := fun z => hB (z ▸ (h2 i a ha).1)
      rw [upd_ne hne]; exact e
/-- the list under way: at L, its items' things one's own -/
structure Acc (K : PySem.W.Frag) (k : Nat) (H1 F H : Hp) (L : Addr) (vs : List V) (ds : List D) : Prop where
  at_ : H L = some (.lst vs)
  nF : F L = none
  len : vs.length = ds.length
  its : ∃ As : Nat → AS, (∀ (i : Nat) v d, vs[i]? = some v → ds[i]? = some d → Rp K F H k v d (As i)) ∧ (∀ i a, As i a → a ≠ L ∧ H1 a = none ∧ F a = none ∧ ∃ o, H a = some o ∧ Mk o = true) ∧ (∀ i j a, As i a → As j a → i = j) ∧ ∀ i, vs.length ≤ i → ∀ a, ¬ As i a
/-- an item more: it was made since (Fi, Hi) -/
theorem Acc.push {K : PySem.W.Frag} {H1 Fi Hi F H : Hp} {L : Addr} {vs : List V} {ds : List D} {v : V} {d : D} {A : AS} {q : Option Addr} (a : Acc K k H1 Fi Hi L vs ds) (G : GoC q Fi Hi F H) (hq : ∀ x, q = some x → H1 x ≠ none) (hL : H1 L = none) (hdm : ∀ x, Hi x = none → H1 x = none)
    (r : Rp K F H k v d A) (f : ∀ x, A x → Hi x = none ∧ F x = none ∧ ∃ o, H x = some o ∧ Mk o = true) : H L = some (.lst vs) ∧ F L = none ∧ Acc K k H1 F (upd H L (.lst (vs ++ [v]))) L (vs ++ [v]) (ds ++ [d]) := by
  obtain ⟨As, h1, h2, h3, h4⟩ := a.its
  have nq : ∀ x, H1 x = none → q ≠ some x := fun x h z => hq x z h
  have hHL : H L = some (.lst vs) := G.go.hh L _ a.at_ (nq L hL)
  have hFL : F L = none := G.go.nf L _ a.nF a.at_
  have hAL : ∀ x, A x → x ≠ L := fun x hx z => by
    have := (f x hx).1
    rw [z, a.at_] at this; cases this
  have hup : ∀ x o, x ≠ L → H x = some o → upd H L (.lst (vs ++ [v])) x = some o := fun x o hx e => by rw [upd_ne hx]; exact e
  have ht : ∀ x o, H x = some o → Mk o = false → upd H L (.lst (vs ++ [v])) x = some o := fun x o e n => by
    refine hup x o (fun z => ?_) e
    rw [z, hHL] at e; cases e; cases n
  refine ⟨hHL, hFL, upd_same, hFL, by simp [a.len], ?_⟩
  classical
  refine ⟨fun i => if i = vs.length then A else As i, fun i w d' e1 e2 => ?_, fun i x hx => ?_, fun i j x hi hj => ?_, fun i hi x hx => ?_⟩
  · by_cases hi : i = vs.length
    · subst hi
      rw [List.getElem?_concat_length] at e1
      rw [a.len, List.getElem?_concat_length] at e2
      cases e1; cases e2
      simp only [if_true]
      exact r.mono (Same.refl _) ht fun x o hx e => hup x o (hAL x hx) e
    · have hlt : i < vs.length := by
        have := (List.getElem?_eq_some_iff.mp e1).1
        rw [List.length_append, List.length_singleton] at this; omega
      rw [List.getElem?_append_left hlt] at e1
      rw [List.getElem?_append_left (by rw [← a.len]; exact hlt)] at e2
      simp only [if_neg hi]
      exact ((h1 i w d' e1 e2).mono G.go.ff G.go.ht fun x o hx e => G.go.hh x o e (nq x (h2 i x hx).2.1)).mono (Same.refl _) ht fun x o hx e => hup x o (h2 i x hx).1 e
  · by_cases hi : i = vs.length
    · simp only [if_pos hi] at hx
      obtain ⟨z1, z2, o, z3, z4⟩ := f x hx
      exact ⟨hAL x hx, hdm x z1, z2, o, hup x o (hAL x hx) z3, z4⟩
    · simp only [if_neg hi] at hx
      obtain ⟨z1, z2, z3, o, z4, z5⟩ := h2 i x hx
      exact ⟨z1, z2, G.go.nf x o z3 z4, o, hup x o z1 (G.go.hh x o z4 (nq x z2)), z5⟩
  · have old : ∀ i, As i x → A x → False := fun i z1 z2 => by
      obtain ⟨_, _, _, o, z4, _⟩ := h2 i x z1
      have := (f x z2).1
      rw [z4] at this; cases this
    by_cases hi' : i = vs.length <;> by_cases hj' : j = vs.length
    · rw [hi', hj']
    · simp only [if_pos hi'] at hi
      simp only [if_neg hj'] at hj
      exact (old j hj hi).elim
    · simp only [if_neg hi'] at hi
      simp only [if_pos hj'] at hj
      exact (old i hi hj).elim
    · simp only [if_neg hi'] at hi
      simp only [if_neg hj'] at hj
      exact h3 i j x hi hj
  · rw [List.length_append, List.length_singleton] at hi
    simp only [if_neg (show ¬ i = vs.length by omega)] at hx
    exact h4 i (by omega) x hx
/-- nothing new but what else was made since -/
theorem Acc.go {K : PySem.W.Frag} {H1 F H F' H' : Hp} {L : Addr} {vs : List V} {ds : List D} {q : Option Addr} (a : Acc K k H1 F H L vs ds) (G : GoC q F H F' H') (hq : ∀ x, q = some x → H1 x ≠ none) (hL : H1 L = none) : Acc K k H1 F' H' L vs ds := by
  obtain ⟨As, h1, h2, h3, h4⟩ := a.its
  have nq : ∀ x, H1 x = none → q ≠ some x := fun x h z => hq x z h
  refine ⟨G.go.hh L _ a.at_ (nq L hL), G.go.nf L _ a.nF a.at_, a.len, As, fun i v d e1 e2 => (h1 i v d e1 e2).mono G.go.ff G.go.ht fun x o hx e => G.go.hh x o e (nq x (h2 i x hx).2.1), fun i x hx => ?_, h3, h4⟩
  obtain ⟨z1, z2, z3, o, z4, z5⟩ := h2 i x hx
  exact ⟨z1, z2, G.go.nf x o z3 z4, o, G.go.hh x o z4 (nq x z2), z5⟩
theorem compL_noex {tg : Tg} {tt : Mo Bool} {me : M} {vs : List Nat} {c : Addr} {fs : List (Str × Int)} {n' : Int} : ∀ {as : List D} {n : Int} {ds : DS}, compL tg tt me vs as n ds ≠ some (.ex c fs, n')
  | [], n, ds, h => by cases h
  | d :: r, n, ds, h => by
    unfold compL at h
    split at h
    · cases h
    · split at h
      · split at h
        · split at h
          · cases h
          · cases h
        · cases h
      · exact compL_noex h
      · cases h
theorem lc_of {t : Tg} {mi : Mo (List D)} {tt : Mo Bool} {me : M} {vs : List Nat} (ht : ∀ i ∈ t.slots, i ∈ vs) (hv : ∀ i ∈ vs, C.pn i = none) {σ : L2.St} {H : Hp} {Q : VK} (w : W C wx .fz (k + 1) (mLc mi t tt me vs) σ H Q) :
    tLc (WI C wx mi) (GT C t) (WT C wx0 tt) (W C wx0 .fz k me) vs σ H Q := by
  obtain ⟨F, B, n, ds, S, h⟩ := w
  refine ⟨F, B, n, ds, S, (h.bind fun F1 H1 F2 H2 v d G r => r.tr G).mono fun J H1 ⟨F1, n1, as, G1, S1, y, h1⟩ L hL => ?_⟩
  have hFL : F1 L = none := none_some (fun a o e => ⟨o, S1.fh a o e⟩) hL
  have hqn : ∀ x, C.q = some x → H1 x ≠ none := fun x hx => S1.nq hx
  have nB : ¬ B L := fun z => by
    obtain ⟨_, o, e, _⟩ := S1.bok L z
    rw [hL] at e; cases e
  -- what the whole comes to
  obtain ⟨ys, n2, ec, hlen, q⟩ : ∃ ys n2, compL t tt me vs as n1 ds = some (.ok ys, n2) ∧ as.length ≤ 16777215 ∧ ∀ v F' H', GoC C.q F1 H1 F' H' → Sim C F' B σ H' n2 ds → RV C .fz (k + 1) H1 F' H' v (.lst ys) → Q v H' := by
    unfold WL at h1
    cases ec : compL t tt me vs as n1 ds with
    | none => simp only [mb, ec] at h1
    | some pp =>
      obtain ⟨o, n2⟩ := pp
      cases o with
      | ex c fs => exact (compL_noex ec).elim
      | ok ys =>
        by_cases hl : as.length ≤ 16777215
        · simp only [mb, ec, ret, if_pos hl] at h1
          exact ⟨ys, n2, rfl, hl, h1⟩
        · simp only [mb, ec, ret, if_neg hl] at h1
  let WI' : Nat → Nat → Hp → Prop := fun i m Hi => m + i = as.length ∧ ∃ Fi ni vsA dsA, GoC C.q F1 H1 Fi Hi ∧ Sim C Fi B σ Hi ni ds ∧ Acc C.K k H1 Fi Hi L vsA dsA ∧ dsA.length ≤ i ∧ ∃ rest, compL t tt me vs (as.drop i) ni ds = some (.ok rest, n2) ∧ ys = dsA ++ rest
  refine ⟨WI', ⟨as.length, rfl, F1, n1, [], [], GoC.newO S1.fh hL, (S1.newO hL).2, ⟨upd_same, hFL, rfl, fun _ _ => False, fun i v d e => by simp at e, fun _ _ h => h.elim, fun _ _ _ h => h.elim, fun _ _ _ h => h⟩, Nat.zero_le _, ys, by rw [List.drop_zero]; exact ec, rfl⟩, ?_⟩
  rintro i m Hi ⟨hm, Fi, ni, vsA, dsA, Gi, Si, ac, hacl, rest, er, ey⟩
  cases hd : as[i]? with
  | none =>
    have hl := List.getElem?_eq_none_iff.mp hd
    left
    refine ⟨(y Fi Hi Gi.later i).2 (by have := List.getElem?_eq_none_iff.mp hd; omega), ?_⟩
    rw [List.drop_eq_nil_of_le hl] at er
    cases er
    rw [List.append_nil] at ey
    subst ey
    obtain ⟨As, a1, a2, a3, a4⟩ := ac.its
    refine q (.ref L) Fi Hi Gi Si ⟨fun a => a = L ∨ ∃ i, As i a, .lstO As ac.at_ (.inl rfl) ac.len a1 (fun i a ha => ⟨.inr ⟨i, ha⟩, (a2 i a ha).1⟩) a3, fun a ha => ?_⟩
    rcases ha with ha | ⟨j, ha⟩
    · subst ha; exact ⟨hL, ac.nF, _, ac.at_, rfl⟩
    · exact (a2 j a ha).2
  | some d =>
    have hlt := (List.getElem?_eq_some_iff.mp hd).1
    right
    obtain ⟨hgo, hy⟩ := (y Fi Hi Gi.later i).1 d hd
    refine ⟨hgo, fun H' => WI' (i + 1) (m - 1) H', fun H' hn => ⟨m - 1, by omega, hn⟩, fun x H' hx => ?_⟩
    obtain ⟨hH, rx⟩ := hy x H' hx
    obtain ⟨G2, S2⟩ := Si.yld hH
    have hdrop : as.drop i = d :: as.drop (i + 1) := by
      rw [List.drop_eq_getElem_cons hlt]
      rw [(List.getElem?_eq_some_iff.mp hd).2]
    rw [hdrop] at er
    unfold compL at er
    cases hbd : t.bind d (wipeD ds vs) with
    | none => simp only [hbd] at er; cases er
    | some ds1 =>
      simp only [hbd] at er
      refine ⟨Fi, B, ni, wipeD ds vs, d, ds1, S2.wipe hv, rx, hbd, fun σ2 S3 hl2 hs2 => ⟨wipe_same hl2 fun j hj => hs2 j fun z => hj (ht j z), Fi, B, ni, ds1, S3, ?_⟩⟩
      unfold WL
      cases et : tt ni ds1 with
      | none => simp only [et] at er; cases er
      | some pp =>
        obtain ⟨o, n3⟩ := pp
        cases o with
        | ex c fs => simp only [et] at er; cases er
        | ok b =>
          intro bv F3 H3 G3 S4 eb
          have eb : bv = b := eb
          subst eb
          have Gi3 : GoC C.q Fi Hi F3 H3 := G2.trans G3
          cases bv with
          | false =>
            simp only [et] at er
            rw [if_neg Bool.false_ne_true]
            exact ⟨by omega, F3, n3, vsA, dsA, Gi.trans Gi3, Si.go Gi3 (fun q hq => (S4.cell q hq).2), ac.go Gi3 hqn hL, by omega, rest, er, ey⟩
          | true =>
            rw [if_pos rfl]
            refine ⟨F3, B, n3, ds1, S4, ?_⟩
            unfold WL
            cases em : me n3 ds1 with
            | none => simp only [et, em] at er; cases er
            | some pp =>
              obtain ⟨o, n4⟩ := pp
              cases o with
              | ex c fs => simp only [et, em] at er; cases er
              | ok dy =>
                rintro vy F4 H4 G4 S5 ⟨A, r, f⟩
                have Gi4 : GoC C.q Fi Hi F4 H4 := Gi3.trans G4
                obtain ⟨p1, p2, p3⟩ := ac.push Gi4 hqn hL (fun x hx => Gi.free hx) r fun x hx => ⟨Gi3.free (f x hx).1, (f x hx).2⟩
                have hvl : vsA.length ≤ i := by rw [ac.len]; exact hacl
                cases ec2 : compL t tt me vs (as.drop (i + 1)) n4 ds with
                | none => simp only [et, em, ec2] at er; cases er
                | some pp =>
                  obtain ⟨o, n5⟩ := pp
                  cases o with
                  | ex c fs => exact (compL_noex ec2).elim
                  | ok ys2 =>
                    simp only [et, em, ec2] at er
                    cases er
                    refine ⟨vsA, p1, by rw [sizeLine_eq]; omega, by omega, F4, n4, vsA ++ [vy], dsA ++ [dy], ?_, ?_, p3, by rw [List.length_append, List.length_singleton]; omega, ys2, ec2, by rw [ey]; simp⟩
                    · have Gx := Gi.trans Gi4
                      have hne : ∀ a o, H1 a = some o → a ≠ L := fun a o e z => by rw [z, hL] at e; cases e
                      exact ⟨⟨Gx.go.ff, fun a o e => by
                        have : a ≠ L := fun z => by rw [z, p2] at e; cases e
                        rw [upd_ne this]; exact Gx.go.fh a o e, fun a o e n => by rw [upd_ne (hne a o e)]; exact Gx.go.hh a o e n, fun a o e n => by rw [upd_ne (hne a o e)]; exact Gx.go.ht a o e n, Gx.go.nf⟩, fun a o e => by rw [upd_ne (hne a o e)]; exact Gx.dm a o e⟩
                    · exact (Si.go Gi4 (fun q hq => (S5.cell q hq).2)).updO p1 rfl p2 nB
theorem ve_lc {ifs : List Expr} {scope : Scope} {own : List (Str × Nat)} {t : Tg} {mi : Mo (List D)} {tt : Mo Bool} {me : M} (hi : PI X tg iter (WI C wx mi)) (ok : BlkOk X.N X.env.scope scope own)
    (hg : ∀ (s : Shared) (H : Hp) (C0 : Addr) (cl : List (Str × Addr)) (fp : List Addr), PG (X.blk s H scope (compEnvC scope cl C0 X.env) fp) tg (GT C t)) (ht : ∀ (s : Shared) (H : Hp) (C0 : Addr) (cl : List (Str × Addr)) (fp : List Addr), PTs (X.blk s H scope (compEnvC scope cl C0 X.env) fp) ifs (WT C wx0 tt))
    (he : ∀ (s : Shared) (H : Hp) (C0 : Addr) (cl : List (Str × Addr)) (fp : List Addr), PE (X.blk s H scope (compEnvC scope cl C0 X.env) fp) elt (W C wx0 .fz k me)) (hsl : ∀ i ∈ t.slots, i ∈ own.map (·.2)) (hv : ∀ i ∈ own.map (·.2), C.pn i = none)
    (hN : X.N.Nodup) (hc : X.calm = true := by rfl) (hs : ∀ x, foldedSetIterable iter X.env x = pure x := by intro _; rfl) :
    PE X (.ListComp elt [⟨tg, iter, ifs, 0⟩] scope pos) (W C wx .fz (k + 1) (mLc mi t tt me (own.map (·.2)))) :=
  (pe_lc hc hN hi ok hg ht he hs).wk fun σ H Q w => lc_of hsl hv w
def mYes : Mo Bool := ret (some true)
theorem vts_nil : PTs X [] (WT C wx mYes) := ⟨fun pins s σ H Q I w => pts_nil.run pins s σ H Q I (by
  obtain ⟨F, B, n, ds, S, h⟩ := w
  obtain ⟨d, e, q⟩ := h.retE
  cases e
  exact q true F H (GoC.refl S.fh) S rfl)⟩
theorem vts_one {c : Expr} {t : Mo Bool} (h : PT X c (WT C wx t)) : PTs X [c] (WT C wx t) := pts_one h
/-- y = [..] on one line -/
theorem ws_setLc {i : Nat} {y : Str} {py spos : Pos} {ifs : List Expr} {scope : Scope} {own : List (Str × Nat)} {t : Tg} {mi : Mo (List D)} {tt : Mo Bool} {me : M} (hi : PI X tg iter (WI C wx mi)) (ok : BlkOk X.N X.env.scope scope own)
    (hg : ∀ (s : Shared) (H : Hp) (C0 : Addr) (cl : List (Str × Addr)) (fp : List Addr), PG (X.blk s H scope (compEnvC scope cl C0 X.env) fp) tg (GT C t)) (ht : ∀ (s : Shared) (H : Hp) (C0 : Addr) (cl : List (Str × Addr)) (fp : List Addr), PTs (X.blk s H scope (compEnvC scope cl C0 X.env) fp) ifs (WT C wx0 tt))
    (he : ∀ (s : Shared) (H : Hp) (C0 : Addr) (cl : List (Str × Addr)) (fp : List Addr), PE (X.blk s H scope (compEnvC scope cl C0 X.env) fp) elt (W C wx0 .fz k me)) (hsl : ∀ i ∈ t.slots, i ∈ own.map (·.2)) (hv : ∀ i ∈ own.map (·.2), C.pn i = none)
    (hT : C.T i = k + 1) (hp : C.pn i = none)
    (hN : X.N.Nodup) (hy : X.N[i]? = some y) (hyl : X.env.scope.names.lookup y = some .local) (hsw : swapsWith (.ListComp elt [⟨tg, iter, ifs, 0⟩] scope pos) (some (.Name y py)) spos.line X.env = pure true) (hc : X.calm = true := by rfl) (hs : ∀ x, foldedSetIterable iter X.env x = pure x := by intro _; rfl) :
    PS X (.Assign [.Name y py] (.ListComp elt [⟨tg, iter, ifs, 0⟩] scope pos) spos) (WS C wx kr (sSet i (mLc mi t tt me (own.map (·.2))))) := (ps_setLc hc hN hy hyl hsw hi ok hg ht he hs).wk fun E σ H w => by
  obtain ⟨F, B, n, ds, S, h⟩ := w
  refine lc_of (C := C) (wx := wx) hsl hv ⟨F, B, n, ds, S, (wsl_e (R := RV C .fz (k + 1)) S h).mono fun v H1 ⟨F1, n1, d, G1, S1, ⟨A, r, f⟩, h1⟩ => ?_⟩
  obtain ⟨f1, f2⟩ := fresh_ok S f
  have S2 := S1.set (H0 := H) (by rw [hT]; exact r) f1 hp f2
  exact h1 _ F1 _ H1 (goS_new S G1 f) S2
/-- .. where the list is to stand -/
theorem ws_setLc0 {i : Nat} {y : Str} {py spos : Pos} {ifs : List Expr} {scope : Scope} {own : List (Str × Nat)} {t : Tg} {mi : Mo (List D)} {tt : Mo Bool} {me : M} (hi : PI X tg iter (WI C wx mi)) (ok : BlkOk X.N X.env.scope scope own)
    (hg : ∀ (s : Shared) (H : Hp) (C0 : Addr) (cl : List (Str × Addr)) (fp : List Addr), PG (X.blk s H scope (compEnvC scope cl C0 X.env) fp) tg (GT C t)) (ht : ∀ (s : Shared) (H : Hp) (C0 : Addr) (cl : List (Str × Addr)) (fp : List Addr), PTs (X.blk s H scope (compEnvC scope cl C0 X.env) fp) ifs (WT C wx0 tt))
    (he : ∀ (s : Shared) (H : Hp) (C0 : Addr) (cl : List (Str × Addr)) (fp : List Addr), PE (X.blk s H scope (compEnvC scope cl C0 X.env) fp) elt (W C wx0 .fz k me)) (hsl : ∀ i ∈ t.slots, i ∈ own.map (·.2)) (hv : ∀ i ∈ own.map (·.2), C.pn i = none)
    (hT : C.T i = 0) (hp : C.pn i = none)
    (hN : X.N.Nodup) (hy : X.N[i]? = some y) (hyl : X.env.scope.names.lookup y = some .local) (hsw : swapsWith (.ListComp elt [⟨tg, iter, ifs, 0⟩] scope pos) (some (.Name y py)) spos.line X.env = pure true) (hc : X.calm = true := by rfl) (hs : ∀ x, foldedSetIterable iter X.env x = pure x := by intro _; rfl) :
    PS X (.Assign [.Name y py] (.ListComp elt [⟨tg, iter, ifs, 0⟩] scope pos) spos) (WS C wx kr (sSet i (mLc mi t tt me (own.map (·.2))))) := (ps_setLc hc hN hy hyl hsw hi ok hg ht he hs).wk fun E σ H w => by
  obtain ⟨F, B, n, ds, S, h⟩ := w
  have hz : W C wx .fz 0 (mLc mi t tt me (own.map (·.2))) σ H (fun x H1 => gName i x σ H1 E.nx) := ⟨F, B, n, ds, S, (wsl_e (R := RV C .fz 0) S h).mono fun v H1 ⟨F1, n1, d, G1, S1, ⟨A, r, f⟩, h1⟩ => h1 _ F1 B H1 (G1.toS S.qB) (S1.set0 r hT hp)⟩
  exact lc_of (C := C) (wx := wx) (k := k) hsl hv (W.frz hz)
end
end GW

namespace GW
open PySem L2 PyProof.Rows
section
variable {X : Cx} {C : Ctx} {wx : WX} {kr k : Nat} {e : Expr} {pos : Pos} {m : M}
/-! ### a list of one's own is changed -/
/-- the list in slot i -/
structure OwnL (C : Ctx) (F H : Hp) (B : AS) (σ : L2.St) (i : Nat) (p : Addr) (vs : List V) (as : List D) (k : Nat) (As : Nat → AS) : Prop where
  sl : σ[i]? = some (some (.ref p))
  at_ : H p = some (.lst vs)
  len : vs.length = as.length
  its : ∀ (j : Nat) v d, vs[j]? = some v → as[j]? = some d → Rp C.K F H k v d (As j)
  s : ∀ (j : Nat) a, As j a → B a ∧ a ≠ p ∧ C.q ≠ some a
  dj : ∀ (j j' : Nat) a, As j a → As j' a → j = j'
  pB : B p
  pq : C.q ≠ some p
theorem Sim.ownL {F H : Hp} {B : AS} {σ : L2.St} {n : Int} {ds : DS} {i : Nat} {as : List D} (S : Sim C F B σ H n ds) (hd : ds[i]? = some (some (.lst as))) (hT : C.T i = k + 1) :
    ∃ p vs As, OwnL C F H B σ i p vs as k As ∧ ∀ (vs' : List V) (as' : List D) (As' : Nat → AS), vs'.length = as'.length → (∀ (j : Nat) v d, vs'[j]? = some v → as'[j]? = some d → Rp C.K F H k v d (As' j)) →
      (∀ (j : Nat) a, As' j a → a ≠ p ∧ C.q ≠ some a ∧ ((∃ j', As j' a) ∨ (¬ B a ∧ F a = none ∧ ∃ o, H a = some o ∧ Mk o = true))) → (∀ (j j' : Nat) a, As' j a → As' j' a → j = j') →
      Sim C F (fun a => B a ∨ ∃ j, As' j a) σ (upd H p (.lst vs')) n (ds.set i (some (.lst as'))) ∧ ∀ o, H p = some o → Mk o = true := by
  obtain ⟨A, h1, h2, h3⟩ := S.rep
  obtain ⟨v, hv, r⟩ := h1 i _ hd
  rw [hT] at r
  cases r with
  | @lstO _ _ p vs _ As h hA l c s dj =>
    have hpB := h2 i p hA
    refine ⟨p, vs, As, ⟨hv, h, l, c, fun j a ha => ⟨(h2 i a (s j a ha).1).1, (s j a ha).2, (h2 i a (s j a ha).1).2⟩, dj, hpB.1, hpB.2⟩, fun vs' as' As' l' c' s' dj' => ⟨?_, fun o e => by rw [h] at e; cases e; rfl⟩⟩
    have hup : ∀ a o, a ≠ p → H a = some o → upd H p (.lst vs') a = some o := fun a o hne e => by rw [upd_ne hne]; exact e
    have htt : ∀ a o, H a = some o → Mk o = false → upd H p (.lst vs') a = some o := fun a o e hm => hup a o (fun z => by rw [z, h] at e; cases e; cases hm) e
    have hFp : F p = none := (S.bok p hpB.1).1
    refine ⟨fun a o e => hup a o (fun z => by rw [z, hFp] at e; cases e) (S.fh a o e), fun a ha => ?_, fun q hq => ⟨.inl (S.cell q hq).1, hup q _ (fun z => hpB.2 (z ▸ hq)) (S.cell q hq).2⟩, S.pin, by rw [List.length_set]; exact S.len, ?_⟩
    · by_cases hap : a = p
      · subst hap; exact ⟨hFp, _, upd_same, rfl⟩
      · rcases ha with ha | ⟨j, ha⟩
        · obtain ⟨z1, o, z2, z3⟩ := S.bok a ha
          exact ⟨z1, o, hup a o hap z2, z3⟩
        · obtain ⟨_, _, z | ⟨_, z1, o, z2, z3⟩⟩ := s' j a ha
          · obtain ⟨j', z⟩ := z
            obtain ⟨z1, o, z2, z3⟩ := S.bok a (h2 i a (s j' a z).1).1
            exact ⟨z1, o, hup a o hap z2, z3⟩
          · exact ⟨z1, o, hup a o hap z2, z3⟩
    · classical
      refine ⟨fun j => if j = i then (fun a => a = p ∨ ∃ j, As' j a) else A j, fun j d e => ?_, fun j a ha => ?_, fun j j' a ha ha' => ?_⟩
      · by_cases hj : j = i
        · subst hj
          have hl : j < ds.length := (List.getElem?_eq_some_iff.mp hd).1
          rw [List.getElem?_set_self hl] at e
          cases e
          refine ⟨.ref p, hv, ?_⟩
          rw [hT]
          simp only [if_true]
          exact .lstO As' upd_same (.inl rfl) l' (fun j' v d a b => (c' j' v d a b).mono (Same.refl _) htt fun a o ha e => hup a o (s' j' a ha).1 e) (fun j' a ha => ⟨.inr ⟨j', ha⟩, (s' j' a ha).1⟩) dj'
        · rw [List.getElem?_set_ne (Ne.symm hj)] at e
          obtain ⟨w, e1, r1⟩ := h1 j d e
          refine ⟨w, e1, ?_⟩
          simp only [if_neg hj]
          exact r1.mono (Same.refl _) htt fun a o ha e => hup a o (fun z => hj (h3 j i a ha (z ▸ hA))) e
      · by_cases hj : j = i
        · simp only [if_pos hj] at ha
          rcases ha with ha | ⟨j', ha⟩
          · subst ha; exact ⟨.inl hpB.1, hpB.2⟩
          · exact ⟨.inr ⟨j', ha⟩, (s' j' a ha).2.1⟩
        · simp only [if_neg hj] at ha
          exact ⟨.inl (h2 j a ha).1, (h2 j a ha).2⟩
      · have cross : ∀ j, j ≠ i → A j a → (a = p ∨ ∃ j, As' j a) → False := fun j hj z1 z2 => by
          rcases z2 with z2 | ⟨j', z2⟩
          · subst z2; exact hj (h3 j i _ z1 hA)
          · obtain ⟨_, _, z | ⟨z, _⟩⟩ := s' j' a z2
            · obtain ⟨j2, z⟩ := z
              exact hj (h3 j i a z1 (s j2 a z).1)
            · exact z (h2 j a z1).1
        by_cases hj : j = i <;> by_cases hj' : j' = i
        · rw [hj, hj']
        · simp only [if_pos hj] at ha
          simp only [if_neg hj'] at ha'
          exact (cross j' hj' ha' ha).elim
        · simp only [if_neg hj] at ha
          simp only [if_pos hj'] at ha'
          exact (cross j hj ha ha').elim
        · simp only [if_neg hj] at ha
          simp only [if_neg hj'] at ha'
          exact h3 j j' a ha ha'
/-- the heap's step of such a change, from the statement's start -/
theorem goS_mut {F H F1 H1 : Hp} {B : AS} {σ : L2.St} {n n1 : Int} {ds : DS} {p : Addr} {o : HO} {As' : Nat → AS} (S : Sim C F B σ H n ds) (G : GoC C.q F H F1 H1) (S1 : Sim C F1 B σ H1 n1 ds) (hpB : B p) (ho : ∀ o, H1 p = some o → Mk o = true) (hs : ∀ j a, As' j a → B a ∨ H a = none) :
    GoS B F H (fun a => B a ∨ ∃ j, As' j a) F1 (upd H1 p o) := by
  have g := G.toS (B := B) S.qB
  refine ⟨g.ff, fun a u e => ?_, fun a u e nb => ?_, fun a u e hm => ?_, g.nf, fun a ha => ha.elim .inl fun ⟨j, z⟩ => hs j a z, fun a u e => ?_⟩
  · have : a ≠ p := fun z => by rw [z, (S1.bok p hpB).1] at e; cases e
    rw [upd_ne this]; exact g.fh a u e
  · have : a ≠ p := fun z => nb (z ▸ hpB)
    rw [upd_ne this]; exact g.hh a u e nb
  · have : a ≠ p := fun z => by
      have := ho u (z ▸ g.ht a u e hm)
      rw [hm] at this; cases this
    rw [upd_ne this]; exact g.ht a u e hm
  · by_cases h : a = p
    · exact ⟨o, by rw [h]; exact upd_same⟩
    · obtain ⟨u', e'⟩ := g.dm a u e
      exact ⟨u', by rw [upd_ne h]; exact e'⟩
/-- xs.append(e) -/
def sApp (i : Nat) (m : M) : MS := fun n ds => match ds[i]? with
  | some (some (.lst as)) => sE m (fun d n ds => if as.length < 16777216 then some (.nx, n, ds.set i (some (.lst (as ++ [d])))) else none) n ds
  | _ => none
theorem ws_app {i : Nat} {o : Expr} {apos cpos : Pos} (ho : PE X o (tVar i)) (he : PE X e (W C wx .fz k m)) (hT : C.T i = k + 1) (hbase : attributeBase o "append" X.env (eval o X.env) = eval o X.env := by rfl)
    (hfew : ((backTo cpos (starEach [e] X.env)).all (fun x => !x.1) && (backToKw cpos (keywordEach [] X.env)).all (fun x => x.1.isSome)
      && decide ([e].length + ([] : List Keyword).length + (if ([] : List Keyword).isEmpty then 0 else 1) < 30)) = true := by rfl)
    (hline : (apos.endLine == cpos.line) = true := by rfl) (hs : starEach [e] X.env = (false, eval e X.env) :: starEach [] X.env := by rfl) (hplain : (backTo cpos (starEach [] X.env)).any (·.1) = false := by rfl)
    (hsw : swapsWith (.Call (.Attribute o "append" apos) [e] [] cpos) none pos.line X.env = pure false := by rfl) : PS X (.Expr (.Call (.Attribute o "append" apos) [e] [] cpos) pos) (WS C wx kr (sApp i m)) :=
  (ps_expr (pe_bm PySem.F.plainAttrs_list PySem.F.slot_list_append PySem.F.type_list_append mt_append ho (pa_cons he pa_nil hs) hbase hfew hline hs hplain) hsw).wk fun E σ H w => by
  obtain ⟨F, B, n, ds, S, h⟩ := w
  cases e0 : ds[i]? with
  | none => unfold WSL sApp at h; simp only [e0] at h
  | some x =>
    cases x with
    | none => unfold WSL sApp at h; simp only [e0] at h
    | some d0 =>
      cases d0 with
      | lst as =>
        have h' : WSL C wx kr (sE m (fun d n ds => if as.length < 16777216 then some (.nx, n, ds.set i (some (.lst (as ++ [d])))) else none)) F B n ds H E := h.tr (GoS.refl S.fh) (by simp only [sApp, e0])
        obtain ⟨p, vs, As, O, _⟩ := S.ownL e0 hT
        refine ⟨.ref p, O.sl, .inl ⟨rfl, _, .inl (.inl O.at_)⟩, F, B, n, ds, S, (wsl_e (R := RV C .fz k) S h').mono fun v H1 ⟨F1, n1, d, G1, S1, ⟨A, r1, f⟩, h4⟩ => ?_⟩
        obtain ⟨p', vs', As', O', mutf⟩ := S1.ownL e0 hT
        have hpp : p' = p := by
          have := O'.sl
          rw [O.sl] at this
          cases this; rfl
        subst hpp
        by_cases hl : as.length < 16777216
        · unfold WSL at h4
          simp only [if_pos hl] at h4
          refine ⟨p', vs', v, rfl, rfl, O'.at_, by rw [sizeLine_eq, O'.len]; exact hl, ?_⟩
          obtain ⟨f1, f2⟩ := fresh_ok S f
          classical
          obtain ⟨S3, ho⟩ := mutf (vs' ++ [v]) (as ++ [d]) (fun j => if j = vs'.length then A else if j < vs'.length then As' j else fun _ => False) (by simp [O'.len]) (fun j w d' e1 e2 => by
            by_cases hj : j = vs'.length
            · subst hj
              rw [List.getElem?_concat_length] at e1
              rw [O'.len, List.getElem?_concat_length] at e2
              cases e1; cases e2
              simp only [if_true]
              exact r1
            · have hlt : j < vs'.length := by
                have := (List.getElem?_eq_some_iff.mp e1).1
                rw [List.length_append, List.length_singleton] at this; omega
              rw [List.getElem?_append_left hlt] at e1
              rw [List.getElem?_append_left (by rw [← O'.len]; exact hlt)] at e2
              simp only [if_neg hj, if_pos hlt]
              exact O'.its j w d' e1 e2) (fun j a ha => by
            by_cases hj : j = vs'.length
            · simp only [if_pos hj] at ha
              refine ⟨fun z => ?_, f2 a ha, .inr ⟨(f1 a ha).1, (f1 a ha).2⟩⟩
              subst z; exact (f1 _ ha).1 O'.pB
            · by_cases hlt : j < vs'.length
              · simp only [if_neg hj, if_pos hlt] at ha
                exact ⟨(O'.s j a ha).2.1, (O'.s j a ha).2.2, .inl ⟨j, ha⟩⟩
              · simp only [if_neg hj, if_neg hlt] at ha) (fun j j' a ha ha' => by
            have cross : ∀ j, A a → As' j a → False := fun j z1 z2 => (f1 a z1).1 (O'.s j a z2).1
            by_cases hj : j = vs'.length <;> by_cases hj' : j' = vs'.length
            · rw [hj, hj']
            · simp only [if_pos hj] at ha
              simp only [if_neg hj'] at ha'
              by_cases hlt : j' < vs'.length
              · simp only [if_pos hlt] at ha'; exact (cross j' ha ha').elim
              · simp only [if_neg hlt] at ha'
            · simp only [if_neg hj] at ha
              simp only [if_pos hj'] at ha'
              by_cases hlt : j < vs'.length
              · simp only [if_pos hlt] at ha; exact (cross j ha' ha).elim
              · simp only [if_neg hlt] at ha
            · simp only [if_neg hj] at ha
              simp only [if_neg hj'] at ha'
              by_cases hlt : j < vs'.length
              · by_cases hlt' : j' < vs'.length
                · simp only [if_pos hlt] at ha
                  simp only [if_pos hlt'] at ha'
                  exact O'.dj j j' a ha ha'
                · simp only [if_neg hlt'] at ha'
              · simp only [if_neg hlt] at ha)
          refine h4 σ F1 _ _ (goS_mut S G1 S1 O'.pB ho fun j a ha => ?_) S3
          by_cases hj : j = vs'.length
          · simp only [if_pos hj] at ha
            exact .inr (f a ha).1
          · by_cases hlt : j < vs'.length
            · simp only [if_neg hj, if_pos hlt] at ha
              exact .inl (O'.s j a ha).1
            · simp only [if_neg hj, if_neg hlt] at ha
        · unfold WSL at h4; simp only [if_neg hl] at h4
      | _ => unfold WSL sApp at h; simp only [e0] at h
end
/-! ### a def that stands to be called -/
structure Av (P : Program) (w : World) (K : PySem.W.Frag) (mg : Str → Option Value) (base : Heap) (x : Str) (ps : List Str) (k : Nat) (sp : Sp) : Prop where
  ex : ∃ (f : Addr) (fd : FuncData), mg x = some (.ref f) ∧ PySem.W.keepIn K (.ref f) = true ∧ Binds K fd ps [] ∧ FnOk P w K mg base (L2.CX P w) k f fd ps sp
section
variable {X : Cx} {C : Ctx} {wx : WX} {g : Rg} {k kk kr np : Nat} {x : Str} {p pos : Pos} {e : Expr} {es : List Expr} {ps : List Str} {fm : FM} {ci : Option Nat} {ms : Mo (List D)}
theorem ve_callA (F : Av X.prog X.w X.K X.mg X.base x ps kk (spM C.K ci np kr fm)) (hp : ci = none → ∃ f, fm = pureF f) (hr : Room kk X.A) (tk : Takes X wx)
    (ha : PA X (e :: es) (WAc C wx .fz ci ms)) (hlen : LenM ms np) (hg : Gl X x := by rfl) (hdb : (x == ("__debug__" : Str)) = false := by decide) (he : starEach (e :: es) X.env = (false, eval e X.env) :: starEach es X.env := by rfl) (hpl : (backTo pos (starEach es X.env)).any (·.1) = false := by rfl) :
    PE X (.Call (.Name x p) (e :: es) [] pos) (W C wx .fz kr (mCall fm ms)) := by
  obtain ⟨f, fd, h1, h2, h3, h4⟩ := F.ex
  exact ve_call h4 hp hr h1 h2 h3 tk ha hlen hg hdb he hpl
theorem ve_callAb (F : Av X.prog X.w X.K X.mg X.base x ps kk (spM C.K ci np kr fm)) (hp : ci = none → ∃ f, fm = pureF f) (hr : Room kk X.A) (tk : Takes X wx)
    (ha : PA X (e :: es) (WAc C wx .bo ci ms)) (hlen : LenM ms np) (hg : Gl X x := by rfl) (hdb : (x == ("__debug__" : Str)) = false := by decide) (he : starEach (e :: es) X.env = (false, eval e X.env) :: starEach es X.env := by rfl) (hpl : (backTo pos (starEach es X.env)).any (·.1) = false := by rfl) :
    PE X (.Call (.Name x p) (e :: es) [] pos) (W C wx g k (mFlat (mCall fm ms))) := by
  obtain ⟨f, fd, h1, h2, h3, h4⟩ := F.ex
  exact ve_callb h4 hp hr h1 h2 h3 tk ha hlen hg hdb he hpl
end
/-! ### a def -/
def startD (N : Nat) (as : List D) : DS := as.map some ++ List.replicate (N - as.length) none
def outF : Option (Fl × Int × DS) → Option (Ot D × Int)
  | some (.nx, n, _) => some (.ok .non, n)
  | some (.rt d, n, _) => some (.ok d, n)
  | some (.ex c fs, n, _) => some (.ex c fs, n)
  | _ => none
/-- the plain function of a def without a cell | with the cell at i -/
def fn0 (N : Nat) (ms : MS) : List D → Option (Ot D) := fun as => (outF (ms 0 (startD N as))).map (·.1)
def fnC (i N : Nat) (ms : MS) : FM := fun n as => outF (ms n ((startD N as).set i none))
section
variable {P : Program} {w : World} {K : PySem.W.Frag} {mg : Str → Option Value} {base : Heap}
theorem sim_start {C : Ctx} {F H : Hp} {vs : List V} {as : List D} {N : List Str} {B : AS} {n : Int} {ci : Option Nat} (fh : Same F H) (hl : vs.length = as.length) (hr : ∀ (i : Nat) v d, ci ≠ some i → vs[i]? = some v → as[i]? = some d → Rp C.K F H 0 v d (fun _ => False)) (hT : ∀ i, i < vs.length → C.T i = 0)
    (hb : ∀ a, B a → F a = none ∧ ∃ o, H a = some o ∧ Mk o = true) (hc : ∀ q, C.q = some q → B q ∧ H q = some (.lst [.int n])) (hp : ∀ i v, C.pn i = some v → ci = some i ∧ vs[i]? = some v) : Sim C F B (start N vs) H n (match ci with | none => startD N.length as | some i => (startD N.length as).set i none) := by
  have hs : ∀ (i : Nat) d, (startD N.length as)[i]? = some (some d) → as[i]? = some d := fun i d e => by
    unfold startD at e
    by_cases h : i < as.length
    · rw [List.getElem?_append_left (by simpa using h), List.getElem?_map] at e
      cases h2 : as[i]? with
      | none => rw [h2] at e; cases e
      | some x => rw [h2] at e; cases e; rfl
    · rw [List.getElem?_append_right (by simpa using h), List.getElem?_replicate] at e
      split at e <;> cases e
  have hv : ∀ (i : Nat) v, vs[i]? = some v → (start N vs)[i]? = some (some v) := fun i v e => by
    unfold L2.start
    have h := (List.getElem?_eq_some_iff.mp e).1
    rw [List.getElem?_append_left (by simpa using h), List.getElem?_map, e]; rfl
  have lens : (start N vs).length = (startD N.length as).length := by
    unfold L2.start startD
    rw [List.length_append, List.length_append, List.length_map, List.length_map, List.length_replicate, List.length_replicate, hl]
  refine ⟨fh, hb, hc, fun i v h => hv i v (hp i v h).2, ?_, fun _ _ => False, fun i d e => ?_, fun _ _ h => h.elim, fun _ _ _ h => h.elim⟩
  · cases ci with
    | none => exact lens
    | some i => show _ = ((startD N.length as).set i none).length; rw [List.length_set]; exact lens
  · have key : ci ≠ some i ∧ (startD N.length as)[i]? = some (some d) := by
      cases ci with
      | none => exact ⟨by simp, e⟩
      | some j =>
        have e : ((startD N.length as).set j none)[i]? = some (some d) := e
        by_cases hj : j = i
        · subst hj
          by_cases hlt : j < (startD N.length as).length
          · rw [List.getElem?_set_self hlt] at e; cases e
          · rw [List.getElem?_eq_none (by simpa using hlt)] at e; cases e
        · rw [List.getElem?_set_ne hj] at e
          exact ⟨by simpa using hj, e⟩
    have h1 := hs i d key.2
    have hlt := (List.getElem?_eq_some_iff.mp h1).1
    have h2 : vs[i]? = some (vs[i]'(by omega)) := by simp [hl, hlt]
    refine ⟨_, hv i _ h2, ?_⟩
    rw [hT i (by omega)]
    exact hr i _ d key.1 h2 h1
theorem def_ok0 {x qual : Str} {params : Arguments} {body : List Stmt} {scope : Scope} {dvs : List V} {kws : List (Str × V)} {f : Addr} {fd : FuncData} {N ps : List Str} {k kr : Nat} {T : Nat → Nat} {ms : MS} (Fu : FunD K x qual params body scope dvs kws f fd) (S : FnScope N ps scope) (hT : ∀ i, i < ps.length → T i = 0)
    (hb : ∀ (cdv : Value) (A : Around) (outer : List Env) (s : Shared) (H : Hp) (E : XK), Room k (A.deeper (envOfC qual scope s.heap.objs.size f cdv)) →
      PSs (cxOf (L2.CX P w) P w K mg base N qual scope f cdv A outer s H E) body (WS ⟨K, none, T, fun _ => none⟩ (fun c d _ H => E c d H) kr ms)) :
    FnOk P w K mg base (L2.CX P w) (k + 1) f fd ps (spM K none ps.length kr (pureF (fn0 N.length ms))) := by
  refine Fu.ok S (fun vs H Q E h => h.1) (fun cdv A outer s H vs Q E hr h => ⟨_, hb cdv A outer s H E hr, ?_⟩)
  obtain ⟨hlen, F, q, n, as, fh, hq, _, hl, hrep, hm⟩ := h
  have hq := hq rfl
  subst hq
  refine ⟨F, fun _ => False, 0, startD N.length as, sim_start (ci := none) fh hl hrep (fun i hi => hT i (by rw [← hlen]; exact hi)) (fun _ h => h.elim) (fun _ h => by cases h) (fun _ _ h => by cases h), ?_⟩
  have go : ∀ {B' : AS} {F' H' : Hp}, GoS (fun _ => False) F H B' F' H' → GoC none F H F' H' := fun G => ⟨⟨G.ff, G.fh, fun a o e _ => G.hh a o e fun z => z, G.ht, fun a o n e => G.nf a o n e fun z => z⟩, G.dm⟩
  unfold pureF fn0 at hm
  unfold WSL
  cases e : ms 0 (startD N.length as) with
  | none => simp only [e, outF, Option.map_none] at hm
  | some pp =>
    obtain ⟨fl, n', ds'⟩ := pp
    cases fl with
    | nx =>
      simp only [e, outF, Option.map_some] at hm
      exact fun σ' F' B' H' G _ => hm .non F' H' (go G) (fun _ h => by cases h) ⟨fun _ => False, .non, Fr.no⟩
    | bk => simp only [e, outF, Option.map_none] at hm
    | ct => simp only [e, outF, Option.map_none] at hm
    | rt d =>
      simp only [e, outF, Option.map_some] at hm
      exact fun v B' F' H' A G _ r f => hm v F' H' (go G) (fun _ h => by cases h) ⟨A, r, fun a ha => ⟨(f a ha).1.elim (fun z => z.elim) id, (f a ha).2.1, (f a ha).2.2.2⟩⟩
    | ex c fs =>
      simp only [e, outF, Option.map_some] at hm
      exact fun σ' F' B' H' od G _ xr => hm F' H' od (go G) (fun _ h => by cases h) xr
theorem def_okC {x qual : Str} {params : Arguments} {body : List Stmt} {scope : Scope} {dvs : List V} {kws : List (Str × V)} {f : Addr} {fd : FuncData} {N ps : List Str} {k kr : Nat} {T : Nat → Nat} {ms : MS} (i : Nat) (hi : i < ps.length) (Fu : FunD K x qual params body scope dvs kws f fd) (S : FnScope N ps scope) (hT : ∀ i, i < ps.length → T i = 0)
    (hb : ∀ (cdv : Value) (A : Around) (outer : List Env) (s : Shared) (H : Hp) (E : XK) (a : Addr), Room k (A.deeper (envOfC qual scope s.heap.objs.size f cdv)) →
      PSs (cxOf (L2.CX P w) P w K mg base N qual scope f cdv A outer s H E) body (WS ⟨K, some a, T, fun j => if j = i then some (.ref a) else none⟩ (fun c d _ H => E c d H) kr ms)) :
    FnOk P w K mg base (L2.CX P w) (k + 1) f fd ps (spM K (some i) ps.length kr (fnC i N.length ms)) := by
  refine Fu.ok S (fun vs H Q E h => h.1) (fun cdv A outer s H vs Q E hr h => ?_)
  obtain ⟨hlen, F, q, n, as, fh, _, hq, hl, hrep, hm⟩ := h
  obtain ⟨a, rfl, hva, hHa, hFa⟩ := hq i rfl
  refine ⟨_, hb cdv A outer s H E a hr, F, fun b => b = a, n, (startD N.length as).set i none, sim_start (ci := some i) fh hl hrep (fun i hi => hT i (by rw [← hlen]; exact hi)) (fun b hb => by subst hb; exact ⟨hFa, _, hHa, rfl⟩) (fun q hq => by cases hq; exact ⟨rfl, hHa⟩) (fun j v h => by
    by_cases hj : j = i
    · subst hj
      simp only [if_true, Option.some.injEq] at h
      subst h
      exact ⟨rfl, hva⟩
    · simp only [if_neg hj] at h; cases h), ?_⟩
  have go : ∀ {B' : AS} {F' H' : Hp}, GoS (fun b => b = a) F H B' F' H' → F' a = none → GoC (some a) F H F' H' := fun G hF' => ⟨⟨G.ff, G.fh, fun b o e hne => G.hh b o e fun z => hne (by rw [z]), G.ht, fun b o n e => by
    by_cases hba : b = a
    · rw [hba]; exact hF'
    · exact G.nf b o n e hba⟩, G.dm⟩
  unfold fnC at hm
  unfold WSL
  cases e : ms n ((startD N.length as).set i none) with
  | none => simp only [e, outF] at hm
  | some pp =>
    obtain ⟨fl, n', ds'⟩ := pp
    cases fl with
    | nx =>
      simp only [e, outF] at hm
      exact fun σ' F' B' H' G S' => hm .non F' H' (go G (S'.bok a (S'.cell a rfl).1).1) (fun q h => by cases h; exact (S'.cell a rfl).2) ⟨fun _ => False, .non, Fr.no⟩
    | bk => simp only [e, outF] at hm
    | ct => simp only [e, outF] at hm
    | rt d =>
      simp only [e, outF] at hm
      exact fun v B' F' H' A G hc r f => hm v F' H' (go G (hc a rfl).2) (fun q h => by cases h; exact (hc a rfl).1) ⟨A, r, fun b ha => ⟨(f b ha).1.elim (fun z => by
        exact absurd (by rw [z]) (f b ha).2.2.1) id, (f b ha).2.1, (f b ha).2.2.2⟩⟩
    | ex c fs =>
      simp only [e, outF] at hm
      exact fun σ' F' B' H' od G S' xr => hm F' H' od (go G (S'.bok a (S'.cell a rfl).1).1) (fun q h => by cases h; exact (S'.cell a rfl).2) xr
end
end GW

namespace GW
open PySem L2 PyProof.Rows
section
variable {X : Cx} {C : Ctx} {wx : WX} {kr k : Nat} {g : Rg} {a b e : Expr} {pos : Pos} {m : M}
/-! ### the counting cell -/
def mCell : M := fun n _ => some (.ok (.int n), n)
theorem ve_cell {i : Nat} (h : PE X a (tVar i)) (hq : ∃ q, C.q = some q ∧ C.pn i = some (.ref q)) (hb : PE X b (tC (.int 0))) (hs : PlainIx b := by intro _ _; rfl) (hK : X.K = C.K := by rfl) : PE X (.Subscript a b pos) (W C wx g k mCell) := by
  refine (pe_ix (r := rIxL C.K) (by rw [← hK]; exact ix_list) h hb hs).wk fun σ H Q w => ?_
  obtain ⟨F, B, n, ds, S, h⟩ := w
  obtain ⟨q, hq1, hq2⟩ := hq
  have hh : ∀ v F' H', GoC C.q F H F' H' → Sim C F' B σ H' n ds → RV C g k H F' H' v (.int n) → Q v H' := h
  exact ⟨_, S.pin i _ hq2, q, [.int n], 0, .int n, rfl, rfl, .inl (.inl (S.cell q hq1).2), rfl, hh _ F H (GoC.refl S.fh) S ⟨fun _ => False, .int, Fr.no⟩⟩
def sCell (m : M) : MS := sE m fun d n ds => match d with
  | .int i => some (.nx, i, ds)
  | _ => none
theorem ws_cell {i : Nat} {p2 : Pos} (he : PE X e (W C wx .bo 0 m)) (h : PE X a (tVar i)) (hq : ∃ q, C.q = some q ∧ C.pn i = some (.ref q)) (hb : PE X b (tC (.int 0)))
    (ha : ∀ v, assign (.Subscript a b p2) X.env v = (do
      let ov ← holding [v] (eval a X.env)
      let iv ← holding [v, ov] (eval b X.env)
      standAt p2
      holding [v, ov, iv] (setItem ov iv v)
      release [v, ov, iv] []) := by intro _; rfl) (hs : swapsWithSole [.Subscript a b p2] e pos.line X.env = pure false := by rfl) (hw : swappedStores [.Subscript a b p2] e X.env = pure none := by rfl) (h1 : (assignEach [.Subscript a b p2] X.env).map (·.2) = [assign (.Subscript a b p2) X.env] := by rfl) :
    PS X (.Assign [.Subscript a b p2] e pos) (WS C wx kr (sCell m)) := (ps_asg he (pg_sub h hb set_list ha) hs hw h1).wk fun E σ H w => by
  obtain ⟨F, B, n, ds, S, h⟩ := w
  obtain ⟨q, hq1, hq2⟩ := hq
  refine ⟨F, B, n, ds, S, (wsl_e (R := RV C .bo 0) S h).mono fun v H1 ⟨F1, n1, d, G1, S1, ⟨A, r1, f⟩, h4⟩ => ?_⟩
  cases d with
  | int j =>
    have ev := r1.int_
    subst ev
    obtain ⟨qB, hc⟩ := S1.cell q hq1
    refine ⟨_, S1.pin i _ hq2, q, [.int n1], 0, 0, rfl, rfl, hc, rfl, ?_⟩
    have hne : ∀ x o, F1 x = some o → x ≠ q := fun x o e z => by rw [z, (S1.bok q qB).1] at e; cases e
    refine h4 σ F1 B _ ((G1.toS S.qB).trans ⟨Same.refl _, fun x o e => by rw [upd_ne (hne x o e)]; exact S1.fh x o e, fun x o e nb => by rw [upd_ne (fun z => nb (by rw [z]; exact qB))]; exact e, fun x o e hm => by
      have : x ≠ q := fun z => by rw [z, hc] at e; cases e; cases hm
      rw [upd_ne this]; exact e, fun x o n _ _ => n, fun _ h => .inl h, fun x o e => by
      by_cases hx : x = q
      · exact ⟨_, by rw [hx]; exact upd_same⟩
      · exact ⟨o, by rw [upd_ne hx]; exact e⟩⟩) ?_
    refine ⟨fun x o e => by rw [upd_ne (hne x o e)]; exact S1.fh x o e, fun x hx => ?_, fun q' hq' => ?_, S1.pin, S1.len, ?_⟩
    · obtain ⟨z1, o, z2, z3⟩ := S1.bok x hx
      by_cases hxq : x = q
      · exact ⟨z1, _, by rw [hxq]; exact upd_same, rfl⟩
      · exact ⟨z1, o, by rw [upd_ne hxq]; exact z2, z3⟩
    · rw [hq1] at hq'
      cases hq'
      exact ⟨qB, upd_same⟩
    · obtain ⟨A0, h1, h2, h3⟩ := S1.rep
      refine ⟨A0, fun j d e => ?_, h2, h3⟩
      obtain ⟨w, e1, r⟩ := h1 j d e
      refine ⟨w, e1, r.mono (Same.refl _) (fun x o e hm => ?_) fun x o hx e => ?_⟩
      · have : x ≠ q := fun z => by rw [z, hc] at e; cases e; cases hm
        rw [upd_ne this]; exact e
      · have : x ≠ q := fun z => (h2 j x hx).2 (by rw [hq1, z])
        rw [upd_ne this]; exact e
  | _ => exact h4.elim
/-! ### zip of two lists, of two tuples -/
def zipD : List D → List D → List D
  | a :: as, b :: bs => .tup [a, b] :: zipD as bs
  | _, _ => []
def oZip : List D → Option (List D)
  | [.lst xs, .lst ys] => some (zipD xs ys)
  | [.tup xs, .tup ys] => some (zipD xs ys)
  | _ => none
def mZip (ms : Mo (List D)) : Mo (List D) := mb ms fun ds => ret (oZip ds)
theorem zipD_get : ∀ {xs ys : List D} {i : Nat} {d : D}, (zipD xs ys)[i]? = some d → ∃ a b, xs[i]? = some a ∧ ys[i]? = some b ∧ d = .tup [a, b]
  | [], _, i, d, h => by simp [zipD] at h
  | _ :: _, [], i, d, h => by simp [zipD] at h
  | a :: as, b :: bs, 0, d, h => by simp [zipD] at h; exact ⟨a, b, rfl, rfl, h.symm⟩
  | a :: as, b :: bs, i + 1, d, h => by
    obtain ⟨x, y, h1, h2, h3⟩ := zipD_get (xs := as) (ys := bs) (i := i) (by simpa [zipD] using h)
    exact ⟨x, y, by simpa using h1, by simpa using h2, h3⟩
theorem zipD_none : ∀ {xs ys : List D} {i : Nat}, (zipD xs ys)[i]? = none → xs.length ≤ i ∨ ys.length ≤ i
  | [], _, i, h => .inl (Nat.zero_le _)
  | _ :: _, [], i, h => .inr (Nat.zero_le _)
  | a :: as, b :: bs, 0, h => by simp [zipD] at h
  | a :: as, b :: bs, i + 1, h => by
    have := zipD_none (xs := as) (ys := bs) (i := i) (by simpa [zipD] using h)
    simp only [List.length_cons]; omega
theorem get_of {α β : Type} {xs : List α} {ys : List β} (l : xs.length = ys.length) {i : Nat} {y : β} (h : ys[i]? = some y) : ∃ x, xs[i]? = some x := by
  have := (List.getElem?_eq_some_iff.mp h).1
  exact ⟨xs[i]'(by omega), by simp [l, this]⟩
theorem vi_zip {ea eb : Expr} {elts : List Expr} {kk : Nat} {p tpos : Pos} {ms : Mo (List D)} (hm : X.mg "zip" = none) (ha : PA X [ea, eb] (WA C wx .fz ms)) (hg : Gl X "zip" := by rfl)
    (hs : starEach [ea, eb] X.env = (false, eval ea X.env) :: starEach [eb] X.env := by rfl) (hpl : (backTo pos (starEach [eb] X.env)).any (·.1) = false := by rfl) (hlen : LenM ms 2 := by exact LenM.cons (LenM.cons LenM.nil)) (hK : X.K = C.K := by rfl) :
    PI X (.Tuple elts kk tpos) (.Call (.Name "zip" p) [ea, eb] [] pos) (WI C wx (mZip ms)) := (RZ.pi_zipA hg hm ha hs hpl).wk fun σ H Q w => by
  obtain ⟨F, B, n, ds, S, h⟩ := w
  refine ⟨F, B, n, ds, S, WL.strong hlen ((h.bind (R := fun H F' H' vs as => RA C .fz H F' H' vs as ∧ as.length = 2) fun F1 H1 F2 H2 v d G r => r).mono fun vs H1 ⟨F1, n1, as, G1, S1, ⟨r1, hl⟩, h1⟩ => ?_)⟩
  obtain ⟨is, e, q⟩ := h1.retE
  rw [hK]
  match as, hl with
  | [d, d'], _ =>
    obtain ⟨v, v', rfl, r, r'⟩ := RpL.two r1
    unfold oZip at e
    split at e
    · rename_i xs ys hxy
      cases hxy
      cases e
      cases r with
      | @lst _ p1 vs1 _ hh1 l1 c1 =>
        cases r' with
        | @lst _ p2 vs2 _ hh2 l2 c2 =>
          refine ⟨p1, p2, vs1, vs2, rfl, .inl ⟨sqL_mono hh1 S1.fh, sqL_mono hh2 S1.fh, q _ F1 H1 (GoC.refl S1.fh) S1 fun F' H' L i => ?_⟩⟩
          have q1 : SqL C.K H' p1 vs1 := sqL_mono hh1 (L.ff.trans L.fh)
          have q2 : SqL C.K H' p2 vs2 := sqL_mono hh2 (L.ff.trans L.fh)
          refine ⟨fun d hd => ?_, fun hn0 => (fun hn => ?_) (len_none hn0)⟩
          · obtain ⟨x, y, g1, g2, rfl⟩ := zipD_get hd
            obtain ⟨w1, hw1⟩ := get_of l1 g1
            obtain ⟨w2, hw2⟩ := get_of l2 g2
            refine ⟨⟨vs1, vs2, w1, w2, q1, q2, hw1, hw2⟩, fun x2 H'' y2 => ?_⟩
            obtain ⟨T, z1, z2, e1, e2, e3, e4, e5⟩ := y2
            subst e1 e3
            have e4 := e4 vs1 q1
            have e5 := e5 vs2 q2
            rw [hw1] at e4
            rw [hw2] at e5
            cases e4; cases e5
            have hu : ∀ a o, H' a = some o → upd H' T (.tup [w1, w2]) a = some o := fun a o e => by rw [upd_ne (ne_of_none e e2)]; exact e
            refine ⟨.inr ⟨T, _, e2, rfl⟩, .tup (.inl (.inl upd_same)) rfl (RpL.cons (A := fun _ => False) ((Rp.z (c1 i w1 x hw1 g1)).mono L.ff (fun a o e h => hu a o (L.ht a o e h)) fun _ _ h => h.elim) (RpL.cons (A := fun _ => False) ((Rp.z (c2 i w2 y hw2 g2)).mono L.ff (fun a o e h => hu a o (L.ht a o e h)) fun _ _ h => h.elim) RpL.nil)).2⟩
          · have := zipD_none hn
            exact ⟨vs1, vs2, q1, q2, by omega⟩
    · rename_i xs ys hxy
      cases hxy
      cases e
      cases r with
      | @tup _ _ p1 vs1 _ hh1 l1 c1 =>
        cases r' with
        | @tup _ _ p2 vs2 _ hh2 l2 c2 =>
          refine ⟨p1, p2, vs1, vs2, rfl, .inr ⟨hh1, hh2, q _ F1 H1 (GoC.refl S1.fh) S1 fun F' H' L i => ?_⟩⟩
          have q1 : SqT C.K H' p1 vs1 := sqT_mono hh1 L.ht
          have q2 : SqT C.K H' p2 vs2 := sqT_mono hh2 L.ht
          refine ⟨fun d hd => ?_, fun hn0 => (fun hn => ?_) (len_none hn0)⟩
          · obtain ⟨x, y, g1, g2, rfl⟩ := zipD_get hd
            obtain ⟨w1, hw1⟩ := get_of l1 g1
            obtain ⟨w2, hw2⟩ := get_of l2 g2
            refine ⟨⟨vs1, vs2, w1, w2, q1, q2, hw1, hw2⟩, fun x2 H'' y2 => ?_⟩
            obtain ⟨T, z1, z2, e1, e2, e3, e4, e5⟩ := y2
            subst e1 e3
            have e4 := e4 vs1 q1
            have e5 := e5 vs2 q2
            rw [hw1] at e4
            rw [hw2] at e5
            cases e4; cases e5
            have hu : ∀ a o, H' a = some o → upd H' T (.tup [w1, w2]) a = some o := fun a o e => by rw [upd_ne (ne_of_none e e2)]; exact e
            refine ⟨.inr ⟨T, _, e2, rfl⟩, .tup (.inl (.inl upd_same)) rfl (RpL.cons (A := fun _ => False) ((Rp.z (c1 i w1 x hw1 g1)).mono L.ff (fun a o e h => hu a o (L.ht a o e h)) fun _ _ h => h.elim) (RpL.cons (A := fun _ => False) ((Rp.z (c2 i w2 y hw2 g2)).mono L.ff (fun a o e h => hu a o (L.ht a o e h)) fun _ _ h => h.elim) RpL.nil)).2⟩
          · have := zipD_none hn
            exact ⟨vs1, vs2, q1, q2, by omega⟩
    · cases e
end
end GW

namespace GW
open PySem L2 PyProof.Rows
/-! ### the cell is made -/
def Ctx.cellAt (C : Ctx) (i : Nat) (a : Addr) : Ctx := ⟨C.K, some a, C.T, fun j => if j = i then some (.ref a) else none⟩
def sNewCell (i : Nat) (c : Int) (m : MS) : MS := fun n ds => if i < ds.length then (match m c (ds.set i none) with
  | some (.nx, _, ds') => some (.nx, n, ds')
  | some (.rt d, _, ds') => some (.rt d, n, ds')
  | some (.ex c fs, _, ds') => some (.ex c fs, n, ds')
  | _ => none) else none
section
variable {X : Cx} {C : Ctx} {wx : WX} {kr k : Nat} {e : Expr} {pos : Pos} {m : MS}
theorem Sim.uncell {F H : Hp} {B : AS} {σ : L2.St} {n n0 : Int} {ds : DS} {i : Nat} {a : Addr} (S : Sim (C.cellAt i a) F B σ H n ds) (hq : C.q = none) (hp : ∀ j, C.pn j = none) : Sim C F B σ H n0 ds :=
  ⟨S.fh, S.bok, fun q h => (by rw [hq] at h; cases h), fun j v h => (by rw [hp j] at h; cases h), S.len, by
    obtain ⟨A, h1, h2, h3⟩ := S.rep
    exact ⟨A, h1, fun j a ha => ⟨(h2 j a ha).1, by rw [hq]; simp⟩, h3⟩⟩
theorem ws_newCell {i : Nat} {x : Str} {p' lpos : Pos} {j : Nat} {c : Int} {cp : Pos} {sts : List Stmt} (hq : C.q = none) (hp : ∀ j, C.pn j = none) (hN : X.N.Nodup) (hr : ∀ a, PSs X sts (WS (C.cellAt i a) wx kr m)) (hi : X.N[i]? = some x := by rfl) (hx : Loc X.env.scope x := by first | exact Or.inl rfl | exact Or.inr rfl)
    (hs : swapsWith (.List [.Constant (.int c) j cp] lpos) (some (.Name x p')) pos.line X.env = pure false := by rfl) (hf : X.fn x = true ∨ X.env.scope.names.lookup x = some .local := by first | exact .inl rfl | exact .inr rfl | assumption)
    (hst : starEach [.Constant (.int c) j cp] X.env = (false, eval (.Constant (.int c) j cp) X.env) :: starEach [] X.env := by rfl) :
    PSs X (.Assign [.Name x p'] (.List [.Constant (.int c) j cp] lpos) pos :: sts) (WS C wx kr (sNewCell i c m)) := by
  have hall : PSs X sts (fun E σ H => ∃ a, WS (C.cellAt i a) wx kr m E σ H) := ⟨fun pins s σ H E I h => by
    obtain ⟨a, h⟩ := h
    exact (hr a).run pins s σ H E I h⟩
  refine (pss_cons (ps_set hN hi hx (pe_lst (pa_cons pe_int pa_nil hst)) hs hf) hall).wk fun E σ H w => ?_
  obtain ⟨F, B, n, ds, S, h⟩ := w
  have hlt : i < ds.length := by
    by_cases hl : i < ds.length
    · exact hl
    · unfold WSL sNewCell at h; simp only [if_neg hl] at h
  refine ⟨by show 1 ≤ sizeLine; decide, fun p hpn => ⟨p, F, fun a => B a ∨ a = p, c, ds.set i none, ?_, ?_⟩⟩
  · have hFp : F p = none := none_some (fun a o e => ⟨o, S.fh a o e⟩) hpn
    have hup : ∀ a o, H a = some o → upd H p (.lst [.int c]) a = some o := fun a o e => by rw [upd_ne (ne_of_none e hpn)]; exact e
    refine ⟨fun a o e => hup a o (S.fh a o e), fun a ha => ?_, fun q e => ?_, fun j' v h' => ?_, ?_, ?_⟩
    · rcases ha with ha | ha
      · obtain ⟨z1, o, z2, z3⟩ := S.bok a ha
        exact ⟨z1, o, hup a o z2, z3⟩
      · subst ha; exact ⟨hFp, _, upd_same, rfl⟩
    · cases e
      exact ⟨.inr rfl, upd_same⟩
    · have h' : (if j' = i then some (V.ref p) else none) = some v := h'
      by_cases hj : j' = i
      · subst hj
        rw [if_pos rfl] at h'
        cases h'
        refine List.getElem?_set_self ?_
        rw [S.len]; exact hlt
      · rw [if_neg hj] at h'; cases h'
    · rw [List.length_set, List.length_set]; exact S.len
    · obtain ⟨A, h1, h2, h3⟩ := S.rep
      refine ⟨A, fun j' d e => ?_, fun j' a ha => ⟨.inl (h2 j' a ha).1, fun z => ?_⟩, h3⟩
      · by_cases hj : i = j'
        · subst hj
          by_cases hl : i < ds.length
          · rw [List.getElem?_set_self hl] at e; cases e
          · rw [List.getElem?_eq_none (by simpa using hl)] at e; cases e
        · rw [List.getElem?_set_ne hj] at e
          obtain ⟨v, e1, r⟩ := h1 j' d e
          exact ⟨v, by rw [List.getElem?_set_ne hj]; exact e1, r.mono (Same.refl _) (fun a o e _ => hup a o e) fun a o _ e => hup a o e⟩
      · cases z
        obtain ⟨_, o, z2, _⟩ := S.bok p (h2 j' p ha).1
        rw [hpn] at z2; cases z2
  · have G : GoS B F H (fun a => B a ∨ a = p) F (upd H p (.lst [.int c])) := by
      have g := (GoC.newO (q := none) (o := .lst [.int c]) S.fh hpn).toS (B := B) (fun _ h => by cases h)
      exact ⟨g.ff, g.fh, g.hh, g.ht, g.nf, fun a ha => ha.elim .inl fun z => .inr (by rw [z]; exact hpn), g.dm⟩
    unfold WSL sNewCell at h
    simp only [if_pos hlt] at h
    unfold WSL
    cases e : m c (ds.set i none) with
    | none => simp only [e] at h
    | some pp =>
      obtain ⟨fl, n', ds'⟩ := pp
      cases fl with
      | nx => simp only [e] at h; exact fun σ' F' B' H' G2 S2 => h σ' F' B' H' (G.trans G2) (S2.uncell hq hp)
      | bk => simp only [e] at h
      | ct => simp only [e] at h
      | rt d =>
        simp only [e] at h
        exact RtP.tr G (fun v B' F' H' A G2 _ r f => h v B' F' H' A G2 (fun q z => by rw [hq] at z; cases z) r fun a ha => ⟨(f a ha).1, (f a ha).2.1, by rw [hq]; simp, (f a ha).2.2.2⟩)
      | ex c fs => simp only [e] at h; exact fun σ' F' B' H' od G2 S2 x => h σ' F' B' H' od (G.trans G2) (S2.uncell hq hp) (x.trS G)
end
end GW

/-! the plain functions, reckoned -/
namespace GW
open PySem L2 PyProof.Rows
theorem iop_addIS {X : Cx} : OpR X (inplaceOp .Add) rAddIS := iop_add.or iop_add_str
section
variable {α β : Type} {n n1 : Int} {ds : DS}
@[simp] theorem ev_mb {m : Mo α} {f : α → Mo β} : mb m f n ds = match m n ds with
  | none => none
  | some (.ex C fs, n1) => some (.ex C fs, n1)
  | some (.ok a, n1) => f a n1 ds := (rfl)
@[simp] theorem ev_ret {a : α} : ret (some a) n ds = some (.ok a, n) := (rfl)
@[simp] theorem ev_var {i : Nat} : mVar i n ds = match ds[i]? with | some (some d) => some (.ok d, n) | _ => none := (rfl)
@[simp] theorem ev_C {d : D} : mC d n ds = some (.ok d, n) := (rfl)
@[simp] theorem ev_m2 {a b : M} {o : D → D → Option D} : m2 a b o n ds = mb a (fun x => mb b fun y => ret (o x y)) n ds := (rfl)
@[simp] theorem ev_m1 {a : M} {o : D → Option D} : m1 a o n ds = mb a (fun x => ret (o x)) n ds := (rfl)
@[simp] theorem ev_test {m : M} : mTest m n ds = mb m (fun d => ret (match d with | .bl b => some b | _ => none)) n ds := (rfl)
@[simp] theorem ev_not {t : Mo Bool} : mNot t n ds = mb t (fun b => ret (some (!b))) n ds := (rfl)
@[simp] theorem ev_and {t u : Mo Bool} : mAnd t u n ds = mb t (fun b => match b with | true => u | false => ret (some false)) n ds := (rfl)
@[simp] theorem ev_or {t u : Mo Bool} : mOr t u n ds = mb t (fun b => match b with | true => ret (some true) | false => u) n ds := (rfl)
@[simp] theorem ev_andV {a b : M} : mAndV a b n ds = mb a (fun d => match d with | .bl true => b | .bl false => ret (some (.bl false)) | _ => ret none) n ds := (rfl)
@[simp] theorem ev_orV {a b : M} : mOrV a b n ds = mb a (fun d => match d with | .bl true => ret (some (.bl true)) | .bl false => b | _ => ret none) n ds := (rfl)
@[simp] theorem ev_if {t : Mo Bool} {a b : M} : mIf t a b n ds = mb t (fun c => match c with | true => a | false => b) n ds := (rfl)
@[simp] theorem ev_tru {m : M} : mTru m n ds = mb m (fun d => ret (oTru d)) n ds := (rfl)
@[simp] theorem ev_cons {m : M} {ms : Mo (List D)} : mCons m ms n ds = mb m (fun d => mb ms fun ds => ret (some (d :: ds))) n ds := (rfl)
@[simp] theorem ev_cb {ms : Mo (List D)} {o : List D → Option D} : mCB ms o n ds = mb ms (fun ds => ret (o ds)) n ds := (rfl)
@[simp] theorem ev_call {fm : FM} {ms : Mo (List D)} : mCall fm ms n ds = mb ms (fun as => fun n _ => fm n as) n ds := (rfl)
@[simp] theorem ev_pure {f : List D → Option (Ot D)} {as : List D} : pureF f n as = (f as).map fun o => (o, n) := (rfl)
@[simp] theorem ev_flat {m : M} : mFlat m n ds = mb m (fun d => ret (if flat d = true then some d else none)) n ds := (rfl)
@[simp] theorem ev_cell : mCell n ds = some (.ok (.int n), n) := (rfl)
@[simp] theorem ev_lenN : ∀ {as : List D}, as.length ≤ 16777216 → (if as.length ≤ 16777216 then some as else none) = some as := fun h => if_pos h
@[simp] theorem ev_tup {ms : Mo (List D)} : mTup ms n ds = mb ms (fun ds => ret (if ds.length ≤ 16777216 then some (.tup ds) else none)) n ds := (rfl)
@[simp] theorem ev_lst {ms : Mo (List D)} : mLst ms n ds = mb ms (fun ds => ret (if ds.length ≤ 16777216 then some (.lst ds) else none)) n ds := (rfl)
@[simp] theorem ev_noPart : mNoPart n ds = some (.ok none, n) := (rfl)
@[simp] theorem ev_part {m : M} : mPart m n ds = mb m (fun d => ret (match d with | .int i => some (some i) | _ => none)) n ds := (rfl)
@[simp] theorem ev_sl {m : M} {a b : Mo (Option Int)} : mSl m a b n ds = mb m (fun d => mb a fun lo => mb b fun hi => ret (oSl lo hi d)) n ds := (rfl)
@[simp] theorem ev_3c {ma mc md : M} {o o' : D → D → Option D} : m3c ma mc md o o' n ds = mb ma (fun x => mb mc fun y => mb (ret (o x y)) fun z => match z with | .bl true => mb md fun w => ret (o' y w) | .bl false => ret (some (.bl false)) | _ => ret none) n ds := (rfl)
@[simp] theorem ev_itl {m : M} : mItL m n ds = mb m (fun d => ret (match d with | .lst ds => some ds | _ => none)) n ds := (rfl)
@[simp] theorem ev_itt {m : M} : mItT m n ds = mb m (fun d => ret (match d with | .tup ds => some ds | _ => none)) n ds := (rfl)
@[simp] theorem ev_its {m : M} : mItS m n ds = mb m (fun d => ret (match d with | .str x => some (signsD x) | _ => none)) n ds := (rfl)
@[simp] theorem ev_rng {ms : Mo (List D)} : mRng ms n ds = mb ms (fun ds => ret (oRng ds)) n ds := (rfl)
@[simp] theorem ev_zip {ms : Mo (List D)} : mZip ms n ds = mb ms (fun ds => ret (oZip ds)) n ds := (rfl)
@[simp] theorem ev_yes : mYes n ds = some (.ok true, n) := (rfl)
-- operators
@[simp] theorem ov_add {i j : Int} : oAdd (.int i) (.int j) = some (.int (i + j)) := (rfl)
@[simp] theorem ov_sub {i j : Int} : oSub (.int i) (.int j) = some (.int (i - j)) := (rfl)
@[simp] theorem ov_mul {i j : Int} : oMul (.int i) (.int j) = if mulOk i j = true then some (.int (i * j)) else none := (rfl)
@[simp] theorem ov_div {i j : Int} : oDiv (.int i) (.int j) = if divOk j = true then some (.int (i / j)) else none := (rfl)
@[simp] theorem ov_mod {i j : Int} : oMod (.int i) (.int j) = if 0 < j then some (.int (i % j)) else none := (rfl)
@[simp] theorem ov_neg {i : Int} : oNeg (.int i) = some (.int (-i)) := (rfl)
@[simp] theorem ov_lt {i j : Int} : oLt (.int i) (.int j) = some (.bl (decide (i < j))) := (rfl)
@[simp] theorem ov_le {i j : Int} : oLe (.int i) (.int j) = some (.bl (decide (i ≤ j))) := (rfl)
@[simp] theorem ov_gt {i j : Int} : oGt (.int i) (.int j) = some (.bl (decide (j < i))) := (rfl)
@[simp] theorem ov_ge {i j : Int} : oGe (.int i) (.int j) = some (.bl (decide (j ≤ i))) := (rfl)
@[simp] theorem ov_eqI {i j : Int} : oEq (.int i) (.int j) = some (.bl (decide (i = j))) := by
  show (if scal (V.int i) (V.int j) = true then some (D.bl (decide (V.int i = V.int j))) else none) = _
  rw [if_pos (by rfl)]
  congr 2
  simp
@[simp] theorem ov_neI {i j : Int} : oNe (.int i) (.int j) = some (.bl (!decide (i = j))) := by
  show (if scal (V.int i) (V.int j) = true then some (D.bl (!decide (V.int i = V.int j))) else none) = _
  rw [if_pos (by rfl)]
  congr 2
  simp
@[simp] theorem ov_eqB {i j : Bool} : oEq (.bl i) (.bl j) = some (.bl (decide (i = j))) := by
  show (if scal (V.bl i) (V.bl j) = true then some (D.bl (decide (V.bl i = V.bl j))) else none) = _
  rw [if_pos (by rfl)]
  congr 2
  simp
@[simp] theorem ov_neB {i j : Bool} : oNe (.bl i) (.bl j) = some (.bl (!decide (i = j))) := by
  show (if scal (V.bl i) (V.bl j) = true then some (D.bl (!decide (V.bl i = V.bl j))) else none) = _
  rw [if_pos (by rfl)]
  congr 2
  simp
@[simp] theorem ov_ixL {as : List D} {i : Int} : oIx (.lst as) (.int i) = atI as i := (rfl)
@[simp] theorem ov_ixT {as : List D} {i : Int} : oIx (.tup as) (.int i) = atI as i := (rfl)
@[simp] theorem ov_lenL {as : List D} : oLen [.lst as] = some (.int as.length) := (rfl)
@[simp] theorem ov_lenT {as : List D} : oLen [.tup as] = some (.int as.length) := (rfl)
@[simp] theorem ov_abs {i : Int} : oAbs [.int i] = some (.int (if i < 0 then -i else i)) := (rfl)
@[simp] theorem ov_divmod {i j : Int} : oDivmod [.int i, .int j] = if divOk j = true then some (.tup [.int (i / j), .int (i % j)]) else none := (rfl)
@[simp] theorem ov_isi {T : String} {d : D} : oIsi T d = (isT T d).map D.bl := (rfl)
@[simp] theorem ov_isT1 {T : String} : isT T .non = some false := (rfl)
@[simp] theorem ov_isT2 {T : String} {b : Bool} : isT T (.bl b) = some (T == "bool" || T == "int") := (rfl)
@[simp] theorem ov_isT3 {T : String} {i : Int} : isT T (.int i) = some (T == "int") := (rfl)
@[simp] theorem ov_isT4 {T : String} {x : Str} : isT T (.str x) = some (T == "str") := (rfl)
@[simp] theorem ov_isT5 {T : String} {as : List D} : isT T (.tup as) = some (T == "tuple") := (rfl)
@[simp] theorem ov_isT6 {T : String} {as : List D} : isT T (.lst as) = some (T == "list") := (rfl)
@[simp] theorem ov_isT7 {T : String} {as : List (Key × D)} : isT T (.dct as) = some (T == "dict") := (rfl)
@[simp] theorem ov_pow {i j : Int} : oPow (.int i) (.int j) = if powOk i j = true then some (.int (i ^ j.toNat)) else none := (rfl)
@[simp] theorem ov_rng1 {j : Int} : oRng [.int j] = if r62 j = true then some (rngD 0 j.toNat) else none := (rfl)
@[simp] theorem ov_rng2 {i j : Int} : oRng [.int i, .int j] = if r62 i = true ∧ r62 j = true then some (rngD i (j - i).toNat) else none := (rfl)
@[simp] theorem at0 {α : Type} {a : α} {l : List α} : atI (a :: l) 0 = some a := by
  unfold atI ixN; simp
@[simp] theorem at1 {α : Type} {a b : α} {l : List α} : atI (a :: b :: l) 1 = some b := by
  unfold atI ixN
  rw [if_pos (by omega), if_pos (by simp only [List.length_cons]; omega)]
  rfl
-- statements
@[simp] theorem sv_nx : sNx n ds = some (.nx, n, ds) := (rfl)
@[simp] theorem sv_bk : sBk n ds = some (.bk, n, ds) := (rfl)
@[simp] theorem sv_ct : sCt n ds = some (.ct, n, ds) := (rfl)
@[simp] theorem sv_none : sNone n ds = none := (rfl)
@[simp] theorem sv_seq {a b : MS} : sSeq a b n ds = match a n ds with
  | some (.nx, n1, ds1) => b n1 ds1
  | r => r := (rfl)
@[simp] theorem sv_E {m : Mo α} {f : α → MS} : sE m f n ds = match m n ds with
  | none => none
  | some (.ex C fs, n1) => some (.ex C fs, n1, ds)
  | some (.ok a, n1) => f a n1 ds := (rfl)
@[simp] theorem sv_if {t : Mo Bool} {a b : MS} : sIf t a b n ds = sE t (fun c => match c with | true => a | false => b) n ds := (rfl)
@[simp] theorem sv_set {i : Nat} {m : M} : sSet i m n ds = sE m (fun d n ds => some (.nx, n, ds.set i (some d))) n ds := (rfl)
@[simp] theorem sv_aug {i : Nat} {m : M} {o : D → D → Option D} : sAug i m o n ds = match ds[i]? with
  | some (some d0) => sE m (fun d n ds => match o d0 d with
    | some d2 => some (.nx, n, ds.set i (some d2))
    | none => none) n ds
  | _ => none := (rfl)
@[simp] theorem sv_drop {m : M} : sDrop m n ds = sE m (fun _ n ds => some (.nx, n, ds)) n ds := (rfl)
@[simp] theorem sv_ret {m : M} : sRet m n ds = sE m (fun d n ds => some (.rt d, n, ds)) n ds := (rfl)
@[simp] theorem sv_retV {i : Nat} : sRetV i n ds = match ds[i]? with | some (some d) => some (.rt d, n, ds) | _ => none := (rfl)
@[simp] theorem sv_asg {tg : Tg} {m : M} : sAsg tg m n ds = sE m (fun d n ds => match tg.bind d ds with
  | some ds' => some (.nx, n, ds')
  | none => none) n ds := (rfl)
@[simp] theorem sv_par {i j : Nat} {ms : Mo (List D)} : sPar i j ms n ds = sE ms (fun as n ds => match as with
  | [a, b] => some (.nx, n, (ds.set i (some a)).set j (some b))
  | _ => none) n ds := (rfl)
@[simp] theorem sv_cell {m : M} : sCell m n ds = sE m (fun d n ds => match d with
  | .int i => some (.nx, i, ds)
  | _ => none) n ds := (rfl)
@[simp] theorem tb_one {i : Nat} {d : D} : (Tg.one i).bind d ds = some (ds.set i (some d)) := (rfl)
@[simp] theorem tb_tup {is : List Nat} {as : List D} : (Tg.tup is).bind (.tup as) ds = bindL is as ds := (rfl)
@[simp] theorem tb_nil : bindL [] [] ds = some ds := (rfl)
@[simp] theorem tb_cons {i : Nat} {is : List Nat} {d : D} {as : List D} : bindL (i :: is) (d :: as) ds = bindL is as (ds.set i (some d)) := (rfl)
@[simp] theorem sv_for {mi : Mo (List D)} {tg : Tg} {body : MS} : sFor mi tg body n ds = sE mi (fun as => forL tg body as) n ds := (rfl)
@[simp] theorem sv_forNil {tg : Tg} {body : MS} : forL tg body [] n ds = some (.nx, n, ds) := (rfl)
theorem sv_forCons {tg : Tg} {body : MS} {d : D} {r : List D} : forL tg body (d :: r) n ds = match tg.bind d ds with
    | none => none
    | some ds1 => match body n ds1 with
      | none => none
      | some (.nx, n', ds') => forL tg body r n' ds'
      | some (.ct, n', ds') => forL tg body r n' ds'
      | some (.bk, n', ds') => some (.nx, n', ds')
      | some (.rt d, n', ds') => some (.rt d, n', ds')
      | some (.ex c fs, n', ds') => some (.ex c fs, n', ds') := rfl
@[simp] theorem sv_while {t : Mo Bool} {body : MS} : sWhile t body n ds = whileL t body FUEL n ds := (rfl)
@[simp] theorem of_nx : outF (some (.nx, n, ds)) = some (.ok .non, n) := (rfl)
@[simp] theorem of_rt {d : D} : outF (some (.rt d, n, ds)) = some (.ok d, n) := (rfl)
@[simp] theorem of_ex {c : Addr} {fs : List (Str × Int)} : outF (some (.ex c fs, n, ds)) = some (.ex c fs, n) := (rfl)
theorem seq_nx {a b : MS} {ds1 : DS} {r : Option (Fl × Int × DS)} (h : a n ds = some (.nx, n1, ds1)) (h2 : b n1 ds1 = r) : sSeq a b n ds = r := by
  unfold sSeq; rw [h]; exact h2
theorem seq_rt {a b : MS} {ds1 : DS} {d : D} (h : a n ds = some (.rt d, n1, ds1)) : sSeq a b n ds = some (.rt d, n1, ds1) := by
  unfold sSeq; rw [h]
theorem seq_ex {a b : MS} {ds1 : DS} {c : Addr} {fs : List (Str × Int)} (h : a n ds = some (.ex c fs, n1, ds1)) : sSeq a b n ds = some (.ex c fs, n1, ds1) := by
  unfold sSeq; rw [h]
theorem E_ok {m : Mo α} {f : α → MS} {a : α} {r : Option (Fl × Int × DS)} (h : m n ds = some (.ok a, n1)) (h2 : f a n1 ds = r) : sE m f n ds = r := by
  unfold sE; rw [h]; exact h2
theorem for_of {mi : Mo (List D)} {tg : Tg} {body : MS} {as : List D} {r : Option (Fl × Int × DS)} (h : mi n ds = some (.ok as, n1)) (h2 : forL tg body as n1 ds = r) : sFor mi tg body n ds = r := E_ok h h2
theorem set_of {i : Nat} {m : M} {d : D} (h : m n ds = some (.ok d, n1)) : sSet i m n ds = some (.nx, n1, ds.set i (some d)) := E_ok h (Eq.refl _)
theorem ret_of {m : M} {d : D} (h : m n ds = some (.ok d, n1)) : sRet m n ds = some (.rt d, n1, ds) := E_ok h (Eq.refl _)
theorem if_t {t : Mo Bool} {a b : MS} {r : Option (Fl × Int × DS)} (h : t n ds = some (.ok true, n1)) (h2 : a n1 ds = r) : sIf t a b n ds = r := E_ok h h2
theorem if_f {t : Mo Bool} {a b : MS} {r : Option (Fl × Int × DS)} (h : t n ds = some (.ok false, n1)) (h2 : b n1 ds = r) : sIf t a b n ds = r := E_ok h h2
theorem newCell_rt {i : Nat} {c : Int} {m : MS} {n' : Int} {d : D} {ds' : DS} (hi : i < ds.length) (h : m c (ds.set i none) = some (.rt d, n', ds')) : outF (sNewCell i c m n ds) = some (.ok d, n) := by
  unfold sNewCell
  rw [if_pos hi, h]
  rfl
theorem fn0_of {N : Nat} {ms : MS} {as : List D} {d : D} (h : outF (ms 0 (startD N as)) = some (.ok d, 0)) : fn0 N ms as = some (.ok d) := by
  unfold fn0; rw [h]; rfl
end

/-! ### loops -/
/-- a for that is walked: P holds ahead of item i; a step goes on or ends the loop with an answer that R allows -/
theorem forL_run {tg : Tg} {body : MS} {as : List D} (P : Nat → Int → DS → Prop) (R : Fl × Int × DS → Prop)
    (step : ∀ i d n ds, as[i]? = some d → P i n ds → ∃ ds1, tg.bind d ds = some ds1 ∧ ∃ fl n' ds', body n ds1 = some (fl, n', ds') ∧
      match fl with | .nx => P (i + 1) n' ds' | .ct => P (i + 1) n' ds' | .bk => R (.nx, n', ds') | .rt d => R (.rt d, n', ds') | .ex c fs => R (.ex c fs, n', ds'))
    (fin : ∀ n ds, P as.length n ds → R (.nx, n, ds)) {n : Int} {ds : DS} (h : P 0 n ds) : ∃ r, forL tg body as n ds = some r ∧ R r := by
  have key : ∀ (m i : Nat), m + i = as.length → ∀ n ds, P i n ds → ∃ r, forL tg body (as.drop i) n ds = some r ∧ R r := by
    intro m
    induction m with
    | zero =>
      intro i hi n ds hp
      rw [List.drop_eq_nil_of_le (by omega)]
      have : i = as.length := by omega
      subst this
      exact ⟨_, rfl, fin n ds hp⟩
    | succ m ih =>
      intro i hi n ds hp
      have hlt : i < as.length := by omega
      rw [List.drop_eq_getElem_cons hlt, sv_forCons]
      obtain ⟨ds1, h1, fl, n', ds', h2, h3⟩ := step i _ n ds (List.getElem?_eq_getElem hlt) hp
      simp only [h1, h2]
      cases fl with
      | nx => exact ih (i + 1) (by omega) n' ds' h3
      | ct => exact ih (i + 1) (by omega) n' ds' h3
      | bk => exact ⟨_, rfl, h3⟩
      | rt d => exact ⟨_, rfl, h3⟩
      | ex c fs => exact ⟨_, rfl, h3⟩
  have := key as.length 0 (by omega) n ds h
  rwa [List.drop_zero] at this
/-- no step ends it -/
theorem forL_inv {tg : Tg} {body : MS} {as : List D} (P : Nat → Int → DS → Prop)
    (step : ∀ i d n ds, as[i]? = some d → P i n ds → ∃ ds1, tg.bind d ds = some ds1 ∧ ∃ n' ds', body n ds1 = some (.nx, n', ds') ∧ P (i + 1) n' ds') {n : Int} {ds : DS} (h : P 0 n ds) : ∃ n' ds', forL tg body as n ds = some (.nx, n', ds') ∧ P as.length n' ds' := by
  obtain ⟨r, h1, n', ds', h2, h3⟩ := forL_run (tg := tg) (body := body) (as := as) P (fun r => ∃ n' ds', r = (.nx, n', ds') ∧ P as.length n' ds') (fun i d n ds h1 h2 => by
    obtain ⟨ds1, h3, n', ds', h4, h5⟩ := step i d n ds h1 h2
    exact ⟨ds1, h3, .nx, n', ds', h4, h5⟩) (fun n ds hp => ⟨n, ds, rfl, hp⟩) h
  subst h2
  exact ⟨n', ds', h1, h3⟩
theorem whileL_run {t : Mo Bool} {body : MS} (P : Nat → Int → DS → Prop) (R : Fl × Int × DS → Prop)
    (step : ∀ m n ds, P m n ds → ∃ b n1, t n ds = some (.ok b, n1) ∧ match b with
      | false => R (.nx, n1, ds)
      | true => ∃ fl n' ds', body n1 ds = some (fl, n', ds') ∧
        match fl with | .nx => (∃ m', m' < m ∧ P m' n' ds') | .ct => (∃ m', m' < m ∧ P m' n' ds') | .bk => R (.nx, n', ds') | .rt d => R (.rt d, n', ds') | .ex c fs => R (.ex c fs, n', ds')) :
    ∀ (fuel m : Nat) {n : Int} {ds : DS}, P m n ds → m < fuel → ∃ r, whileL t body fuel n ds = some r ∧ R r
  | 0, m, n, ds, _, h => absurd h (Nat.not_lt_zero _)
  | fuel + 1, m, n, ds, hp, hf => by
    obtain ⟨b, n1, h1, h2⟩ := step m n ds hp
    show ∃ r, sE t _ n ds = some r ∧ R r
    simp only [sv_E, h1]
    cases b with
    | false => exact ⟨_, rfl, h2⟩
    | true =>
      obtain ⟨fl, n', ds', h3, h4⟩ := h2
      simp only [h3]
      cases fl with
      | nx => obtain ⟨m', h5, h6⟩ := h4; exact whileL_run P R step fuel m' h6 (by omega)
      | ct => obtain ⟨m', h5, h6⟩ := h4; exact whileL_run P R step fuel m' h6 (by omega)
      | bk => exact ⟨_, rfl, h4⟩
      | rt d => exact ⟨_, rfl, h4⟩
      | ex c fs => exact ⟨_, rfl, h4⟩
theorem fuel_lt {m k : Nat} (h : m < 2 ^ k) (hk : k ≤ 100000) : m < FUEL := by
  unfold FUEL
  exact Nat.lt_of_lt_of_le h (Nat.pow_le_pow_right (by decide) hk)

/-! ### sizes -/
def Sz (k : Nat) (i : Int) : Prop := i.natAbs < 2 ^ k
theorem log2_lt {n k : Nat} (h : n < 2 ^ k) (hk : 0 < k) : n.log2 < k := by
  by_cases h0 : n = 0
  · subst h0; exact hk
  · exact (Nat.log2_lt h0).mpr h
theorem mulOk_of {i j : Int} {a b : Nat} (hi : Sz a i) (hj : Sz b j) (h : a + b < 999999) : mulOk i j = true := by
  unfold mulOk
  have h1 : i.natAbs.log2 < a + 1 := log2_lt (Nat.lt_of_lt_of_le hi (Nat.pow_le_pow_right (by decide) (by omega))) (by omega)
  have h2 : j.natAbs.log2 < b + 1 := log2_lt (Nat.lt_of_lt_of_le hj (Nat.pow_le_pow_right (by decide) (by omega))) (by omega)
  exact dec_of (.inr (.inr (by omega)))
theorem divOk_of {j : Int} {a : Nat} (h0 : 0 < j) (hj : Sz a j) (h : a ≤ 8999) : divOk j = true := by
  unfold divOk
  have h2 : j.natAbs.log2 < a + 1 := log2_lt (Nat.lt_of_lt_of_le hj (Nat.pow_le_pow_right (by decide) (by omega))) (by omega)
  exact dec_of ⟨h0, by omega⟩
theorem mulR {i j : Int} (h : -18446744073709551616 < j ∧ j < 18446744073709551616) : mulOk i j = true := dec_of (.inr (.inl h))
theorem mulL {i j : Int} (h : -18446744073709551616 < i ∧ i < 18446744073709551616) : mulOk i j = true := dec_of (.inl h)
theorem divL {j : Int} (h : 0 < j ∧ j < 18446744073709551616) : divOk j = true := divOk_of (a := 64) h.1 (by unfold Sz; omega) (by decide)
theorem powL {i j : Int} (h : 0 ≤ j ∧ j ≤ 1000000 ∧ i.natAbs < 18446744073709551616) : powOk i j = true := dec_of h
theorem r62_of {i : Int} (h : -4611686018427387904 ≤ i ∧ i < 4611686018427387904) : r62 i = true := dec_of h
theorem Sz.mono {i : Int} {a b : Nat} (h : Sz a i) (hab : a ≤ b) : Sz b i := Nat.lt_of_lt_of_le h (Nat.pow_le_pow_right (by decide) hab)
theorem Sz.mul {i j : Int} {a b : Nat} (hi : Sz a i) (hj : Sz b j) : Sz (a + b) (i * j) := by
  unfold Sz at *
  rw [Int.natAbs_mul, Nat.pow_add]
  exact Nat.mul_lt_mul_of_lt_of_le hi (Nat.le_of_lt hj) (Nat.pow_pos (by decide))
theorem Sz.add {i j : Int} {a : Nat} (hi : Sz a i) (hj : Sz a j) : Sz (a + 1) (i + j) := by
  unfold Sz at *
  rw [Nat.pow_succ]
  omega
theorem Sz.neg {i : Int} {a : Nat} (hi : Sz a i) : Sz a (-i) := by
  unfold Sz at *
  omega
/-! ### the law's own call -/
theorem law_call {K : PySem.W.Frag} {f : List D → Option (Ot D)} {ns : List Int} {H : Hp} {a : Addr} {Q : VK} {E : XK} (h : f [.lst (ns.map D.int)] = some (.ok (.bl true))) (hS : SqL K H a (ns.map V.int)) (hQ : ∀ H', Q (.bl true) H' := by intro _; rfl) : spM K none 1 0 (pureF f) [.ref a] H Q E := by
  refine ⟨rfl, H, none, 0, [.lst (ns.map D.int)], Same.refl _, fun _ => rfl, (fun i hi => by cases hi), rfl, fun i v d _ h1 h2 => ?_, ?_⟩
  · cases i with
    | zero =>
      simp only [List.getElem?_cons_zero, Option.some.injEq] at h1 h2
      subst h1 h2
      refine .lst hS (by simp) fun j v d h3 h4 => ?_
      rw [List.getElem?_map] at h3 h4
      cases e : ns[j]? with
      | none => rw [e] at h3; cases h3
      | some x =>
        rw [e] at h3 h4
        cases h3; cases h4
        exact .int
    | succ i => simp at h1
  · unfold pureF
    rw [h]
    intro v F' H' _ _ r
    obtain ⟨A, r, _⟩ := r
    rw [r.bl_]
    exact hQ H'
theorem fn_law {P : Program} {w : World} {K : PySem.W.Frag} {mg : Str → Option Value} {base : Heap} {k : Nat} {f : Addr} {fd : FuncData} {ps : List Str} {sp : Sp} (h : FnOk P w K mg base (L2.CX P w) k f fd ps sp) : FnOk P w K mg base CX0 k f fd ps (fun vs H Q _ => sp vs H Q (fun _ _ _ => False)) :=
  ⟨fun vs H Q E z => h.len vs H Q _ z, fun A outer s H args us vs Q E hr e0 hb hv z => codeAny_mono (h.run A outer s H args us vs Q _ hr e0 hb hv z) fun r s' c => by
    match r, c with
    | .ok (.ret u), c => exact c
    | .error e, c => obtain ⟨_, _, _, _, _, _, _, _, _, _, _, _, z⟩ := c; exact z.elim⟩
end GW

/-! zip and enumerate of lists, tuples, texts in any mix -/
namespace GW
open PySem L2 PyProof.Rows
/-- what is gone through -/
inductive Src where
  | lst (a : Addr) | tup (a : Addr) | txt (x : Str) (t : Tok)
def Src.val : Src → Value
  | .lst a => .ref a
  | .tup a => .ref a
  | .txt x t => .str x t
/-- the iterator over it, at it, behind i items -/
def Src.tn : Src → Addr → Nat → Heap → Prop
  | .lst a, it, i, h => h.IsListIter it a i
  | .tup a, it, i, h => h.IsTupleIter it a i
  | .txt x t, it, i, h => h.IsStrIter it (strIterType x) x t i
/-- its items -/
def Src.its (K : PySem.W.Frag) (H : Hp) : Src → List V → Prop
  | .lst a, vs => SqL K H a vs
  | .tup a, vs => SqT K H a vs
  | .txt x _, vs => vs = x.cps.toList.map fun c => V.str ⟨#[c]⟩
def Src.fp : Src → List Addr
  | .lst a => [a]
  | .tup a => [a]
  | .txt _ _ => []
def Src.obj : Src → Obj
  | .lst a => { cls := .type "list_iterator", data := .fields #[.ref a, .int 0 0] }
  | .tup a => { cls := .type "tuple_iterator", data := .fields #[.ref a, .int 0 0] }
  | .txt x t => { cls := .type (strIterType x), data := .fields #[.str x t, .int 0 0] }
theorem Src.tn_obj {S : Src} {it : Addr} {i : Nat} {h : Heap} (t : S.tn it i h) : ∃ o, h.get? it = some o ∧ ∀ v, o.data ≠ .cell v := by
  cases S <;> (obtain ⟨o, e1, _, d1⟩ := t; exact ⟨o, e1, fun v q => by rw [d1] at q; cases q⟩)
theorem Src.tn_at {S : Src} {it : Addr} {i : Nat} {h h' : Heap} (t : S.tn it i h) (k : ∀ o, h.get? it = some o → h'.get? it = some o) : S.tn it i h' := by
  cases S <;> (obtain ⟨o, e1, r⟩ := t; exact ⟨o, k o e1, r⟩)
theorem Src.tn0 {S : Src} {it : Addr} {h : Heap} (e : h.get? it = some S.obj) : S.tn it 0 h := by
  cases S <;> exact ⟨_, e, rfl, rfl⟩
theorem Src.inj {X : Cx} {pins : List (Addr × Obj)} {σ : L2.St} {H : Hp} {s : Shared} {S : Src} {xs ys : List V} (I : Inv X pins σ H s) (h : S.its X.K H xs) (h' : S.its X.K H ys) : xs = ys := by
  cases S with
  | lst a => exact I.list_inj h h'
  | tup a => exact I.tuple_inj h h'
  | txt x t => rw [show xs = _ from h, show ys = _ from h']
/-- the items drawn, at a state -/
theorem Src.draws {X : Cx} {pins : List (Addr × Obj)} {σ : L2.St} {H : Hp} {s : Shared} {S : Src} {xs : List V} (I : Inv X pins σ H s) (hh : X.A.handled = none) (h : S.its X.K H xs) {it : Addr} (hne : it ∉ S.fp) :
    ∃ (P : Nat → Value → Prop) (St : Nat → Heap → Prop), Draws X.prog X.w X.A.in1 it (it :: S.fp) xs.length P St ∧ (∀ i, S.tn it i s.heap → St i s.heap) ∧ (∀ i h, St i h → S.tn it i h) ∧ ∀ i v, P i v → ∃ y, xs[i]? = some y ∧ RelV y v := by
  cases S with
  | lst a =>
    obtain ⟨its, rv, p, _⟩ := I.list h
    have hl := rv.length
    refine ⟨fun i v => its.toArray[i]? = some v, fun i h => h.IsListIter it a i ∧ h.IsList a its.toArray, ?_, fun i t => ⟨t, p.isList⟩, fun i h t => t.1, fun i v e => ?_⟩
    · show Draws X.prog X.w X.A.in1 it [it, a] _ _ _
      have := Draws.list (prog := X.prog) (w := X.w) (A := X.A.in1) hh it a (fun z => hne (by simp [Src.fp, z])) its.toArray
      rw [hl]; simpa using this
    · have e' : its[i]? = some v := by simpa using e
      have hlt := (List.getElem?_eq_some_iff.mp e').1
      have hx : xs[i]? = some (xs[i]'(by omega)) := List.getElem?_eq_getElem (by omega)
      obtain ⟨u, hu, ru⟩ := rv.get hx
      rw [e'] at hu; cases hu
      exact ⟨_, hx, ru⟩
  | tup a =>
    obtain ⟨its, rv, p, _⟩ := I.tuple h
    have hl := rv.length
    refine ⟨fun i v => its.toArray[i]? = some v, fun i h => h.IsTupleIter it a i ∧ h.IsTuple a its.toArray, ?_, fun i t => ⟨t, p⟩, fun i h t => t.1, fun i v e => ?_⟩
    · show Draws X.prog X.w X.A.in1 it [it, a] _ _ _
      have := Draws.tuple (prog := X.prog) (w := X.w) (A := X.A.in1) hh it a (fun z => hne (by simp [Src.fp, z])) its.toArray
      rw [hl]; simpa using this
    · have e' : its[i]? = some v := by simpa using e
      have hlt := (List.getElem?_eq_some_iff.mp e').1
      have hx : xs[i]? = some (xs[i]'(by omega)) := List.getElem?_eq_getElem (by omega)
      obtain ⟨u, hu, ru⟩ := rv.get hx
      rw [e'] at hu; cases hu
      exact ⟨_, hx, ru⟩
  | txt x t =>
    have h : xs = x.cps.toList.map fun c => V.str ⟨#[c]⟩ := h
    subst h
    refine ⟨_, _, by rw [List.length_map, Array.length_toList]; exact Draws.text (prog := X.prog) (w := X.w) (A := X.A.in1) hh it x t, fun i t => t, fun i h t => t, fun i v e => ?_⟩
    obtain ⟨c, u, e1, rfl⟩ := e
    refine ⟨.str ⟨#[c]⟩, ?_, ⟨u, rfl⟩⟩
    rw [List.getElem?_map, Array.getElem?_toList, e1]
    rfl
/-- the pairs of two things -/
def ItZ (K : PySem.W.Frag) (S1 S2 : Src) : It :=
  ⟨fun i H => ∃ (xs ys : List V) (x y : V), S1.its K H xs ∧ S2.its K H ys ∧ xs[i]? = some x ∧ ys[i]? = some y,
    fun i H v H' => ∃ T x y, v = .ref T ∧ H T = none ∧ H' = upd H T (.tup [x, y]) ∧ (∀ xs, S1.its K H xs → xs[i]? = some x) ∧ ∀ ys, S2.its K H ys → ys[i]? = some y,
    fun i H => ∃ xs ys : List V, S1.its K H xs ∧ S2.its K H ys ∧ min xs.length ys.length = i⟩
/-- the numbered items of a thing -/
def ItE (K : PySem.W.Frag) (S : Src) : It :=
  ⟨fun i H => ∃ (xs : List V) (x : V), S.its K H xs ∧ xs[i]? = some x,
    fun i H v H' => ∃ T x, v = .ref T ∧ H T = none ∧ H' = upd H T (.tup [.int i, x]) ∧ ∀ xs, S.its K H xs → xs[i]? = some x,
    fun i H => ∃ xs : List V, S.its K H xs ∧ xs.length = i⟩
theorem tupObj {P : Program} {w : World} {H : Hp} {T : Addr} {x y : V} {u v : Value} {h : Heap} (ru : RelV x u) (rv : RelV y v) (hT : h.IsTuple T #[u, v]) : ObjOk P w (upd H T (.tup [x, y])) h T (.tup [x, y]) :=
  ⟨by show 2 ≤ sizeLine; decide, [u, v], .cons ru (.cons rv .nil), hT⟩
theorem turn_Z {P : Program} {w : World} {K : PySem.W.Frag} {elts : List Expr} {kk : Nat} {tpos : Pos} {S1 S2 : Src} {z TI TO i1 i2 : Addr} (D : ZipSep2 z TI TO i1 i2 (i1 :: S1.fp) (i2 :: S2.fp)) (n1 : i1 ∉ S1.fp) (n2 : i2 ∉ S2.fp) :
    Turn P w K (.Tuple elts kk tpos) (ItZ K S1 S2) [z, TI, TO, i1, i2] z (fun i h => IsZip h z TI TO .none ∧ IsTupOf2 h TI (.ref i1) (.ref i2) ∧ (∃ a1 a2, IsTupOf2 h TO a1 a2) ∧ S1.tn i1 i h ∧ S2.tn i2 i h) where
  mem := by simp
  obj := fun i h st c hc => by
    obtain ⟨hz, hTI, ⟨x, y, hTO⟩, t1, t2⟩ := st
    have e' : c = z ∨ c = TI ∨ c = TO ∨ c = i1 ∨ c = i2 := by simpa using hc
    rcases e' with q | q | q | q | q
    · rw [q]; exact ⟨_, hz, fun v q => nomatch q⟩
    · rw [q]; exact ⟨_, hTI, fun v q => nomatch q⟩
    · rw [q]; exact ⟨_, hTO, fun v q => nomatch q⟩
    · rw [q]; exact Src.tn_obj t1
    · rw [q]; exact Src.tn_obj t2
  keep := fun i h h' st k => by
    obtain ⟨hz, hTI, ⟨x, y, hTO⟩, h1, h2⟩ := st
    exact ⟨k z (by simp) _ hz, k TI (by simp) _ hTI, ⟨x, y, k TO (by simp) _ hTO⟩, Src.tn_at h1 fun o q => k i1 (by simp) o q, Src.tn_at h2 fun o q => k i2 (by simp) o q⟩
  item := by
    intro X hP hw hK hc i pins s σ H E I hf st hg
    subst hP hw hK
    obtain ⟨hz, hTI, hTO, t1, t2⟩ := st
    obtain ⟨xs, ys, x, y, q1, q2, hx, hy⟩ := hg
    obtain ⟨P1, St1, D1, a1, b1, c1⟩ := Src.draws I (I.ok.hd hc) q1 n1
    obtain ⟨P2, St2, D2, a2, b2, c2⟩ := Src.draws I (I.ok.hd hc) q2 n2
    have G := GoesN.zip2 (elts := elts) (x1 := kk) (pos := tpos) D D1 D2
    have hl1 := (List.getElem?_eq_some_iff.mp hx).1
    have hl2 := (List.getElem?_eq_some_iff.mp hy).1
    refine G.goes i s _ _ (by omega) ⟨hz, hTI, hTO, a1 i t1, a2 i t2⟩ fun v h' tk Y st' hk htk => ?_
    obtain ⟨T, u1, u2, rfl, hT, p1, p2, hTup⟩ := Y
    obtain ⟨z', TI', TO', s1, s2⟩ := st'
    obtain ⟨x', e1, r1⟩ := c1 i u1 p1
    obtain ⟨y', e2, r2⟩ := c2 i u2 p2
    rw [hx] at e1; cases e1
    rw [hy] at e2; cases e2
    have I1 : Inv X pins σ (upd H T (.tup [x, y])) { s with heap := h', toks := tk } :=
      I.turnedNew (ch := [z, TI, TO, i1, i2]) (fun c o hb q => hk c o (fun q' => hb (by simp at q' ⊢; rcases q' with q' | q' | q' | q' <;> simp [q'])) q) hf hT (tupObj r1 r2 hTup)
    refine ⟨.ref T, _, I1, rfl, ⟨T, x, y, rfl, I.hok.fresh hT, rfl, fun l hl => by rw [Src.inj I hl q1]; exact hx, fun l hl => by rw [Src.inj I hl q2]; exact hy⟩, ⟨z', TI', TO', b1 _ _ s1, b2 _ _ s2⟩, fun c hcm => ?_⟩
    have hlt : c < s.heap.objs.size := by
      have e' : c = z ∨ c = TI ∨ c = TO ∨ c = i1 ∨ c = i2 := by simpa using hcm
      rcases e' with q | q | q | q | q
      · rw [q]; exact Heap.lt_size hz
      · rw [q]; exact Heap.lt_size hTI
      · rw [q]; obtain ⟨_, _, hTO⟩ := hTO; exact Heap.lt_size hTO
      · rw [q]; obtain ⟨_, e1, _⟩ := Src.tn_obj t1; exact Heap.lt_size e1
      · rw [q]; obtain ⟨_, e1, _⟩ := Src.tn_obj t2; exact Heap.lt_size e1
    rw [upd_ne (fun z => by rw [z] at hlt; exact absurd (Nat.lt_of_lt_of_le hlt hT) (Nat.lt_irrefl _))]
    exact (hf c hcm).1
  done := by
    intro X hP hw hK hc i pins s σ H E I hf st hg
    subst hP hw hK
    obtain ⟨hz, hTI, hTO, t1, t2⟩ := st
    obtain ⟨xs, ys, q1, q2, hi⟩ := hg
    subst hi
    obtain ⟨P1, St1, D1, a1, b1, c1⟩ := Src.draws I (I.ok.hd hc) q1 n1
    obtain ⟨P2, St2, D2, a2, b2, c2⟩ := Src.draws I (I.ok.hd hc) q2 n2
    have G := GoesN.zip2 (elts := elts) (x1 := kk) (pos := tpos) D D1 D2
    refine wpAny_mono (G.stops s (fun s1 => Inv X pins σ H s1) E ⟨hz, hTI, hTO, a1 _ t1, a2 _ t2⟩ fun h' tk hk htk => I.turnedL (ch := [z, TI, TO, i1, i2]) (fun c o hb q => hk c o (fun q' => hb (by simp at q' ⊢; rcases q' with q' | q' | q' | q' <;> simp [q'])) q) hf) (fun r s1 h => h) fun _ _ e => e
  self := fun A i s Q E st h => wpAny_pyIter_zip st.1 h
theorem turn_E {P : Program} {w : World} {K : PySem.W.Frag} {elts : List Expr} {kk : Nat} {tpos : Pos} {S : Src} {e it : Addr} (hei : e ≠ it) (hef : e ∉ S.fp) (n1 : it ∉ S.fp) :
    Turn P w K (.Tuple elts kk tpos) (ItE K S) [e, it] e (fun i h => (∃ old, IsEnum h e it ((i : Nat) : Int) old) ∧ S.tn it i h) where
  mem := by simp
  obj := fun i h st c hc => by
    obtain ⟨⟨old, he⟩, t1⟩ := st
    have e' : c = e ∨ c = it := by simpa using hc
    rcases e' with q | q
    · rw [q]; exact ⟨_, he, fun v q => nomatch q⟩
    · rw [q]; exact Src.tn_obj t1
  keep := fun i h h' st k => by
    obtain ⟨⟨old, he⟩, h1⟩ := st
    exact ⟨⟨old, k e (by simp) _ he⟩, Src.tn_at h1 fun o q => k it (by simp) o q⟩
  item := by
    intro X hP hw hK hc i pins s σ H E I hf st hg
    subst hP hw hK
    obtain ⟨⟨old, he⟩, t1⟩ := st
    obtain ⟨xs, x, q1, hx⟩ := hg
    obtain ⟨P1, St1, D1, a1, b1, c1⟩ := Src.draws I (I.ok.hd hc) q1 n1
    have G := GoesN.enumFrom (elts := elts) (x1 := kk) (pos := tpos) 0 D1 e hei (by simp [hei, hef]) (by simp)
    have hl1 := (List.getElem?_eq_some_iff.mp hx).1
    refine G.goes i s _ _ (by omega) ⟨⟨old, by rw [Int.zero_add]; exact he⟩, a1 i t1⟩ fun v h' tk Y st' hk htk => ?_
    obtain ⟨T, t, u1, rfl, hT, p1, hTup⟩ := Y
    obtain ⟨⟨old', e'⟩, s1⟩ := st'
    obtain ⟨x', e1, r1⟩ := c1 i u1 p1
    rw [hx] at e1; cases e1
    rw [Int.zero_add] at hTup e'
    have I1 : Inv X pins σ (upd H T (.tup [.int i, x])) { s with heap := h', toks := tk } :=
      I.turnedNew (ch := [e, it]) (fun c o hb q => hk c o hb q) hf hT (tupObj ⟨t, rfl⟩ r1 hTup)
    refine ⟨.ref T, _, I1, rfl, ⟨T, x, rfl, I.hok.fresh hT, rfl, fun l hl => by rw [Src.inj I hl q1]; exact hx⟩, ⟨⟨old', e'⟩, b1 _ _ s1⟩, fun c hcm => ?_⟩
    have hlt : c < s.heap.objs.size := by
      have e' : c = e ∨ c = it := by simpa using hcm
      rcases e' with q | q
      · rw [q]; exact Heap.lt_size he
      · rw [q]; obtain ⟨_, e1, _⟩ := Src.tn_obj t1; exact Heap.lt_size e1
    rw [upd_ne (fun z => by rw [z] at hlt; exact absurd (Nat.lt_of_lt_of_le hlt hT) (Nat.lt_irrefl _))]
    exact (hf c hcm).1
  done := by
    intro X hP hw hK hc i pins s σ H E I hf st hg
    subst hP hw hK
    obtain ⟨⟨old, he⟩, t1⟩ := st
    obtain ⟨xs, q1, hi⟩ := hg
    subst hi
    obtain ⟨P1, St1, D1, a1, b1, c1⟩ := Src.draws I (I.ok.hd hc) q1 n1
    have G := GoesN.enumFrom (elts := elts) (x1 := kk) (pos := tpos) 0 D1 e hei (by simp [hei, hef]) (by simp)
    refine wpAny_mono (G.stops s (fun s1 => Inv X pins σ H s1) E ⟨⟨old, by rw [Int.zero_add]; exact he⟩, a1 _ t1⟩ fun h' tk hk htk => I.turnedL (ch := [e, it]) (fun c o hb q => hk c o hb q) hf) (fun r s1 h => h) fun _ _ e => e
  self := fun A i s Q E st h => let ⟨⟨_, he⟩, _⟩ := st; wpAny_pyIter_enum he h
end GW

namespace PySem
theorem gw_meets_enum {v : Value} {o : Obj} {H : Heap → Prop} (B : Begins v o H) :
    Meets (Builtin.«enumerate.__new__» ⟨[.type "enumerate", v], []⟩) (fun _ R s => H s.heap ∧
      R (.ok (.ret (.ref (s.heap.push o).objs.size))) { s with heap := (s.heap.push o).push { cls := .type "enumerate", data := .fields #[.none, .bool false, .ref s.heap.objs.size, rawInt 0, .none, .none] } }) :=
  .of_wp fun prog w A R s h => by
    obtain ⟨hp, g, d, tk, os⟩ := s; obtain ⟨h1, h⟩ := h
    have hsub := sub_enumerate
    have q1 : ∀ {A' : Around} {E : Value → Shared → Prop} {Q : Value → Shared → Prop}, Q (.ref hp.objs.size) ⟨hp.push o, g, d, tk, os⟩ → wpAny (model prog w) A' (pyIter v) Q E ⟨hp, g, d, tk, os⟩ :=
      fun q => B.iter prog w _ _ ⟨hp, g, d, tk, os⟩ _ h1 q
    wp_walk using q1
    refine wpAny_stack_any fun st => wpAny_pure ?_
    split
    · rename_i c _ _ _ _ _
      cases (c == Value.type "enumerate")
      · wp_walk using q1
        exact ⟨_, rfl, h⟩
      · wp_walk using q1
        exact ⟨_, rfl, h⟩
    · wp_walk using q1
      exact ⟨_, rfl, h⟩
theorem gw_enum {prog : Program} {w : World} {A : Around} {E : Value → Shared → Prop} {s : Shared} {v : Value} {o : Obj} {H : Heap → Prop} {Q : Value → Shared → Prop} (B : Begins v o H) (h1 : H s.heap)
    (h : ∀ h', IsEnum h' (s.heap.objs.size + 1) s.heap.objs.size 0 .none → h'.get? s.heap.objs.size = some o → h'.objs.size = s.heap.objs.size + 2 →
      (∀ b o, s.heap.get? b = some o → h'.get? b = some o) → Q (.ref (s.heap.objs.size + 1)) { s with heap := h' }) :
    wpAny (model prog w) A (call (.type "enumerate") [v]) Q E s := by
  refine callType_new F.called_enumerate (by decide) (F.typeCall_enumerate_1 _) (F.newCall_enumerate_1 _) (fun obj => F.args_object_init_2 obj _) F.entry_enumerate_new
    (gw_meets_enum B) ⟨h1, ?_⟩
  have hz : (s.heap.push o).objs.size = s.heap.objs.size + 1 := Heap.size_push ..
  show _ ∧ _
  rw [hz]
  have he : IsEnum ((s.heap.push o).push { cls := .type "enumerate", data := .fields #[.none, .bool false, .ref s.heap.objs.size, rawInt 0, .none, .none] }) (s.heap.objs.size + 1) s.heap.objs.size 0 .none := by
    have := Heap.get?_push_size (s.heap.push o) (o := { cls := .type "enumerate", data := .fields #[.none, .bool false, .ref s.heap.objs.size, rawInt 0, .none, .none] }) rfl
    rw [hz] at this; exact this
  refine ⟨⟨_, he, rfl⟩, h _ he (Heap.get?_push_of_some _ (Heap.get?_push_size _ B.free)) (by rw [Heap.size_push, hz]) fun b o x => Heap.get?_push_of_some _ (Heap.get?_push_of_some _ x)⟩
end PySem
namespace GW
open PySem L2 PyProof.Rows
def Src.v : Src → V
  | .lst a => .ref a
  | .tup a => .ref a
  | .txt x _ => .str x
theorem Src.begins {X : Cx} {pins : List (Addr × Obj)} {σ : L2.St} {H : Hp} {s : Shared} {S : Src} {xs : List V} (I : Inv X pins σ H s) (h : S.its X.K H xs) : ∃ Hh, Begins S.val S.obj Hh ∧ Hh s.heap ∧ ∀ b ∈ S.fp, b < s.heap.objs.size := by
  cases S with
  | lst a =>
    obtain ⟨its, rv, p, _⟩ := I.list h
    exact ⟨_, begins_list a its.toArray, p.isList, fun b hb => by simp [Src.fp] at hb; rw [hb]; exact p.lt⟩
  | tup a =>
    obtain ⟨its, rv, p, _⟩ := I.tuple h
    exact ⟨_, begins_tuple a its.toArray, p, fun b hb => by simp [Src.fp] at hb; rw [hb]; obtain ⟨_, e, _⟩ := id p; exact Heap.lt_size e⟩
  | txt x t => exact ⟨_, begins_text x t, trivial, fun b hb => by simp [Src.fp] at hb⟩
/-- the same with its token -/
theorem Src.tok {S : Src} {u : Value} (r : RelV S.v u) : ∃ S' : Src, S'.val = u ∧ (∀ K, ItE K S' = ItE K S) ∧ (∀ K S2, ItZ K S' S2 = ItZ K S S2) ∧ (∀ K S2, ItZ K S2 S' = ItZ K S2 S) ∧ ∀ K H xs, S.its K H xs → S'.its K H xs := by
  cases S with
  | lst a => cases r; exact ⟨.lst a, rfl, fun _ => rfl, fun _ _ => rfl, fun _ _ => rfl, fun _ _ _ h => h⟩
  | tup a => cases r; exact ⟨.tup a, rfl, fun _ => rfl, fun _ _ => rfl, fun _ _ => rfl, fun _ _ _ h => h⟩
  | txt x t => obtain ⟨t', rfl⟩ := r; exact ⟨.txt x t', rfl, fun _ => rfl, fun _ _ => rfl, fun _ _ => rfl, fun _ _ _ h => h⟩
def iZ (K : PySem.W.Frag) (ta : TA) : TI := fun σ H R => ta σ H fun vs H1 => ∃ (S1 S2 : Src) (xs ys : List V), vs = [S1.v, S2.v] ∧ S1.its K H1 xs ∧ S2.its K H1 ys ∧ R (ItZ K S1 S2) H1
def iE (K : PySem.W.Frag) (ta : TA) : TI := fun σ H R => ta σ H fun vs H1 => ∃ (S : Src) (xs : List V), vs = [S.v] ∧ S.its K H1 xs ∧ R (ItE K S) H1
theorem notIn_lt {N j : Nat} {fp : List Addr} (h : ∀ b ∈ fp, b < N) : N + j ∉ fp := fun hm => by
  have q : (N + j : Nat) < N := h _ hm
  omega
theorem pi_Z {X : Cx} {e e2 : Expr} {ta : TA} {p pos tpos : Pos} {elts : List Expr} {kk : Nat} (hg : Gl X "zip") (hm : X.mg "zip" = none) (ha : PA X [e, e2] ta)
    (hs : starEach [e, e2] X.env = (false, eval e X.env) :: starEach [e2] X.env := by rfl) (hpl : (backTo pos (starEach [e2] X.env)).any (·.1) = false := by rfl) :
    PI X (.Tuple elts kk tpos) (.Call (.Name "zip" p) [e, e2] [] pos) (iZ X.K ta) := by
  refine ⟨fun pins s σ H R I h => ?_⟩
  refine Call_ (ld_blt I hg hm PyProof.Rows.boot_zip (PyProof.Rows.callWith_type1 (thn (ha.run pos pins s σ H _ I h) fun us s1 ⟨vs, H1, I1, r1, q1⟩ => ?_) hs hpl))
  obtain ⟨S1, S2, xs, ys, ex, h1, h2, q⟩ := q1
  subst ex
  cases r1 with
  | cons r rr =>
    cases rr with
    | cons r' rr =>
      cases rr
      obtain ⟨T1, rfl, _, z1, _, w1⟩ := Src.tok r
      obtain ⟨T2, rfl, _, _, z2, w2⟩ := Src.tok r'
      rw [← z1, ← z2] at q
      have h1 := w1 _ _ _ h1
      have h2 := w2 _ _ _ h2
      obtain ⟨A1, B1, a1, l1⟩ := Src.begins I1 h1
      obtain ⟨A2, B2, a2, l2⟩ := Src.begins I1 h2
      refine zip_begins2 B1 B2 a1 a2 fun h' hz hTI hTO g1 g2 hsz hk => wpAny_pyIter_zip hz ?_
      have I2 : Inv X pins σ H1 { s1 with heap := h' } := I1.kept (t' := s1.toks) hk
      refine ⟨s1.heap.objs.size + 4, [s1.heap.objs.size + 4, s1.heap.objs.size + 2, s1.heap.objs.size + 3, s1.heap.objs.size, s1.heap.objs.size + 1], _, _, H1, rfl, I2, turn_Z (zip_sep2 l1 l2) (notIn_lt (j := 0) l1) (notIn_lt (j := 1) l2), ⟨hz, hTI, ⟨_, _, hTO⟩, Src.tn0 g1, Src.tn0 g2⟩, fun c hcm => ?_, q⟩
      have e' : c = s1.heap.objs.size + 4 ∨ c = s1.heap.objs.size + 2 ∨ c = s1.heap.objs.size + 3 ∨ c = s1.heap.objs.size ∨ c = s1.heap.objs.size + 1 := by simpa using hcm
      have hle : s1.heap.objs.size ≤ c := by
        rcases e' with z | z | z | z | z
        · rw [z]; exact Nat.le_add_right _ _
        · rw [z]; exact Nat.le_add_right _ _
        · rw [z]; exact Nat.le_add_right _ _
        · rw [z]; exact Nat.le_refl _
        · rw [z]; exact Nat.le_add_right _ _
      exact I1.fpOk hle (I1.hok.fresh hle)
theorem pi_E {X : Cx} {e : Expr} {ta : TA} {p pos tpos : Pos} {elts : List Expr} {kk : Nat} (hg : Gl X "enumerate") (hm : X.mg "enumerate" = none) (ha : PA X [e] ta) (hs : starEach [e] X.env = [(false, eval e X.env)] := by rfl) :
    PI X (.Tuple elts kk tpos) (.Call (.Name "enumerate" p) [e] [] pos) (iE X.K ta) := by
  refine ⟨fun pins s σ H R I h => ?_⟩
  refine Call_ (ld_blt I hg hm boot_enumerate (PyProof.Rows.callWith_type1 (thn (ha.run pos pins s σ H _ I h) fun us s1 ⟨vs, H1, I1, r1, q1⟩ => ?_) hs rfl))
  obtain ⟨S1, xs, ex, h1, q⟩ := q1
  subst ex
  cases r1 with
  | cons r rr =>
    cases rr
    obtain ⟨T1, rfl, z1, _, _, w1⟩ := Src.tok r
    rw [← z1] at q
    have h1 := w1 _ _ _ h1
    obtain ⟨A1, B1, a1, l1⟩ := Src.begins I1 h1
    refine gw_enum B1 a1 fun h' he g1 hsz hk => wpAny_pyIter_enum he ?_
    have I2 : Inv X pins σ H1 { s1 with heap := h' } := I1.kept (t' := s1.toks) hk
    refine ⟨s1.heap.objs.size + 1, [s1.heap.objs.size + 1, s1.heap.objs.size], _, _, H1, rfl, I2, turn_E (e := s1.heap.objs.size + 1) (it := s1.heap.objs.size) (Nat.succ_ne_self _) (notIn_lt (j := 1) l1) (notIn_lt (j := 0) l1), ⟨⟨.none, he⟩, Src.tn0 g1⟩, fun b hb => ?_, q⟩
    have e' : b = s1.heap.objs.size + 1 ∨ b = s1.heap.objs.size := by simpa using hb
    have hle : s1.heap.objs.size ≤ b := by
      rcases e' with z | z
      · rw [z]; exact Nat.le_add_right _ _
      · rw [z]; exact Nat.le_refl _
    exact I1.fpOk hle (I1.hok.fresh hle)
/-! ### as mirrors -/
def itemsD : D → Option (List D)
  | .lst ds => some ds
  | .tup ds => some ds
  | .str x => some (signsD x)
  | _ => none
theorem srcD {K : PySem.W.Frag} {F H : Hp} {v : V} {d : D} {A : AS} {as : List D} (fh : Same F H) (r : Rp K F H 0 v d A) (e : itemsD d = some as) :
    ∃ S : Src, v = S.v ∧ ∀ F' H', Later F H F' H' → ∃ vs, S.its K H' vs ∧ vs.length = as.length ∧ ∀ (i : Nat) v d, vs[i]? = some v → as[i]? = some d → Rp K F' H' 0 v d (fun _ => False) := by
  cases r with
  | lst h l c => cases e; exact ⟨.lst _, rfl, fun F' H' L => ⟨_, sqL_mono h (L.ff.trans L.fh), l, fun i v d a b => (Rp.z (c i v d a b)).mono L.ff L.ht fun _ _ h => h.elim⟩⟩
  | tup h l c => cases e; exact ⟨.tup _, rfl, fun F' H' L => ⟨_, sqT_mono h L.ht, l, fun i v d a b => (Rp.z (c i v d a b)).mono L.ff L.ht fun _ _ h => h.elim⟩⟩
  | str =>
    rename_i x
    cases e
    refine ⟨.txt x 0, rfl, fun F' H' L => ⟨_, rfl, by unfold signsD; simp, fun i v d a b => ?_⟩⟩
    unfold signsD at b
    rw [List.getElem?_map] at a b
    cases hc : x.cps.toList[i]? with
    | none => rw [hc] at a; cases a
    | some c => rw [hc] at a b; cases a; cases b; exact .str
  | _ => cases e
def oEnum : List D → Option (List D)
  | [d] => (itemsD d).map fun as => as.mapIdx fun i x => .tup [.int (i : Nat), x]
  | _ => none
def mEnum (ms : Mo (List D)) : Mo (List D) := mb ms fun ds => ret (oEnum ds)
def oZip2 : List D → Option (List D)
  | [d, d'] => match itemsD d, itemsD d' with
    | some xs, some ys => some (zipD xs ys)
    | _, _ => none
  | _ => none
def mZip2 (ms : Mo (List D)) : Mo (List D) := mb ms fun ds => ret (oZip2 ds)
theorem zipD_len : ∀ {xs ys : List D}, (zipD xs ys).length = min xs.length ys.length
  | [], _ => by simp [zipD]
  | _ :: _, [] => by simp [zipD]
  | a :: as, b :: bs => by simp [zipD, zipD_len (xs := as) (ys := bs)]
section
variable {X : Cx} {C : Ctx} {wx : WX}
theorem vi_enum {ea : Expr} {elts : List Expr} {kk : Nat} {p pos tpos : Pos} {ms : Mo (List D)} (hm : X.mg "enumerate" = none) (ha : PA X [ea] (WA C wx .fz ms)) (hg : Gl X "enumerate" := by rfl)
    (hs : starEach [ea] X.env = [(false, eval ea X.env)] := by rfl) (hK : X.K = C.K := by rfl) :
    PI X (.Tuple elts kk tpos) (.Call (.Name "enumerate" p) [ea] [] pos) (WI C wx (mEnum ms)) := (pi_E hg hm ha hs).wk fun σ H Q w => by
  obtain ⟨F, B, n, ds, S, h⟩ := w
  refine ⟨F, B, n, ds, S, (h.bind fun F1 H1 F2 H2 v d G r => r).mono fun vs H1 ⟨F1, n1, as, G1, S1, r1, h1⟩ => ?_⟩
  obtain ⟨is, e, q⟩ := h1.retE
  rw [hK]
  unfold oEnum at e
  split at e
  · rename_i d
    obtain ⟨v, rfl, r⟩ := r1.one
    cases hi : itemsD d with
    | none => rw [hi] at e; cases e
    | some as =>
      rw [hi] at e
      cases e
      obtain ⟨Sr, rfl, hs⟩ := srcD S1.fh r hi
      obtain ⟨vs0, hv0, _⟩ := hs F1 H1 (Later.refl S1.fh)
      refine ⟨Sr, vs0, rfl, hv0, q _ F1 H1 (GoC.refl S1.fh) S1 fun F' H' L i => ?_⟩
      obtain ⟨vs, hv, hl, hc⟩ := hs F' H' L
      refine ⟨fun d hd => ?_, fun hn => ⟨vs, hv, by have e := List.length_mapIdx (l := as) (f := fun i x => D.tup [.int (i : Nat), x]); rw [hl]; exact e.symm.trans hn⟩⟩
      rw [List.getElem?_mapIdx] at hd
      cases ha : as[i]? with
      | none => rw [ha] at hd; cases hd
      | some x =>
        rw [ha] at hd
        cases hd
        obtain ⟨w1, hw1⟩ := get_of hl ha
        refine ⟨⟨vs, w1, hv, hw1⟩, fun x2 H'' y2 => ?_⟩
        obtain ⟨T, z1, e1, e2, e3, e4⟩ := y2
        subst e1 e3
        have e4 := e4 vs hv
        rw [hw1] at e4
        cases e4
        have hu : ∀ a o, H' a = some o → upd H' T (.tup [.int i, w1]) a = some o := fun a o e => by rw [upd_ne (ne_of_none e e2)]; exact e
        exact ⟨.inr ⟨T, _, e2, rfl⟩, .tup (.inl (.inl upd_same)) rfl (RpL.cons (A := fun _ => False) .int (RpL.cons (A := fun _ => False) ((hc i w1 x hw1 ha).mono (Same.refl _) (fun a o e h => hu a o e) fun _ _ h => h.elim) RpL.nil)).2⟩
  · cases e
theorem vi_zip2 {ea eb : Expr} {elts : List Expr} {kk : Nat} {p pos tpos : Pos} {ms : Mo (List D)} (hm : X.mg "zip" = none) (ha : PA X [ea, eb] (WA C wx .fz ms)) (hg : Gl X "zip" := by rfl)
    (hs : starEach [ea, eb] X.env = (false, eval ea X.env) :: starEach [eb] X.env := by rfl) (hpl : (backTo pos (starEach [eb] X.env)).any (·.1) = false := by rfl) (hK : X.K = C.K := by rfl) :
    PI X (.Tuple elts kk tpos) (.Call (.Name "zip" p) [ea, eb] [] pos) (WI C wx (mZip2 ms)) := (pi_Z hg hm ha hs hpl).wk fun σ H Q w => by
  obtain ⟨F, B, n, ds, S, h⟩ := w
  refine ⟨F, B, n, ds, S, (h.bind fun F1 H1 F2 H2 v d G r => r).mono fun vs H1 ⟨F1, n1, as, G1, S1, r1, h1⟩ => ?_⟩
  obtain ⟨is, e, q⟩ := h1.retE
  rw [hK]
  unfold oZip2 at e
  split at e
  · rename_i d d'
    obtain ⟨v, v', rfl, r, r'⟩ := r1.two
    split at e
    · rename_i xs ys hx hy
      cases e
      obtain ⟨S2, rfl, hs2⟩ := srcD S1.fh r hx
      obtain ⟨S3, rfl, hs3⟩ := srcD S1.fh r' hy
      obtain ⟨vs0, hv0, _⟩ := hs2 F1 H1 (Later.refl S1.fh)
      obtain ⟨ws0, hw0, _⟩ := hs3 F1 H1 (Later.refl S1.fh)
      refine ⟨S2, S3, vs0, ws0, rfl, hv0, hw0, q _ F1 H1 (GoC.refl S1.fh) S1 fun F' H' L i => ?_⟩
      obtain ⟨vs, hv, hl, hc⟩ := hs2 F' H' L
      obtain ⟨ws, hw, hl2, hc2⟩ := hs3 F' H' L
      refine ⟨fun d hd => ?_, fun hn => ⟨vs, ws, hv, hw, by rw [hl, hl2, ← hn, zipD_len]⟩⟩
      obtain ⟨x, y, g1, g2, rfl⟩ := zipD_get hd
      obtain ⟨w1, hw1⟩ := get_of hl g1
      obtain ⟨w2, hw2⟩ := get_of hl2 g2
      refine ⟨⟨vs, ws, w1, w2, hv, hw, hw1, hw2⟩, fun x2 H'' y2 => ?_⟩
      obtain ⟨T, z1, z2, e1, e2, e3, e4, e5⟩ := y2
      subst e1 e3
      have e4 := e4 vs hv
      have e5 := e5 ws hw
      rw [hw1] at e4
      rw [hw2] at e5
      cases e4; cases e5
      have hu : ∀ a o, H' a = some o → upd H' T (.tup [w1, w2]) a = some o := fun a o e => by rw [upd_ne (ne_of_none e e2)]; exact e
      exact ⟨.inr ⟨T, _, e2, rfl⟩, .tup (.inl (.inl upd_same)) rfl (RpL.cons (A := fun _ => False) ((hc i w1 x hw1 g1).mono (Same.refl _) (fun a o e h => hu a o e) fun _ _ h => h.elim) (RpL.cons (A := fun _ => False) ((hc2 i w2 y hw2 g2).mono (Same.refl _) (fun a o e h => hu a o e) fun _ _ h => h.elim) RpL.nil)).2⟩
    · cases e
  · cases e
end
end GW

/-! places of one's own, and what is changed there -/
namespace GW
open PySem L2 PyProof.Rows
/-- a place in a slot's thing -/
inductive Pth where
  | nil | ix (j : Nat) | fd (f : Str)
def putD (f : Str) (y : D) : List (Str × D) → List (Str × D)
  | [] => [(f, y)]
  | p :: r => if p.1 = f then (f, y) :: r else p :: putD f y r
def getP : Pth → D → Option D
  | .nil, d => some d
  | .ix j, .lst ds => ds[j]?
  | .fd f, .obj _ fs => fs.lookup f
  | _, _ => none
def setP : Pth → D → D → D
  | .nil, _, e => e
  | .ix j, .lst ds, e => .lst (ds.set j e)
  | .fd f, .obj C fs, e => .obj C (putD f e fs)
  | _, d, _ => d
def Pth.len : Pth → Nat
  | .nil => 0
  | _ => 1
def isCon : D → Bool
  | .lst _ => true
  | .dct _ => true
  | .obj _ _ => true
  | _ => false
/-- where it stands -/
def PthV (H : Hp) : Pth → V → Addr → Prop
  | .nil, v, p => v = .ref p
  | .ix j, v, p => ∃ q vs, v = .ref q ∧ H q = some (.lst vs) ∧ vs[j]? = some (.ref p)
  | .fd f, v, p => ∃ q C dx fs, v = .ref q ∧ H q = some (.ins C dx fs) ∧ fs.lookup f = some (.ref p)
theorem PthV.inj {H : Hp} {π : Pth} {v : V} {p p' : Addr} (h : PthV H π v p) (h' : PthV H π v p') : p = p' := by
  cases π with
  | nil =>
    have a : v = .ref p := h
    have b : v = .ref p' := h'
    rw [a] at b; cases b; rfl
  | ix j =>
    obtain ⟨q, vs, e1, e2, e3⟩ := h
    obtain ⟨q', vs', e1', e2', e3'⟩ := h'
    rw [e1] at e1'; cases e1'
    rw [e2] at e2'; cases e2'
    rw [e3] at e3'; cases e3'; rfl
  | fd f =>
    obtain ⟨q, C, dx, fs, e1, e2, e3⟩ := h
    obtain ⟨q', C', dx', fs', e1', e2', e3'⟩ := h'
    rw [e1] at e1'; cases e1'
    rw [e2] at e2'; cases e2'
    rw [e3] at e3'; cases e3'; rfl
theorem putD_keys {f : Str} {y : D} : ∀ {fs : List (Str × D)} {d : D}, fs.lookup f = some d → (putD f y fs).map (·.1) = fs.map (·.1)
  | [], d, h => by cases h
  | p :: r, d, h => by
    obtain ⟨k, z⟩ := p
    unfold putD
    by_cases hk : k = f
    · subst hk; simp
    · have hb : (f == k) = false := by simpa using Ne.symm hk
      rw [List.lookup_cons, hb] at h
      simp only [if_neg hk, List.map_cons]
      rw [putD_keys h]
theorem putD_get {f : Str} {y : D} : ∀ {fs : List (Str × D)} {d : D}, fs.lookup f = some d → ∃ j, (∀ {vs : List (Str × V)}, vs.map (·.1) = fs.map (·.1) → vs.lookup f = (vs.map (·.2))[j]?) ∧ (fs.map (·.2))[j]? = some d ∧ (putD f y fs).map (·.2) = (fs.map (·.2)).set j y
  | [], d, h => by cases h
  | p :: r, d, h => by
    obtain ⟨k, z⟩ := p
    unfold putD
    by_cases hk : k = f
    · subst hk
      rw [List.lookup_cons_self] at h
      cases h
      refine ⟨0, fun {vs} e => ?_, by simp, by simp⟩
      cases vs with
      | nil => cases e
      | cons q s =>
        obtain ⟨qk, qv⟩ := q
        simp only [List.map_cons, List.cons.injEq] at e
        rw [e.1, List.lookup_cons_self]; rfl
    · have hb : (f == k) = false := by simpa using Ne.symm hk
      rw [List.lookup_cons, hb] at h
      obtain ⟨j, h1, h2, h3⟩ := putD_get (y := y) h
      refine ⟨j + 1, fun {vs} e => ?_, by simpa using h2, by simp only [if_neg hk, List.map_cons, List.set_cons_succ]; rw [h3]⟩
      cases vs with
      | nil => cases e
      | cons q s =>
        obtain ⟨qk, qv⟩ := q
        simp only [List.map_cons, List.cons.injEq] at e
        rw [List.lookup_cons, e.1, hb]
        simpa using h1 e.2
section
variable {C : Ctx}
theorem Rp.con {K : PySem.W.Frag} {F H : Hp} {k : Nat} {v : V} {e : D} {A : AS} (r : Rp K F H (k + 1) v e A) (h : isCon e = true) : ∃ p o, v = .ref p ∧ A p ∧ H p = some o ∧ Mk o = true := by
  cases r with
  | lstO As h1 hA => exact ⟨_, _, rfl, hA, h1, rfl⟩
  | dctO h1 hA => exact ⟨_, _, rfl, hA, h1, rfl⟩
  | objO As h1 hA => exact ⟨_, _, rfl, hA, h1, rfl⟩
  | _ => cases h
/-- the thing of a slot is exchanged, its heap's one object p with it -/
theorem Sim.repl {F H : Hp} {B : AS} {σ : L2.St} {n : Int} {ds : DS} {i : Nat} {v : V} {d d' : D} {A' : AS} {p : Addr} {o o' : HO} (S : Sim C F B σ H n ds) (A : Nat → AS) (h1 : ∀ (i : Nat) d, ds[i]? = some (some d) → ∃ v, σ[i]? = some (some v) ∧ Rp C.K F H (C.T i) v d (A i)) (h2 : ∀ i a, A i a → B a ∧ C.q ≠ some a) (h3 : ∀ i j a, A i a → A j a → i = j)
    (hd : ds[i]? = some (some d)) (hv : σ[i]? = some (some v)) (hp : A i p) (hH : H p = some o) (ho : Mk o = true) (ho' : Mk o' = true) (r : Rp C.K F (upd H p o') (C.T i) v d' A') (hA : ∀ a, A' a → A i a ∨ (¬ B a ∧ F a = none ∧ C.q ≠ some a ∧ ∃ o, H a = some o ∧ Mk o = true)) :
    Sim C F (fun a => B a ∨ A' a) σ (upd H p o') n (ds.set i (some d')) := by
  have hpB := h2 i p hp
  have hup : ∀ a u, a ≠ p → H a = some u → upd H p o' a = some u := fun a u hne e => by rw [upd_ne hne]; exact e
  have htt : ∀ a u, H a = some u → Mk u = false → upd H p o' a = some u := fun a u e hm => hup a u (fun z => by rw [z, hH] at e; cases e; rw [ho] at hm; cases hm) e
  have hFp : F p = none := (S.bok p hpB.1).1
  refine ⟨fun a u e => hup a u (fun z => by rw [z, hFp] at e; cases e) (S.fh a u e), fun a ha => ?_, fun q hq => ⟨.inl (S.cell q hq).1, hup q _ (fun z => hpB.2 (z ▸ hq)) (S.cell q hq).2⟩, S.pin, by rw [List.length_set]; exact S.len, ?_⟩
  · by_cases hap : a = p
    · subst hap; exact ⟨hFp, _, upd_same, ho'⟩
    · have : F a = none ∧ ∃ o, H a = some o ∧ Mk o = true := by
        rcases ha with ha | ha
        · exact S.bok a ha
        · rcases hA a ha with z | ⟨_, z1, _, z2⟩
          · exact S.bok a (h2 i a z).1
          · exact ⟨z1, z2⟩
      obtain ⟨z1, u, z2, z3⟩ := this
      exact ⟨z1, u, hup a u hap z2, z3⟩
  · classical
    refine ⟨fun j => if j = i then A' else A j, fun j d2 e => ?_, fun j a ha => ?_, fun j j' a ha ha' => ?_⟩
    · by_cases hj : j = i
      · subst hj
        have hl : j < ds.length := (List.getElem?_eq_some_iff.mp hd).1
        rw [List.getElem?_set_self hl] at e
        cases e
        refine ⟨v, hv, ?_⟩
        simp only [if_true]
        exact r
      · rw [List.getElem?_set_ne (Ne.symm hj)] at e
        obtain ⟨w, e1, r1⟩ := h1 j d2 e
        refine ⟨w, e1, ?_⟩
        simp only [if_neg hj]
        exact r1.mono (Same.refl _) htt fun a u ha e => hup a u (fun z => hj (h3 j i a ha (z ▸ hp))) e
    · by_cases hj : j = i
      · simp only [if_pos hj] at ha
        refine ⟨.inr ha, ?_⟩
        rcases hA a ha with z | ⟨_, _, z, _⟩
        · exact (h2 i a z).2
        · exact z
      · simp only [if_neg hj] at ha
        exact ⟨.inl (h2 j a ha).1, (h2 j a ha).2⟩
    · have cross : ∀ j, j ≠ i → A j a → A' a → False := fun j hj z1 z2 => by
        rcases hA a z2 with z | ⟨z, _⟩
        · exact hj (h3 j i a z1 z)
        · exact z (h2 j a z1).1
      by_cases hj : j = i <;> by_cases hj' : j' = i
      · rw [hj, hj']
      · simp only [if_pos hj] at ha
        simp only [if_neg hj'] at ha'
        exact (cross j' hj' ha' ha).elim
      · simp only [if_neg hj] at ha
        simp only [if_pos hj'] at ha'
        exact (cross j hj ha ha').elim
      · simp only [if_neg hj] at ha
        simp only [if_neg hj'] at ha'
        exact h3 j j' a ha ha'
/-- the node at a place of one's own, what becomes of the state where it is changed -/
structure Node (C : Ctx) (F H : Hp) (B : AS) (σ : L2.St) (n : Int) (ds : DS) (i : Nat) (π : Pth) (d e : D) (k : Nat) (p : Addr) (Ae : AS) : Prop where
  pv : ∃ v, σ[i]? = some (some v) ∧ PthV H π v p
  rep : Rp C.K F H (k + 1) (.ref p) e Ae
  own : ∀ a, Ae a → B a ∧ C.q ≠ some a
  mko : ∃ o, H p = some o ∧ Mk o = true
  pB : B p
  pq : C.q ≠ some p
  keep : ∀ F' H', GoC C.q F H F' H' → ∃ v, σ[i]? = some (some v) ∧ PthV H' π v p
  chg : ∀ (o' : HO) (e' : D) (A' : AS), Mk o' = true → Rp C.K F (upd H p o') (k + 1) (.ref p) e' A' → (∀ a, A' a → Ae a ∨ (¬ B a ∧ F a = none ∧ C.q ≠ some a ∧ ∃ o, H a = some o ∧ Mk o = true)) →
    ∃ B', (∀ a, B' a → B a ∨ A' a) ∧ Sim C F B' σ (upd H p o') n (ds.set i (some (setP π d e')))
theorem list_upd {K : PySem.W.Frag} {F H : Hp} {k : Nat} {q p : Addr} {vs : List V} {as : List D} {As : Nat → AS} {o o' : HO} {j : Nat} {e e' : D} {A' : AS} {R : AS} (h : H q = some (.lst vs)) (l : vs.length = as.length) (c : ∀ (i : Nat) v d, vs[i]? = some v → as[i]? = some d → Rp K F H k v d (As i)) (s : ∀ (i : Nat) a, As i a → R a ∧ a ≠ q) (dj : ∀ (i j : Nat) a, As i a → As j a → i = j)
    (hj : as[j]? = some e) (hvj : vs[j]? = some (.ref p)) (hp : As j p) (hH : H p = some o) (ho : Mk o = true) (r : Rp K F (upd H p o') k (.ref p) e' A') (hA : ∀ a, A' a → As j a ∨ ¬ R a) (hqR : R q) :
    Rp K F (upd H p o') (k + 1) (.ref q) (.lst (as.set j e')) (fun a => R a ∨ A' a) := by
  classical
  have hqp : q ≠ p := fun z => (s j p hp).2 z.symm
  have htt : ∀ a u, H a = some u → Mk u = false → upd H p o' a = some u := fun a u e hm => by
    have : a ≠ p := fun z => by rw [z, hH] at e; cases e; rw [ho] at hm; cases hm
    rw [upd_ne this]; exact e
  refine .lstO (fun i => if i = j then A' else As i) (by rw [upd_ne hqp]; exact h) (.inl hqR) (by rw [List.length_set]; exact l) (fun i v d e1 e2 => ?_) (fun i a ha => ?_) (fun i i' a ha ha' => ?_)
  · by_cases hi : i = j
    · subst hi
      rw [hvj] at e1; cases e1
      rw [List.getElem?_set_self (List.getElem?_eq_some_iff.mp hj).1] at e2
      cases e2
      simp only [if_true]; exact r
    · rw [List.getElem?_set_ne (Ne.symm hi)] at e2
      simp only [if_neg hi]
      exact (c i v d e1 e2).mono (Same.refl _) htt fun a u ha e => by
        have : a ≠ p := fun z => hi (dj i j a ha (z ▸ hp))
        rw [upd_ne this]; exact e
  · by_cases hi : i = j
    · simp only [if_pos hi] at ha
      refine ⟨.inr ha, fun z => ?_⟩
      rcases hA a ha with y | y
      · exact (s j a y).2 z
      · exact y (z ▸ hqR)
    · simp only [if_neg hi] at ha
      exact ⟨.inl (s i a ha).1, (s i a ha).2⟩
  · have cross : ∀ i, i ≠ j → As i a → A' a → False := fun i hi z1 z2 => by
      rcases hA a z2 with y | y
      · exact hi (dj i j a z1 y)
      · exact y (s i a z1).1
    by_cases hi : i = j <;> by_cases hi' : i' = j
    · rw [hi, hi']
    · simp only [if_pos hi] at ha
      simp only [if_neg hi'] at ha'
      exact (cross i' hi' ha' ha).elim
    · simp only [if_neg hi] at ha
      simp only [if_pos hi'] at ha'
      exact (cross i hi ha ha').elim
    · simp only [if_neg hi] at ha
      simp only [if_neg hi'] at ha'
      exact dj i i' a ha ha'
theorem obj_upd {K : PySem.W.Frag} {F H : Hp} {k : Nat} {q p C0 dx : Addr} {fs : List (Str × V)} {fds : List (Str × D)} {As : Nat → AS} {o o' : HO} {f : Str} {e e' : D} {A' : AS} {R : AS} (h : H q = some (.ins C0 dx fs)) (l : fs.map (·.1) = fds.map (·.1)) (c : ∀ (i : Nat) v d, (fs.map (·.2))[i]? = some v → (fds.map (·.2))[i]? = some d → Rp K F H k v d (As i)) (s : ∀ (i : Nat) a, As i a → R a ∧ a ≠ q) (dj : ∀ (i j : Nat) a, As i a → As j a → i = j)
    (hj : fds.lookup f = some e) (hvj : fs.lookup f = some (.ref p)) (hp : ∀ j, (fs.map (·.2))[j]? = some (.ref p) → (fds.map (·.2))[j]? = some e → As j p) (hH : H p = some o) (ho : Mk o = true) (r : Rp K F (upd H p o') k (.ref p) e' A') (hA : ∀ a, A' a → (∃ j, (fs.map (·.2))[j]? = some (.ref p) ∧ (fds.map (·.2))[j]? = some e ∧ As j a) ∨ ¬ R a) (hqR : R q) :
    Rp K F (upd H p o') (k + 1) (.ref q) (.obj C0 (putD f e' fds)) (fun a => R a ∨ A' a) := by
  classical
  obtain ⟨j, g1, g2, g3⟩ := putD_get (y := e') hj
  have gv : (fs.map (·.2))[j]? = some (.ref p) := by rw [← g1 l]; exact hvj
  have hpj := hp j gv g2
  have hAj : ∀ a, A' a → As j a ∨ ¬ R a := fun a ha => by
    rcases hA a ha with ⟨j', y1, y2, y3⟩ | y
    · have := dj j j' p hpj (hp j' y1 y2)
      subst this; exact .inl y3
    · exact .inr y
  have hqp : q ≠ p := fun z => (s j p hpj).2 z.symm
  have htt : ∀ a u, H a = some u → Mk u = false → upd H p o' a = some u := fun a u e hm => by
    have : a ≠ p := fun z => by rw [z, hH] at e; cases e; rw [ho] at hm; cases hm
    rw [upd_ne this]; exact e
  refine .objO (fun i => if i = j then A' else As i) (by rw [upd_ne hqp]; exact h) (.inl hqR) (by rw [putD_keys hj]; exact l) (fun i v d e1 e2 => ?_) (fun i a ha => ?_) (fun i i' a ha ha' => ?_)
  · rw [g3] at e2
    by_cases hi : i = j
    · subst hi
      rw [gv] at e1; cases e1
      rw [List.getElem?_set_self (List.getElem?_eq_some_iff.mp g2).1] at e2
      cases e2
      simp only [if_true]; exact r
    · rw [List.getElem?_set_ne (Ne.symm hi)] at e2
      simp only [if_neg hi]
      exact (c i v d e1 e2).mono (Same.refl _) htt fun a u ha e => by
        have : a ≠ p := fun z => hi (dj i j a ha (z ▸ hpj))
        rw [upd_ne this]; exact e
  · by_cases hi : i = j
    · simp only [if_pos hi] at ha
      refine ⟨.inr ha, fun z => ?_⟩
      rcases hAj a ha with y | y
      · exact (s j a y).2 z
      · exact y (z ▸ hqR)
    · simp only [if_neg hi] at ha
      exact ⟨.inl (s i a ha).1, (s i a ha).2⟩
  · have cross : ∀ i, i ≠ j → As i a → A' a → False := fun i hi z1 z2 => by
      rcases hAj a z2 with y | y
      · exact hi (dj i j a z1 y)
      · exact y (s i a z1).1
    by_cases hi : i = j <;> by_cases hi' : i' = j
    · rw [hi, hi']
    · simp only [if_pos hi] at ha
      simp only [if_neg hi'] at ha'
      exact (cross i' hi' ha' ha).elim
    · simp only [if_neg hi] at ha
      simp only [if_pos hi'] at ha'
      exact (cross i hi ha ha').elim
    · simp only [if_neg hi] at ha
      simp only [if_neg hi'] at ha'
      exact dj i i' a ha ha'
theorem Sim.node {F H : Hp} {B : AS} {σ : L2.St} {n : Int} {ds : DS} {i k : Nat} {π : Pth} {d e : D} (S : Sim C F B σ H n ds) (hd : ds[i]? = some (some d)) (he : getP π d = some e) (hc : isCon e = true) (hT : C.T i = π.len + k + 1) : ∃ p Ae, Node C F H B σ n ds i π d e k p Ae := by
  obtain ⟨A, h1, h2, h3⟩ := S.rep
  obtain ⟨v, hv, r⟩ := h1 i d hd
  have stay : ∀ {F' H' : Hp}, GoC C.q F H F' H' → ∀ a o, A i a → H a = some o → H' a = some o := fun G a o ha e => G.go.hh a o e (h2 i a ha).2
  have r0 := r
  cases π with
  | nil =>
    cases he
    rw [hT, show Pth.len .nil + k + 1 = k + 1 by simp [Pth.len]] at r
    obtain ⟨p, o, rfl, hA, hH, ho⟩ := r.con hc
    refine ⟨p, A i, ⟨⟨_, hv, rfl⟩, r, h2 i, ⟨o, hH, ho⟩, (h2 i p hA).1, (h2 i p hA).2, fun F' H' G => ⟨_, hv, rfl⟩, fun o' e' A' ho' r' hA' => ⟨_, fun a ha => ha, S.repl A h1 h2 h3 hd hv hA hH ho ho' (by rw [hT, show Pth.len .nil + k + 1 = k + 1 by simp [Pth.len]]; exact r') hA'⟩⟩⟩
  | ix j =>
    rw [hT, show Pth.len (.ix j) + k + 1 = k + 1 + 1 by simp [Pth.len]; omega] at r
    cases d with
    | lst as =>
      have he : as[j]? = some e := he
      cases r with
      | @lstO _ _ q vs _ As h hA l c s dj =>
        obtain ⟨w, hw⟩ := get_of l he
        have rj := c j w e hw he
        obtain ⟨p, o, rfl, hAp, hH, ho⟩ := rj.con hc
        have hpi := (s j p hAp).1
        refine ⟨p, As j, ⟨⟨_, hv, q, vs, rfl, h, hw⟩, rj, fun a ha => h2 i a (s j a ha).1, ⟨o, hH, ho⟩, (h2 i p hpi).1, (h2 i p hpi).2, fun F' H' G => ⟨_, hv, q, vs, rfl, stay G q _ hA h, hw⟩, fun o' e' A' ho' r' hA' => ?_⟩⟩
        refine ⟨_, fun a ha => ?_, S.repl A h1 h2 h3 hd hv hpi hH ho ho' (by rw [hT, show Pth.len (.ix j) + k + 1 = k + 1 + 1 by simp [Pth.len]; omega]; exact list_upd (R := A i) h l c s dj he hw hAp hH ho r' (fun a ha => (hA' a ha).imp id fun z y => z.1 (h2 i a y).1) hA) fun a ha => ?_⟩
        · rcases ha with ha | ha | ha
          · exact .inl ha
          · exact .inl (h2 i a ha).1
          · exact .inr ha
        · rcases ha with ha | ha
          · exact .inl ha
          · exact (hA' a ha).imp (fun z => (s j a z).1) id
    | _ => cases he
  | fd f =>
    rw [hT, show Pth.len (.fd f) + k + 1 = k + 1 + 1 by simp [Pth.len]; omega] at r
    cases d with
    | obj C0 fds =>
      have he : fds.lookup f = some e := he
      cases r with
      | @objO _ _ q _ dx fs _ As h hA l c s dj =>
        obtain ⟨j, w, hw, g3, g4⟩ := lookup_pair l he
        have rj := c j w e g3 g4
        obtain ⟨p, o, rfl, hAp, hH, ho⟩ := rj.con hc
        have hpi := (s j p hAp).1
        have uniq : ∀ j', (fs.map (·.2))[j']? = some (.ref p) → (fds.map (·.2))[j']? = some e → As j' p := fun j' y1 y2 => by
          obtain ⟨p2, o2, e2, z2, _⟩ := (c j' _ e y1 y2).con hc
          cases e2; exact z2
        refine ⟨p, As j, ⟨⟨_, hv, q, C0, dx, fs, rfl, h, hw⟩, rj, fun a ha => h2 i a (s j a ha).1, ⟨o, hH, ho⟩, (h2 i p hpi).1, (h2 i p hpi).2, fun F' H' G => ⟨_, hv, q, C0, dx, fs, rfl, stay G q _ hA h, hw⟩, fun o' e' A' ho' r' hA' => ?_⟩⟩
        refine ⟨_, fun a ha => ?_, S.repl A h1 h2 h3 hd hv hpi hH ho ho' (by rw [hT, show Pth.len (.fd f) + k + 1 = k + 1 + 1 by simp [Pth.len]; omega]; exact obj_upd (R := A i) h l c s dj he hw uniq hH ho r' (fun a ha => (hA' a ha).imp (fun z => ⟨j, g3, g4, z⟩) fun z y => z.1 (h2 i a y).1) hA) fun a ha => ?_⟩
        · rcases ha with ha | ha | ha
          · exact .inl ha
          · exact .inl (h2 i a ha).1
          · exact .inr ha
        · rcases ha with ha | ha
          · exact .inl ha
          · exact (hA' a ha).imp (fun z => (s j a z).1) id
    | _ => cases he
end
end GW

/-! statements that change a thing of one's own -/
namespace GW
open PySem L2 PyProof.Rows
section
variable {C : Ctx} {F H : Hp} {B : AS} {σ : L2.St} {n : Int} {ds : DS} {i k : Nat} {π : Pth} {d : D} {p : Addr} {Ae : AS}
theorem upd_mk {H : Hp} {p : Addr} {o o' : HO} (hH : H p = some o) (ho : Mk o = true) : ∀ a u, H a = some u → Mk u = false → upd H p o' a = some u := fun a u e hm => by
  have : a ≠ p := fun z => by rw [z, hH] at e; cases e; rw [ho] at hm; cases hm
  rw [upd_ne this]; exact e
theorem Node.lst {as : List D} (N : Node C F H B σ n ds i π d (.lst as) 0 p Ae) : ∃ vs, H p = some (.lst vs) ∧ RpL C.K F H vs as ∧ ∀ vs' as', RpL C.K F H vs' as' → ∃ B', (∀ a, B' a → B a) ∧ Sim C F B' σ (upd H p (.lst vs')) n (ds.set i (some (setP π d (.lst as')))) := by
  have r := N.rep
  cases r with
  | @lstO _ _ _ vs _ As h hA l c s dj =>
    refine ⟨vs, h, ⟨l, fun i v d a b => (c i v d a b).z⟩, fun vs' as' R => ?_⟩
    obtain ⟨B', b1, b2⟩ := N.chg (.lst vs') (.lst as') (fun a => a = p) rfl (.lstO (fun _ _ => False) upd_same rfl R.1 (fun i v d a b => (R.2 i v d a b).z.mono (Same.refl _) (upd_mk h rfl) fun _ _ h => h.elim) (fun _ _ h => h.elim) (fun _ _ _ h => h.elim)) (fun a ha => by subst ha; exact .inl hA)
    exact ⟨B', fun a ha => (b1 a ha).elim id fun z => by subst z; exact N.pB, b2⟩
structure RpK (K : PySem.W.Frag) (F H : Hp) (kvs : List (Key × V)) (kds : List (Key × D)) : Prop where
  keys : kvs.map (·.1) = kds.map (·.1)
  its : ∀ (i : Nat) v d, (kvs.map (·.2))[i]? = some v → (kds.map (·.2))[i]? = some d → Rp K F H 0 v d (fun _ => False)
theorem Node.dct {kds : List (Key × D)} (N : Node C F H B σ n ds i π d (.dct kds) 0 p Ae) : ∃ kvs, H p = some (.dK kvs) ∧ RpK C.K F H kvs kds ∧ ∀ kvs' kds', RpK C.K F H kvs' kds' → ∃ B', (∀ a, B' a → B a) ∧ Sim C F B' σ (upd H p (.dK kvs')) n (ds.set i (some (setP π d (.dct kds')))) := by
  have r := N.rep
  cases r with
  | @dctO _ _ _ kvs _ h hA l c =>
    refine ⟨kvs, h, ⟨l, fun i v d a b => (c i v d a b).z⟩, fun kvs' kds' R => ?_⟩
    obtain ⟨B', b1, b2⟩ := N.chg (.dK kvs') (.dct kds') (fun a => a = p) rfl (.dctO upd_same rfl R.keys (fun i v d a b => Rp.z (A := fun _ => False) ((R.its i v d a b).z.mono (Same.refl _) (upd_mk h rfl) fun _ _ h => h.elim))) (fun a ha => by subst ha; exact .inl hA)
    exact ⟨B', fun a ha => (b1 a ha).elim id fun z => by subst z; exact N.pB, b2⟩
end
/-! ### fields -/
def posF {α : Type} (f : Str) : List (Str × α) → Nat
  | [] => 0
  | p :: r => if p.1 = f then 0 else posF f r + 1
theorem posF_eq {α β : Type} {f : Str} : ∀ {xs : List (Str × α)} {ys : List (Str × β)}, xs.map (·.1) = ys.map (·.1) → posF f xs = posF f ys
  | [], [], _ => rfl
  | [], _ :: _, h => by cases h
  | _ :: _, [], h => by cases h
  | x :: xs, y :: ys, h => by
    simp only [List.map_cons, List.cons.injEq] at h
    unfold posF
    rw [h.1, posF_eq h.2]
theorem putF_cons (f : Str) (v : V) (p : Str × V) (r : List (Str × V)) : putF f v (p :: r) = if p.1 = f then (f, v) :: r else p :: putF f v r := by
  by_cases h : p.1 = f <;> simp [putF, h]
theorem putF_its {f : Str} {v : V} : ∀ {fs : List (Str × V)} (i : Nat), ((putF f v fs).map (·.2))[i]? = if i = posF f fs then some v else (fs.map (·.2))[i]?
  | [], 0 => by simp [putF, posF]
  | [], i + 1 => by simp [putF, posF]
  | p :: r, i => by
    rw [putF_cons]
    unfold posF
    by_cases h : p.1 = f
    · simp only [if_pos h]
      cases i <;> simp
    · simp only [if_neg h]
      cases i with
      | zero => simp
      | succ i => simp [putF_its (fs := r) i]
theorem putD_its {f : Str} {v : D} : ∀ {fs : List (Str × D)} (i : Nat), ((putD f v fs).map (·.2))[i]? = if i = posF f fs then some v else (fs.map (·.2))[i]?
  | [], 0 => by simp [putD, posF]
  | [], i + 1 => by simp [putD, posF]
  | p :: r, i => by
    unfold putD posF
    by_cases h : p.1 = f
    · simp only [if_pos h]
      cases i <;> simp
    · simp only [if_neg h]
      cases i with
      | zero => simp
      | succ i => simp [putD_its (fs := r) i]
theorem put_keys {f : Str} {v : V} {d : D} : ∀ {fs : List (Str × V)} {fds : List (Str × D)}, fs.map (·.1) = fds.map (·.1) → (putF f v fs).map (·.1) = (putD f d fds).map (·.1)
  | [], [], _ => by simp [putF, putD]
  | [], _ :: _, h => by cases h
  | _ :: _, [], h => by cases h
  | x :: xs, y :: ys, h => by
    simp only [List.map_cons, List.cons.injEq] at h
    rw [putF_cons]
    unfold putD
    rw [h.1]
    by_cases hf : y.1 = f
    · simp [hf, h.2]
    · simp only [if_neg hf, List.map_cons]
      rw [h.1, put_keys h.2]
section
variable {C : Ctx} {F H : Hp} {B : AS} {σ : L2.St} {n : Int} {ds : DS} {i k : Nat} {π : Pth} {d : D} {p : Addr} {Ae : AS}
/-- a field of an object of one's own -/
theorem Node.obj {C0 : Addr} {fds : List (Str × D)} (N : Node C F H B σ n ds i π d (.obj C0 fds) k p Ae) : ∃ dx fs, H p = some (.ins C0 dx fs) ∧ fs.length = fds.length ∧
    ∀ (f : Str) (v : V) (d' : D) (A' : AS), Rp C.K F H k v d' A' → (∀ a, A' a → ¬ B a ∧ F a = none ∧ C.q ≠ some a ∧ ∃ o, H a = some o ∧ Mk o = true) →
      ∃ B', (∀ a, B' a → B a ∨ A' a) ∧ Sim C F B' σ (upd H p (.ins C0 dx (putF f v fs))) n (ds.set i (some (setP π d (.obj C0 (putD f d' fds))))) := by
  have r := N.rep
  cases r with
  | @objO _ _ _ _ dx fs _ As h hA l c s dj =>
    refine ⟨dx, fs, h, by have := congrArg List.length l; simpa using this, fun f v d' A' r' hA' => ?_⟩
    classical
    have hup : ∀ a u, a ≠ p → H a = some u → upd H p (.ins C0 dx (putF f v fs)) a = some u := fun a u hne e => by rw [upd_ne hne]; exact e
    have hpos := posF_eq (f := f) l
    obtain ⟨B', b1, b2⟩ := N.chg (.ins C0 dx (putF f v fs)) (.obj C0 (putD f d' fds)) (fun a => Ae a ∨ A' a) rfl (.objO (fun j => if j = posF f fs then A' else As j) upd_same (.inl hA) (put_keys l) (fun j w e e1 e2 => by
        rw [putF_its] at e1
        rw [putD_its, ← hpos] at e2
        by_cases hj : j = posF f fs
        · simp only [if_pos hj] at e1 e2 ⊢
          cases e1; cases e2
          exact r'.mono (Same.refl _) (upd_mk h rfl) fun a u ha e => hup a u (fun z => by subst z; exact (hA' _ ha).1 N.pB) e
        · simp only [if_neg hj] at e1 e2 ⊢
          exact (c j w e e1 e2).mono (Same.refl _) (upd_mk h rfl) fun a u ha e => hup a u (s j a ha).2 e) (fun j a ha => by
        by_cases hj : j = posF f fs
        · simp only [if_pos hj] at ha
          exact ⟨.inr ha, fun z => by subst z; exact (hA' _ ha).1 N.pB⟩
        · simp only [if_neg hj] at ha
          exact ⟨.inl (s j a ha).1, (s j a ha).2⟩) (fun j j' a ha ha' => by
        have cross : ∀ j, As j a → A' a → False := fun j z1 z2 => (hA' a z2).1 (N.own a (s j a z1).1).1
        by_cases hj : j = posF f fs <;> by_cases hj' : j' = posF f fs
        · rw [hj, hj']
        · simp only [if_pos hj] at ha
          simp only [if_neg hj'] at ha'
          exact (cross j' ha' ha).elim
        · simp only [if_neg hj] at ha
          simp only [if_pos hj'] at ha'
          exact (cross j ha ha').elim
        · simp only [if_neg hj] at ha
          simp only [if_neg hj'] at ha'
          exact dj j j' a ha ha')) (fun a ha => ha.imp id fun z => hA' a z)
    exact ⟨B', fun a ha => (b1 a ha).elim .inl fun z => z.elim (fun y => .inl (N.own a y).1) .inr, b2⟩
/-- the heap's step -/
theorem Node.goS {F0 H0 : Hp} {B' : AS} {e : D} {n0 : Int} {ds0 : DS} {o' : HO} (S : Sim C F0 B σ H0 n0 ds0) (G : GoC C.q F0 H0 F H) (S1 : Sim C F B σ H n ds) (N : Node C F H B σ n ds i π d e k p Ae) (hB : ∀ a, B' a → B a ∨ H0 a = none) : GoS B F0 H0 B' F (upd H p o') := by
  have g := G.toS (B := B) S.qB
  refine ⟨g.ff, fun a u e => ?_, fun a u e nb => ?_, fun a u e hm => ?_, g.nf, hB, fun a u e => ?_⟩
  · have : a ≠ p := fun z => by rw [z, (S1.bok p N.pB).1] at e; cases e
    rw [upd_ne this]; exact g.fh a u e
  · have : a ≠ p := fun z => nb (z ▸ N.pB)
    rw [upd_ne this]; exact g.hh a u e nb
  · have : a ≠ p := fun z => by
      obtain ⟨o, h1, h2⟩ := N.mko
      have h3 := g.ht a u e hm
      rw [z, h1] at h3; cases h3
      rw [h2] at hm; cases hm
    rw [upd_ne this]; exact g.ht a u e hm
  · by_cases h : a = p
    · exact ⟨o', by rw [h]; exact upd_same⟩
    · obtain ⟨u', e'⟩ := g.dm a u e
      exact ⟨u', by rw [upd_ne h]; exact e'⟩
end
/-! ### places -/
def conAt (i : Nat) (π : Pth) (ds : DS) : Bool := match ds[i]? with
  | some (some d) => (match getP π d with | some e => isCon e | none => false)
  | _ => false
def RPl (σ : L2.St) (i : Nat) : Hp → Hp → Hp → V → Pth → Prop := fun _ _ H' v π => ∃ p, v = .ref p ∧ ∃ v0, σ[i]? = some (some v0) ∧ PthV H' π v0 p
def WPl (C : Ctx) (wx : WX) (i : Nat) (mp : Mo Pth) : TE := fun σ H Q => ∃ F B n ds, Sim C F B σ H n ds ∧ WL C wx (RPl σ i) mp F B n ds σ H Q
def mPN (i : Nat) : Mo Pth := fun n ds => if conAt i .nil ds = true then some (.ok .nil, n) else none
def mPI (i : Nat) (m : M) : Mo Pth := fun n ds => match ds[i]? with
  | some (some (.lst as)) => mb m (fun d n ds => match d with
    | .int z => (match ixN as.length z with
      | some j => if conAt i (.ix j) ds = true then some (.ok (.ix j), n) else none
      | none => none)
    | _ => none) n ds
  | _ => none
def mPF (i : Nat) (C0 : Addr) (f : Str) : Mo Pth := fun n ds => match ds[i]? with
  | some (some (.obj C1 _)) => if C1 = C0 ∧ conAt i (.fd f) ds = true then some (.ok (.fd f), n) else none
  | _ => none
theorem conAt_ok {i : Nat} {π : Pth} {ds : DS} (h : conAt i π ds = true) : ∃ d e, ds[i]? = some (some d) ∧ getP π d = some e ∧ isCon e = true := by
  unfold conAt at h
  split at h
  · rename_i d hd
    split at h
    · rename_i e he; exact ⟨d, e, hd, he, h⟩
    · cases h
  · cases h
section
variable {X : Cx} {C : Ctx} {wx : WX} {kr k : Nat} {a b e : Expr} {pos : Pos} {m : M}
theorem pl_nil {i : Nat} (h : PE X e (tVar i)) (hT : C.T i = k + 1) : PE X e (WPl C wx i (mPN i)) := h.wk fun σ H Q w => by
  obtain ⟨F, B, n, ds, S, h⟩ := w
  unfold WL mPN at h
  by_cases hc : conAt i .nil ds = true
  · simp only [if_pos hc] at h
    obtain ⟨d, e, hd, he, hce⟩ := conAt_ok hc
    obtain ⟨p, Ae, N⟩ := S.node hd he hce (k := k) (by rw [hT]; simp [Pth.len])
    obtain ⟨v, hv, hp⟩ := N.pv
    have hp : v = .ref p := hp
    subst hp
    exact ⟨_, hv, h _ F H (GoC.refl S.fh) S ⟨p, rfl, _, hv, rfl⟩⟩
  · simp only [if_neg hc] at h
theorem pl_ix {i : Nat} (ha : PE X a (tVar i)) (hb : PE X b (W C wx .bo 0 m)) (hT : C.T i = k + 2) (hs : PlainIx b := by intro _ _; rfl) (hK : X.K = C.K := by rfl) : PE X (.Subscript a b pos) (WPl C wx i (mPI i m)) :=
  (pe_ix (r := rIxL C.K) (by rw [← hK]; exact ix_list) ha hb hs).wk fun σ H Q w => by
  obtain ⟨F, B, n, ds, S, h⟩ := w
  cases hd : ds[i]? with
  | none => unfold WL mPI at h; simp only [hd] at h
  | some o =>
    cases o with
    | none => unfold WL mPI at h; simp only [hd] at h
    | some d =>
      cases d with
      | lst as =>
        obtain ⟨A, g1, g2, _⟩ := S.rep
        obtain ⟨v, hv, r⟩ := g1 i _ hd
        rw [hT] at r
        cases r with
        | @lstO _ _ q vs _ As h3 hA l c s dj =>
          have h' : WL C wx (RPl σ i) (mb m (fun d n ds => match d with
            | .int z => (match ixN as.length z with
              | some j => if conAt i (.ix j) ds = true then some (.ok (.ix j), n) else none
              | none => none)
            | _ => none)) F B n ds σ H Q := by
            have e : mPI i m n ds = mb m (fun d n ds => match d with
              | .int z => (match ixN as.length z with
                | some j => if conAt i (.ix j) ds = true then some (.ok (.ix j), n) else none
                | none => none)
              | _ => none) n ds := by simp only [mPI, hd]
            unfold WL at h ⊢
            rw [← e]; exact h
          refine ⟨_, hv, F, B, n, ds, S, (h'.bind fun F1 H1 F2 H2 v d G r => r).mono fun y H1 ⟨F1, n1, d1, G1, S1, ⟨A1, r1, f1⟩, h1⟩ => ?_⟩
          unfold WL at h1
          cases d1 with
          | int z =>
            have ey := r1.int_
            subst ey
            cases hj : ixN as.length z with
            | none => simp only [hj] at h1
            | some j =>
              by_cases hc : conAt i (.ix j) ds = true
              · simp only [hj, if_pos hc] at h1
                obtain ⟨d, e, hd', he, hce⟩ := conAt_ok hc
                rw [hd] at hd'; cases hd'
                obtain ⟨p, Ae, N⟩ := S1.node hd he hce (k := k) (by rw [hT]; simp [Pth.len]; omega)
                obtain ⟨v, hv', q', vs', e1, e2, e3⟩ := N.pv
                rw [hv] at hv'; cases hv'
                cases e1
                have e4 := G1.go.hh q _ h3 (g2 i q hA).2
                rw [e2] at e4; cases e4
                refine ⟨q, vs, z, .ref p, rfl, rfl, .inl (.inl e2), ?_, h1 _ F1 H1 (GoC.refl S1.fh) S1 ⟨p, rfl, _, hv, q, vs, rfl, e2, e3⟩⟩
                unfold atI
                rw [l, hj]
                exact e3
              · simp only [hj, if_neg hc] at h1
          | _ => exact h1.elim
      | _ => unfold WL mPI at h; simp only [hd] at h
theorem pl_fd {i : Nat} {C0 : Addr} {f : Str} (hcl : Cls C.K C0) (hn : NoAttr C.K C0 f) (ha : PE X a (tVar i)) (hT : C.T i = k + 2) (hb : attributeBase a f X.env (eval a X.env) = eval a X.env := by rfl) (hK : X.K = C.K := by rfl) : PE X (.Attribute a f pos) (WPl C wx i (mPF i C0 f)) :=
  (pe_fld ha hb).wk fun σ H Q w => by
  obtain ⟨F, B, n, ds, S, h⟩ := w
  cases hd : ds[i]? with
  | none => unfold WL mPF at h; simp only [hd] at h
  | some o =>
    cases o with
    | none => unfold WL mPF at h; simp only [hd] at h
    | some d =>
      cases d with
      | obj C1 fds =>
        unfold WL mPF at h
        simp only [hd] at h
        by_cases hc : C1 = C0 ∧ conAt i (.fd f) ds = true
        · simp only [if_pos hc] at h
          obtain ⟨hC, hc⟩ := hc
          subst hC
          obtain ⟨d, e, hd', he, hce⟩ := conAt_ok hc
          rw [hd] at hd'; cases hd'
          obtain ⟨p, Ae, N⟩ := S.node hd he hce (k := k) (by rw [hT]; simp [Pth.len]; omega)
          obtain ⟨A, g1, g2, _⟩ := S.rep
          obtain ⟨v, hv, r⟩ := g1 i _ hd
          obtain ⟨v', hv', q, C2, dx, fs, rfl, e2, e3⟩ := N.pv
          rw [hv] at hv'; cases hv'
          rw [hT] at r
          cases r with
          | objO As h3 hA l c s dj =>
            rw [e2] at h3; cases h3
            rw [hK]
            exact ⟨_, hv, q, C1, dx, fs, .ref p, rfl, e2, hcl, hn, e3, h _ F H (GoC.refl S.fh) S ⟨p, rfl, _, hv, q, C1, dx, fs, rfl, e2, e3⟩⟩
        · simp only [if_neg hc] at h
      | _ => unfold WL mPF at h; simp only [hd] at h
end
end GW

namespace GW
open PySem L2 PyProof.Rows
def PlT (mp : Mo Pth) (l : Nat) : Prop := ∀ n ds π n', mp n ds = some (.ok π, n') → π.len = l
theorem plt_nil {i : Nat} : PlT (mPN i) 0 := fun n ds π n' h => by
  unfold mPN at h
  split at h
  · cases h; rfl
  · cases h
theorem plt_ix {i : Nat} {m : M} : PlT (mPI i m) 1 := fun n ds π n' h => by
  unfold mPI at h
  split at h
  · unfold mb at h
    split at h
    · cases h
    · cases h
    · dsimp only at h
      split at h
      · split at h
        · split at h
          · cases h; rfl
          · cases h
        · cases h
      · cases h
  · cases h
theorem plt_fd {i : Nat} {C0 : Addr} {f : Str} : PlT (mPF i C0 f) 1 := fun n ds π n' h => by
  unfold mPF at h
  split at h
  · split at h
    · cases h; rfl
    · cases h
  · cases h
/-- place.method(args): the list's items, the arguments -/
def sMeth (i : Nat) (mp : Mo Pth) (ms : Mo (List D)) (f : List D → List D → Option (List D)) : MS := sE mp fun π n ds => match ds[i]? with
  | some (some d0) => (match getP π d0 with
    | some (.lst as) => sE ms (fun args n ds => match f as args with
      | some as' => some (.nx, n, ds.set i (some (setP π d0 (.lst as'))))
      | none => none) n ds
    | _ => none)
  | _ => none
def LOpS (K : PySem.W.Frag) (r : V → List V → Hp → VK → Prop) (f : List D → List D → Option (List D)) : Prop := ∀ (F H : Hp) (p : Addr) (vs xs : List V) (as args as' : List D), Same F H → H p = some (.lst vs) → RpL K F H vs as → RpL K F H xs args → f as args = some as' → ∃ vs', RpL K F H vs' as' ∧ ∀ Q : VK, (∀ w, Q w (upd H p (.lst vs'))) → r (.ref p) xs H Q
theorem RpL.append {K : PySem.W.Frag} {G H : Hp} {vs ws : List V} {ds es : List D} (a : RpL K G H vs ds) (b : RpL K G H ws es) : RpL K G H (vs ++ ws) (ds ++ es) := by
  refine ⟨by simp [a.1, b.1], fun i v d h1 h2 => ?_⟩
  by_cases hi : i < vs.length
  · rw [List.getElem?_append_left hi] at h1
    rw [List.getElem?_append_left (by rw [← a.1]; exact hi)] at h2
    exact a.2 i v d h1 h2
  · rw [List.getElem?_append_right (by omega)] at h1
    rw [List.getElem?_append_right (by rw [← a.1]; omega), ← a.1] at h2
    exact b.2 _ v d h1 h2
theorem RpL.set {K : PySem.W.Frag} {G H : Hp} {vs : List V} {ds : List D} {v : V} {d : D} {A : AS} (a : RpL K G H vs ds) (r : Rp K G H 0 v d A) (j : Nat) : RpL K G H (vs.set j v) (ds.set j d) := by
  refine ⟨by simp [a.1], fun i v' d' h1 h2 => ?_⟩
  by_cases hi : j = i
  · subst hi
    by_cases hl : j < vs.length
    · rw [List.getElem?_set_self hl] at h1
      rw [List.getElem?_set_self (by rw [← a.1]; exact hl)] at h2
      cases h1; cases h2
      exact r.z
    · rw [List.getElem?_eq_none (by rw [List.length_set]; omega)] at h1; cases h1
  · rw [List.getElem?_set_ne hi] at h1 h2
    exact a.2 i v' d' h1 h2
theorem RpL.rev {K : PySem.W.Frag} {G H : Hp} {vs : List V} {ds : List D} (a : RpL K G H vs ds) : RpL K G H vs.reverse ds.reverse := by
  refine ⟨by simp [a.1], fun i v' d' h1 h2 => ?_⟩
  have hl : i < vs.length := by
    have := (List.getElem?_eq_some_iff.mp h1).1
    simpa using this
  rw [List.getElem?_reverse hl] at h1
  rw [List.getElem?_reverse (by rw [← a.1]; exact hl), ← a.1] at h2
  exact a.2 _ v' d' h1 h2
def fAppend : List D → List D → Option (List D)
  | as, [d] => if as.length < 16777216 then some (as ++ [d]) else none
  | _, _ => none
theorem lop_append {K : PySem.W.Frag} : LOpS K rAppend fAppend := fun F H p vs xs as args as' hs hp ra rx e => by
  match args, rx, e with
  | [d], rx, e =>
    obtain ⟨v, rfl, r⟩ := rx.one
    simp only [fAppend] at e
    split at e
    · rename_i hl
      cases e
      refine ⟨vs ++ [v], ra.append (RpL.cons r RpL.nil), fun Q q => ⟨p, vs, v, rfl, rfl, hp, by rw [sizeLine_eq, ra.1]; exact hl, q _⟩⟩
    · cases e
section
variable {X : Cx} {C : Ctx} {wx : WX} {kr k : Nat} {o a b e : Expr} {es : List Expr} {pos : Pos} {m : M} {ms : Mo (List D)} {mp : Mo Pth}
theorem Sim.nodeP {F H : Hp} {B : AS} {σ : L2.St} {n : Int} {ds : DS} {i l : Nat} {π : Pth} {d e : D} {p : Addr} (S : Sim C F B σ H n ds) (hd : ds[i]? = some (some d)) (he : getP π d = some e) (hc : isCon e = true) (hT : C.T i = l + k + 1) (hl : π.len = l) (hp : ∃ v0, σ[i]? = some (some v0) ∧ PthV H π v0 p) : ∃ Ae, Node C F H B σ n ds i π d e k p Ae := by
  obtain ⟨p', Ae, N⟩ := S.node hd he hc (k := k) (by rw [hT, hl])
  obtain ⟨v0, h1, h2⟩ := hp
  obtain ⟨v1, h3, h4⟩ := N.pv
  rw [h1] at h3; cases h3
  have := h2.inj h4
  subst this
  exact ⟨Ae, N⟩
theorem ws_meth {i l : Nat} {name : Str} {id : String} {r : V → List V → Hp → VK → Prop} {f : List D → List D → Option (List D)} {apos cpos : Pos} (slot : Slot "list" name id) (hty : typeOf (.builtin id) = pure (.type "method_descriptor")) (hm : MtR X id r) (hf : LOpS C.K r f)
    (ho : PE X o (WPl C wx i mp)) (hl : PlT mp l) (hT : C.T i = l + 1) (ha : PA X (e :: es) (WA C wx .fz ms)) (hbase : attributeBase o name X.env (eval o X.env) = eval o X.env := by rfl)
    (hfew : ((backTo cpos (starEach (e :: es) X.env)).all (fun x => !x.1) && (backToKw cpos (keywordEach [] X.env)).all (fun x => x.1.isSome)
      && decide ((e :: es).length + ([] : List Keyword).length + (if ([] : List Keyword).isEmpty then 0 else 1) < 30)) = true := by rfl)
    (hline : (apos.endLine == cpos.line) = true := by rfl) (hs : starEach (e :: es) X.env = (false, eval e X.env) :: starEach es X.env := by rfl) (hplain : (backTo cpos (starEach es X.env)).any (·.1) = false := by rfl)
    (hsw : swapsWith (.Call (.Attribute o name apos) (e :: es) [] cpos) none pos.line X.env = pure false := by rfl) : PS X (.Expr (.Call (.Attribute o name apos) (e :: es) [] cpos) pos) (WS C wx kr (sMeth i mp ms f)) :=
  (ps_expr (pe_bm PySem.F.plainAttrs_list slot hty hm ho ha hbase hfew hline hs hplain) hsw).wk fun E σ H w => by
  obtain ⟨F, B, n, ds, S, h⟩ := w
  refine ⟨F, B, n, ds, S, WL.strong hl ((wsl_e (R := fun H F' H' v d => RPl σ i H F' H' v d ∧ d.len = l) S h).mono fun v H1 ⟨F1, n1, π, G1, S1, ⟨⟨p, hvp, hpv⟩, hπ⟩, h1⟩ => ?_)⟩
  subst hvp
  cases hd : ds[i]? with
  | none => unfold WSL at h1; simp only [hd] at h1
  | some x =>
    cases x with
    | none => unfold WSL at h1; simp only [hd] at h1
    | some d0 =>
      cases he : getP π d0 with
      | none => unfold WSL at h1; simp only [hd, he] at h1
      | some e0 =>
        cases e0 with
        | lst as =>
          have h1' : WSL C wx kr (sE ms fun args n ds => match f as args with
            | some as' => some (.nx, n, ds.set i (some (setP π d0 (.lst as'))))
            | none => none) F B n1 ds H E := by
            refine WSL.tr (GoS.refl S.fh) ?_ h1
            simp only [hd, he]
          obtain ⟨Ae, N1⟩ := S1.nodeP hd he rfl (k := 0) (by rw [hT]) hπ hpv
          obtain ⟨vs, hvs, _, _⟩ := N1.lst
          refine ⟨.inl ⟨rfl, _, .inl (.inl hvs)⟩, F1, B, n1, ds, S1, (wsl_e0 (R := RA C .fz) (G1.toS S.qB) S1 h1').mono fun xs H2 ⟨F2, n2, args, G2, S2, r2, h2⟩ => ?_⟩
          obtain ⟨Ae2, N2⟩ := S2.nodeP hd he rfl (k := 0) (by rw [hT]) hπ (N1.keep F2 H2 G2)
          obtain ⟨vs2, hvs2, rv2, mu⟩ := N2.lst
          unfold WSL at h2
          cases hf2 : f as args with
          | none => simp only [hf2] at h2
          | some as' =>
            simp only [hf2] at h2
            obtain ⟨vs', r', hr⟩ := hf F2 H2 p vs2 xs as args as' S2.fh hvs2 rv2 r2 hf2
            obtain ⟨B', b1, S3⟩ := mu vs' as' r'
            exact hr _ fun w => h2 σ F2 B' _ (N2.goS S (G1.trans G2) S2 fun a ha => .inl (b1 a ha)) S3
        | _ => unfold WSL at h1; simp only [hd, he] at h1
/-- place.method() -/
theorem ws_meth0 {i l : Nat} {name : Str} {id : String} {r : V → List V → Hp → VK → Prop} {f : List D → List D → Option (List D)} {apos cpos : Pos} (slot : Slot "list" name id) (hty : typeOf (.builtin id) = pure (.type "method_descriptor")) (hm : MtR X id r) (hf : LOpS C.K r f)
    (ho : PE X o (WPl C wx i mp)) (hl : PlT mp l) (hT : C.T i = l + 1) (hbase : attributeBase o name X.env (eval o X.env) = eval o X.env := by rfl)
    (hsw : swapsWith (.Call (.Attribute o name apos) [] [] cpos) none pos.line X.env = pure false := by rfl) (hline : (apos.endLine == cpos.line) = true := by rfl) : PS X (.Expr (.Call (.Attribute o name apos) [] [] cpos) pos) (WS C wx kr (sMeth i mp (ret (some [])) f)) :=
  (ps_expr (pe_bm0 PySem.F.plainAttrs_list slot hty hm ho hbase (by first | exact hline | rfl)) hsw).wk fun E σ H w => by
  obtain ⟨F, B, n, ds, S, h⟩ := w
  refine ⟨F, B, n, ds, S, WL.strong hl ((wsl_e (R := fun H F' H' v d => RPl σ i H F' H' v d ∧ d.len = l) S h).mono fun v H1 ⟨F1, n1, π, G1, S1, ⟨⟨p, hvp, hpv⟩, hπ⟩, h1⟩ => ?_)⟩
  subst hvp
  cases hd : ds[i]? with
  | none => unfold WSL at h1; simp only [hd] at h1
  | some x =>
    cases x with
    | none => unfold WSL at h1; simp only [hd] at h1
    | some d0 =>
      cases he : getP π d0 with
      | none => unfold WSL at h1; simp only [hd, he] at h1
      | some e0 =>
        cases e0 with
        | lst as =>
          obtain ⟨Ae, N1⟩ := S1.nodeP hd he rfl (k := 0) (by rw [hT]) hπ hpv
          obtain ⟨vs, hvs, rv, mu⟩ := N1.lst
          unfold WSL at h1
          cases hf2 : f as [] with
          | none => simp only [hd, he, sE, ret, hf2] at h1
          | some as' =>
            simp only [hd, he, sE, ret, hf2] at h1
            obtain ⟨vs', r', hr⟩ := hf F1 H1 p vs [] as [] as' S1.fh hvs rv RpL.nil hf2
            obtain ⟨B', b1, S3⟩ := mu vs' as' r'
            exact ⟨.inl ⟨rfl, _, .inl (.inl hvs)⟩, hr _ fun w => h1 σ F1 B' _ (N1.goS S G1 S1 fun a ha => .inl (b1 a ha)) S3⟩
        | _ => unfold WSL at h1; simp only [hd, he] at h1
end
end GW
namespace GW
open PySem L2 PyProof.Rows
theorem lop_rev {K : PySem.W.Frag} : LOpS K rReverse (fun as args => if args.isEmpty = true then some as.reverse else none) := fun F H p vs xs as args as' hs hp ra rx e => by
  match args, rx, e with
  | [], rx, e =>
    cases e
    have : xs = [] := List.eq_nil_of_length_eq_zero rx.1
    subst this
    exact ⟨_, ra.rev, fun Q q => ⟨p, vs, rfl, rfl, hp, q _⟩⟩
theorem lop_clear {K : PySem.W.Frag} : LOpS K rClear (fun as args => if args.isEmpty = true then some [] else none) := fun F H p vs xs as args as' hs hp ra rx e => by
  match args, rx, e with
  | [], rx, e =>
    cases e
    have : xs = [] := List.eq_nil_of_length_eq_zero rx.1
    subst this
    exact ⟨_, RpL.nil, fun Q q => ⟨p, vs, rfl, rfl, hp, q _⟩⟩
section
variable {X : Cx} {C : Ctx} {wx : WX} {kr k : Nat} {o a b e : Expr} {es : List Expr} {pos : Pos} {m : M} {ms : Mo (List D)} {mp : Mo Pth}
/-- place.extend(e), e a new list -/
def sExt (i : Nat) (mp : Mo Pth) (m : M) : MS := sE mp fun π n ds => match ds[i]? with
  | some (some d0) => (match getP π d0 with
    | some (.lst as) => sE m (fun d n ds => match d with
      | .lst bs => if as.length + bs.length ≤ 16777216 then some (.nx, n, ds.set i (some (setP π d0 (.lst (as ++ bs))))) else none
      | _ => none) n ds
    | _ => none)
  | _ => none
theorem ws_ext {i l : Nat} {apos cpos : Pos} (ho : PE X o (WPl C wx i mp)) (hl : PlT mp l) (hT : C.T i = l + 1) (he : PE X e (W C wx .fz 1 m)) (hbase : attributeBase o "extend" X.env (eval o X.env) = eval o X.env := by rfl)
    (hfew : ((backTo cpos (starEach [e] X.env)).all (fun x => !x.1) && (backToKw cpos (keywordEach [] X.env)).all (fun x => x.1.isSome)
      && decide ([e].length + ([] : List Keyword).length + (if ([] : List Keyword).isEmpty then 0 else 1) < 30)) = true := by rfl)
    (hline : (apos.endLine == cpos.line) = true := by rfl) (hs : starEach [e] X.env = (false, eval e X.env) :: starEach [] X.env := by rfl) (hplain : (backTo cpos (starEach [] X.env)).any (·.1) = false := by rfl)
    (hsw : swapsWith (.Call (.Attribute o "extend" apos) [e] [] cpos) none pos.line X.env = pure false := by rfl) : PS X (.Expr (.Call (.Attribute o "extend" apos) [e] [] cpos) pos) (WS C wx kr (sExt i mp m)) :=
  (ps_expr (pe_bm PySem.F.plainAttrs_list PySem.F.slot_list_extend PySem.F.type_list_extend mt_extend ho (pa_cons he pa_nil hs) hbase hfew hline hs hplain) hsw).wk fun E σ H w => by
  obtain ⟨F, B, n, ds, S, h⟩ := w
  refine ⟨F, B, n, ds, S, WL.strong hl ((wsl_e (R := fun H F' H' v d => RPl σ i H F' H' v d ∧ d.len = l) S h).mono fun v H1 ⟨F1, n1, π, G1, S1, ⟨⟨p, hvp, hpv⟩, hπ⟩, h1⟩ => ?_)⟩
  subst hvp
  cases hd : ds[i]? with
  | none => unfold WSL at h1; simp only [hd] at h1
  | some x =>
    cases x with
    | none => unfold WSL at h1; simp only [hd] at h1
    | some d0 =>
      cases he : getP π d0 with
      | none => unfold WSL at h1; simp only [hd, he] at h1
      | some e0 =>
        cases e0 with
        | lst as =>
          have h1' : WSL C wx kr (sE m fun d n ds => match d with
            | .lst bs => if as.length + bs.length ≤ 16777216 then some (.nx, n, ds.set i (some (setP π d0 (.lst (as ++ bs))))) else none
            | _ => none) F B n1 ds H E := by
            refine WSL.tr (GoS.refl S.fh) ?_ h1
            simp only [hd, he]
          obtain ⟨Ae, N1⟩ := S1.nodeP hd he rfl (k := 0) (by rw [hT]) hπ hpv
          obtain ⟨vs, hvs, _, _⟩ := N1.lst
          refine ⟨.inl ⟨rfl, _, .inl (.inl hvs)⟩, F1, B, n1, ds, S1, (wsl_e0 (R := RV C .fz 1) (G1.toS S.qB) S1 h1').mono fun x H2 ⟨F2, n2, d2, G2, S2, ⟨A2, r2, f2⟩, h2⟩ => ?_⟩
          obtain ⟨Ae2, N2⟩ := S2.nodeP hd he rfl (k := 0) (by rw [hT]) hπ (N1.keep F2 H2 G2)
          obtain ⟨vs2, hvs2, rv2, mu⟩ := N2.lst
          cases r2 with
          | @lstO _ _ q ws bs _ hq hA l c s dj =>
            unfold WSL at h2
            by_cases hl2 : as.length + bs.length ≤ 16777216
            · simp only [if_pos hl2] at h2
              obtain ⟨B', b1, S3⟩ := mu (vs2 ++ ws) (as ++ bs) (rv2.append ⟨l, fun i v d a b => (c i v d a b).z⟩)
              exact ⟨p, q, vs2, ws, rfl, rfl, hvs2, hq, by rw [sizeLine_eq, rv2.1, l]; exact hl2, h2 σ F2 B' _ (N2.goS S (G1.trans G2) S2 fun a ha => .inl (b1 a ha)) S3⟩
            · simp only [if_neg hl2] at h2
          | _ => exact h2.elim
        | _ => unfold WSL at h1; simp only [hd, he] at h1
/-- place[j] = e -/
def sSetI (i : Nat) (m : M) (mp : Mo Pth) (mj : M) : MS := sE m fun d => sE mp fun π => sE mj fun z n ds => match z, ds[i]? with
  | .int z, some (some d0) => (match getP π d0 with
    | some (.lst as) => (match ixN as.length z with
      | some j => some (.nx, n, ds.set i (some (setP π d0 (.lst (as.set j d)))))
      | none => none)
    | _ => none)
  | _, _ => none
theorem ws_seti {i l : Nat} {p2 : Pos} {mj : M} (he : PE X e (W C wx .fz 0 m)) (ho : PE X o (WPl C wx i mp)) (hl : PlT mp l) (hT : C.T i = l + 1) (hj : PE X b (W C wx .bo 0 mj))
    (ha : ∀ v, assign (.Subscript o b p2) X.env v = (do
      let ov ← holding [v] (eval o X.env)
      let iv ← holding [v, ov] (eval b X.env)
      standAt p2
      holding [v, ov, iv] (setItem ov iv v)
      release [v, ov, iv] []) := by intro _; rfl) (hs : swapsWithSole [.Subscript o b p2] e pos.line X.env = pure false := by rfl) (hw : swappedStores [.Subscript o b p2] e X.env = pure none := by rfl) (h1 : (assignEach [.Subscript o b p2] X.env).map (·.2) = [assign (.Subscript o b p2) X.env] := by rfl) :
    PS X (.Assign [.Subscript o b p2] e pos) (WS C wx kr (sSetI i m mp mj)) := (ps_asg he (pg_sub ho hj set_list ha) hs hw h1).wk fun E σ H w => by
  obtain ⟨F, B, n, ds, S, h⟩ := w
  refine ⟨F, B, n, ds, S, (wsl_e (R := RV C .fz 0) S h).mono fun v H1 ⟨F1, n1, d, G1, S1, ⟨A1, r1, f1⟩, h1⟩ => ?_⟩
  refine ⟨F1, B, n1, ds, S1, WL.strong hl ((wsl_e0 (R := fun H F' H' v d => RPl σ i H F' H' v d ∧ d.len = l) (G1.toS S.qB) S1 h1).mono fun x H2 ⟨F2, n2, π, G2, S2, ⟨⟨p, hvp, hpv⟩, hπ⟩, h2⟩ => ?_)⟩
  subst hvp
  refine ⟨F2, B, n2, ds, S2, (wsl_e0 (R := RV C .bo 0) ((G1.trans G2).toS S.qB) S2 h2).mono fun y H3 ⟨F3, n3, z, G3, S3, ⟨A3, r3, f3⟩, h3⟩ => ?_⟩
  unfold WSL at h3
  cases z with
  | int z =>
    have ey := r3.int_
    subst ey
    cases hd : ds[i]? with
    | none => simp only [hd] at h3
    | some x =>
      cases x with
      | none => simp only [hd] at h3
      | some d0 =>
        simp only [hd] at h3
        cases he : getP π d0 with
        | none => simp only [he] at h3
        | some e0 =>
          cases e0 with
          | lst as =>
            simp only [he] at h3
            obtain ⟨Ae, N2⟩ := S2.nodeP hd he rfl (k := 0) (by rw [hT]) hπ hpv
            obtain ⟨Ae2, N3⟩ := S3.nodeP hd he rfl (k := 0) (by rw [hT]) hπ (N2.keep F3 H3 G3)
            obtain ⟨vs2, hvs2, rv2, mu⟩ := N3.lst
            cases hx : ixN as.length z with
            | none => simp only [hx] at h3
            | some j =>
              simp only [hx] at h3
              obtain ⟨B', b1, S4⟩ := mu (vs2.set j v) (as.set j d) (rv2.set (A := fun _ => False) ((Rp.go0 (g := .fz) r1 (G2.trans G3))) j)
              exact ⟨p, vs2, z, j, rfl, rfl, hvs2, by rw [rv2.1]; exact hx, h3 σ F3 B' _ (N3.goS S (G1.trans (G2.trans G3)) S3 fun a ha => .inl (b1 a ha)) S4⟩
          | _ => simp only [he] at h3
  | _ => exact h3.elim
/-! ### dicts -/
def putKD (kvs : List (Key × D)) (k : Key) (v : D) : List (Key × D) := if (kvs.any fun kv => decide (kv.1 = k)) = true then kvs.map (fun kv => if kv.1 = k then (kv.1, v) else kv) else kvs ++ [(k, v)]
theorem any_keys {α β : Type} {xs : List (Key × α)} {ys : List (Key × β)} (h : xs.map (·.1) = ys.map (·.1)) (k : Key) : (xs.any fun kv => decide (kv.1 = k)) = (ys.any fun kv => decide (kv.1 = k)) := by
  induction ys generalizing xs with
  | nil => cases xs with | nil => rfl | cons _ _ => cases h
  | cons y r ih =>
    cases xs with
    | nil => cases h
    | cons x r' =>
      simp only [List.map_cons, List.cons.injEq] at h
      simp only [List.any_cons]
      rw [h.1, ih h.2]
theorem RpK.put {K : PySem.W.Frag} {F H : Hp} {kvs : List (Key × V)} {kds : List (Key × D)} {v : V} {d : D} {A : AS} (R : RpK K F H kvs kds) (r : Rp K F H 0 v d A) (key : Key) : RpK K F H (putK kvs key v) (putKD kds key d) := by
  unfold putK putKD
  rw [any_keys R.keys key]
  split
  · refine ⟨?_, fun i w e h1 h2 => ?_⟩
    · rw [List.map_map, List.map_map]
      have e1 : ((fun x : Key × V => x.1) ∘ fun kv => if kv.1 = key then (kv.1, v) else kv) = fun x => x.1 := by funext x; simp only [Function.comp]; split <;> rfl
      have e2 : ((fun x : Key × D => x.1) ∘ fun kv => if kv.1 = key then (kv.1, d) else kv) = fun x => x.1 := by funext x; simp only [Function.comp]; split <;> rfl
      rw [e1, e2]; exact R.keys
    · rw [List.map_map, List.getElem?_map] at h1 h2
      cases g1 : kvs[i]? with
      | none => rw [g1] at h1; cases h1
      | some x =>
        cases g2 : kds[i]? with
        | none => rw [g2] at h2; cases h2
        | some y =>
          rw [g1] at h1
          rw [g2] at h2
          have hk : x.1 = y.1 := by
            have := congrArg (fun l => l[i]?) R.keys
            simp only [List.getElem?_map, g1, g2, Option.map_some, Option.some.injEq] at this
            exact this
          simp only [Option.map_some, Function.comp, Option.some.injEq] at h1 h2
          by_cases hx : x.1 = key
          · rw [if_pos hx] at h1
            rw [if_pos (hk ▸ hx)] at h2
            subst h1 h2
            exact r.z
          · rw [if_neg hx] at h1
            rw [if_neg (hk ▸ hx)] at h2
            subst h1 h2
            exact R.its i x.2 y.2 (by rw [List.getElem?_map, g1]; rfl) (by rw [List.getElem?_map, g2]; rfl)
  · refine ⟨by rw [List.map_append, List.map_append, R.keys]; rfl, fun i w e h1 h2 => ?_⟩
    rw [List.map_append] at h1 h2
    have hl : (kvs.map (·.2)).length = (kds.map (·.2)).length := by
      have := congrArg List.length R.keys
      simpa using this
    exact (RpL.append (K := K) (G := F) (H := H) (vs := kvs.map (·.2)) (ds := kds.map (·.2)) ⟨hl, R.its⟩ (RpL.cons r RpL.nil)).2 i w e h1 h2
def sSetK (i : Nat) (m : M) (mp : Mo Pth) (mj : M) : MS := sE m fun d => sE mp fun π => sE mj fun z n ds => match keyD z, ds[i]? with
  | some key, some (some d0) => (match getP π d0 with
    | some (.dct kds) => if kds.length < 16777216 then some (.nx, n, ds.set i (some (setP π d0 (.dct (putKD kds key d))))) else none
    | _ => none)
  | _, _ => none
theorem ws_setk {i l : Nat} {p2 : Pos} {mj : M} (hu : X.A.units + 1 < cLine) (he : PE X e (W C wx .fz 0 m)) (ho : PE X o (WPl C wx i mp)) (hl : PlT mp l) (hT : C.T i = l + 1) (hj : PE X b (W C wx .bo 0 mj))
    (ha : ∀ v, assign (.Subscript o b p2) X.env v = (do
      let ov ← holding [v] (eval o X.env)
      let iv ← holding [v, ov] (eval b X.env)
      standAt p2
      holding [v, ov, iv] (setItem ov iv v)
      release [v, ov, iv] []) := by intro _; rfl) (hs : swapsWithSole [.Subscript o b p2] e pos.line X.env = pure false := by rfl) (hw : swappedStores [.Subscript o b p2] e X.env = pure none := by rfl) (h1 : (assignEach [.Subscript o b p2] X.env).map (·.2) = [assign (.Subscript o b p2) X.env] := by rfl) :
    PS X (.Assign [.Subscript o b p2] e pos) (WS C wx kr (sSetK i m mp mj)) := (ps_asg he (pg_sub ho hj (set_dict hu) ha) hs hw h1).wk fun E σ H w => by
  obtain ⟨F, B, n, ds, S, h⟩ := w
  refine ⟨F, B, n, ds, S, (wsl_e (R := RV C .fz 0) S h).mono fun v H1 ⟨F1, n1, d, G1, S1, ⟨A1, r1, f1⟩, h1⟩ => ?_⟩
  refine ⟨F1, B, n1, ds, S1, WL.strong hl ((wsl_e0 (R := fun H F' H' v d => RPl σ i H F' H' v d ∧ d.len = l) (G1.toS S.qB) S1 h1).mono fun x H2 ⟨F2, n2, π, G2, S2, ⟨⟨p, hvp, hpv⟩, hπ⟩, h2⟩ => ?_)⟩
  subst hvp
  refine ⟨F2, B, n2, ds, S2, (wsl_e0 (R := RV C .bo 0) ((G1.trans G2).toS S.qB) S2 h2).mono fun y H3 ⟨F3, n3, z, G3, S3, ⟨A3, r3, f3⟩, h3⟩ => ?_⟩
  unfold WSL at h3
  cases hk : keyD z with
  | none => simp only [hk] at h3
  | some key =>
    have ey := key_rel r3 hk
    subst ey
    cases hd : ds[i]? with
    | none => simp only [hk, hd] at h3
    | some x =>
      cases x with
      | none => simp only [hk, hd] at h3
      | some d0 =>
        simp only [hk, hd] at h3
        cases he : getP π d0 with
        | none => simp only [he] at h3
        | some e0 =>
          cases e0 with
          | dct kds =>
            simp only [he] at h3
            obtain ⟨Ae, N2⟩ := S2.nodeP hd he rfl (k := 0) (by rw [hT]) hπ hpv
            obtain ⟨Ae2, N3⟩ := S3.nodeP hd he rfl (k := 0) (by rw [hT]) hπ (N2.keep F3 H3 G3)
            obtain ⟨kvs, hvs2, rv2, mu⟩ := N3.dct
            have hlen : kvs.length = kds.length := by
              have := congrArg List.length rv2.keys
              simpa using this
            by_cases hll : kds.length < 16777216
            · simp only [if_pos hll] at h3
              obtain ⟨B', b1, S4⟩ := mu (putK kvs key v) (putKD kds key d) (rv2.put (A := fun _ => False) ((Rp.go0 (g := .fz) r1 (G2.trans G3))) key)
              exact ⟨p, _, rfl, .inl ⟨kvs, key, hvs2, rfl, by rw [sizeLine_eq, hlen]; exact hll, rfl⟩, h3 σ F3 B' _ (N3.goS S (G1.trans (G2.trans G3)) S3 fun a ha => .inl (b1 a ha)) S4⟩
            · simp only [if_neg hll] at h3
          | _ => simp only [he] at h3
/-- {} -/
theorem ve_dnew {pos : Pos} : PE X (.Dict [] [] pos) (W C wx .fz 1 (mC (.dct []))) := pe_dnewK.wk fun σ H Q w => by
  obtain ⟨F, B, n, ds, S, h⟩ := w
  intro p hp
  have h : ∀ v F' H', GoC C.q F H F' H' → Sim C F' B σ H' n ds → RV C .fz 1 H F' H' v (.dct []) → Q v H' := h
  obtain ⟨G2, S2⟩ := S.newO (o := .dK []) hp
  exact h (.ref p) F _ G2 S2 ⟨fun a => a = p, .dctO upd_same rfl rfl (fun i v d a b => by simp at a), Fr.one S.fh hp rfl⟩
/-- self.f = e -/
def sSetF (i : Nat) (m : M) (C0 : Addr) (f : Str) : MS := sE m fun d n ds => match ds[i]? with
  | some (some (.obj C1 fds)) => if C1 = C0 ∧ fds.length < 1000 then some (.nx, n, ds.set i (some (.obj C1 (putD f d fds)))) else none
  | _ => none
theorem ws_setf {i : Nat} {f : Str} {C0 : Addr} {p2 : Pos} (hcl : Cls C.K C0) (hn : NoAttr C.K C0 f) (he : PE X e (W C wx .fz k m)) (ho : PE X o (tVar i)) (hT : C.T i = k + 1) (hs : swapsWith e (some (.Attribute o f p2)) pos.line X.env = pure false := by rfl) (hK : X.K = C.K := by rfl) : PS X (.Assign [.Attribute o f p2] e pos) (WS C wx kr (sSetF i m C0 f)) := (ps_fld ho he hs).wk fun E σ H w => by
  obtain ⟨F, B, n, ds, S, h⟩ := w
  refine ⟨F, B, n, ds, S, (wsl_e (R := RV C .fz k) S h).mono fun v H1 ⟨F1, n1, d, G1, S1, ⟨A1, r1, f1⟩, h1⟩ => ?_⟩
  unfold WSL at h1
  cases hd : ds[i]? with
  | none => simp only [hd] at h1
  | some x =>
    cases x with
    | none => simp only [hd] at h1
    | some d0 =>
      cases d0 with
      | obj C1 fds =>
        simp only [hd] at h1
        by_cases hc : C1 = C0 ∧ fds.length < 1000
        · simp only [if_pos hc] at h1
          obtain ⟨hC, hl⟩ := hc
          subst hC
          obtain ⟨p, Ae, N⟩ := S1.node hd (π := .nil) rfl rfl (k := k) (by rw [hT]; simp [Pth.len])
          obtain ⟨v0, hv0, hp⟩ := N.pv
          have hp : v0 = .ref p := hp
          subst hp
          obtain ⟨dx, fs, h2, h3, mu⟩ := N.obj
          obtain ⟨g1, g2⟩ := fresh_ok S f1
          obtain ⟨B', b1, S4⟩ := mu f v d A1 r1 fun a ha => ⟨(g1 a ha).1, (g1 a ha).2.1, g2 a ha, (g1 a ha).2.2⟩
          rw [hK]
          exact ⟨_, hv0, p, C1, dx, fs, rfl, h2, hcl, hn, by rw [h3]; exact hl, h1 σ F1 B' _ (N.goS S G1 S1 fun a ha => (b1 a ha).imp id fun z => (f1 a z).1) S4⟩
        · simp only [if_neg hc] at h1
      | _ => simp only [hd] at h1
end
end GW

/-! more operators, objects made -/
namespace GW
open PySem L2 PyProof.Rows
/-! ### list + list -/
def rCatS (K : PySem.W.Frag) : R2 := fun x y H Q => ∃ l b xs zs, x = .ref l ∧ y = .ref b ∧ SqL K H l xs ∧ SqL K H b zs ∧ xs.length + zs.length ≤ sizeLine ∧ ∀ p, H p = none → Q (.ref p) (upd H p (.lst (xs ++ zs)))
theorem op_catS {X : Cx} : OpR X (binaryOp .Add) (rCatS X.K) := by
  intro pins s σ H x y v u Q I rx ry h
  obtain ⟨l, b, xs, zs, rfl, rfl, hH, hB, hz, q⟩ := h
  cases rx
  cases ry
  obtain ⟨its, r, p1, _⟩ := I.list hH
  obtain ⟨its2, r2, p2, _⟩ := I.list hB
  have l1 := r.length
  have l2 := r2.length
  obtain ⟨⟨cls, dd, data, sl⟩, n, ho, hc, _, hd⟩ := id p1
  obtain ⟨⟨cls2, dd2, data2, sl2⟩, n2, ho2, hc2, _, hd2⟩ := id p2
  simp only at hc hd hc2 hd2
  subst hc hd hc2 hd2
  refine concat_meets ⟨_, ho, rfl⟩ ⟨_, ho2, rfl⟩ noFill_list_add seq_list_add PySem.F.slot_list_add PySem.F.entry_list_add (PySem.F.args_list_add_2 _ _) (list_addW l b its.toArray its2.toArray n n2 dd dd2 sl sl2 (by rw [List.size_toArray, List.size_toArray]; omega)) ⟨ho, ho2, ?_⟩
  have ea : its.toArray ++ its2.toArray = (its ++ its2).toArray := by simp
  rw [ea]
  exact ⟨.ref _, _, I.lnew (t' := s.toks) (r.append r2) (by rw [List.length_append]; omega), rfl, q _ I.fresh⟩
def oCat : D → D → Option D
  | .lst as, .lst bs => if as.length + bs.length ≤ 16777216 then some (.lst (as ++ bs)) else none
  | _, _ => none
section
variable {X : Cx} {C : Ctx} {wx : WX} {g : Rg} {kr k : Nat} {o a b e : Expr} {es : List Expr} {pos : Pos} {m ma mc : M} {ms : Mo (List D)} {mp : Mo Pth}
theorem ve_cat (ha : PE X a (W C wx .fz 0 ma)) (hb : PE X b (W C wx .fz 0 mc)) (hK : X.K = C.K := by rfl) : PE X (.BinOp a .Add b pos) (W C wx .fz 1 (m2 ma mc oCat)) :=
  (pe_op (r := rCatS C.K) (by rw [← hK]; exact op_catS) ha hb).wk fun σ H Q w => by
  obtain ⟨F, B, n, ds, S, h⟩ := w
  refine ⟨F, B, n, ds, S, (h.bind fun F1 H1 F2 H2 v d G r => r.tr G).mono fun x H1 ⟨F1, n1, da, G1, S1, ⟨A1, r1, f1⟩, h1⟩ => ?_⟩
  refine ⟨F1, B, n1, ds, S1, (h1.bind fun F1 H1 F2 H2 v d G r => r.tr G).mono fun y H2 ⟨F2, n2, db, G2, S2, ⟨A2, r2, f2⟩, h2⟩ => ?_⟩
  obtain ⟨d, e, q⟩ := h2.retE
  have r1' : Rp C.K F2 H2 0 x da (fun _ => False) := Rp.go0 (g := .fz) r1 G2
  unfold oCat at e
  split at e
  · rename_i as bs
    split at e
    · rename_i hl
      cases e
      cases r1' with
      | @lst _ p1 vs1 _ hh1 l1 c1 =>
        cases r2 with
        | @lst _ p2 vs2 _ hh2 l2 c2 =>
          refine ⟨p1, p2, vs1, vs2, rfl, rfl, sqL_mono hh1 S2.fh, sqL_mono hh2 S2.fh, by rw [sizeLine_eq, l1, l2]; exact hl, fun p hp => ?_⟩
          obtain ⟨G3, S3⟩ := S2.newO (o := .lst (vs1 ++ vs2)) hp
          have R := RpL.append (K := C.K) (G := F2) (H := H2) (vs := vs1) (ws := vs2) ⟨l1, fun i v d a b => (c1 i v d a b).z⟩ ⟨l2, fun i v d a b => (c2 i v d a b).z⟩
          exact q (.ref p) F2 _ G3 S3 ⟨fun a => a = p, .lstO (fun _ _ => False) upd_same rfl R.1 (fun i v d a b => Rp.go0 (g := .fz) (R.2 i v d a b) G3) (fun _ _ h => h.elim) (fun _ _ _ h => h.elim), Fr.one S2.fh hp rfl⟩
    · cases e
  · cases e
/-! ### in, not in -/
/-- a sign in a text -/
def oInS (neg : Bool) : D → D → Option D
  | .str x, .str z => if x.cps.size = 1 then some (.bl (neg ^^ decide (x.cps.getD 0 0 ∈ z.cps.toList))) else none
  | _, _ => none
theorem one_cps {x : Str} (h : x.cps.size = 1) : x = ⟨#[x.cps.getD 0 0]⟩ := by
  obtain ⟨c⟩ := x
  have h : c.size = 1 := h
  congr 1
  apply Array.ext
  · simpa using h
  · intro i h1 h2
    have : i = 0 := by omega
    subst this
    simp [Array.getD, h]
theorem os_inS {K : PySem.W.Frag} : OpS K (fun x y H Q => ∃ (c : Nat) (z : Str), x = .str ⟨#[c]⟩ ∧ y = .str z ∧ Q (.bl (decide (c ∈ z.cps.toList))) H) (oInS false) := by
  intro G H x y a b d A A' hs ra rb e
  unfold oInS at e
  split at e
  · split at e
    · rename_i x z hl
      cases e
      refine ⟨_, rfl, fun Q q => ⟨x.cps.getD 0 0, z, ?_, rb.str_, by simpa using q⟩⟩
      rw [ra.str_]; exact congrArg V.str (one_cps hl)
    · cases e
  · cases e
theorem os_notInS {K : PySem.W.Frag} : OpS K (fun x y H Q => ∃ (c : Nat) (z : Str), x = .str ⟨#[c]⟩ ∧ y = .str z ∧ Q (.bl (!decide (c ∈ z.cps.toList))) H) (oInS true) := by
  intro G H x y a b d A A' hs ra rb e
  unfold oInS at e
  split at e
  · split at e
    · rename_i x z hl
      cases e
      refine ⟨_, rfl, fun Q q => ⟨x.cps.getD 0 0, z, ?_, rb.str_, by simpa using q⟩⟩
      rw [ra.str_]; exact congrArg V.str (one_cps hl)
    · cases e
  · cases e
/-- a scalar in a tuple or list of scalars -/
def scVs : List D → Option (List V)
  | [] => some []
  | d :: r => match scV d, scVs r with
    | some v, some vs => some (v :: vs)
    | _, _ => none
def oInQ (neg : Bool) (a b : D) : Option D := match scV a, b with
  | some x, .lst ds => (scVs ds).map fun vs => .bl (if neg = true then !inV x vs else inV x vs)
  | some x, .tup ds => (scVs ds).map fun vs => .bl (if neg = true then !inV x vs else inV x vs)
  | _, _ => none
theorem scVs_of {K : PySem.W.Frag} {G H : Hp} : ∀ {vs : List V} {ds : List D} {ws : List V}, RpL K G H vs ds → scVs ds = some ws → vs = ws
  | [], [], _, _, e => by cases e; rfl
  | [], _ :: _, _, r, _ => by cases r.1
  | _ :: _, [], _, r, _ => by cases r.1
  | v :: vs, d :: ds, ws, r, e => by
    have r1 := r.2 0 v d rfl rfl
    have r2 : RpL K G H vs ds := ⟨by simpa using r.1, fun i v' d' h1 h2 => r.2 (i + 1) v' d' (by simpa using h1) (by simpa using h2)⟩
    unfold scVs at e
    split at e
    · rename_i h1 h2
      cases e
      rw [r1.sc h1, scVs_of r2 h2]
    · cases e
theorem scV_flat {d : D} {v : V} (h : scV d = some v) : flatV v = true := by
  cases d <;> simp [scV] at h <;> subst h <;> rfl
theorem scVs_flat : ∀ {ds : List D} {vs : List V}, scVs ds = some vs → vs.all flatV = true
  | [], _, e => by cases e; rfl
  | d :: r, ws, e => by
    unfold scVs at e
    split at e
    · rename_i h1 h2
      cases e
      simp [scV_flat h1, scVs_flat h2]
    · cases e
theorem os_inQ {K : PySem.W.Frag} {neg : Bool} : OpS K (rIn K neg) (oInQ neg) := by
  intro G H x y a b d A A' hs ra rb e
  unfold oInQ at e
  split at e
  · rename_i x' ds hx
    cases hv : scVs ds with
    | none => rw [hv] at e; cases e
    | some vs =>
      rw [hv] at e; cases e
      have := ra.sc hx
      subst this
      cases rb with
      | lst h l c =>
        have e := scVs_of (K := K) (G := G) (H := H) ⟨l, fun i v d a b => (c i v d a b).z⟩ hv
        subst e
        exact ⟨_, rfl, fun Q q => ⟨_, _, rfl, .inl (sqL_mono h hs), scV_flat hx, scVs_flat hv, q⟩⟩
  · rename_i x' ds hx
    cases hv : scVs ds with
    | none => rw [hv] at e; cases e
    | some vs =>
      rw [hv] at e; cases e
      have := ra.sc hx
      subst this
      cases rb with
      | tup h l c =>
        have e := scVs_of (K := K) (G := G) (H := H) ⟨l, fun i v d a b => (c i v d a b).z⟩ hv
        subst e
        exact ⟨_, rfl, fun Q q => ⟨_, _, rfl, .inr h, scV_flat hx, scVs_flat hv, q⟩⟩
  · cases e
/-- a key in a dict -/
def oInD (neg : Bool) (a b : D) : Option D := match keyD a, b with
  | some k, .dct kds => some (.bl (neg ^^ (valD kds k).isSome))
  | _, _ => none
theorem val_some {kvs : List (Key × V)} {kds : List (Key × D)} (h : kvs.map (·.1) = kds.map (·.1)) (k : Key) : (valV kvs k).isSome = (valD kds k).isSome := by
  rw [← valV_any]
  have : (valD kds k).isSome = (kds.any fun kv => decide (kv.1 = k)) := by
    unfold valD
    rw [Option.isSome_map, Bool.eq_iff_iff, List.find?_isSome, List.any_eq_true]
  rw [this, any_keys h]
theorem dIn_of {neg : Bool} {σ : L2.St} {H : Hp} {Q : VK} (w : W C wx g k (m2 ma mc (oInD neg)) σ H Q) : W C wx .bo 0 ma σ H fun y H1 => W C wx .bo 0 mc σ H1 fun x H2 => ∃ a o, x = .ref a ∧ DGet H2 a y o ∧ Q (.bl (neg ^^ o.isSome)) H2 := by
  obtain ⟨F, B, n, ds, S, h⟩ := w
  refine ⟨F, B, n, ds, S, (h.bind fun F1 H1 F2 H2 v d G r => r.tr G).mono fun y H1 ⟨F1, n1, da, G1, S1, ⟨A1, r1, f1⟩, h1⟩ => ?_⟩
  refine ⟨F1, B, n1, ds, S1, (h1.bind fun F1 H1 F2 H2 v d G r => r.tr G).mono fun x H2 ⟨F2, n2, db, G2, S2, ⟨A2, r2, f2⟩, h2⟩ => ?_⟩
  obtain ⟨d, e, q⟩ := h2.retE
  unfold oInD at e
  split at e
  · rename_i key kds hk
    cases e
    have ey := key_rel r1 hk
    subst ey
    cases r2 with
    | @dct _ p kvs _ hh l c =>
      refine ⟨p, valV kvs key, rfl, .inl ⟨kvs, key, .inl (rg_same (g := .bo) S2.fh _ _ hh), rfl, rfl⟩, ?_⟩
      rw [val_some l]
      exact q _ F2 H2 (GoC.refl S2.fh) S2 ⟨fun _ => False, .bl, Fr.no⟩
  · cases e
theorem ve_din (hu : X.A.units + 1 < cLine) (ha : PE X a (W C wx .bo 0 ma)) (hb : PE X b (W C wx .bo 0 mc)) (h1 : behindInMarks .In b = false := by first | exact nobehind _ (by decide) (by decide) | rfl) : PE X (.Compare a [.In] [b] pos) (W C wx g k (m2 ma mc (oInD false))) :=
  (pe_cmp (pc_din hu ha hb) h1).wk fun σ H Q w => by have z := dIn_of w; simp only [Bool.false_xor] at z; exact z
theorem vt_din (hu : X.A.units + 1 < cLine) (ha : PE X a (W C wx .bo 0 ma)) (hb : PE X b (W C wx .bo 0 mc)) (h1 : behindInMarks .In b = false := by first | exact nobehind _ (by decide) (by decide) | rfl) : PT X (.Compare a [.In] [b] pos) (WT C wx (mTest (m2 ma mc (oInD false)))) :=
  (pt_cmp (pc_din hu ha hb) h1).wk fun σ H Q w => tB_of (t := fun σ H Q => tDIn (W C wx .bo 0 ma) (W C wx .bo 0 mc) σ H Q) (fun _ _ _ z => by have z := dIn_of z; simp only [Bool.false_xor] at z; exact z) w
end
end GW

/-! what is told does not lean on what was handed in; objects are made -/
namespace GW
open PySem L2 PyProof.Rows
def closedD : Nat → D → Bool
  | k + 1, .lst ds => ds.all (closedD k)
  | _ + 1, .dct kvs => kvs.all fun p => flat p.2
  | k + 1, .obj _ fs => fs.all fun p => closedD k p.2
  | _, d => flat d
theorem closed_flat {k : Nat} {d : D} (h : closedD k d = true) (hc : isCon d = false) : flat d = true := by
  cases k <;> cases d <;> first | exact h | cases hc
theorem Rp.closed {K : PySem.W.Frag} {F H : Hp} {k : Nat} {v : V} {d : D} {A : AS} (r : Rp K F H k v d A) (h : closedD k d = true) (F' : Hp) : Rp K F' H k v d A := by
  induction r with
  | non => exact .non
  | bl => exact .bl
  | int => exact .int
  | str => exact .str
  | @tup k _ _ _ _ hh l c ih =>
    have hf := closed_flat h rfl
    simp only [flat] at hf
    exact .tup hh l fun i v d a b => (c i v d a b).flat_any (flats_get hf b) _ _ _
  | lst => cases h
  | lstO As hh hA l c s dj ih =>
    simp only [closedD, List.all_eq_true] at h
    exact .lstO As hh hA l (fun i v d a b => ih i v d a b (h d (List.mem_of_getElem? b))) s dj
  | dct => cases h
  | @dctO k _ p kvs kds hh hA l c ih =>
    simp only [closedD, List.all_eq_true] at h
    exact .dctO hh hA l fun i v d a b => (c i v d a b).flat_any (by
      rw [List.getElem?_map] at b
      cases e : kds[i]? with
      | none => rw [e] at b; cases b
      | some x => rw [e] at b; cases b; exact h x (List.mem_of_getElem? e)) _ _ _
  | obj => cases h
  | @objO k _ p C dx fs fds As hh hA l c s dj ih =>
    simp only [closedD, List.all_eq_true] at h
    exact .objO As hh hA l (fun i v d a b => ih i v d a b (by
      rw [List.getElem?_map] at b
      cases e : fds[i]? with
      | none => rw [e] at b; cases b
      | some x => rw [e] at b; cases b; exact h x (List.mem_of_getElem? e))) s dj
  | @err k => cases k <;> cases h
def mClosed (k : Nat) (m : M) : M := fun n ds => match m n ds with
  | some (.ok d, n') => if closedD k d = true then some (.ok d, n') else none
  | r => r
def RCl (C : Ctx) (k : Nat) : Hp → Hp → Hp → V → D → Prop := fun H F' H' v d => ∃ G' A, Rp C.K G' H' k v d A ∧ Fr F' H H' A
theorem WL.closed {C : Ctx} {wx : WX} {k : Nat} {m : M} {F : Hp} {B : AS} {n : Int} {ds : DS} {σ : L2.St} {H : Hp} {Q : VK} (h : WL C wx (RV C .fz k) (mClosed k m) F B n ds σ H Q) : WL C wx (RCl C k) m F B n ds σ H Q := by
  unfold WL at h ⊢
  unfold mClosed at h
  cases e : m n ds with
  | none => simp only [e] at h
  | some pp =>
    obtain ⟨o, n'⟩ := pp
    cases o with
    | ex c fs => simp only [e] at h; exact h
    | ok d =>
      simp only [e] at h
      by_cases hf : closedD k d = true
      · simp only [if_pos hf] at h
        rintro v F' H' G S ⟨G', A, r, f⟩
        exact h v F' H' G S ⟨A, r.closed hf _, f⟩
      · simp only [if_neg hf] at h
section
variable {X : Cx} {C : Ctx} {wx : WX} {g : Rg} {k kk kr np : Nat} {x : Str} {p pos : Pos} {e : Expr} {es : List Expr} {ps : List Str} {fm : FM} {ci : Option Nat} {ms : Mo (List D)}
/-- the things handed in are one's own; what is told is new -/
theorem ve_callAc (F : Av X.prog X.w X.K X.mg X.base x ps kk (spM C.K ci np kr fm)) (hp : ci = none → ∃ f, fm = pureF f) (hr : Room kk X.A) (tk : Takes X wx)
    (ha : PA X (e :: es) (WAc C wx .bo ci ms)) (hlen : LenM ms np) (hg : Gl X x := by rfl) (hdb : (x == ("__debug__" : Str)) = false := by decide) (he : starEach (e :: es) X.env = (false, eval e X.env) :: starEach es X.env := by rfl) (hpl : (backTo pos (starEach es X.env)).any (·.1) = false := by rfl) :
    PE X (.Call (.Name x p) (e :: es) [] pos) (W C wx .fz kr (mClosed kr (mCall fm ms))) := by
  obtain ⟨f, fd, hm, hk, hbd, Ff⟩ := F.ex
  refine (pe_callS Ff hr hg hm hk hbd (fun σ => passAt tk σ) ha hdb he hpl).wk fun σ H Q w => ?_
  obtain ⟨F, B, n, ds, S, h⟩ := w
  refine ⟨F, B, n, ds, S, WL.strong hlen ((h.closed.bind (R := fun H F' H' vs as => RAc C .bo ci H F' H' vs as ∧ as.length = np) fun F1 H1 F2 H2 v d G ⟨G', A, r, f⟩ => ⟨G', A, r, fun a ha => ⟨none_some G.dm (f a ha).1, (f a ha).2⟩⟩).mono fun vs H1 ⟨F2, n2, d2, G2, S2, ⟨r2, hl⟩, h2⟩ => ?_)⟩
  exact spM_of (RR := RCl C kr) hp S2 r2 hl (fun d v F' H' G r h => by cases h) (fun d v F3 H' _ G ⟨A, r, f⟩ => ⟨F3, A, r, fun a ha => ⟨(f a ha).1, none_some (fun b o e => ⟨o, S2.fh b o e⟩) (f a ha).1, (f a ha).2.2⟩⟩) h2
end
/-! ### objects -/
/-- what __init__ promises: the new thing's fields -/
def spI (K : PySem.W.Frag) (C0 : Addr) (np kr : Nat) (f : List D → Option (Ot D)) : Sp := fun vs H Q E => vs.length = np + 1 ∧ ∃ (F : Hp) (x dx : Addr) (ws : List V) (ds : List D), vs = .ref x :: ws ∧ Same F H ∧ H x = some (.ins C0 dx []) ∧ F x = none ∧ RpL K F H ws ds ∧
  match f ds with
  | none => False
  | some (.ok d) => ∀ F' H' A, GoC (some x) F H F' H' → Rp K F' H' kr (.ref x) d A → (∀ a, A a → (a = x ∨ H a = none) ∧ F' a = none ∧ ∃ o, H' a = some o ∧ Mk o = true) → Q .non H'
  | some (.ex c fs) => ∀ F' H' od, GoC (some x) F H F' H' → ExR H H' od fs → E (.ref (ec K c)) od H'
/-- a class that stands to be called -/
structure AvC (P : Program) (w : World) (K : PySem.W.Frag) (mg : Str → Option Value) (base : Heap) (x : Str) (C0 : Addr) (ps : List Str) (k : Nat) (sp : Sp) : Prop where
  ex : ∃ (f : Addr) (fd : FuncData), mg x = some (.ref C0) ∧ L2.Mk K C0 f ∧ Binds K fd ps [] ∧ FnOk P w K mg base (L2.CX P w) k f fd ps sp
def tMakeS (C : Addr) (sp : Sp) (E : L2.St → XK) (t : TA) : TE := fun σ H Q => t σ H fun vs H1 => ∀ x dx, H1 x = none → H1 dx = none → dx ≠ x → sp (.ref x :: vs) (upd (upd H1 dx (.own x)) x (.ins C dx [])) (fun v H2 => v = .non ∧ Q (.ref x) H2) (E σ)
theorem pe_makeS {X : Cx} {CX : CXT} {k : Nat} {f C : Addr} {fd : FuncData} {ps : List Str} {sp : Sp} {E : L2.St → XK} {x : Str} {p pos : Pos} {e : Expr} {es : List Expr} {t : TA} (M : L2.Mk X.K C f) (F : FnOk X.prog X.w X.K X.mg X.base CX k f fd ps sp) (hr : Room (k + 1) X.A) (hg : Gl X x) (hm : X.mg x = some (.ref C)) (hb : Binds X.K fd ps []) (hx : ∀ σ, PassesAt CX X σ (E σ))
    (ha : PA X (e :: es) t) (hdb : (x == ("__debug__" : Str)) = false := by decide) (he : starEach (e :: es) X.env = (false, eval e X.env) :: starEach es X.env := by rfl) (hpl : (backTo pos (starEach es X.env)).any (·.1) = false := by rfl) :
    PE X (.Call (.Name x p) (e :: es) [] pos) (tMakeS C sp E t) := by
  refine ⟨fun pins s σ H Q I h => ?_⟩
  refine wpAny_Call_Name_kw (ld_glob I hg hm ?_ hdb)
  refine PySem.W.callWith_K (h₀ := X.base) I.ok.mod.kin M.kp (thn (ha.run pos pins s σ H _ I h) fun us s ⟨vs, H, I, r, h⟩ => ⟨I.kIn, ?_⟩) he hpl
  have hq := h (s.heap.objs.size + 1) s.heap.objs.size (I.hok.fresh (Nat.le_succ _)) (I.hok.fresh (Nat.le_refl _)) (Nat.ne_of_lt (Nat.lt_succ_self _))
  have I2 := Inv.made (C := C) I
  have r2 : Vals (V.ref (s.heap.objs.size + 1) :: vs) (Value.ref (s.heap.objs.size + 1) :: us) := .cons rfl r
  have hl : (Value.ref (s.heap.objs.size + 1) :: us ++ []).length = ps.length := by
    have e := r2.length
    rw [F.len _ _ _ _ hq] at e
    rw [List.append_nil]; exact e.symm
  have hbb := hb _ (Value.ref (s.heap.objs.size + 1) :: us) I2.kIn hl
  rw [List.append_nil] at hbb
  refine wpAny_call (make_map (f := f) I.kIn M.makes M.init (beq_iff_eq.mp M.fn) (codeAny_mono (F.run _ X.stack _ _ ⟨Value.ref (s.heap.objs.size + 1) :: us, []⟩ (Value.ref (s.heap.objs.size + 1) :: us) _ _ (E σ) (hr.make C us [])
    (I2.env0.make C us []) hbb r2 hq) fun r s' hq' => ?_))
  cases r with
  | error e => exact hx σ pins _ _ e s' I2 hq'
  | ok fl =>
    cases fl with
    | ret u =>
      obtain ⟨v, H', I3, rv, ev, q3⟩ := I2.after hq'
      subst ev
      exact ⟨rv, ⟨V.ref (s.heap.objs.size + 1), H', I3, rfl, q3⟩⟩
    | next => exact False.elim hq'
    | brk => exact False.elim hq'
    | cont => exact False.elim hq'
section
variable {X : Cx} {C : Ctx} {wx : WX} {g : Rg} {k kk kr np : Nat} {x : Str} {p pos : Pos} {e : Expr} {es : List Expr} {ps : List Str} {ms : Mo (List D)} {f : List D → Option (Ot D)} {C0 : Addr}
/-- the new instance ahead of its __init__ -/
theorem made_step {q : Option Addr} {F H F' H' : Hp} {x dx : Addr} {o : HO} (fh : Same F H) (hx : H x = none) (hdx : H dx = none) (hne : dx ≠ x) (G : GoC (some x) F (upd (upd H dx (.own x)) x o) F' H') : GoC q F H F' H' := by
  have old : ∀ a u, H a = some u → upd (upd H dx (.own x)) x o a = some u ∧ a ≠ x := fun a u e => by
    have n1 := ne_of_none e hx
    have n2 := ne_of_none e hdx
    exact ⟨by rw [upd_ne n1, upd_ne n2]; exact e, n1⟩
  exact ⟨⟨G.go.ff, G.go.fh, fun a u e _ => G.go.hh a u (old a u e).1 (fun z => (old a u e).2 (by injection z with z; exact z.symm)), fun a u e hm => G.go.ht a u (old a u e).1 hm, fun a u n e => G.go.nf a u n (old a u e).1⟩, fun a u e => G.dm a u (old a u e).1⟩
/-- X(..): the things handed in stand (g = fz), or are read now and what is made is new (bo) -/
theorem make_of {RR : Hp → Hp → Hp → V → D → Prop} {F : Hp} {B : AS} {n : Int} {ds : DS} {σ : L2.St} {H : Hp} {vs : List V} {as : List D} {Q : VK} (S : Sim C F B σ H n ds) (G0 : Hp) (gs : Same G0 H) (r : RpL C.K G0 H vs as) (hl : as.length = np)
    (step : ∀ F' H', GoC none G0 H F' H' → ∃ F1, GoC C.q F H F1 H' ∧ Sim C F1 B σ H' n ds ∧ ∀ d v A, Rp C.K F' H' kr v d A → Fr F' H H' A → RR H F1 H' v d) (w : WL C wx RR (fun n _ => pureF f n as) F B n ds σ H Q) :
    ∀ x dx, H x = none → H dx = none → dx ≠ x → spI C.K C0 np kr f (.ref x :: vs) (upd (upd H dx (.own x)) x (.ins C0 dx [])) (fun v H2 => v = .non ∧ Q (.ref x) H2) (WE wx σ) := by
  intro x dx hx hdx hne
  have hup : ∀ a u, H a = some u → upd (upd H dx (.own x)) x (.ins C0 dx []) a = some u := fun a u e => by rw [upd_ne (ne_of_none e hx), upd_ne (ne_of_none e hdx)]; exact e
  refine ⟨by rw [List.length_cons, r.1, hl], G0, x, dx, vs, as, rfl, fun a u e => hup a u (gs a u e), upd_same, none_some (fun a o e => ⟨o, gs a o e⟩) hx, ⟨r.1, fun i v d a b => (r.2 i v d a b).mono (Same.refl _) (fun a u e _ => hup a u e) fun _ _ h => h.elim⟩, ?_⟩
  unfold WL pureF at w
  cases e : f as with
  | none => simp only [e, Option.map_none] at w
  | some o =>
    cases o with
    | ok d =>
      simp only [e, Option.map_some] at w
      intro F' H' A G rr fA
      have G1 := made_step (q := none) gs hx hdx hne G
      obtain ⟨F1, G2, S2, hR⟩ := step F' H' G1
      exact ⟨rfl, w _ F1 H' G2 S2 (hR d _ A rr fun a ha => ⟨(fA a ha).1.elim (fun z => by rw [z]; exact hx) fun z => none_some (fun b u e => ⟨u, hup b u e⟩) z, (fA a ha).2⟩)⟩
    | ex c fs =>
      simp only [e, Option.map_some] at w
      intro F' H' od G xr
      obtain ⟨F1, G2, S2, _⟩ := step F' H' (made_step (q := none) gs hx hdx hne G)
      exact w F1 H' od G2 S2 (Or.imp id (fun ⟨d, h1, h2, h3⟩ => ⟨d, h1, none_some (fun b u e => ⟨u, hup b u e⟩) h2, h3⟩) xr)
theorem ve_make (F : AvC X.prog X.w X.K X.mg X.base x C0 ps kk (spI C.K C0 np kr f)) (hr : Room (kk + 1) X.A) (tk : Takes X wx) (ha : PA X (e :: es) (WA C wx .fz ms)) (hlen : LenM ms np) (hg : Gl X x := by rfl) (hdb : (x == ("__debug__" : Str)) = false := by decide) (he : starEach (e :: es) X.env = (false, eval e X.env) :: starEach es X.env := by rfl) (hpl : (backTo pos (starEach es X.env)).any (·.1) = false := by rfl) :
    PE X (.Call (.Name x p) (e :: es) [] pos) (W C wx .fz kr (mCall (pureF f) ms)) := by
  obtain ⟨fa, fd, hm, hk, hbd, Ff⟩ := F.ex
  refine (pe_makeS hk Ff hr hg hm hbd (fun σ => passAt tk σ) ha hdb he hpl).wk fun σ H Q w => ?_
  obtain ⟨F, B, n, ds, S, h⟩ := w
  refine ⟨F, B, n, ds, S, WL.strong hlen ((h.bind (R := fun H F' H' vs as => RA C .fz H F' H' vs as ∧ as.length = np) fun F1 H1 F2 H2 v d G r => r.tr G).mono fun vs H1 ⟨F2, n2, d2, G2, S2, ⟨r2, hl⟩, h2⟩ => ?_)⟩
  exact make_of S2 F2 S2.fh r2 hl (fun F' H' G => ⟨F', GoC.of0 G, S2.go0 G, fun d v A r f => ⟨A, r, f⟩⟩) h2
theorem ve_makec (F : AvC X.prog X.w X.K X.mg X.base x C0 ps kk (spI C.K C0 np kr f)) (hr : Room (kk + 1) X.A) (tk : Takes X wx) (ha : PA X (e :: es) (WA C wx .bo ms)) (hlen : LenM ms np) (hg : Gl X x := by rfl) (hdb : (x == ("__debug__" : Str)) = false := by decide) (he : starEach (e :: es) X.env = (false, eval e X.env) :: starEach es X.env := by rfl) (hpl : (backTo pos (starEach es X.env)).any (·.1) = false := by rfl) :
    PE X (.Call (.Name x p) (e :: es) [] pos) (W C wx .fz kr (mClosed kr (mCall (pureF f) ms))) := by
  obtain ⟨fa, fd, hm, hk, hbd, Ff⟩ := F.ex
  refine (pe_makeS hk Ff hr hg hm hbd (fun σ => passAt tk σ) ha hdb he hpl).wk fun σ H Q w => ?_
  obtain ⟨F, B, n, ds, S, h⟩ := w
  refine ⟨F, B, n, ds, S, WL.strong hlen ((h.closed.bind (R := fun H F' H' vs as => RA C .bo H F' H' vs as ∧ as.length = np) fun F1 H1 F2 H2 v d G ⟨G', A, r, f⟩ => ⟨G', A, r, fun a ha => ⟨none_some G.dm (f a ha).1, (f a ha).2⟩⟩).mono fun vs H1 ⟨F2, n2, d2, G2, S2, ⟨r2, hl⟩, h2⟩ => ?_)⟩
  refine make_of (RR := RCl C kr) S2 (rg C.q .bo F2 H1) (rg_same S2.fh) r2 hl (fun F' H' G => ?_) h2
  have G' : GoC C.q F2 H1 F2 H' := ⟨⟨Same.refl _, fun a o e => G.go.hh a o (S2.fh a o e) (by simp), fun a o e _ => G.go.hh a o e (by simp), G.go.ht, fun a o n _ => n⟩, G.dm⟩
  exact ⟨F2, G', S2.go G' fun q hq => G.go.hh q _ (S2.cell q hq).2 (by simp), fun d v A r f => ⟨F', A, r, fun a ha => ⟨(f a ha).1, none_some (fun b o e => ⟨o, S2.fh b o e⟩) (f a ha).1, (f a ha).2.2⟩⟩⟩
end
end GW

namespace GW
open PySem L2 PyProof.Rows
/-! ### __init__ -/
def startI (C0 : Addr) (N : Nat) (as : List D) : DS := some (.obj C0 []) :: (as.map some ++ List.replicate (N - 1 - as.length) none)
def outI : Option (Fl × Int × DS) → Option (Ot D)
  | some (.nx, _, some (.obj C fs) :: _) => some (.ok (.obj C fs))
  | some (.ex c fs, _, some (.obj _ _) :: _) => some (.ex c fs)
  | _ => none
def fnI (C0 : Addr) (N : Nat) (ms : MS) : List D → Option (Ot D) := fun as => outI (ms 0 (startI C0 N as))
section
variable {P : Program} {w : World} {K : PySem.W.Frag} {mg : Str → Option Value} {base : Heap}
theorem def_okI {x qual : Str} {params : Arguments} {body : List Stmt} {scope : Scope} {dvs : List V} {kws : List (Str × V)} {f : Addr} {fd : FuncData} {N ps : List Str} {k kr np : Nat} {T : Nat → Nat} {ms : MS} (C0 : Addr) (Fu : FunD K x qual params body scope dvs kws f fd) (S : FnScope N ps scope) (hps : ps.length = np + 1) (hN : np + 1 ≤ N.length) (hT0 : T 0 = kr + 1) (hT : ∀ i, i < np → T (i + 1) = 0)
    (hb : ∀ (cdv : Value) (A : Around) (outer : List Env) (s : Shared) (H : Hp) (E : XK) (a : Addr), Room k (A.deeper (envOfC qual scope s.heap.objs.size f cdv)) →
      PSs (cxOf (L2.CX P w) P w K mg base N qual scope f cdv A outer s H E) body (WS ⟨K, none, T, fun j => if j = 0 then some (.ref a) else none⟩ (fun c d _ H => E c d H) 0 ms)) :
    FnOk P w K mg base (L2.CX P w) (k + 1) f fd ps (spI K C0 np (kr + 1) (fnI C0 N.length ms)) := by
  refine Fu.ok S (fun vs H Q E h => h.1.trans hps.symm) (fun cdv A outer s H vs Q E hr h => ?_)
  obtain ⟨hlen, F, a, dx, ws, as, rfl, fh, hHa, hFa, hrep, hm⟩ := h
  refine ⟨_, hb cdv A outer s H E a hr, F, fun b => b = a, 0, startI C0 N.length as, ?_, ?_⟩
  · have hl : ws.length = as.length := hrep.1
    have hnp : ws.length = np := by simpa using hlen
    refine ⟨fh, fun b hb => by subst hb; exact ⟨hFa, _, hHa, rfl⟩, (fun q hq => by cases hq), fun j v h => ?_, ?_, fun j b => j = 0 ∧ b = a, fun j d e => ?_, fun j b hb => ⟨hb.2, by simp⟩, fun i j b h1 h2 => h1.1.trans h2.1.symm⟩
    · by_cases hj : j = 0
      · subst hj
        simp only [if_true, Option.some.injEq] at h
        subst h
        unfold L2.start
        simp
      · simp only [if_neg hj] at h; cases h
    · unfold L2.start startI
      simp only [List.length_append, List.length_map, List.length_replicate, List.length_cons]
      omega
    · cases j with
      | zero =>
        unfold startI at e
        simp only [List.getElem?_cons_zero, Option.some.injEq] at e
        subst e
        refine ⟨.ref a, by unfold L2.start; simp, ?_⟩
        show Rp K F H (T 0) _ _ _
        rw [hT0]
        exact .objO (fun _ _ => False) hHa ⟨rfl, rfl⟩ rfl (fun i v d a b => by simp at a) (fun _ _ h => h.elim) (fun _ _ _ h => h.elim)
      | succ j =>
        unfold startI at e
        simp only [List.getElem?_cons_succ] at e
        by_cases h : j < as.length
        · rw [List.getElem?_append_left (by simpa using h), List.getElem?_map] at e
          cases h2 : as[j]? with
          | none => rw [h2] at e; cases e
          | some x =>
            rw [h2] at e; cases e
            obtain ⟨v, hv⟩ := get_of hl h2
            refine ⟨v, ?_, ?_⟩
            · unfold L2.start
              rw [List.getElem?_append_left (by simp; omega), List.getElem?_map, List.getElem?_cons_succ, hv]; rfl
            · show Rp K F H (T (j + 1)) _ _ _
              rw [hT j (by omega)]
              exact (hrep.2 j v _ hv h2).z
        · rw [List.getElem?_append_right (by simpa using h), List.getElem?_replicate] at e
          split at e <;> cases e
  · have go : ∀ {B' : AS} {F' H' : Hp} {σ' : L2.St} {n' : Int} {C1 : Addr} {fs : List (Str × D)} {r : DS}, GoS (fun b => b = a) F H B' F' H' → Sim ⟨K, none, T, fun j => if j = 0 then some (.ref a) else none⟩ F' B' σ' H' n' (some (.obj C1 fs) :: r) →
        GoC (some a) F H F' H' ∧ ∃ A, Rp K F' H' (kr + 1) (.ref a) (.obj C1 fs) A ∧ ∀ b, A b → (b = a ∨ H b = none) ∧ F' b = none ∧ ∃ o, H' b = some o ∧ Mk o = true := fun {B' F' H' σ' n' C1 fs r} G S' => by
      obtain ⟨A, h1, h2, h3⟩ := S'.rep
      obtain ⟨v, hv, rp⟩ := h1 0 (.obj C1 fs) (by simp)
      have hpin := S'.pin 0 (.ref a) (by simp)
      rw [hv] at hpin
      cases hpin
      have rp : Rp K F' H' (T 0) (.ref a) (.obj C1 fs) (A 0) := rp
      rw [hT0] at rp
      have ha : A 0 a := by
        cases rp with
        | objO As h hA => exact hA
      have hB := (h2 0 a ha).1
      refine ⟨⟨⟨G.ff, G.fh, fun b o e hne => G.hh b o e fun z => hne (by rw [z]), G.ht, fun b o n e => ?_⟩, G.dm⟩, A 0, rp, fun b hb => ⟨G.bb b (h2 0 b hb).1, S'.bok b (h2 0 b hb).1⟩⟩
      by_cases hba : b = a
      · rw [hba]; exact (S'.bok a hB).1
      · exact G.nf b o n e hba
    unfold fnI at hm
    unfold WSL
    cases e : ms 0 (startI C0 N.length as) with
    | none => simp only [e, outI] at hm
    | some pp =>
      obtain ⟨fl, n', ds'⟩ := pp
      match fl, ds', e with
      | .nx, [], e => simp only [e, outI] at hm
      | .nx, none :: r, e => simp only [e, outI] at hm
      | .nx, some d :: r, e =>
        cases d with
        | obj C1 fs =>
          simp only [e, outI] at hm
          exact fun σ' F' B' H' G S' => by
            obtain ⟨G1, A, rp, hA⟩ := go G S'
            exact hm F' H' A G1 rp hA
        | _ => simp only [e, outI] at hm
      | .ex c xs, [], e => simp only [e, outI] at hm
      | .ex c xs, none :: r, e => simp only [e, outI] at hm
      | .ex c xs, some d :: r, e =>
        cases d with
        | obj C1 fs =>
          simp only [e, outI] at hm
          exact fun σ' F' B' H' od G S' xr => hm F' H' od (go G S').1 xr
        | _ => simp only [e, outI] at hm
      | .bk, ds', e => simp only [e, outI] at hm
      | .ct, ds', e => simp only [e, outI] at hm
      | .rt d, ds', e => simp only [e, outI] at hm
end
end GW

namespace GW
open PySem L2 PyProof.Rows
/-! ### a list, a tuple, a text walked -/
def iAny (K : PySem.W.Frag) (te : TE) : TI := fun σ H R => te σ H fun x H1 => (∃ a, x = .ref a ∧ (∃ xs, SqL K H1 a xs) ∧ R (Itl K a) H1) ∨ (∃ a, x = .ref a ∧ (∃ xs, SqT K H1 a xs) ∧ R (Itt K a) H1) ∨ (∃ z, x = .str z ∧ R (Its z) H1)
theorem pi_any {X : Cx} {tg e : Expr} {te : TE} (he : PE X e te) : PI X tg e (iAny X.K te) := by
  refine ⟨fun pins s σ H R I h => ?_⟩
  refine thn (he.run pins s σ H _ I h) fun v s1 ⟨x, H1, I1, r1, q1⟩ => ?_
  rcases q1 with ⟨a, e, ⟨xs, hq⟩, q⟩ | ⟨a, e, ⟨xs, hq⟩, q⟩ | ⟨z, e, q⟩
  · subst e
    cases r1
    obtain ⟨its, rv, p, hz⟩ := I1.list hq
    refine wpAny_pyIter_list p.isList ?_
    refine ⟨s1.heap.objs.size, [s1.heap.objs.size], _, _, H1, rfl, I1.kept (t' := s1.toks) fun b o e => Heap.get?_push_of_some _ e, turn_list a _, ⟨_, Heap.get?_push_size _ rfl, rfl, rfl⟩, fun b hb => ?_, q⟩
    have e : b = s1.heap.objs.size := by simpa using hb
    subst e
    exact I1.fpOk (Nat.le_refl _) (I1.hok.fresh (Nat.le_refl _))
  · subst e
    cases r1
    obtain ⟨its, rv, p, hz⟩ := I1.tuple hq
    refine wpAny_pyIter_tuple (show s1.heap.IsTuple a its.toArray from p) ?_
    refine ⟨s1.heap.objs.size, [s1.heap.objs.size], _, _, H1, rfl, I1.kept (t' := s1.toks) fun b o e => Heap.get?_push_of_some _ e, turn_tuple a _, ⟨_, Heap.get?_push_size _ rfl, rfl, rfl⟩, fun b hb => ?_, q⟩
    have e : b = s1.heap.objs.size := by simpa using hb
    subst e
    exact I1.fpOk (Nat.le_refl _) (I1.hok.fresh (Nat.le_refl _))
  · subst e
    obtain ⟨t, rfl⟩ := r1
    cases ha : z.cps.all (· < 128)
    · exact wpAny_pyIter_wide ha (pi_one (tk := s1.toks) I1 _ (turn_str _ z t "str_iterator" (.inr rfl)) ⟨_, Heap.get?_push_size _ rfl, rfl, rfl⟩ q)
    · exact wpAny_pyIter_ascii ha (pi_one (tk := s1.toks) I1 _ (turn_str _ z t "str_ascii_iterator" (.inl rfl)) ⟨_, Heap.get?_push_size _ rfl, rfl, rfl⟩ q)
def mItA (m : M) : Mo (List D) := mb m fun d => ret (itemsD d)
@[simp] theorem ev_ita {m : M} {n : Int} {ds : DS} : mItA m n ds = mb m (fun d => ret (itemsD d)) n ds := (rfl)
@[simp] theorem ov_itl {ds : List D} : itemsD (.lst ds) = some ds := (rfl)
@[simp] theorem ov_itt {ds : List D} : itemsD (.tup ds) = some ds := (rfl)
@[simp] theorem ov_its {x : Str} : itemsD (.str x) = some (signsD x) := (rfl)
section
variable {X : Cx} {C : Ctx} {wx : WX} {kr k : Nat} {e tg : Expr} {es : List Expr} {p pos : Pos} {m : M} {ms : Mo (List D)}
theorem vi_any (he : PE X e (W C wx .fz 0 m)) (hK : X.K = C.K := by rfl) : PI X tg e (WI C wx (mItA m)) := (pi_any he).wk fun σ H Q w => by
  obtain ⟨F, B, n, ds, S, h⟩ := w
  refine ⟨F, B, n, ds, S, (h.bind fun F1 H1 F2 H2 v d G r => r).mono fun v H1 ⟨F1, n1, d, G1, S1, ⟨A, r1, f⟩, h1⟩ => ?_⟩
  obtain ⟨as, e, q⟩ := h1.retE
  rw [hK]
  cases r1 with
  | @lst A' a vs as' hh l c =>
    cases e
    refine .inl ⟨a, rfl, ⟨vs, sqL_mono hh S1.fh⟩, q _ F1 H1 (GoC.refl S1.fh) S1 fun F' H' L i => ⟨fun d hd => ?_, fun hn0 => ?_⟩⟩
    · have hq : SqL C.K H' a vs := sqL_mono hh (L.ff.trans L.fh)
      obtain ⟨w, hw⟩ := get_of l hd
      refine ⟨⟨vs, _, hq, hw⟩, fun x H'' y => ?_⟩
      obtain ⟨y1, y2⟩ := y
      subst y1
      exact ⟨.inl rfl, (Rp.z (c i x d (y2 vs hq) hd)).mono L.ff L.ht fun _ _ h => h.elim⟩
    · exact ⟨vs, sqL_mono hh (L.ff.trans L.fh), by rw [l]; omega⟩
  | @tup k' A' a vs as' hh l c =>
    cases e
    refine .inr (.inl ⟨a, rfl, ⟨vs, hh⟩, q _ F1 H1 (GoC.refl S1.fh) S1 fun F' H' L i => ⟨fun d hd => ?_, fun hn0 => ?_⟩⟩)
    · have hq : SqT C.K H' a vs := sqT_mono hh L.ht
      obtain ⟨w, hw⟩ := get_of l hd
      refine ⟨⟨vs, _, hq, hw⟩, fun x H'' y => ?_⟩
      obtain ⟨y1, y2⟩ := y
      subst y1
      exact ⟨.inl rfl, (Rp.z (c i x d (y2 vs hq) hd)).mono L.ff L.ht fun _ _ h => h.elim⟩
    · exact ⟨vs, sqT_mono hh L.ht, by rw [l]; omega⟩
  | @str k' A' x =>
    cases e
    refine .inr (.inr ⟨x, rfl, q _ F1 H1 (GoC.refl S1.fh) S1 fun F' H' L i => ⟨fun d hd => ?_, fun hn0 => ?_⟩⟩)
    · unfold signsD at hd
      rw [List.getElem?_map] at hd
      cases hc : x.cps.toList[i]? with
      | none => rw [hc] at hd; cases hd
      | some cc =>
        rw [hc] at hd
        cases hd
        have hlt : i < x.cps.size := by
          have := (List.getElem?_eq_some_iff.mp hc).1
          simpa using this
        refine ⟨hlt, fun v H'' y => ?_⟩
        obtain ⟨y1, c2, y2, y3⟩ := y
        subst y1 y3
        have : c2 = cc := by
          have h3 : x.cps[i]? = some cc := by rw [← Array.getElem?_toList]; exact hc
          rw [h3] at y2; exact (Option.some.inj y2).symm
        subst this
        exact ⟨.inl rfl, .str⟩
    · have : (signsD x).length = x.cps.size := by unfold signsD; simp
      show x.cps.size ≤ i
      omega
  | _ => cases e
end
end GW
namespace GW
open PySem L2
/-- the i-th statement of a class -/
def clsItem : Stmt → Nat → Stmt
  | .ClassDef _ _ _ body .., i => body.getD i (.Pass ⟨0, 0, 0, 0⟩)
  | s, _ => s
end GW

/-! plain tools: places in lists, texts, comprehensions, ranges -/
namespace GW
open PySem L2 PyProof.Rows
/-! ### places -/
@[simp] theorem ixN_nat {n i : Nat} : ixN n (i : Int) = if i < n then some i else none := by
  unfold ixN
  rw [if_pos (by omega)]
  by_cases h : i < n
  · rw [if_pos (by omega), if_pos h]; simp
  · rw [if_neg (by omega), if_neg h]
@[simp] theorem atI_nat {α : Type} {l : List α} {i : Nat} : atI l (i : Int) = l[i]? := by
  unfold atI
  rw [ixN_nat]
  by_cases h : i < l.length
  · rw [if_pos h]; rfl
  · rw [if_neg h, List.getElem?_eq_none (by omega)]; rfl
theorem atI_of {α : Type} {l : List α} {i : Int} (h0 : 0 ≤ i) : atI l i = l[i.toNat]? := by
  obtain ⟨k, rfl⟩ := Int.eq_ofNat_of_zero_le h0
  rw [atI_nat]; rfl
theorem atI_ok {α : Type} {l : List α} {i : Int} (h0 : 0 ≤ i) (h1 : i < l.length) : ∃ a, atI l i = some a ∧ l[i.toNat]? = some a ∧ a ∈ l := by
  rw [atI_of h0]
  have hl : i.toNat < l.length := by omega
  exact ⟨l[i.toNat], by simp [hl], by simp [hl], List.getElem_mem hl⟩
/-! ### ranges -/
theorem rng_len {lo : Int} {n : Nat} : (rngD lo n).length = n := by unfold rngD; simp
theorem rng_get {lo : Int} {n i : Nat} {d : D} (h : (rngD lo n)[i]? = some d) : d = .int (lo + i) ∧ i < n := by
  have hl := (List.getElem?_eq_some_iff.mp h).1
  rw [rng_len] at hl
  unfold rngD at h
  rw [List.getElem?_map, List.getElem?_range hl] at h
  cases h; exact ⟨rfl, hl⟩
theorem r62_nat {n : Nat} (h : n < 4611686018427387904) : r62 (n : Int) = true := r62_of ⟨by omega, by omega⟩
/-- a for over range(n): P ahead of turn i -/
theorem forR_inv {tg : Tg} {body : MS} {N : Nat} (P : Nat → Int → DS → Prop)
    (step : ∀ (i : Nat) n ds, i < N → P i n ds → ∃ ds1, tg.bind (.int i) ds = some ds1 ∧ ∃ n' ds', body n ds1 = some (.nx, n', ds') ∧ P (i + 1) n' ds') {n : Int} {ds : DS} (h : P 0 n ds) : ∃ n' ds', forL tg body (rngD 0 N) n ds = some (.nx, n', ds') ∧ P N n' ds' := by
  obtain ⟨n', ds', h1, h2⟩ := forL_inv (tg := tg) (body := body) (as := rngD 0 N) P (fun i d n ds hi hp => by
    obtain ⟨rfl, hl⟩ := rng_get hi
    rw [Int.zero_add]
    exact step i n ds hl hp) h
  exact ⟨n', ds', h1, by rw [rng_len] at h2; exact h2⟩
/-- a for over a list's items -/
theorem forM_inv {α : Type} {tg : Tg} {body : MS} {f : α → D} {l : List α} (P : Nat → Int → DS → Prop)
    (step : ∀ (i : Nat) a n ds, l[i]? = some a → P i n ds → ∃ ds1, tg.bind (f a) ds = some ds1 ∧ ∃ n' ds', body n ds1 = some (.nx, n', ds') ∧ P (i + 1) n' ds') {n : Int} {ds : DS} (h : P 0 n ds) : ∃ n' ds', forL tg body (l.map f) n ds = some (.nx, n', ds') ∧ P l.length n' ds' := by
  obtain ⟨n', ds', h1, h2⟩ := forL_inv (tg := tg) (body := body) (as := l.map f) P (fun i d n ds hi hp => by
    rw [List.getElem?_map] at hi
    cases e : l[i]? with
    | none => rw [e] at hi; cases hi
    | some a => rw [e] at hi; cases hi; exact step i a n ds e hp) h
  exact ⟨n', ds', h1, by rw [List.length_map] at h2; exact h2⟩
/-! ### comprehensions -/
theorem compL_cnt {tg : Tg} {me : M} {vs : List Nat} {ds : DS} (c : Nat) (Q : D → Prop) (N : Int) : ∀ (as : List D) (step : ∀ d n, d ∈ as → 0 ≤ n → n + c ≤ N → ∃ ds1 y, tg.bind d (wipeD ds vs) = some ds1 ∧ me n ds1 = some (.ok y, n + c) ∧ Q y) (n : Int), 0 ≤ n → n + c * as.length ≤ N →
    ∃ ys, compL tg mYes me vs as n ds = some (.ok ys, n + c * as.length) ∧ ys.length = as.length ∧ ∀ y ∈ ys, Q y
  | [], _, n, _, _ => ⟨[], by simp [compL, ret], rfl, fun y h => by cases h⟩
  | d :: r, step, n, h0, hN => by
    rw [List.length_cons] at hN
    have e1 : (c : Int) * ((r.length + 1 : Nat) : Int) = c * (r.length : Int) + c := by
      rw [Int.natCast_add, Int.mul_add]; simp
    rw [e1] at hN
    have hnn : 0 ≤ (c : Int) * (r.length : Int) := Int.mul_nonneg (by omega) (by omega)
    obtain ⟨ds1, y, h1, h2, h3⟩ := step d n List.mem_cons_self h0 (by omega)
    obtain ⟨ys, h4, h5, h6⟩ := compL_cnt c Q N r (fun d n hd => step d n (List.mem_cons_of_mem _ hd)) (n + c) (by omega) (by omega)
    refine ⟨y :: ys, ?_, by simp [h5], fun z hz => ?_⟩
    · unfold compL
      simp only [h1, ev_yes, h2, h4]
      have e2 : n + (c : Int) + c * (r.length : Int) = n + c * ((r.length + 1 : Nat) : Int) := by rw [e1]; omega
      rw [List.length_cons, e2]
    · rcases List.mem_cons.mp hz with rfl | hz
      · exact h3
      · exact h6 z hz
/-- an item for each, the count as it was -/
theorem compL_map {α : Type} {tg : Tg} {me : M} {vs : List Nat} {ds : DS} {n : Int} (f : α → D) (g : α → D) : ∀ (l : List α), (∀ a ∈ l, ∃ ds1, tg.bind (f a) (wipeD ds vs) = some ds1 ∧ me n ds1 = some (.ok (g a), n)) → compL tg mYes me vs (l.map f) n ds = some (.ok (l.map g), n)
  | [], _ => rfl
  | a :: r, h => by
    obtain ⟨ds1, h1, h2⟩ := h a List.mem_cons_self
    have h3 := compL_map f g r fun b hb => h b (List.mem_cons_of_mem _ hb)
    show compL tg mYes me vs (f a :: r.map f) n ds = _
    unfold compL
    simp only [h1, ev_yes, h2, h3, List.map_cons]
theorem lc_of_comp {mi : Mo (List D)} {tg : Tg} {tt : Mo Bool} {me : M} {vs : List Nat} {n n1 n2 : Int} {ds : DS} {as ys : List D} (h1 : mi n ds = some (.ok as, n1)) (h2 : compL tg tt me vs as n1 ds = some (.ok ys, n2)) (h3 : as.length ≤ 16777215) : mLc mi tg tt me vs n ds = some (.ok (.lst ys), n2) := by
  unfold mLc
  simp only [ev_mb, h1, h2, if_pos h3, ev_ret]
/-! ### texts -/
abbrev tx (l : List Nat) : Str := ⟨l.toArray⟩
theorem tx_inj {a b : List Nat} : tx a = tx b ↔ a = b := by
  constructor
  · intro h
    have := congrArg (fun s : Str => s.cps.toList) h
    simpa using this
  · rintro rfl; rfl
@[simp] theorem tx_len {l : List Nat} : (tx l).length = l.length := by
  show (l.toArray).size = _
  simp
theorem tx_app {a b : List Nat} : tx a ++ tx b = tx (a ++ b) := by
  show (⟨a.toArray ++ b.toArray⟩ : Str) = _
  simp
@[simp] theorem tx_cps {l : List Nat} : (tx l).cps.toList = l := by simp
@[simp] theorem tx_signs {l : List Nat} : signsD (tx l) = l.map fun c => .str (tx [c]) := by
  unfold signsD; simp
theorem ov_addS {a b : List Nat} (h : a.length + b.length ≤ 16777216) : oAdd (.str (tx a)) (.str (tx b)) = some (.str (tx (a ++ b))) := by
  show (if (tx a).length + (tx b).length ≤ sizeLine then some (D.str (tx a ++ tx b)) else none) = _
  rw [tx_len, tx_len, sizeLine_eq, if_pos h, tx_app]
theorem ov_ixS {l : List Nat} {i : Int} (h : l.length ≤ 16777216) : oIx (.str (tx l)) (.int i) = (atI l i).map fun c => .str (tx [c]) := by
  show (if (tx l).length ≤ sizeLine then (atI (tx l).cps.toList i).map _ else none) = _
  rw [tx_len, sizeLine_eq, if_pos h, tx_cps]
theorem ov_lenS {l : List Nat} (h : l.length ≤ 16777216) : oLen [.str (tx l)] = some (.int l.length) := by
  show (if (tx l).length ≤ sizeLine then some (D.int (tx l).length) else none) = _
  rw [tx_len, sizeLine_eq, if_pos h]
@[simp] theorem ov_eqS {x y : Str} : oEq (.str x) (.str y) = some (.bl (decide (x = y))) := by
  show (if scal (V.str x) (V.str y) = true then some (D.bl (decide (V.str x = V.str y))) else none) = _
  rw [if_pos (by rfl)]
  congr 2
  simp
@[simp] theorem ov_neS {x y : Str} : oNe (.str x) (.str y) = some (.bl (!decide (x = y))) := by
  show (if scal (V.str x) (V.str y) = true then some (D.bl (!decide (V.str x = V.str y))) else none) = _
  rw [if_pos (by rfl)]
  congr 2
  simp
@[simp] theorem ov_ord {c : Nat} : oOrd [.str (tx [c])] = some (.int c) := by
  show (if (tx [c]).length = 1 then some (D.int ((tx [c]).cps.getD 0 0 : Nat)) else none) = _
  rw [tx_len, if_pos (by rfl)]
  rfl
@[simp] theorem ov_inS {neg : Bool} {c : Nat} {l : List Nat} : oInS neg (.str (tx [c])) (.str (tx l)) = some (.bl (neg ^^ decide (c ∈ l))) := by
  show (if (tx [c]).cps.size = 1 then some (D.bl (neg ^^ decide ((tx [c]).cps.getD 0 0 ∈ (tx l).cps.toList))) else none) = _
  rw [if_pos (by simp), tx_cps]
  rfl
/-! ### dicts -/
theorem valD_put (kds : List (Key × D)) (k j : Key) (v : D) : valD (putKD kds k v) j = if j = k then some v else valD kds j := by
  unfold valD putKD
  by_cases h : (kds.any fun kv => decide (kv.1 = k)) = true
  · rw [if_pos h]
    induction kds with
    | nil => simp at h
    | cons p r ih =>
      rw [List.map_cons, List.find?_cons, List.find?_cons]
      by_cases hp : p.1 = k
      · rw [if_pos hp]
        by_cases hj : j = k
        · subst hj; simp [hp]
        · have h1 : decide (p.1 = j) = false := decide_eq_false fun z => hj (z.symm.trans hp)
          simp only [h1, if_neg hj]
          by_cases hr : (r.any fun kv => decide (kv.1 = k)) = true
          · have := ih hr
            rw [if_neg hj] at this; exact this
          · have hm : (r.map fun kv => if kv.1 = k then (kv.1, v) else kv) = r := by
              refine (List.map_congr_left (g := id) fun x hx => ?_).trans (List.map_id r)
              show (if x.1 = k then (x.1, v) else x) = x
              rw [if_neg]
              intro z
              exact hr (List.any_eq_true.mpr ⟨x, hx, decide_eq_true z⟩)
            rw [hm]
      · rw [if_neg hp]
        have hr : (r.any fun kv => decide (kv.1 = k)) = true := by
          rw [List.any_cons] at h
          simpa [hp] using h
        by_cases hpj : p.1 = j
        · have : j ≠ k := fun z => hp (hpj.trans z)
          simp [hpj, this]
        · simp only [decide_eq_false hpj]
          exact ih hr
  · rw [if_neg h, List.find?_append]
    by_cases hj : j = k
    · subst hj
      have : kds.find? (fun kv => decide (kv.1 = j)) = none := by
        rw [List.find?_eq_none]
        intro x hx z
        exact h (List.any_eq_true.mpr ⟨x, hx, z⟩)
      rw [this]
      simp
    · rw [if_neg hj]
      cases hf : kds.find? (fun kv => decide (kv.1 = j)) with
      | some x => simp
      | none => simp [List.find?_cons, Ne.symm hj]
/-! ### fields -/
abbrev fl (x : String) (d : D) : Str × D := (Str.ofString x, d)
theorem oFld_eq {C : Addr} {f : Str} {fs : List (Str × D)} : oFld C f (.obj C fs) = fs.lookup f := by
  unfold oFld; simp
theorem setF_of {m : M} {C : Addr} {f : Str} {n n1 : Int} {d : D} {fds : List (Str × D)} {r : DS} (h : m n (some (.obj C fds) :: r) = some (.ok d, n1)) (hl : fds.length < 1000) : sSetF 0 m C f n (some (.obj C fds) :: r) = some (.nx, n1, some (.obj C (putD f d fds)) :: r) := by
  unfold sSetF
  refine E_ok h ?_
  simp [hl]
/-- a list or a tuple -/
def seqD (b : Bool) (ds : List D) : D := match b with | true => .tup ds | false => .lst ds
@[simp] theorem len_seq {b : Bool} {ds : List D} : oLen [seqD b ds] = some (.int ds.length) := by cases b <;> rfl
@[simp] theorem items_seq {b : Bool} {ds : List D} : itemsD (seqD b ds) = some ds := by cases b <;> rfl
@[simp] theorem zipD_map {α β : Type} {f : α → D} {g : β → D} : ∀ {a : List α} {b : List β}, zipD (a.map f) (b.map g) = (a.zip b).map fun p => .tup [f p.1, g p.2]
  | [], _ => by simp [zipD]
  | _ :: _, [] => by simp [zipD]
  | x :: a, y :: b => by simp [zipD, zipD_map (a := a) (b := b)]
/-! ### changes, reckoned -/
theorem ext_of {i : Nat} {m : M} {n n1 : Int} {ds : DS} {as bs : List D} (hd : ds[i]? = some (some (.lst as))) (hm : m n ds = some (.ok (.lst bs), n1)) (hl : as.length + bs.length ≤ 16777216) : sExt i (mPN i) m n ds = some (.nx, n1, ds.set i (some (.lst (as ++ bs)))) := by
  unfold sExt
  refine E_ok (a := Pth.nil) (n1 := n) (by simp [mPN, conAt, hd, getP, isCon]) ?_
  simp only [hd, getP]
  refine E_ok hm ?_
  simp [hl, setP]
theorem app_of {i : Nat} {m : M} {n n1 : Int} {ds : DS} {as : List D} {d : D} (hd : ds[i]? = some (some (.lst as))) (hm : m n ds = some (.ok d, n1)) (hl : as.length < 16777216) : sApp i m n ds = some (.nx, n1, ds.set i (some (.lst (as ++ [d])))) := by
  unfold sApp
  simp only [hd]
  refine E_ok hm ?_
  simp [hl]
theorem setK_of {i : Nat} {m mj : M} {n n1 n2 : Int} {ds : DS} {kds : List (Key × D)} {d z : D} {key : Key} (hm : m n ds = some (.ok d, n1)) (hd : ds[i]? = some (some (.dct kds))) (hj : mj n1 ds = some (.ok z, n2)) (hk : keyD z = some key) (hl : kds.length < 16777216) : sSetK i m (mPN i) mj n ds = some (.nx, n2, ds.set i (some (.dct (putKD kds key d)))) := by
  unfold sSetK
  refine E_ok hm (E_ok (a := Pth.nil) (n1 := n1) (by simp [mPN, conAt, hd, getP, isCon]) (E_ok hj ?_))
  simp [hk, hd, getP, hl, setP]
theorem setKF_of {m mj : M} {n n1 n2 : Int} {C : Addr} {f : Str} {fds : List (Str × D)} {r : DS} {kds : List (Key × D)} {d z : D} {key : Key} (hm : m n (some (.obj C fds) :: r) = some (.ok d, n1)) (hf : fds.lookup f = some (.dct kds)) (hj : mj n1 (some (.obj C fds) :: r) = some (.ok z, n2)) (hk : keyD z = some key) (hl : kds.length < 16777216) : sSetK 0 m (mPF 0 C f) mj n (some (.obj C fds) :: r) = some (.nx, n2, some (.obj C (putD f (.dct (putKD kds key d)) fds)) :: r) := by
  unfold sSetK
  refine E_ok hm (E_ok (a := Pth.fd f) (n1 := n1) (by simp [mPF, conAt, getP, hf, isCon]) (E_ok hj ?_))
  simp [hk, getP, hf, hl, setP]
theorem setI_of {i : Nat} {m mk mj : M} {n n1 n2 n3 : Int} {ds : DS} {as row : List D} {d : D} {k j : Nat} (hm : m n ds = some (.ok d, n1)) (hd : ds[i]? = some (some (.lst as))) (hk : mk n1 ds = some (.ok (.int (k : Int)), n2)) (hr : as[k]? = some (.lst row)) (hj : mj n2 ds = some (.ok (.int (j : Int)), n3)) (hl : j < row.length) : sSetI i m (mPI i mk) mj n ds = some (.nx, n3, ds.set i (some (.lst (as.set k (.lst (row.set j d)))))) := by
  have hkl := (List.getElem?_eq_some_iff.mp hr).1
  unfold sSetI
  refine E_ok hm (E_ok (a := Pth.ix k) (n1 := n2) ?_ (E_ok hj ?_))
  · unfold mPI
    simp only [hd, ev_mb, hk]
    have hg : as[k] = D.lst row := (List.getElem?_eq_some_iff.mp hr).2
    simp [hkl, conAt, hd, getP, hg, isCon]
  · have hg : as[k] = D.lst row := (List.getElem?_eq_some_iff.mp hr).2
    simp [hd, getP, hkl, hg, hl, setP]
theorem setI1_of {i : Nat} {m mj : M} {n n1 n2 : Int} {ds : DS} {as : List D} {d : D} {j : Nat} (hm : m n ds = some (.ok d, n1)) (hd : ds[i]? = some (some (.lst as))) (hj : mj n1 ds = some (.ok (.int (j : Int)), n2)) (hl : j < as.length) : sSetI i m (mPN i) mj n ds = some (.nx, n2, ds.set i (some (.lst (as.set j d)))) := by
  unfold sSetI
  refine E_ok hm (E_ok (a := Pth.nil) (n1 := n1) (by simp [mPN, conAt, hd, getP, isCon]) (E_ok hj ?_))
  simp [hd, getP, hl, setP]
end GW

namespace GW
open PySem L2 PyProof.Rows
/-! ### an error that is caught: known from then on -/
section
variable {X : Cx} {pins : List (Addr × Obj)} {σ : L2.St} {H : Hp} {s : Shared}
theorem Inv_track {a C : Addr} {d : Option Addr} {oe : Obj} {vs : Array Value} (I : Inv X pins σ H s) (ha : s.heap.get? a = some oe) (hz : Zc (.ref C) d oe) (hd : oe.data = .fields vs) (na : H a = none) (n0 : X.s_0.heap.get? a = none) (nL : a ≠ X.env.locals) (np : ∀ p ∈ X.pn ++ pins, p.1 ≠ a) :
    Inv X pins σ (upd H a (ErO C d a)) s := by
  have old : ∀ b u, H b = some u → upd H a (ErO C d a) b = some u := fun b u e => by rw [upd_ne (ne_of_none e na)]; exact e
  refine ⟨I.ok, I.os, I.bare, ⟨I.base.keep, I.base.slot, fun b o e n hx => ?_, I.base.there, fun b xs e => old _ _ (I.base.tups b xs e), fun b o u e => old _ _ (I.base.frzs b o u e), fun b ps e => ?_⟩, I.loc, I.cell, ?_, fun x c e => ?_, fun p hp => ?_, ?_, I.len⟩
  · rw [upd_ne fun z => by rw [z, n0] at e; cases e]
    exact I.base.free b o e n hx
  · obtain ⟨m, z⟩ := I.base.tbls b ps e
    exact ⟨m, old _ _ z⟩
  · rw [upd_ne (Ne.symm nL)]; exact I.free
  · rw [upd_ne fun z => ?_]
    · exact I.freeC x c e
    · obtain ⟨v, o, h1, h2⟩ := I.cell x c e
      rw [z, ha] at h1
      cases h1
      rw [hd] at h2
      cases h2
  · obtain ⟨h1, h2, h3⟩ := I.pin p hp
    exact ⟨h1, by rw [upd_ne (np p hp)]; exact h2, h3⟩
  · exact HOk.laidN I.hok (fun _ _ e => e) na ⟨⟨oe, vs, ha, hz, hd⟩, ⟨oe, ha⟩, fun h1 h2 ⟨o, v, q, r⟩ k => ⟨o, v, k o q, r⟩⟩
theorem Inv_suite {a : Addr} (I : Inv X pins σ H s) : Inv (X.suite a (X.pn ++ pins)) [] σ H s :=
  ⟨I.ok.suite _ _, I.os, I.bare, I.base, I.loc, I.cell, I.free, I.freeC, fun p hp => I.pin p (by rw [List.append_nil] at hp; exact hp), I.hok, I.len⟩
theorem Inv_unsuite {a : Addr} {pn' : List (Addr × Obj)} (I : Inv (X.suite a (X.pn ++ pins)) pn' σ H s) (ok : X.Ok) : Inv X pins σ H s :=
  ⟨ok, I.os, I.bare, I.base, I.loc, I.cell, I.free, I.freeC, fun p hp => I.pin p (List.mem_append_left _ hp), I.hok, I.len⟩
end
/-- the name of an except clause goes at its suite's end -/
def unE (i : Nat) (D : Ends) : Ends := { nx := fun σ' H' => D.nx (σ'.set i none) H', rt := D.rt, bk := fun σ' H' => D.bk (σ'.set i none) H', ct := fun σ' H' => D.ct (σ'.set i none) H' }
abbrev Hd := Value × Option Nat × TS
/-- what the clauses wish of an error of the body -/
def wT (K : PySem.W.Frag) (Wout : WX) (D : Ends) : List Hd → WX
  | [] => Wout
  | (c, none, ts) :: r => fun cls d σ H => ∃ b, PySem.W.exmOne K cls c = some b ∧ (b = true → ts D σ H) ∧ (b = false → wT K Wout D r cls d σ H)
  | (c, some i, ts) :: r => fun cls d σ H => ∃ b, PySem.W.exmOne K cls c = some b ∧ (b = true → ∃ C, cls = .ref C ∧ ∀ a, H a = none → ts (unE i D) (σ.set i (some (.ref a))) (upd H a (ErO C d a))) ∧ (b = false → wT K Wout D r cls d σ H)
inductive HdsT (X : Cx) : List ExceptHandler → List Hd → Prop
  | nil : HdsT X [] []
  | plain {x : Str} {c : Value} {ts : TS} {b₀ : Stmt} {suite : List Stmt} {np pos' : Pos} {hds : List ExceptHandler} {l : List Hd} (hc : Names X x c) (hsu : ∀ (a : Addr) (pn : List (Addr × Obj)), PSs (X.suite a pn) (b₀ :: suite) ts) (r : HdsT X hds l) :
      HdsT X (.ExceptHandler (some (.Name x np)) none (b₀ :: suite) pos' :: hds) ((c, none, ts) :: l)
  | named {x n : Str} {i : Nat} {c : Value} {ts : TS} {b₀ : Stmt} {suite : List Stmt} {np pos' : Pos} {hds : List ExceptHandler} {l : List Hd} (hi : X.N[i]? = some n) (hln : X.env.kindOf n = some .local) (hc : Names X x c) (hsu : ∀ (a : Addr) (pn : List (Addr × Obj)), PSs (X.suite a pn) (b₀ :: suite) ts) (r : HdsT X hds l) :
      HdsT X (.ExceptHandler (some (.Name x np)) (some n) (b₀ :: suite) pos' :: hds) ((c, some i, ts) :: l)
section
variable {X : Cx} {body : List Stmt} {h₀ : ExceptHandler} {hds : List ExceptHandler} {l : List Hd} {pos : Pos} {tb : WX → TS} {Wout : WX}
theorem ps_tryT (hs : X.stack = X.env :: X.outer) (hf : X.env.frame = some X.env.locals) (hex : X.ex = []) (hN : X.N.Nodup) (tk : Takes X Wout)
    (hb : ∀ (W : WX) (pn : List (Addr × Obj)) (xe : Value → Shared → Prop), Takes (X.tr pn xe) W → PassesOwn (model X.prog X.w) X.A X.env xe → PSs (X.tr pn xe) body (tb W))
    (hh : HdsT X (h₀ :: hds) l) : PS X (.Try body (h₀ :: hds) [] [] pos) (fun D σ H => tb (wT X.K Wout D l) D σ H) := by
  refine ⟨fun pins s σ H D I h => ?_⟩
  have ok := I.ok
  have hfr : X.A.frames = some (X.env :: X.outer) := by rw [ok.frames, hs]
  refine wpAny_Try_except ?_
  refine wpAny_mono ((hb (wT X.K Wout D l) (X.pn ++ pins) (fun e s₁ => wpAny (model X.prog X.w) X.A (noteFrame e X.env) (fun _ s₂ => wpAny (model X.prog X.w) X.A (setFlight e none) (fun _ s₃ =>
    wpAny (model X.prog X.w) X.A (handleBy e X.env (h₀ :: hds)) (SP X pins D) X.xe s₃) X.xe s₂) X.xe s₁) (fun u s' xx => ?_) PassesOwn.looking).run [] s σ H D (I.toTry _) h) (fun f s1 hsp => ?_) (fun e s1 he => he)
  · obtain ⟨a, B, sI, pins', σ', H', cls, d, rfl, J', nb, up, sky, na, os, ag, w⟩ := xx
    have J : Inv X pins σ' H' sI := J'.ofTry ok
    have sky' : Sky B (X.env :: X.outer) a (Zc cls d) X.env.locals s'.heap := by rw [← hs]; exact sky
    show wpAny (model X.prog X.w) X.A (noteFrame (.ref a) X.env) _ _ _
    refine Sky.land Zc.steady hfr hf sky' fun h3 fl3 up3 => ?_
    have J3 : Inv X pins σ' H' { s' with heap := h3 } := J.landed nb fl3.1 (up.trans up3) os ag
    obtain ⟨oe3, vs3, he3, hz3, hd3⟩ := fl3.there
    have nfr : a ∉ frs (X.env :: X.outer) := fun hm => by
      obtain ⟨_, o', e', hnf⟩ := fl3.2.2.1.mem hm
      rw [he3] at e'; cases e'
      exact hnf _ hd3
    have nL : a ≠ X.env.locals := fun z => nfr (List.mem_filterMap.mpr ⟨X.env, List.mem_cons_self, by rw [hf, z]⟩)
    have nF : a ∉ X.fs := fun hm => by
      obtain ⟨e, he, q⟩ := List.mem_filterMap.mp hm
      exact nfr (List.mem_filterMap.mpr ⟨e, List.mem_cons_of_mem _ he, q⟩)
    have nI : sI.heap.get? a = none := by
      cases e : sI.heap.get? a with
      | none => rfl
      | some o =>
        have := nb a o e (by rw [hs]; exact nfr)
        rw [fl3.2.1] at this; cases this
    have n0 : X.s_0.heap.get? a = none := by
      cases e : X.s_0.heap.get? a with
      | none => rfl
      | some o =>
        obtain ⟨o', z⟩ := J.base.there a o e (by rw [hex]; exact fun z => nomatch z)
        rw [nI] at z; cases z
    have np : ∀ p ∈ X.pn ++ pins, p.1 ≠ a := fun p hp z => by
      have := (J.pin p hp).1
      rw [z, nI] at this; cases this
    have S3 := J3.suite he3 hd3 na nL nF
    have go : ∀ {hds' : List ExceptHandler} {l' : List Hd}, HdsT X hds' l' → wT X.K Wout D l' cls d σ' H' → wpAny (model X.prog X.w) X.A (handleBy (.ref a) X.env hds') (SP X pins D) X.xe { s' with heap := h3 } := by
      have test : ∀ {x : Str} {c : Value} {np : Pos} {Q : Value → Shared → Prop} {E : Value → Shared → Prop}, Names X x c → Q c { s' with heap := h3 } → wpAny (model X.prog X.w) (X.A.mark (some (.ref a))) (eval (.Name x np) X.env) Q E { s' with heap := h3 } := fun {x c np Q E} hc q => by
        obtain ⟨hg, hdbg, hm | ⟨hm, hv, hnn⟩⟩ := hc
        · exact ld_glob (X := X.suite a ((a, oe3) :: (X.pn ++ pins))) S3 hg hm q hdbg
        · exact ld_blt (X := X.suite a ((a, oe3) :: (X.pn ++ pins))) S3 hg hm hv q hnn hdbg
      have LT : PySem.W.Looks (model X.prog X.w) h3 (typeOf (.ref a)) cls := fun A Q E s k q => wpAny_typeOf_ref (k _ _ he3) (by rw [hz3.1]; exact q)
      intro hds' l' hk
      induction hk with
      | nil =>
        intro w
        refine wpAny_handleBy_nil ?_
        obtain ⟨k1, k2, k3, oe, vs, T, oT, ts', he, hz, hd, h1, hr⟩ := id fl3
        unfold PySem.passOn
        refine wpAny_bind (wpAny_field he hd h1 ?_)
        rw [if_neg (show ¬ ((Value.ref T == Value.none) = true) from by simp)]
        have fin : wpAny (model X.prog X.w) X.A (setFlight (.ref a) X.env.frame) (fun _ s4 => wpAny (model X.prog X.w) X.A (throw (.ref a) : Sem Flow) (SP X pins D) X.xe s4) X.xe { s' with heap := h3 } := by
          rw [hf]
          refine HandSPX.setFlight_upZ fl3 fun h4 hh4 up4 => wpAny_throw (tk _ _ ?_)
          exact ⟨a, B, sI, pins, σ', H', cls, d, rfl, J, nb, (up.trans up3).trans up4, .inr (.inr (by rw [hs]; exact hh4)), na, os, ag, w⟩
        first
          | exact wpAny_bind (wpAny_pure (wpAny_bind fin))
          | exact wpAny_bind fin
      | @plain x c ts b₀ suite np2 pos' hds2 l2 hc hsu r ih =>
        intro w
        obtain ⟨b, hb1, hyes, hno⟩ := w
        refine wpAny_handleBy_cons (codeAny_handlers_test ?_) (by intro q; cases q)
        refine test hc ((PySem.W.exm_one (M := model X.prog X.w) (J3.kIn) LT hb1).here ?_)
        cases b with
        | true =>
          refine codeAny_handlers_suite ?_
          refine HandSPX.lands_againZ fl3 fun h4 fl4 up4 => ?_
          have J4 : Inv X pins σ' H' { s' with heap := h4 } := J.landed nb fl4.1 ((up.trans up3).trans up4) os ag
          refine wpAny_mono ((hsu a (X.pn ++ pins)).run [] _ _ H' _ (Inv_suite J4) (hyes rfl)) (fun f s6 hsp => ?_) (fun _ _ z => False.elim z)
          cases f with
          | ret u =>
            obtain ⟨v6, σ6, H6, S6, r6, q6⟩ := hsp
            exact ⟨_, _, _, Inv_unsuite S6 ok, r6, q6⟩
          | _ =>
            obtain ⟨σ6, H6, S6, q6⟩ := hsp
            exact ⟨_, _, Inv_unsuite S6 ok, q6⟩
        | false => exact ih (hno rfl)
      | @named x n i c ts b₀ suite np2 pos' hds2 l2 hi hln hc hsu r ih =>
        intro w
        obtain ⟨b, hb1, hyes, hno⟩ := w
        refine wpAny_handleBy_cons (codeAny_handlers_test ?_) (by intro q; cases q)
        refine test hc ((PySem.W.exm_one (M := model X.prog X.w) (J3.kIn) LT hb1).here ?_)
        cases b with
        | true =>
          obtain ⟨C, rfl, hy2⟩ := hyes rfl
          refine codeAny_handlers_suite_as ?_
          refine HandSPX.lands_againZ fl3 fun h4 fl4 up4 => ?_
          have J4 : Inv X pins σ' H' { s' with heap := h4 } := J.landed nb fl4.1 ((up.trans up3).trans up4) os ag
          obtain ⟨oe4, vs4, he4, hz4, hd4⟩ := fl4.there
          have T4 := Inv_suite (a := a) (Inv_track J4 he4 hz4 hd4 na n0 nL np)
          refine store_ok (X := X.suite a (X.pn ++ pins)) (v := .ref a) T4 hN hi (.inl hln) rfl (fun s5 S5 => ?_) (.inr hln)
          refine wpAny_mono ((hsu a (X.pn ++ pins)).run [] s5 _ _ _ S5 (hy2 a na)) (fun f s6 hsp => ?_) (fun _ _ z => False.elim z)
          have end_ : ∀ {σ6 : L2.St} {H6 : Hp} {Q : Shared → Prop}, Inv (X.suite a (X.pn ++ pins)) [] σ6 H6 s6 → (∀ s7, Inv X pins (σ6.set i none) H6 s7 → Q s7) →
              wpAny (model X.prog X.w) X.A (do bindName X.env n .none; unbindBehindTheSuite X.env n pos') (fun _ s7 => Q s7) X.xe s6 := fun {σ6 H6 Q} S6 hq => gone_ok (Inv_unsuite S6 ok) hN hi hln hq
          cases f with
          | next =>
            obtain ⟨σ6, H6, S6, q6⟩ := hsp
            exact end_ S6 fun s7 J7 => ⟨_, _, J7, q6⟩
          | brk =>
            obtain ⟨σ6, H6, S6, q6⟩ := hsp
            exact end_ S6 fun s7 J7 => ⟨_, _, J7, q6⟩
          | cont =>
            obtain ⟨σ6, H6, S6, q6⟩ := hsp
            exact end_ S6 fun s7 J7 => ⟨_, _, J7, q6⟩
          | ret u =>
            obtain ⟨v6, σ6, H6, S6, r6, q6⟩ := hsp
            exact end_ S6 fun s7 J7 => ⟨_, _, _, J7, r6, q6⟩
        | false => exact ih (hno rfl)
    exact go hh w
  · cases f with
    | next =>
      obtain ⟨σ', H', J', q⟩ := hsp
      exact wpAny_execs_nil ⟨σ', H', J'.ofTry ok, q⟩
    | brk =>
      obtain ⟨σ', H', J', q⟩ := hsp
      exact ⟨σ', H', J'.ofTry ok, q⟩
    | cont =>
      obtain ⟨σ', H', J', q⟩ := hsp
      exact ⟨σ', H', J'.ofTry ok, q⟩
    | ret u =>
      obtain ⟨v, σ', H', J', r, q⟩ := hsp
      exact ⟨v, σ', H', J'.ofTry ok, r, q⟩
end
end GW

namespace GW
open PySem L2 PyProof.Rows
/-! ### the program's own errors: facts -/
def esub (c k : Nat) : Bool := c == k || k == 0
structure ExF (K : PySem.W.Frag) (C : Addr) : Prop where
  cl : (PySem.W.clsIn K C).isSome = true
  ga : PySem.W.findIn K (.ref C) "__getattribute__" = some (some (.builtin "BaseException.__getattribute__"))
  gg : PySem.W.findIn K (.ref C) "__getattr__" = some none
  sb : PySem.W.subIn K (.ref C) (.type "BaseException") = some true
  hd : PySem.W.hasDictIn K C = true
  ha : PySem.W.findIn K (.ref C) "__class__" = some (some (.builtin "object.__class__"))
  hn : PySem.W.specialIn K (.builtin "object.__class__") "__get__" = some (some (.builtin "getset_descriptor.__get__"))
  ht : PySem.W.takesIn K (.builtin "object.__class__") = some true
  hm : PySem.W.mroIn K C (.type "object") = some true
  ty : PySem.W.typeIn K (.ref C) = some (.type "type")
  kp : PySem.W.keepIn K (.ref C) = true
def exFB (K : PySem.W.Frag) (C : Addr) : Bool := [(PySem.W.clsIn K C).isSome,
  decide (PySem.W.findIn K (.ref C) "__getattribute__" = some (some (.builtin "BaseException.__getattribute__"))),
  decide (PySem.W.findIn K (.ref C) "__getattr__" = some none),
  decide (PySem.W.subIn K (.ref C) (.type "BaseException") = some true),
  PySem.W.hasDictIn K C,
  decide (PySem.W.findIn K (.ref C) "__class__" = some (some (.builtin "object.__class__"))),
  decide (PySem.W.specialIn K (.builtin "object.__class__") "__get__" = some (some (.builtin "getset_descriptor.__get__"))),
  decide (PySem.W.takesIn K (.builtin "object.__class__") = some true),
  decide (PySem.W.mroIn K C (.type "object") = some true),
  decide (PySem.W.typeIn K (.ref C) = some (.type "type")),
  PySem.W.keepIn K (.ref C)].all id
theorem exFB_ok {K : PySem.W.Frag} {C : Addr} (h : exFB K C = true) : ExF K C := by
  unfold exFB at h
  simp only [List.all_cons, List.all_nil, id, Bool.and_true, Bool.and_eq_true, decide_eq_true_eq] at h
  obtain ⟨h1, h2, h3, h4, h5, h6, h7, h8, h9, h10, h11⟩ := h
  exact ⟨h1, h2, h3, h4, h5, h6, h7, h8, h9, h10, h11⟩
def fldN : List Str := ["row", "place", "at", "line"]
/-- the errors us: what is known of each, of each two -/
structure EFs (K : PySem.W.Frag) (us : List Nat) : Prop where
  ex : ∀ k ∈ us, ExF K (ec K k)
  sub : ∀ k ∈ us, ∀ j ∈ us, PySem.W.kitOne K (.ref (ec K k)) (.ref (ec K j)) = some (esub k j)
  exm : ∀ k ∈ us, ∀ j ∈ us, PySem.W.exmOne K (.ref (ec K k)) (.ref (ec K j)) = some (esub k j)
  ve : ∀ k ∈ us, PySem.W.kitOne K (.ref (ec K k)) (.type "ValueError") = some true
  no : ∀ k ∈ us, ∀ f ∈ fldN, PySem.W.findIn K (.ref (ec K k)) f = some none
def efB (us : List Nat) (K : PySem.W.Frag) : Bool := (us.all fun k => exFB K (ec K k)) && ((us.all fun k => us.all fun j => decide (PySem.W.kitOne K (.ref (ec K k)) (.ref (ec K j)) = some (esub k j))) && ((us.all fun k => us.all fun j => decide (PySem.W.exmOne K (.ref (ec K k)) (.ref (ec K j)) = some (esub k j))) && ((us.all fun k => decide (PySem.W.kitOne K (.ref (ec K k)) (.type "ValueError") = some true)) && us.all fun k => fldN.all fun f => decide (PySem.W.findIn K (.ref (ec K k)) f = some none))))
theorem efB_ok {K : PySem.W.Frag} {us : List Nat} (h : efB us K = true) : EFs K us := by
  unfold efB at h
  simp only [Bool.and_eq_true, List.all_eq_true, decide_eq_true_eq] at h
  obtain ⟨h1, h2, h3, h4, h5⟩ := h
  exact ⟨fun k hk => exFB_ok (h1 k hk), h2, h3, h4, h5⟩
/-- an error without an own __init__ is raised -/
structure EOwn (K : PySem.W.Frag) (mg : Str → Option Value) (c : Nat) : Prop where
  gl : mg (exN c) = some (.ref (ec K c))
  xc : PySem.W.excIn K (ec K c) He.veBase "ValueError.__new__" = true
  ef : ExF K (ec K c)

/-! ### isinstance of an error, its fields -/
theorem ErO_inst {X : Cx} {pins : List (Addr × Obj)} {σ : L2.St} {H : Hp} {s : Shared} {a C : Addr} {od : Option Addr} {fs : List (Str × Int)} (I : Inv X pins σ H s) (ha : H a = some (ErO C od a)) (hd : ErD H od fs) :
    ∃ (oe : Obj) (oo : Option Obj), PySem.W.InstAt s.heap a oe C oo ∧ (oo = none → fs = []) ∧ ∀ o f, oo = some o → ∃ u, PySem.W.lookIn f o = some u ∧ RelO ((fs.map fun p => (p.1, V.int p.2)).lookup f) u := by
  have x : ObjOk X.prog X.w H s.heap a (.ext fun h => ∃ (oe : Obj) (vs : Array Value), h.get? a = some oe ∧ Zc (.ref C) od oe ∧ oe.data = .fields vs) := I.hok a _ ha
  obtain ⟨⟨oe, vs, h1, hz, h2⟩, _⟩ := x
  have hno : PySem.W.notCls oe = true := by unfold PySem.W.notCls; rw [h2] <;> rfl
  rcases hd with ⟨rfl, rfl⟩ | ⟨d, rfl, hd⟩
  · exact ⟨oe, none, ⟨h1, hz.1, hno, by rw [hz.2]; trivial⟩, fun _ => rfl, fun o f z => by cases z⟩
  · have hx : ObjOk X.prog X.w H s.heap d (.xd (fs.map fun p => (p.1, V.int p.2))) := I.hok d _ hd
    obtain ⟨mA, hns, hr⟩ := hx
    obtain ⟨o, ho, hl⟩ := lookIn_ns hns
    refine ⟨oe, some o, ⟨h1, hz.1, hno, by rw [hz.2]; exact ho⟩, (fun z => by cases z), fun o' f z => ?_⟩
    cases z
    exact ⟨_, hl f, hr f⟩
def rIsEr (K : PySem.W.Frag) : List V → Hp → VK → Prop := fun xs H Q => ∃ (a C : Addr) (od : Option Addr) (fs : List (Str × Int)) (c : V) (u : Value) (b : Bool), xs = [.ref a, c] ∧ H a = some (ErO C od a) ∧ ErD H od fs ∧ ExF K C ∧ ClsV c u ∧ PySem.W.kitOne K (.ref C) u = some b ∧ Q (.bl b) H
def rIsErT (K : PySem.W.Frag) : List V → Hp → VK → Prop := fun xs H Q => ∃ (a C tp : Addr) (od : Option Addr) (fs : List (Str × Int)) (cs : List V) (us : List Value) (b : Bool), xs = [.ref a, .ref tp] ∧ H a = some (ErO C od a) ∧ ErD H od fs ∧ ExF K C ∧ H tp = some (.tup cs) ∧ Paired ClsV cs us ∧ PySem.W.kitAny K (.ref C) us = some b ∧ Q (.bl b) H
theorem call_isEr {X : Cx} : CallR X (.builtin "isinstance") (rIsEr X.K) := by
  intro pins s σ H xs us Q I r h
  obtain ⟨a, C, od, fs, c, u, b, rfl, ha, hd, E, k, e, q⟩ := h
  obtain ⟨u1, u2, rfl, r1, r2⟩ := vals2 r
  have e2 := k.eq r2
  subst e2
  cases (show u1 = Value.ref a from r1)
  obtain ⟨oe, oo, J, _⟩ := ErO_inst I ha hd
  exact PySem.W.kia_one (PySem.W.kitx_exc E.cl E.ga E.gg E.sb E.ha E.hn E.ht E.hm) I.kIn J e (fun z => nomatch z) fun tk => ⟨.bl b, H, I.tok tk, rfl, q⟩
theorem call_isErT {X : Cx} : CallR X (.builtin "isinstance") (rIsErT X.K) := by
  intro pins s σ H xs us Q I r h
  obtain ⟨a, C, tp, od, fs, cs, ws, b, rfl, ha, hd, E, hT, k, e, q⟩ := h
  obtain ⟨u1, u2, rfl, r1, r2⟩ := vals2 r
  cases (show u2 = Value.ref tp from r2)
  cases (show u1 = Value.ref a from r1)
  obtain ⟨oe, oo, J, _⟩ := ErO_inst I ha hd
  obtain ⟨_, its, rv, o, h1, h2, n, h3⟩ := (show ObjOk X.prog X.w H s.heap tp (.tup cs) from I.hok tp _ hT)
  have e3 := ClsV.all k rv
  subst e3
  obtain ⟨oc, od2, dt, sl⟩ := o
  simp only at h2 h3
  subst h2 h3
  exact PySem.W.kia_tup (PySem.W.kitx_exc E.cl E.ga E.gg E.sb E.ha E.hn E.ht E.hm) I.kIn J h1 e (fun z => nomatch z) fun tk => ⟨.bl b, H, I.tok tk, rfl, q⟩
/-- the reading of e.f, e an error -/
def tErF (K : PySem.W.Frag) (f : Str) (te : TE) : TE := fun σ H Q => te σ H fun x H1 => ∃ (a C : Addr) (od : Option Addr) (fs : List (Str × Int)) (i : Int), x = .ref a ∧ H1 a = some (ErO C od a) ∧ ErD H1 od fs ∧ ExF K C ∧ PySem.W.findIn K (.ref C) f = some none ∧ fs.lookup f = some i ∧ Q (.int i) H1
theorem lookup_ints {f : Str} {i : Int} : ∀ {fs : List (Str × Int)}, fs.lookup f = some i → (fs.map fun p => (p.1, V.int p.2)).lookup f = some (.int i)
  | [], h => by cases h
  | (g, j) :: r, h => by
    rw [List.map_cons]
    by_cases e : f = g
    · subst e
      simp [List.lookup] at h ⊢
      exact h
    · have e' : (f == g) = false := by simpa using e
      simp [List.lookup, e'] at h ⊢
      exact lookup_ints h
theorem pe_erF {X : Cx} {e : Expr} {te : TE} {pos : Pos} {n : Str} (he : PE X e te) (hb : attributeBase e n X.env (eval e X.env) = eval e X.env := by rfl) : PE X (.Attribute e n pos) (tErF X.K n te) := by
  refine ⟨fun pins s σ H Q I h => ?_⟩
  refine attr_of hb (thn (he.run pins s σ H _ I h) fun u s1 hh => ?_)
  obtain ⟨x, H1, I1, rx, a, C, od, fs, i, ex, ha, hd, E, hno, hl, q⟩ := hh
  subst ex
  obtain rfl : u = Value.ref a := rx
  obtain ⟨oe, oo, J, h0, h1⟩ := ErO_inst I1 ha hd
  cases oo with
  | none => rw [h0 rfl] at hl; cases hl
  | some o =>
    obtain ⟨w, hu, ru⟩ := h1 o n rfl
    rw [lookup_ints hl] at ru
    obtain ⟨u, hu2, ru2⟩ := RelO.some_of (v := .int i) (o := w) ru
    exact HandSPX.exc_get I1.kIn J E.ga E.gg E.sb (PySem.W.findObj_own E.hd hno rfl (by rw [hu, hu2])) (handed_of ru2) ⟨.int i, H1, I1.tok _, ru2, q⟩

/-! ### mirrors -/
def oIsE (us : List Nat) (js : List Nat) : D → Option D
  | .err c _ => if us.contains c && js.all us.contains then some (.bl (js.any (esub c))) else none
  | _ => none
def oIsV (us : List Nat) : D → Option D
  | .err c _ => if us.contains c then some (.bl true) else none
  | _ => none
def oFldE (us : List Nat) (f : Str) : D → Option D
  | .err c fs => if us.contains c && fldN.contains f then (fs.lookup f).map .int else none
  | _ => none
def oIsNon : D → Option D
  | .non => some (.bl true)
  | .err _ _ => some (.bl false)
  | _ => none
section
variable {X : Cx} {C : Ctx} {wx : WX} {g : Rg} {k kr : Nat} {e : Expr} {m : M} {p p2 pos : Pos} {us : List Nat}
theorem err_of {F H : Hp} {v : V} {c : Nat} {fs : List (Str × Int)} {A : AS} (s : Same F H) (r : Rp C.K F H k v (.err c fs) A) : ∃ a od, v = .ref a ∧ H a = some (ErO (ec C.K c) od a) ∧ ErD H od fs := by
  cases r with
  | err h x => exact ⟨_, _, rfl, s _ _ h, x.mono s⟩
theorem ve_isE {y : Str} {j : Nat} (E : EFs C.K us) (hm : X.mg "isinstance" = none) (hy : X.mg y = some (.ref (ec C.K j))) (hj : j ∈ us) (ha : PE X e (W C wx .bo 0 m)) (hgT : Gl X y := by rfl) (hdT : (y == ("__debug__" : Str)) = false := by decide) (hg : Gl X "isinstance" := by rfl)
    (hs : starEach [e, .Name y p2] X.env = (false, eval e X.env) :: starEach [.Name y p2] X.env := by rfl) (hs2 : starEach [.Name y p2] X.env = (false, eval (.Name y p2) X.env) :: starEach [] X.env := by rfl) (hpl : (backTo pos (starEach [.Name y p2] X.env)).any (·.1) = false := by rfl) (hK : X.K = C.K := by rfl) :
    PE X (.Call (.Name "isinstance" p) [e, .Name y p2] [] pos) (W C wx g k (m1 m (oIsE us [j]))) := by
  refine (pe_callB call_isEr hg hm PyProof.Rows.boot_isinstance (pa_cons ha (pa_cons (pe_glob (v := .ref (ec C.K j)) hgT hy rfl hdT) pa_nil hs2) hs) (by decide) (by decide) hs hpl).wk fun σ H Q w => ?_
  obtain ⟨F, B, n, ds, S, h⟩ := w
  refine ⟨F, B, n, ds, S, (h.bind fun F1 H1 F2 H2 v d G r => r.tr G).mono fun x H1 ⟨F1, n1, d, G1, S1, ⟨A1, r1, f1⟩, h1⟩ => ?_⟩
  obtain ⟨d2, e2, q⟩ := h1.sc S1
  cases d with
  | err c fs =>
    unfold oIsE at e2
    dsimp only at e2
    split at e2
    · rename_i hc
      simp only [Bool.and_eq_true, List.contains_iff_mem] at hc
      cases e2
      obtain ⟨a, od, rfl, ha, hd⟩ := err_of (rg_same S1.fh) r1
      rw [hK]
      refine ⟨a, _, od, fs, .ref (ec C.K j), .ref (ec C.K j), esub c j, rfl, ha, hd, E.ex c hc.1, .own _, E.sub c hc.1 j hj, ?_⟩
      have := q (.bl (esub c j)) (by simp [scV])
      exact this
    · cases e2
  | _ => cases e2
theorem ve_isV (E : EFs C.K us) (hm : X.mg "isinstance" = none) (hy : X.mg "ValueError" = none) (ha : PE X e (W C wx .bo 0 m)) (hgT : Gl X "ValueError" := by rfl) (hg : Gl X "isinstance" := by rfl)
    (hs : starEach [e, .Name "ValueError" p2] X.env = (false, eval e X.env) :: starEach [.Name "ValueError" p2] X.env := by rfl) (hs2 : starEach [.Name "ValueError" p2] X.env = (false, eval (.Name "ValueError" p2) X.env) :: starEach [] X.env := by rfl) (hpl : (backTo pos (starEach [.Name "ValueError" p2] X.env)).any (·.1) = false := by rfl) (hK : X.K = C.K := by rfl) :
    PE X (.Call (.Name "isinstance" p) [e, .Name "ValueError" p2] [] pos) (W C wx g k (m1 m (oIsV us))) := by
  refine (pe_callB call_isEr hg hm PyProof.Rows.boot_isinstance (pa_cons ha (pa_cons (pe_bltn (v := .ty "ValueError") (u := .type "ValueError") hgT hy PyProof.Rows.Boot.«ValueError» rfl (by decide) (by decide)) pa_nil hs2) hs) (by decide) (by decide) hs hpl).wk fun σ H Q w => ?_
  obtain ⟨F, B, n, ds, S, h⟩ := w
  refine ⟨F, B, n, ds, S, (h.bind fun F1 H1 F2 H2 v d G r => r.tr G).mono fun x H1 ⟨F1, n1, d, G1, S1, ⟨A1, r1, f1⟩, h1⟩ => ?_⟩
  obtain ⟨d2, e2, q⟩ := h1.sc S1
  cases d with
  | err c fs =>
    unfold oIsV at e2
    dsimp only at e2
    split at e2
    · rename_i hc
      simp only [List.contains_iff_mem] at hc
      cases e2
      obtain ⟨a, od, rfl, ha, hd⟩ := err_of (rg_same S1.fh) r1
      rw [hK]
      exact ⟨a, _, od, fs, .ty "ValueError", .type "ValueError", true, rfl, ha, hd, E.ex c hc, .ty _, E.ve c hc, q (.bl true) (by simp [scV])⟩
    · cases e2
  | _ => cases e2
/-- names of errors, one behind another -/
inductive NmC (X : Cx) (K : PySem.W.Frag) : List Expr → List Nat → Prop
  | nil : NmC X K [] []
  | cons {y : Str} {p : Pos} {j : Nat} {es : List Expr} {js : List Nat} (hy : X.mg y = some (.ref (ec K j))) (hg : Gl X y) (hd : (y == ("__debug__" : Str)) = false) (hs : starEach (.Name y p :: es) X.env = (false, eval (.Name y p) X.env) :: starEach es X.env) (r : NmC X K es js) : NmC X K (.Name y p :: es) (j :: js)
theorem NmC.pa {K : PySem.W.Frag} {es : List Expr} {js : List Nat} (h : NmC X K es js) : PA X es (fun σ H Q => Q (js.map fun j => V.ref (ec K j)) H) := by
  induction h with
  | nil => exact pa_nil
  | cons hy hg hd hs r ih => exact pa_cons (pe_glob (v := .ref (ec K _)) hg hy rfl hd) ih hs
theorem paired_cls {K : PySem.W.Frag} : ∀ js : List Nat, Paired ClsV (js.map fun j => V.ref (ec K j)) (js.map fun j => Value.ref (ec K j))
  | [] => .nil
  | j :: r => .cons (.own _) (paired_cls r)
theorem kitAny_js (E : EFs C.K us) {c : Nat} (hc : c ∈ us) : ∀ {js : List Nat}, (∀ j ∈ js, j ∈ us) → PySem.W.kitAny C.K (.ref (ec C.K c)) (js.map fun j => Value.ref (ec C.K j)) = some (js.any (esub c))
  | [], _ => rfl
  | j :: r, h => by
    refine kitAny_cons (E.sub c hc j (h j List.mem_cons_self)) (fun z => ?_) fun z => ?_
    · rw [List.any_cons, z, Bool.false_or]
      exact kitAny_js E hc fun j hj => h j (List.mem_cons_of_mem _ hj)
    · rw [List.any_cons, z, Bool.true_or]
theorem ve_isET {es : List Expr} {js : List Nat} {tk : Nat} {tp : Pos} (E : EFs C.K us) (hm : X.mg "isinstance" = none) (hn : NmC X C.K es js) (hl : js.length ≤ 100) (ha : PE X e (W C wx .bo 0 m)) (hg : Gl X "isinstance" := by rfl)
    (hs : starEach [e, .Tuple es tk tp] X.env = (false, eval e X.env) :: starEach [.Tuple es tk tp] X.env := by rfl) (hs2 : starEach [.Tuple es tk tp] X.env = (false, eval (.Tuple es tk tp) X.env) :: starEach [] X.env := by rfl) (hpl : (backTo pos (starEach [.Tuple es tk tp] X.env)).any (·.1) = false := by rfl) (hK : X.K = C.K := by rfl) :
    PE X (.Call (.Name "isinstance" p) [e, .Tuple es tk tp] [] pos) (W C wx g k (m1 m (oIsE us js))) := by
  refine (pe_callB call_isErT hg hm PyProof.Rows.boot_isinstance (pa_cons ha (pa_cons (pe_tup hn.pa) pa_nil hs2) hs) (by decide) (by decide) hs hpl).wk fun σ H Q w => ?_
  obtain ⟨F, B, n, ds, S, h⟩ := w
  refine ⟨F, B, n, ds, S, (h.bind fun F1 H1 F2 H2 v d G r => r.tr G).mono fun x H1 ⟨F1, n1, d, G1, S1, ⟨A1, r1, f1⟩, h1⟩ => ?_⟩
  cases d with
  | err c fs =>
    obtain ⟨d2, e2, q⟩ := h1.retE
    unfold oIsE at e2
    dsimp only at e2
    split at e2
    · rename_i hc
      simp only [Bool.and_eq_true, List.contains_iff_mem, List.all_eq_true] at hc
      cases e2
      obtain ⟨a, od, rfl, ha, hd⟩ := err_of (rg_same S1.fh) r1
      refine ⟨by rw [List.length_map, sizeLine_eq]; omega, fun p hp => ?_⟩
      obtain ⟨G2, S2⟩ := S1.newO (o := .tup (js.map fun j => V.ref (ec C.K j))) hp
      have ne : a ≠ p := fun z => by rw [z, hp] at ha; cases ha
      rw [hK]
      refine ⟨a, _, p, od, fs, _, _, js.any (esub c), rfl, by rw [upd_ne ne]; exact ha, hd.mono fun b o e => by rw [upd_ne (ne_of_none e hp)]; exact e, E.ex c hc.1, upd_same, paired_cls js, kitAny_js E hc.1 hc.2, ?_⟩
      exact q (.bl (js.any (esub c))) F1 _ G2 S2 ⟨fun _ => False, .bl, Fr.no⟩
    · cases e2
  | _ =>
    obtain ⟨d2, e2, q⟩ := h1.retE
    cases e2
theorem ve_fldE {f : Str} (E : EFs C.K us) (ha : PE X e (W C wx .bo 0 m)) (hb : attributeBase e f X.env (eval e X.env) = eval e X.env := by rfl) (hK : X.K = C.K := by rfl) : PE X (.Attribute e f pos) (W C wx g k (m1 m (oFldE us f))) := by
  refine (pe_erF ha hb).wk fun σ H Q w => ?_
  obtain ⟨F, B, n, ds, S, h⟩ := w
  refine ⟨F, B, n, ds, S, (h.bind fun F1 H1 F2 H2 v d G r => r.tr G).mono fun x H1 ⟨F1, n1, d, G1, S1, ⟨A1, r1, f1⟩, h1⟩ => ?_⟩
  obtain ⟨d2, e2, q⟩ := h1.sc S1
  cases d with
  | err c fs =>
    unfold oFldE at e2
    dsimp only at e2
    split at e2
    · rename_i hc
      simp only [Bool.and_eq_true, List.contains_iff_mem] at hc
      cases hl : fs.lookup f with
      | none => rw [hl] at e2; cases e2
      | some i =>
        rw [hl] at e2
        cases e2
        obtain ⟨a, od, rfl, ha, hd⟩ := err_of (rg_same S1.fh) r1
        rw [hK]
        exact ⟨a, _, od, fs, i, rfl, ha, hd, E.ex c hc.1, E.no c hc.1 f hc.2, hl, q (.int i) (by simp [scV])⟩
    · cases e2
  | _ => cases e2
end

/-! ### raise -/
def sRaise (c : Nat) : MS := fun n ds => some (.ex c [], n, ds)
def intsE : List D → Option (List Int)
  | [] => some []
  | .int i :: r => (intsE r).map (i :: ·)
  | _ => none
def sRaiseF (c : Nat) (fs : List Str) (ms : Mo (List D)) : MS := sE ms fun as => fun n ds => match intsE as with
  | some is => if is.length = fs.length then some (.ex c ((fs.zip is).reverse), n, ds) else none
  | none => none
/-- an __init__ that stores its fields -/
def spX (K : PySem.W.Frag) (C : Addr) (fs : List Str) : Sp := fun vs H Q E => ∃ (a : Addr) (xs : List V), vs = .ref a :: xs ∧ xs.length = fs.length ∧ H a = some (exo a C none) ∧
  ∀ (d : Addr) (H' : Hp), H d = none → d ≠ a → H' a = some (exo a C (some d)) → H' d = some (exd d (fs.zip xs).reverse) → (∀ b, b ≠ a → b ≠ d → H' b = H b) → Q .non H'
structure EMk (P : Program) (w : World) (K : PySem.W.Frag) (mg : Str → Option Value) (base : Heap) (c : Nat) (fs : List Str) : Prop where
  gl : mg (exN c) = some (.ref (ec K c))
  T : OexC K (ec K c)
  md : ∃ (fI : Addr) (fd : FuncData) (ps : List Str), PySem.W.findIn K (.ref (ec K c)) "__init__" = some (some (.ref fI)) ∧ PySem.W.typeIn K (.ref fI) = some (.type "function") ∧ FnOk P w K mg base (L2.CX P w) 1 fI fd ps (spX K (ec K c) fs) ∧ Binds K fd ps []
section
variable {X : Cx} {C : Ctx} {wx : WX} {kr : Nat} {c : Nat} {x m : Str} {j : Nat} {p p2 pos pos' : Pos} {e : Expr} {es : List Expr} {ms : Mo (List D)} {fs : List Str}
theorem ws_raise (hc : X.calm = true) (tk : Takes X wx) (E : EOwn C.K X.mg c) (hx : x = exN c := by rfl) (hg : Gl X x := by rfl) (hdb : (x == ("__debug__" : Str)) = false := by decide) (hK : X.K = C.K := by rfl) : PS X (.Raise (some (.Call (.Name x p) [.Constant (.str m) j p2] [] pos)) none pos') (WS C wx kr (sRaise c)) :=
  (ps_raise hc tk (pmk_own PySem.F.excBase_ValueError (by rw [hK]; exact E.xc) (by rw [hx]; exact E.gl) (by rw [hK]; exact E.ef.kp) (raises_own (by rw [hK]; exact E.ef.sb) (by rw [hK]; exact E.ef.ty)) hg hdb)).wk fun Ee σ H w => by
    obtain ⟨F, B, n, ds, S, h⟩ := w
    exact h σ F B H none (GoS.refl S.fh) S (.inl ⟨rfl, rfl⟩)
theorem intsE_vs {K : PySem.W.Frag} {G H : Hp} : ∀ {as : List D} {is : List Int} {vs : List V}, intsE as = some is → RpL K G H vs as → vs = is.map V.int
  | [], is, vs, h, r => by
    cases h
    exact List.length_eq_zero_iff.mp r.1
  | d :: as, is, vs, h, r => by
    cases vs with
    | nil => exact absurd r.1 (by simp)
    | cons v vs =>
      obtain ⟨r1, r2⟩ := r.tail
      cases d with
      | int i =>
        simp only [intsE] at h
        cases h2 : intsE as with
        | none => rw [h2] at h; cases h
        | some js =>
          rw [h2] at h
          cases h
          rw [r1.int_, intsE_vs h2 r2]
          rfl
      | _ => cases h
theorem zip_ints : ∀ (fs : List Str) (is : List Int), fs.zip (is.map V.int) = (fs.zip is).map fun p => (p.1, V.int p.2)
  | [], _ => by simp
  | _ :: _, [] => by simp
  | f :: fs, i :: is => by simp [zip_ints fs is]
theorem ws_raiseF (hc : X.calm = true) (tk : Takes X wx) (E : EMk X.prog X.w X.K X.mg X.base c fs) (F0 : ExF X.K (ec X.K c)) (hl : fs.length ≤ 100) (hr : Room 2 X.A) (ha : PA X (e :: es) (WA C wx .bo ms)) (hx : x = exN c := by rfl) (hg : Gl X x := by rfl) (hdb : (x == ("__debug__" : Str)) = false := by decide)
    (he : starEach (e :: es) X.env = (false, eval e X.env) :: starEach es X.env := by rfl) (hpl : (backTo pos (starEach es X.env)).any (·.1) = false := by rfl) (hK : X.K = C.K := by rfl) : PS X (.Raise (some (.Call (.Name x p) (e :: es) [] pos)) none pos') (WS C wx kr (sRaiseF c fs ms)) := by
  obtain ⟨fI, fd, ps, h1, h2, h3, h4⟩ := E.md
  refine (ps_raise hc tk (pmk_oex (dvs := []) (ds := []) E.T h1 h2 h3 hr h4 .nil (passes_call takes0 (fun _ _ _ _ z => z)) hg (by rw [hx]; exact E.gl) ha hdb he hpl)).wk fun Ee σ H w => ?_
  obtain ⟨F, B, n, ds, S, h⟩ := w
  refine ⟨F, B, n, ds, S, (wsl_e (R := RA C .bo) S h).mono fun vs H1 ⟨F1, n1, as, G1, S1, r1, h5⟩ => ?_⟩
  unfold WSL at h5
  cases hi : intsE as with
  | none => simp only [hi] at h5
  | some is =>
    simp only [hi] at h5
    split at h5
    · exact h5.elim
    · rename_i e; split at e <;> cases e
    · rename_i e; split at e <;> cases e
    · rename_i e; split at e <;> cases e
    · rename_i e; split at e <;> cases e
    · rename_i e
      split at e
      · rename_i hlen
        cases e
        have hv := intsE_vs hi r1
        subst hv
        refine ⟨by rw [List.length_map]; omega, fun a hna => ⟨a, is.map V.int, by simp, by rw [List.length_map]; exact hlen, upd_same, fun d H' hd hda k1 k2 k3 => ⟨rfl, d, _, k1, k2, ?_, ?_⟩⟩⟩
        · rw [upd_ne hda] at hd; exact hd
        · rw [upd_ne hda] at hd
          have eH : upd (del H' a) d (.xd (fs.zip (is.map V.int)).reverse) = upd H1 d (.xd (((fs.zip is).reverse).map fun p => (p.1, V.int p.2))) := by
            funext b
            by_cases hb : b = d
            · subst hb
              rw [upd_same, upd_same, zip_ints, List.map_reverse]
            · rw [upd_ne hb, upd_ne hb]
              by_cases hba : b = a
              · subst hba; rw [del_same, hna]
              · rw [del_ne hba, k3 b hba hb, upd_ne hba]
          rw [eH, hK]
          obtain ⟨G2, S2⟩ := S1.newO (o := .xd (((fs.zip is).reverse).map fun p => (p.1, V.int p.2))) hd
          exact h5 σ F1 B _ (some d) ((G1.trans G2).toS S.qB) S2 (.inr ⟨d, rfl, G1.free hd, upd_same⟩)
      · cases e
end
end GW

namespace GW
open PySem L2 PyProof.Rows
/-! ### an error's own __init__ -/
section
variable {P : Program} {w : World} {K : PySem.W.Frag} {mg : Str → Option Value} {base : Heap} {x qual f1 f2 : Str} {params : Arguments} {body : List Stmt} {scope : Scope} {f C : Addr} {fd : FuncData} {N ps : List Str}
theorem def_okX1 (Fu : FunD K x qual params body scope [] [] f fd) (S : FnScope N ps scope) (hps : ps.length = 2) (T : OexC K C) (n1 : PySem.W.findIn K (.ref C) f1 = some none)
    (hb : ∀ (cdv : Value) (A : Around) (outer : List Env) (s : Shared) (H : Hp) (E : XK), PSs (cxOf (L2.CX P w) P w K mg base N qual scope f cdv A outer s H E) body (tOst K f1 (tVar 0) (tVar 1))) : FnOk P w K mg base (L2.CX P w) 1 f fd ps (spX K C [f1]) := by
  refine Fu.ok S (fun vs H Q E h => ?_) (fun cdv A outer s H vs Q E hr h => ⟨_, hb cdv A outer s H E, ?_⟩)
  · obtain ⟨a, xs, rfl, h2, _⟩ := h
    rw [hps]; simp at h2; simp [h2]
  · obtain ⟨a, xs, rfl, h2, h3, h4⟩ := h
    match xs, h2 with
    | [y], _ =>
      refine ⟨y, rfl, .ref a, rfl, a, C, rfl, T, n1, .inl ⟨h3, fun dx hd hda => h4 dx _ hd hda upd_same ?_ fun b hb hbd => ?_⟩⟩
      · rw [upd_ne hda, upd_same]; rfl
      · rw [upd_ne hb, upd_ne hbd]
theorem def_okX2 (Fu : FunD K x qual params body scope [] [] f fd) (S : FnScope N ps scope) (hps : ps.length = 3) (T : OexC K C) (n1 : PySem.W.findIn K (.ref C) f1 = some none) (n2 : PySem.W.findIn K (.ref C) f2 = some none)
    (hb : ∀ (cdv : Value) (A : Around) (outer : List Env) (s : Shared) (H : Hp) (E : XK), PSs (cxOf (L2.CX P w) P w K mg base N qual scope f cdv A outer s H E) body (tSeq (tOst K f1 (tVar 0) (tVar 1)) (tOst K f2 (tVar 0) (tVar 2)))) : FnOk P w K mg base (L2.CX P w) 1 f fd ps (spX K C [f1, f2]) := by
  refine Fu.ok S (fun vs H Q E h => ?_) (fun cdv A outer s H vs Q E hr h => ⟨_, hb cdv A outer s H E, ?_⟩)
  · obtain ⟨a, xs, rfl, h2, _⟩ := h
    rw [hps]; simp at h2; simp [h2]
  · obtain ⟨a, xs, rfl, h2, h3, h4⟩ := h
    match xs, h2 with
    | [y, z], _ =>
      refine ⟨y, rfl, .ref a, rfl, a, C, rfl, T, n1, .inl ⟨h3, fun dx hd hda => ⟨z, rfl, .ref a, rfl, a, C, rfl, T, n2, .inr ⟨dx, _, upd_same, (by rw [upd_ne hda, upd_same]), by simp, h4 dx _ hd hda ?_ ?_ fun b hb hbd => ?_⟩⟩⟩⟩
      · rw [upd_ne (Ne.symm hda), upd_same]
      · rw [upd_same]; rfl
      · rw [upd_ne hbd, upd_ne hb, upd_ne hbd]
end
/-! ### try -/
abbrev HdM := Nat × Option Nat × MS
def unM (i : Nat) : Option (Fl × Int × DS) → Option (Fl × Int × DS)
  | some (.nx, n, ds) => some (.nx, n, ds.set i none)
  | some (.bk, n, ds) => some (.bk, n, ds.set i none)
  | some (.ct, n, ds) => some (.ct, n, ds.set i none)
  | r => r
def sHds (us : List Nat) (c : Nat) (fs : List (Str × Int)) : List HdM → MS
  | [] => fun n ds => some (.ex c fs, n, ds)
  | (k, none, ms) :: r => fun n ds => if us.contains c && us.contains k then (if esub c k then ms n ds else sHds us c fs r n ds) else none
  | (k, some i, ms) :: r => fun n ds => if us.contains c && us.contains k then (if esub c k then unM i (ms n (ds.set i (some (.err c fs)))) else sHds us c fs r n ds) else none
def sTry (us : List Nat) (mb : MS) (hs : List HdM) : MS := fun n ds => match mb n ds with
  | some (.ex c fs, n', ds') => sHds us c fs hs n' ds'
  | r => r
def toHd (C : Ctx) (wx : WX) (kr : Nat) : HdM → Hd := fun h => (.ref (ec C.K h.1), h.2.1, WS C wx kr h.2.2)
section
variable {X : Cx} {C : Ctx} {wx : WX} {kr : Nat} {us : List Nat} {mb : MS} {hs : List HdM} {h₀ : ExceptHandler} {hds : List ExceptHandler} {body : List Stmt} {pos : Pos}
theorem sim_unset {F H : Hp} {B : AS} {σ : L2.St} {n : Int} {ds : DS} {i : Nat} (S : Sim C F B σ H n ds) (hi : C.pn i = none) : Sim C F B (σ.set i none) H n (ds.set i none) :=
  S.wipe (vs := [i]) fun j hj => by
    rw [List.mem_singleton] at hj
    subst hj; exact hi
/-- the error that is caught is known from then on -/
theorem caught {F H F' H' : Hp} {B B' : AS} {σ : L2.St} {n : Int} {ds : DS} {i c : Nat} {od : Option Addr} {fs : List (Str × Int)} {a : Addr} (G : GoS B F H B' F' H') (S : Sim C F' B' σ H' n ds) (x : ExR H H' od fs) (ha : H' a = none) (hi : C.pn i = none) :
    ∃ F2 B2, GoS B F H B2 F2 (upd H' a (ErO (ec C.K c) od a)) ∧ Sim C F2 B2 (σ.set i (some (.ref a))) (upd H' a (ErO (ec C.K c) od a)) n (ds.set i (some (.err c fs))) := by
  -- the dict, where there is one, stands from then on
  obtain ⟨F1, s1, s2, hx, nd⟩ : ∃ F1 : Hp, Same F' F1 ∧ Same F1 H' ∧ ErD F1 od fs ∧ ∀ b, F1 b ≠ F' b → H b = none ∧ ∃ o, H' b = some o ∧ GW.Mk o = false := by
    rcases x with ⟨rfl, rfl⟩ | ⟨d, rfl, h1, h2⟩
    · exact ⟨F', Same.refl _, S.fh, .inl ⟨rfl, rfl⟩, fun b z => absurd rfl z⟩
    · refine ⟨upd F' d (.xd (fs.map fun p => (p.1, V.int p.2))), fun b o e => ?_, fun b o e => ?_, .inr ⟨d, rfl, upd_same⟩, fun b z => ?_⟩
      · by_cases hb : b = d
        · subst hb
          have := S.fh _ _ e
          rw [h2] at this
          rw [upd_same]; exact this
        · rw [upd_ne hb]; exact e
      · by_cases hb : b = d
        · subst hb
          rw [upd_same] at e
          rw [h2]; exact e
        · rw [upd_ne hb] at e; exact S.fh _ _ e
      · by_cases hb : b = d
        · subst hb
          exact ⟨h1, _, h2, rfl⟩
        · exact absurd (upd_ne hb) z
  have F1a : F1 a = none := none_some (fun b o e => ⟨o, s2 b o e⟩) ha
  have old : ∀ b o, H' b = some o → upd H' a (ErO (ec C.K c) od a) b = some o := fun b o e => by rw [upd_ne (ne_of_none e ha)]; exact e
  have sF : Same F1 (upd F1 a (ErO (ec C.K c) od a)) := fun b o e => by rw [upd_ne (ne_of_none e F1a)]; exact e
  have sH : Same (upd F1 a (ErO (ec C.K c) od a)) (upd H' a (ErO (ec C.K c) od a)) := fun b o e => by
    by_cases hb : b = a
    · subst hb; rw [upd_same] at e ⊢; exact e
    · rw [upd_ne hb] at e ⊢; exact s2 _ _ e
  have inB : ∀ b, (∃ o, H' b = some o ∧ GW.Mk o = true) → F' b = none → upd F1 a (ErO (ec C.K c) od a) b = none := fun b ⟨o, h1, h2⟩ h3 => by
    rw [upd_ne (ne_of_none h1 ha)]
    by_cases e : F1 b = F' b
    · rw [e]; exact h3
    · obtain ⟨_, o', h4, h5⟩ := nd b e
      rw [h1] at h4; cases h4
      rw [h2] at h5; cases h5
  have G2 : GoS B F H B' (upd F1 a (ErO (ec C.K c) od a)) (upd H' a (ErO (ec C.K c) od a)) := {
    ff := (G.ff.trans s1).trans sF
    fh := sH
    hh := fun b o e n => old _ _ (G.hh b o e n)
    ht := fun b o e n => old _ _ (G.ht b o e n)
    nf := fun b o n e z => by
      obtain ⟨o', e'⟩ := G.dm b o e
      rw [upd_ne (ne_of_none e' ha)]
      by_cases q : F1 b = F' b
      · rw [q]; exact G.nf b o n e z
      · have := (nd b q).1
        rw [e] at this; cases this
    bb := G.bb
    dm := fun b o e => by
      obtain ⟨o', e'⟩ := G.dm b o e
      exact ⟨o', old _ _ e'⟩ }
  have S2 : Sim C (upd F1 a (ErO (ec C.K c) od a)) B' σ (upd H' a (ErO (ec C.K c) od a)) n ds := {
    fh := sH
    bok := fun b hb => by
      obtain ⟨h1, o, h2, h3⟩ := S.bok b hb
      exact ⟨inB b ⟨o, h2, h3⟩ h1, o, old _ _ h2, h3⟩
    cell := fun q hq => ⟨(S.cell q hq).1, old _ _ (S.cell q hq).2⟩
    pin := S.pin
    len := S.len
    rep := by
      obtain ⟨A, h1, h2, h3⟩ := S.rep
      refine ⟨A, fun j d e => ?_, h2, h3⟩
      obtain ⟨v, e1, r⟩ := h1 j d e
      exact ⟨v, e1, r.mono (s1.trans sF) (fun b o e _ => old _ _ e) fun b o _ e => old _ _ e⟩ }
  have r : Rp C.K (upd F1 a (ErO (ec C.K c) od a)) (upd H' a (ErO (ec C.K c) od a)) (C.T i) (.ref a) (.err c fs) (fun _ => False) := .err upd_same (hx.mono sF)
  refine ⟨_, _, ⟨G2.ff, G2.fh, G2.hh, G2.ht, G2.nf, fun b hb => ?_, G2.dm⟩, S2.set (H0 := H) r (fun _ h => h.elim) hi (fun _ h => h.elim)⟩
  rcases hb with hb | hb
  · exact G2.bb b hb
  · exact hb.elim
theorem hds_of {F H F' H' : Hp} {B B' : AS} {σ' : L2.St} {n n' : Int} {ds ds' : DS} {D : Ends} {c : Nat} {fs : List (Str × Int)} {od : Option Addr} (EF : EFs C.K us) (G : GoS B F H B' F' H') (S' : Sim C F' B' σ' H' n' ds') (xr : ExR H H' od fs) :
    ∀ {hs : List HdM}, (∀ h ∈ hs, ∀ i, h.2.1 = some i → C.pn i = none) → WSL C wx kr (fun _ _ => sHds us c fs hs n' ds') F B n ds H D → wT C.K wx D (hs.map (toHd C wx kr)) (.ref (ec C.K c)) od σ' H'
  | [], _, h => h σ' F' B' H' od G S' xr
  | (k, none, ms) :: r, hp, h => by
    unfold sHds at h
    by_cases hc : (us.contains c && us.contains k) = true
    · simp only [hc, if_true] at h
      simp only [Bool.and_eq_true, List.contains_iff_mem] at hc
      refine ⟨esub c k, EF.exm c hc.1 k hc.2, fun z => ?_, fun z => ?_⟩
      · simp only [z, if_true] at h
        exact ⟨F', B', n', ds', S', h.tr G rfl⟩
      · simp only [z, Bool.false_eq_true, if_false] at h
        exact hds_of EF G S' xr (fun q hq => hp q (List.mem_cons_of_mem _ hq)) h
    · simp only [hc, if_false] at h
      exact h.elim
  | (k, some i, ms) :: r, hp, h => by
    unfold sHds at h
    by_cases hc : (us.contains c && us.contains k) = true
    · simp only [hc, if_true] at h
      simp only [Bool.and_eq_true, List.contains_iff_mem] at hc
      have hi : C.pn i = none := hp _ List.mem_cons_self i rfl
      refine ⟨esub c k, EF.exm c hc.1 k hc.2, fun z => ⟨_, rfl, fun a ha => ?_⟩, fun z => ?_⟩
      · simp only [z, if_true] at h
        obtain ⟨F2, B2, G2, S2⟩ := caught (c := c) G S' xr ha hi
        refine ⟨F2, B2, n', _, S2, ?_⟩
        show WSL C wx kr ms _ _ _ _ _ _
        unfold WSL at h ⊢
        cases e : ms n' (ds'.set i (some (.err c fs))) with
        | none => simp only [e, unM] at h
        | some pp =>
          obtain ⟨fl, n3, ds3⟩ := pp
          cases fl with
          | nx =>
            simp only [e, unM] at h
            exact fun σ6 F6 B6 H6 G6 S6 => h _ F6 B6 H6 (G2.trans G6) (sim_unset S6 hi)
          | bk =>
            simp only [e, unM] at h
            exact fun σ6 F6 B6 H6 G6 S6 => h _ F6 B6 H6 (G2.trans G6) (sim_unset S6 hi)
          | ct =>
            simp only [e, unM] at h
            exact fun σ6 F6 B6 H6 G6 S6 => h _ F6 B6 H6 (G2.trans G6) (sim_unset S6 hi)
          | rt d =>
            simp only [e, unM] at h
            exact RtP.tr G2 h
          | ex c2 fs2 =>
            simp only [e, unM] at h
            exact fun σ6 F6 B6 H6 od2 G6 S6 x6 => h σ6 F6 B6 H6 od2 (G2.trans G6) S6 (x6.trS G2)
      · simp only [z, Bool.false_eq_true, if_false] at h
        exact hds_of EF G S' xr (fun q hq => hp q (List.mem_cons_of_mem _ hq)) h
    · simp only [hc, if_false] at h
      exact h.elim
theorem ws_try (hst : X.stack = X.env :: X.outer) (hf : X.env.frame = some X.env.locals) (hex : X.ex = []) (hN : X.N.Nodup) (tk : Takes X wx) (EF : EFs C.K us) (hp : ∀ h ∈ hs, ∀ i, h.2.1 = some i → C.pn i = none)
    (hb : ∀ (W : WX) (pn : List (Addr × Obj)) (xe : Value → Shared → Prop), Takes (X.tr pn xe) W → PassesOwn (model X.prog X.w) X.A X.env xe → PSs (X.tr pn xe) body (WS C W kr mb))
    (hh : HdsT X (h₀ :: hds) (hs.map (toHd C wx kr))) (hK : X.K = C.K := by rfl) : PS X (.Try body (h₀ :: hds) [] [] pos) (WS C wx kr (sTry us mb hs)) := (ps_tryT hst hf hex hN tk hb hh).wk fun D σ H w => by
  obtain ⟨F, B, n, ds, S, h⟩ := w
  refine ⟨F, B, n, ds, S, ?_⟩
  rw [hK]
  have h0 := h
  unfold WSL at h ⊢
  cases e : mb n ds with
  | none => simp only [sTry, e] at h
  | some pp =>
    obtain ⟨fl, n', ds'⟩ := pp
    cases fl with
    | nx => simp only [sTry, e] at h; exact h
    | bk => simp only [sTry, e] at h; exact h
    | ct => simp only [sTry, e] at h; exact h
    | rt d => simp only [sTry, e] at h; exact h
    | ex c fs =>
      intro σ' F' B' H' od G S' xr
      have e2 : sTry us mb hs n ds = sHds us c fs hs n' ds' := by unfold sTry; rw [e]
      exact hds_of (n := n) (ds := ds) EF G S' xr hp (WSL.tr (GoS.refl S.fh) e2 h0)
end
end GW

namespace GW
open PySem L2 PyProof.Rows
/-! ### text times number -/
def repS (x : Str) (n : Nat) : Str := ⟨((List.replicate n x.cps.toList).flatten).toArray⟩
theorem foldl_repA (a : Array Nat) : ∀ (n : Nat) (b : Array Nat), (List.replicate n a).foldl (· ++ ·) b = b ++ ((List.replicate n a.toList).flatten).toArray
  | 0, b => by simp
  | n + 1, b => by
    rw [List.replicate_succ, List.foldl_cons, foldl_repA a n, List.replicate_succ, List.flatten_cons]
    apply Array.ext'
    simp
def rMulS : R2 := fun x y H Q => ∃ (z : Str) (n : Int), x = .str z ∧ y = .int n ∧ -(2 ^ 62) ≤ n ∧ n ≤ 4096 ∧ z.length ≤ 1000 ∧ Q (.str (repS z n.toNat)) H
theorem repS_len (z : Str) (n : Nat) : (repS z n).length = n * z.length := by
  show (((List.replicate n z.cps.toList).flatten).toArray).size = n * z.cps.size
  simp
theorem op_mulS {X : Cx} : OpR X (binaryOp .Mult) rMulS := by
  intro pins s σ H x y v u Q I rx ry h
  obtain ⟨z, n, rfl, rfl, h1, h2, h3, q⟩ := h
  obtain ⟨t, rfl⟩ := rx
  obtain ⟨t', rfl⟩ := ry
  have h5 : n.toNat ≤ 4096 := by omega
  have hlen : z.length * n.toNat ≤ 1000 * 4096 := Nat.mul_le_mul h3 h5
  have key : ∀ w tk, w = repS z n.toNat → Inv X pins σ H { s with toks := tk } → EP X pins σ Q (.str w s.toks) { s with toks := tk } := fun w tk e I' => ⟨.str (repS z n.toNat), H, I', ⟨s.toks, by rw [e]⟩, q⟩
  refine PySem.P.mul_str ?_ ?_ ?_ ?_
  · rw [decide_eq_false (show ¬ n < -(2 ^ 63 : Int) by omega), decide_eq_false (show ¬ n ≥ 2 ^ 63 by omega)]; rfl
  · intro hn _ hc
    have : (z.length : Int) ≤ (2 ^ 63 - 1) / n := by
      rw [Int.le_ediv_iff_mul_le (by omega)]
      have : (z.length : Int) * n ≤ 1000 * 4096 := Int.mul_le_mul (by omega) (by omega) (by omega) (by decide)
      omega
    omega
  · intro hn _
    unfold PySem.Builtin.Str.tooLong
    refine decide_eq_false ?_
    rw [sizeLine_eq]
    omega
  · by_cases hn : n < 1
    · rw [if_pos hn]
      refine ⟨by decide, ?_⟩
      refine key _ _ ?_ (I.tok _)
      have : n.toNat = 0 := by omega
      rw [this]; rfl
    · rw [if_neg hn]
      by_cases hc : (n == 1 || z.length == 0) = true
      · rw [if_pos hc]
        refine ⟨.str (repS z n.toNat), H, I, ⟨t, ?_⟩, q⟩
        have e : repS z n.toNat = z := by
          unfold repS
          rcases (Bool.or_eq_true _ _).mp hc with hc | hc
          · have : n.toNat = 1 := by have := beq_iff_eq.mp hc; omega
            rw [this]; simp
          · have h0 : z.cps.toList = [] := by
              have : z.cps.size = 0 := beq_iff_eq.mp hc
              exact List.length_eq_zero_iff.mp (by simpa using this)
            rw [h0]
            have : ((List.replicate n.toNat ([] : List Nat)).flatten) = [] := by simp
            rw [this]
            cases z with
            | mk c =>
              have : c.toList = [] := h0
              congr 1
              apply Array.ext'
              simpa using this.symm
        rw [e]
      · rw [if_neg hc]
        refine ⟨?_, key _ _ ?_ (I.tok _)⟩
        · rw [foldl_repA]
          show (#[] ++ ((List.replicate n.toNat z.cps.toList).flatten).toArray).size ≤ _
          have := repS_len z n.toNat
          have e2 : (#[] ++ ((List.replicate n.toNat z.cps.toList).flatten).toArray).size = (repS z n.toNat).length := by
            rw [Array.size_append]; show 0 + _ = _; rw [Nat.zero_add]; rfl
          rw [e2, this, Nat.mul_comm]
          first | omega | (rw [sizeLine_eq]; omega)
        · rw [foldl_repA]
          unfold repS
          simp
def oMulS (a b : D) : Option D := match a, b with
  | .str z, .int n => if n.toNat ≤ 4096 ∧ -4096 ≤ n ∧ z.length ≤ 1000 then some (.str (repS z n.toNat)) else none
  | _, _ => none
section
variable {K : PySem.W.Frag}
theorem os_mulS : OpS K rMulS oMulS := by
  intro G H x y a b d A A' hs ra rb e
  unfold oMulS at e
  split at e
  · rename_i z n
    split at e
    · rename_i h
      cases e
      exact ⟨_, rfl, fun Q q => ⟨z, n, ra.str_, rb.int_, by omega, by omega, h.2.2, q⟩⟩
    · cases e
  · cases e
end
/-! ### == of nested things -/
mutual
def toP : D → Option PyData
  | .non => some .none
  | .bl b => some (.bool b)
  | .int i => some (.int i)
  | .str x => some (.str x)
  | .tup ds => (toPs ds).map .tuple
  | .lst ds => (toPs ds).map .list
  | _ => none
def toPs : List D → Option (List PyData)
  | [] => some []
  | d :: r => match toP d, toPs r with
    | some p, some q => some (p :: q)
    | _, _ => none
end
theorem toPs_get : ∀ {ds : List D} {ps : List PyData}, toPs ds = some ps → ds.length = ps.length ∧ ∀ (i : Nat) d, ds[i]? = some d → ∃ p, ps[i]? = some p ∧ toP d = some p
  | [], ps, h => by
    simp only [toPs, Option.some.injEq] at h
    subst h
    exact ⟨rfl, fun i d e => by cases e⟩
  | d :: r, ps, h => by
    simp only [toPs] at h
    cases h1 : toP d with
    | none => rw [h1] at h; cases h
    | some p =>
      cases h2 : toPs r with
      | none => rw [h1, h2] at h; cases h
      | some q =>
        rw [h1, h2] at h
        cases h
        obtain ⟨h3, h4⟩ := toPs_get h2
        refine ⟨by simp [h3], fun i d' e => ?_⟩
        cases i with
        | zero =>
          simp only [List.getElem?_cons_zero, Option.some.injEq] at e
          subst e
          exact ⟨p, rfl, h1⟩
        | succ i => exact h4 i d' (by simpa using e)
theorem dpAll_of {K : PySem.W.Frag} {H : Hp} : ∀ {vs : List V} {ps : List PyData}, vs.length = ps.length → (∀ (i : Nat) v p, vs[i]? = some v → ps[i]? = some p → L2.Dp K H v p) → L2.DpAll K H vs ps
  | [], [], _, _ => .nil
  | [], _ :: _, h, _ => by cases h
  | _ :: _, [], h, _ => by cases h
  | v :: vs, p :: ps, h, c => .cons (c 0 v p rfl rfl) (dpAll_of (by simpa using h) fun i v p a b => c (i + 1) v p (by simpa using a) (by simpa using b))
theorem dp_of {K : PySem.W.Frag} {G H : Hp} {k : Nat} {v : V} {d : D} {A : AS} (hs : Same G H) (r : Rp K G H k v d A) (hk : k = 0) : ∀ {p : PyData}, toP d = some p → L2.Dp K H v p := by
  induction r with
  | non => intro p h; simp only [toP, Option.some.injEq] at h; subst h; exact .non
  | bl => intro p h; simp only [toP, Option.some.injEq] at h; subst h; exact .bl _
  | int => intro p h; simp only [toP, Option.some.injEq] at h; subst h; exact .int _
  | str => intro p h; simp only [toP, Option.some.injEq] at h; subst h; exact .str _
  | tup hh l c ih =>
    intro p h
    rename_i ds
    simp only [toP] at h
    cases h2 : toPs ds with
    | none => rw [h2] at h; cases h
    | some ps =>
      rw [h2] at h
      cases h
      obtain ⟨h3, h4⟩ := toPs_get h2
      refine .tup hh (dpAll_of (l.trans h3) fun i v p a b => ?_)
      have hlt : i < ds.length := by rw [h3]; exact (List.getElem?_eq_some_iff.mp b).1
      obtain ⟨q, h5, h6⟩ := h4 i ds[i] (List.getElem?_eq_getElem hlt)
      rw [b] at h5; cases h5
      exact ih i v _ a (List.getElem?_eq_getElem hlt) rfl h6
  | lst hh l c ih =>
    intro p h
    rename_i ds
    simp only [toP] at h
    cases h2 : toPs ds with
    | none => rw [h2] at h; cases h
    | some ps =>
      rw [h2] at h
      cases h
      obtain ⟨h3, h4⟩ := toPs_get h2
      refine .lst (sqL_mono hh hs) (dpAll_of (l.trans h3) fun i v p a b => ?_)
      have hlt : i < ds.length := by rw [h3]; exact (List.getElem?_eq_some_iff.mp b).1
      obtain ⟨q, h5, h6⟩ := h4 i ds[i] (List.getElem?_eq_getElem hlt)
      rw [b] at h5; cases h5
      exact ih i v _ a (List.getElem?_eq_getElem hlt) rfl h6
  | lstO => cases hk
  | dct => intro p h; cases h
  | dctO => cases hk
  | obj => intro p h; cases h
  | objO => cases hk
  | err => intro p h; cases h
def oEqQ (a b : D) : Option D := match toP a, toP b with
  | some p, some q => if (SeqAt.shaped p && SeqAt.shaped q) = true then some (.bl (PyData.eqv p q)) else none
  | _, _ => none
def oNeQ (a b : D) : Option D := match toP a, toP b with
  | some p, some q => if (SeqAt.shaped p && SeqAt.shaped q) = true then some (.bl (!PyData.eqv p q)) else none
  | _, _ => none
theorem os_eqQ {K : PySem.W.Frag} : OpS K (rEqD K) oEqQ := by
  intro G H x y a b d A A' hs ra rb e
  unfold oEqQ at e
  split at e
  · rename_i p q h1 h2
    split at e
    · rename_i hc
      cases e
      simp only [Bool.and_eq_true] at hc
      exact ⟨_, rfl, fun Q z => ⟨p, q, dp_of hs ra rfl h1, dp_of hs rb rfl h2, hc.1, hc.2, z⟩⟩
    · cases e
  · cases e
theorem os_neQ {K : PySem.W.Frag} : OpS K (rNeD K) oNeQ := by
  intro G H x y a b d A A' hs ra rb e
  unfold oNeQ at e
  split at e
  · rename_i p q h1 h2
    split at e
    · rename_i hc
      cases e
      simp only [Bool.and_eq_true] at hc
      exact ⟨_, rfl, fun Q z => ⟨p, q, dp_of hs ra rfl h1, dp_of hs rb rfl h2, hc.1, hc.2, z⟩⟩
    · cases e
  · cases e
theorem hu64 {A : Around} {k : Nat} (hr : Room k A) : A.units + 64 < cLine := by have := hr.un; omega
/-! ### the module's own names -/
section
variable {X : Cx} {C : Ctx} {wx : WX} {g : Rg} {k : Nat} {x : Str} {pos p : Pos} {e : Expr} {es : List Expr} {ms : Mo (List D)}
/-- a text, a number -/
theorem ve_gstr {z : Str} (hm : ∃ t, X.mg x = some (.str z t)) (hg : Gl X x := by rfl) (hd : (x == ("__debug__" : Str)) = false := by decide) : PE X (.Name x pos) (W C wx g k (mC (.str z))) := by
  obtain ⟨t, hm⟩ := hm
  refine (pe_glob (v := .str z) hg hm ⟨t, rfl⟩ hd).wk fun σ H Q w => ?_
  obtain ⟨F, B, n, ds, S, h⟩ := w
  obtain ⟨d, e, q⟩ := WL.retE (R := RV C g k) (o := some (D.str z)) h
  cases e
  exact q (.str z) F H (GoC.refl S.fh) S ⟨fun _ => False, .str, Fr.no⟩
/-- a tuple of texts that the text of the module laid -/
structure GTup (K : PySem.W.Frag) (mg : Str → Option Value) (x : Str) (zs : List Str) : Prop where
  gl : mg x = some (.ref (He.ga K x))
  sq : ∀ H, SqT K H (He.ga K x) (zs.map V.str)
theorem ve_gtup {zs : List Str} (G0 : GTup C.K X.mg x zs) (hg : Gl X x := by rfl) (hd : (x == ("__debug__" : Str)) = false := by decide) : PE X (.Name x pos) (W C wx g k (mC (.tup (zs.map D.str)))) := by
  refine (pe_glob (v := .ref (He.ga C.K x)) hg G0.gl rfl hd).wk fun σ H Q w => ?_
  obtain ⟨F, B, n, ds, S, h⟩ := w
  obtain ⟨d, e, q⟩ := WL.retE (R := RV C g k) (o := some (D.tup (zs.map D.str))) h
  cases e
  refine q (.ref (He.ga C.K x)) F H (GoC.refl S.fh) S ⟨fun _ => False, .tup (G0.sq H) (by simp) (fun i v d a b => ?_), Fr.no⟩
  rw [List.getElem?_map] at a b
  cases h2 : zs[i]? with
  | none => rw [h2] at a; cases a
  | some z => rw [h2] at a b; cases a; cases b; exact .str
/-! ### min, max of two numbers -/
def oMin2 : List D → Option D
  | [.int i, .int j] => some (.int (if j < i then j else i))
  | _ => none
def oMax2 : List D → Option D
  | [.int i, .int j] => some (.int (if j > i then j else i))
  | _ => none
theorem ve_min2 (hm : X.mg "min" = none) (ha : PA X (e :: es) (WA C wx .bo ms)) (hc : X.calm = true := by rfl) (hg : Gl X "min" := by rfl)
    (hs : starEach (e :: es) X.env = (false, eval e X.env) :: starEach es X.env := by rfl) (hpl : (backTo pos (starEach es X.env)).any (·.1) = false := by rfl) : PE X (.Call (.Name "min" p) (e :: es) [] pos) (W C wx g k (mCB ms oMin2)) := by
  refine (pe_callB (call_min2 hc) hg hm PyProof.Rows.boot_min ha (by decide) (by decide) hs hpl).wk fun σ H Q w => ?_
  obtain ⟨F, B, n, ds, S, h⟩ := w
  refine ⟨F, B, n, ds, S, (h.bind fun F1 H1 F2 H2 v d G r => r.tr G).mono fun xs H1 ⟨F1, n1, da, G1, S1, r1, h1⟩ => ?_⟩
  obtain ⟨d, e, q⟩ := h1.sc S1
  unfold oMin2 at e
  split at e
  · rename_i i j
    cases e
    obtain ⟨v, v', rfl, ra, rb⟩ := r1.two
    exact ⟨i, j, by rw [ra.int_, rb.int_], q _ rfl⟩
  · cases e
theorem ve_max2 (hm : X.mg "max" = none) (ha : PA X (e :: es) (WA C wx .bo ms)) (hc : X.calm = true := by rfl) (hg : Gl X "max" := by rfl)
    (hs : starEach (e :: es) X.env = (false, eval e X.env) :: starEach es X.env := by rfl) (hpl : (backTo pos (starEach es X.env)).any (·.1) = false := by rfl) : PE X (.Call (.Name "max" p) (e :: es) [] pos) (W C wx g k (mCB ms oMax2)) := by
  refine (pe_callB (call_max2 hc) hg hm PyProof.Rows.boot_max ha (by decide) (by decide) hs hpl).wk fun σ H Q w => ?_
  obtain ⟨F, B, n, ds, S, h⟩ := w
  refine ⟨F, B, n, ds, S, (h.bind fun F1 H1 F2 H2 v d G r => r.tr G).mono fun xs H1 ⟨F1, n1, da, G1, S1, r1, h1⟩ => ?_⟩
  obtain ⟨d, e, q⟩ := h1.sc S1
  unfold oMax2 at e
  split at e
  · rename_i i j
    cases e
    obtain ⟨v, v', rfl, ra, rb⟩ := r1.two
    exact ⟨i, j, by rw [ra.int_, rb.int_], q _ rfl⟩
  · cases e
end
end GW

namespace GW
open PySem L2 PyProof.Rows
/-! ### the head: own facts beside the kit's -/
def oexB (K : PySem.W.Frag) (C : Addr) : Bool := (match K.lookup C with
  | some ⟨.type "type", _, .cls cd, sl⟩ => (match cd.mro, sl.toList with
    | .ref C' :: bm, [_, _, _, _, some (.builtin n), _] => C' == C && (n == "ValueError.__new__" && (!cd.hasDel && (cd.hasDict && PySem.HandSPX.refsVE bm)))
    | _, _ => false)
  | _ => false) && (decide (PySem.W.findIn K (.ref C) "__setattr__" = some (some (.builtin "object.__setattr__"))) && (decide (PySem.W.findIn K (.ref C) "__init__" = some (some (.ref (He.ma K C "__init__")))) && decide (PySem.W.typeIn K (.ref (He.ma K C "__init__")) = some (.type "function"))))
theorem oexB_ok {K : PySem.W.Frag} {C : Addr} (F : ExF K C) (h : oexB K C = true) : OexC K C ∧ PySem.W.findIn K (.ref C) "__init__" = some (some (.ref (He.ma K C "__init__"))) ∧ PySem.W.typeIn K (.ref (He.ma K C "__init__")) = some (.type "function") := by
  unfold oexB at h
  obtain ⟨h1, h2⟩ := Bool.and_eq_true_iff.mp h
  obtain ⟨h3, h4⟩ := Bool.and_eq_true_iff.mp h2
  obtain ⟨h5, h6⟩ := Bool.and_eq_true_iff.mp h4
  refine ⟨⟨?_, of_decide_eq_true h3, F.sb, F.ty, F.kp⟩, of_decide_eq_true h5, of_decide_eq_true h6⟩
  split at h1
  · rename_i dd cd sl ho
    split at h1
    · rename_i C' bm k0 k1 k2 k3 n k5 hm hs
      simp only [Bool.and_eq_true, beq_iff_eq, Bool.not_eq_true'] at h1
      obtain ⟨rfl, rfl, hdel, hdict, hv⟩ := h1
      obtain ⟨nm, bs, mro, ns, qn, hd, sn, sub, ab, col, del⟩ := cd
      dsimp only at hm hdel hdict hv
      subst hm hdel hdict
      have hsl : sl = #[k0, k1, k2, k3, some (.builtin "ValueError.__new__"), k5] := by
        obtain ⟨l⟩ := sl
        simp only at hs
        rw [hs]
      subst hsl
      exact ⟨nm, qn, ns, bs, bm, sn, sub, ab, col, dd, k0, k1, k2, k3, k5, ho, hv⟩
    · cases h1
  · cases h1
abbrev AlX : Type := Bool × He.AlD
def obsX (fa : List He.Fa) (fn : List He.DefD) (fb : List (PySem.W.Frag → Bool)) (K : PySem.W.Frag) : AlX := (fb.all fun f => f K, He.obsD fa fn K)
def SaysX (fa : List He.Fa) (fn : List He.DefD) (fb : List (PySem.W.Frag → Bool)) (K : PySem.W.Frag) : Prop := obsX fa fn fb K = (true, He.valD fn)
def obsXG (n : Nat) (fa : List He.Fa) (fn : List He.DefD) (fb : List (PySem.W.Frag → Bool)) (g : Addr → Option Obj) : AlX := obsX fa fn fb (He.frG g (He.asD g n))
def hookX (n : Nat) (fa : List He.Fa) (fn : List He.DefD) (fb : List (PySem.W.Frag → Bool)) : PySem.W.Hook where
  α := AlX
  obs := fun s => obsXG n fa fn fb s.heap.get?
  val := fun _ => (true, He.valD fn)
  says := fun _ h => ∃ K : PySem.W.Frag, K.In h ∧ SaysX fa fn fb K
  of := fun _ _ e => ⟨_, He.frG_in, e⟩
  keeps := fun _ _ _ ⟨K, hK, c⟩ k => ⟨K, PySem.W.Frag.In.keeps hK k, c⟩
theorem obsXG_eq {n : Nat} {fa : List He.Fa} {fn : List He.DefD} {fb : List (PySem.W.Frag → Bool)} {g : Addr → Option Obj} {s : Shared} (h : ∀ a, g a = s.heap.get? a) : obsXG n fa fn fb g = (hookX n fa fn fb).obs s := by
  have e : g = s.heap.get? := funext h
  rw [e] <;> rfl
section
variable {fa : List He.Fa} {fn : List He.DefD} {fb : List (PySem.W.Frag → Bool)} {K : PySem.W.Frag}
theorem SaysX.d (c : SaysX fa fn fb K) : He.SaysD fa fn K := congrArg (fun z : AlX => z.2) c
theorem SaysX.own (c : SaysX fa fn fb K) (i : Nat) {f : PySem.W.Frag → Bool} (h : fb[i]? = some f := by rfl) : f K = true :=
  List.all_eq_true.mp (congrArg (fun z : AlX => z.1) c) f (List.mem_of_getElem? h)
theorem gtup_ok {mg : Str → Option Value} {x : Str} {zs : List Str} (g : mg x = some (.ref (He.ga K x))) (h : He.tupB K x (zs.map He.Dv.str) = true) : GTup K mg x zs := ⟨g, fun H => by
  have := He.tupB_ok h H
  rw [List.map_map] at this
  exact this⟩
theorem eown_ok {h : Heap} {mg : Str → Option Value} {c : Nat} (X : K.In h) (G : h.Ns mainGlobals mg) (F : ExF K (ec K c)) (c1 : (He.Fa.glo (exN c)).ok K = true) (c2 : (He.Fa.exc (exN c)).ok K = true) : EOwn K mg c :=
  ⟨He.glo_ok X G c1, (He.exc_ok c2).1, F⟩
theorem emk_ok {P : Program} {w : World} {h : Heap} {mg : Str → Option Value} {base : Heap} {c : Nat} {fs : List Str} (X : K.In h) (G : h.Ns mainGlobals mg) (F : ExF K (ec K c)) (c1 : (He.Fa.glo (exN c)).ok K = true) (c2 : oexB K (ec K c) = true)
    (hf : OexC K (ec K c) → ∃ (fd : FuncData) (ps : List Str), FnOk P w K mg base (L2.CX P w) 1 (He.ma K (ec K c) "__init__") fd ps (spX K (ec K c) fs) ∧ Binds K fd ps []) : EMk P w K mg base c fs := by
  obtain ⟨T, h1, h2⟩ := oexB_ok F c2
  obtain ⟨fd, ps, h3, h4⟩ := hf T
  exact ⟨He.glo_ok X G c1, T, _, fd, ps, h1, h2, h3, h4⟩
end
end GW
namespace GW
open PySem L2 PyProof.Rows
/-! ### the head's facts over listed addresses (cheap where the module is long) -/
def obsLG (as : List Addr) (fa : List He.Fa) (fn : List He.DefD) (fb : List (PySem.W.Frag → Bool)) (g : Addr → Option Obj) : AlX := obsX fa fn fb (He.frG g as)
def hookL (as : List Addr) (fa : List He.Fa) (fn : List He.DefD) (fb : List (PySem.W.Frag → Bool)) : PySem.W.Hook where
  α := AlX
  obs := fun s => obsLG as fa fn fb s.heap.get?
  val := fun _ => (true, He.valD fn)
  says := fun _ h => ∃ K : PySem.W.Frag, K.In h ∧ SaysX fa fn fb K
  of := fun _ _ e => ⟨_, He.frG_in, e⟩
  keeps := fun _ _ _ ⟨K, hK, c⟩ k => ⟨K, PySem.W.Frag.In.keeps hK k, c⟩
theorem obsLG_eq {as : List Addr} {fa : List He.Fa} {fn : List He.DefD} {fb : List (PySem.W.Frag → Bool)} {g : Addr → Option Obj} {s : Shared} (h : ∀ a, g a = s.heap.get? a) : obsLG as fa fn fb g = (hookL as fa fn fb).obs s := by
  have e : g = s.heap.get? := funext h
  rw [e] <;> rfl
end GW
namespace K22
open PySem L2 PyProof.Rows GW
noncomputable section
def top (i : Nat) : Stmt := PySem.Challenge.pw_gapweave_k22_small_rows_listed.main.body.getD i (.Pass ⟨0, 0, 0, 0⟩)
abbrev exs : List Nat := [0, 1, 3, 9]
abbrev s_NoSign_init : Stmt := clsItem (top 4) 0
abbrev s_greatest_part : Stmt := top 6
abbrev s_lowest : Stmt := top 7
abbrev s_least_whole : Stmt := top 8
abbrev s_is_sign : Stmt := top 10
abbrev s_signs_fit : Stmt := top 11
abbrev s_price_kept : Stmt := top 12
abbrev s_units_of : Stmt := top 14
abbrev s_Prices_init : Stmt := clsItem (top 13) 0
abbrev s_pair_cost : Stmt := top 15
abbrev s_opening_cost : Stmt := top 16
abbrev s_more_cost : Stmt := top 17
abbrev s_in_units : Stmt := top 18
abbrev s_ask_signs : Stmt := top 19
abbrev s_ask_manner : Stmt := top 22
abbrev s_may_begin : Stmt := top 23
abbrev s_may_end : Stmt := top 24
abbrev s_Sheet_init : Stmt := clsItem (top 26) 0
abbrev s_Sheet_begins : Stmt := clsItem (top 26) 1
abbrev s_Sheet_ends : Stmt := clsItem (top 26) 2
abbrev s_Sheet_gap : Stmt := clsItem (top 26) 3
abbrev s_sheet_of : Stmt := top 27
abbrev s_steps_from : Stmt := top 28
abbrev s_rest_from : Stmt := top 29
abbrev s_rest_table : Stmt := top 30
abbrev s_begins_of : Stmt := top 31
abbrev s_least_of : Stmt := top 32
abbrev s_first_moves : Stmt := top 33
abbrev s_cheapest : Stmt := top 34
abbrev s_count_of : Stmt := top 35
abbrev s__law_next : Stmt := top 37
abbrev s__law_great : Stmt := top 38
abbrev s__law_signs : Stmt := top 39
abbrev s__law_price : Stmt := top 40
abbrev s__law_table : Stmt := top 41
abbrev s__law_prices : Stmt := top 42
abbrev s__law_row : Stmt := top 43
abbrev s__law_manner : Stmt := top 44
abbrev s__law_same : Stmt := top 45
abbrev s__law_gap : Stmt := top 46
abbrev s__law_walk : Stmt := top 47
abbrev s__law_may_begin : Stmt := top 48
abbrev s__law_may_end : Stmt := top 49
abbrev s__law_key : Stmt := top 50
abbrev s__law_ways : Stmt := top 51
abbrev s__law_all : Stmt := top 52
abbrev s_law : Stmt := top 53
def d_greatest_part : He.DefD := ⟨("greatest_part", none), "greatest_part", "greatest_part", defArgs s_greatest_part, defBody s_greatest_part, defScope s_greatest_part, [], []⟩
def d_lowest : He.DefD := ⟨("lowest", none), "lowest", "lowest", defArgs s_lowest, defBody s_lowest, defScope s_lowest, [], []⟩
def d_least_whole : He.DefD := ⟨("least_whole", none), "least_whole", "least_whole", defArgs s_least_whole, defBody s_least_whole, defScope s_least_whole, [], []⟩
def d_is_sign : He.DefD := ⟨("is_sign", none), "is_sign", "is_sign", defArgs s_is_sign, defBody s_is_sign, defScope s_is_sign, [], []⟩
def d_signs_fit : He.DefD := ⟨("signs_fit", none), "signs_fit", "signs_fit", defArgs s_signs_fit, defBody s_signs_fit, defScope s_signs_fit, [], []⟩
def d_price_kept : He.DefD := ⟨("price_kept", none), "price_kept", "price_kept", defArgs s_price_kept, defBody s_price_kept, defScope s_price_kept, [], []⟩
def d_units_of : He.DefD := ⟨("units_of", none), "units_of", "units_of", defArgs s_units_of, defBody s_units_of, defScope s_units_of, [], []⟩
def d_Prices_init : He.DefD := ⟨("Prices", (some "__init__")), "__init__", "Prices.__init__", defArgs s_Prices_init, defBody s_Prices_init, defScope s_Prices_init, [], []⟩
def d_pair_cost : He.DefD := ⟨("pair_cost", none), "pair_cost", "pair_cost", defArgs s_pair_cost, defBody s_pair_cost, defScope s_pair_cost, [], []⟩
def d_opening_cost : He.DefD := ⟨("opening_cost", none), "opening_cost", "opening_cost", defArgs s_opening_cost, defBody s_opening_cost, defScope s_opening_cost, [], []⟩
def d_more_cost : He.DefD := ⟨("more_cost", none), "more_cost", "more_cost", defArgs s_more_cost, defBody s_more_cost, defScope s_more_cost, [], []⟩
def d_in_units : He.DefD := ⟨("in_units", none), "in_units", "in_units", defArgs s_in_units, defBody s_in_units, defScope s_in_units, [], []⟩
def d_ask_signs : He.DefD := ⟨("ask_signs", none), "ask_signs", "ask_signs", defArgs s_ask_signs, defBody s_ask_signs, defScope s_ask_signs, [], []⟩
def d_ask_manner : He.DefD := ⟨("ask_manner", none), "ask_manner", "ask_manner", defArgs s_ask_manner, defBody s_ask_manner, defScope s_ask_manner, [], []⟩
def d_may_begin : He.DefD := ⟨("may_begin", none), "may_begin", "may_begin", defArgs s_may_begin, defBody s_may_begin, defScope s_may_begin, [], []⟩
def d_may_end : He.DefD := ⟨("may_end", none), "may_end", "may_end", defArgs s_may_end, defBody s_may_end, defScope s_may_end, [], []⟩
def d_Sheet_init : He.DefD := ⟨("Sheet", (some "__init__")), "__init__", "Sheet.__init__", defArgs s_Sheet_init, defBody s_Sheet_init, defScope s_Sheet_init, [], []⟩
def d_Sheet_begins : He.DefD := ⟨("Sheet", (some "begins")), "begins", "Sheet.begins", defArgs s_Sheet_begins, defBody s_Sheet_begins, defScope s_Sheet_begins, [], []⟩
def d_Sheet_ends : He.DefD := ⟨("Sheet", (some "ends")), "ends", "Sheet.ends", defArgs s_Sheet_ends, defBody s_Sheet_ends, defScope s_Sheet_ends, [], []⟩
def d_Sheet_gap : He.DefD := ⟨("Sheet", (some "gap")), "gap", "Sheet.gap", defArgs s_Sheet_gap, defBody s_Sheet_gap, defScope s_Sheet_gap, [], []⟩
def d_sheet_of : He.DefD := ⟨("sheet_of", none), "sheet_of", "sheet_of", defArgs s_sheet_of, defBody s_sheet_of, defScope s_sheet_of, [], []⟩
def d_steps_from : He.DefD := ⟨("steps_from", none), "steps_from", "steps_from", defArgs s_steps_from, defBody s_steps_from, defScope s_steps_from, [], []⟩
def d_rest_from : He.DefD := ⟨("rest_from", none), "rest_from", "rest_from", defArgs s_rest_from, defBody s_rest_from, defScope s_rest_from, [], []⟩
def d_rest_table : He.DefD := ⟨("rest_table", none), "rest_table", "rest_table", defArgs s_rest_table, defBody s_rest_table, defScope s_rest_table, [], []⟩
def d_begins_of : He.DefD := ⟨("begins_of", none), "begins_of", "begins_of", defArgs s_begins_of, defBody s_begins_of, defScope s_begins_of, [], []⟩
def d_least_of : He.DefD := ⟨("least_of", none), "least_of", "least_of", defArgs s_least_of, defBody s_least_of, defScope s_least_of, [], []⟩
def d_first_moves : He.DefD := ⟨("first_moves", none), "first_moves", "first_moves", defArgs s_first_moves, defBody s_first_moves, defScope s_first_moves, [], []⟩
def d_cheapest : He.DefD := ⟨("cheapest", none), "cheapest", "cheapest", defArgs s_cheapest, defBody s_cheapest, defScope s_cheapest, [.str "whole"], []⟩
def d_count_of : He.DefD := ⟨("count_of", none), "count_of", "count_of", defArgs s_count_of, defBody s_count_of, defScope s_count_of, [], []⟩
def d__law_next : He.DefD := ⟨("_law_next", none), "_law_next", "_law_next", defArgs s__law_next, defBody s__law_next, defScope s__law_next, [], []⟩
def d__law_great : He.DefD := ⟨("_law_great", none), "_law_great", "_law_great", defArgs s__law_great, defBody s__law_great, defScope s__law_great, [], []⟩
def d__law_signs : He.DefD := ⟨("_law_signs", none), "_law_signs", "_law_signs", defArgs s__law_signs, defBody s__law_signs, defScope s__law_signs, [], []⟩
def d__law_price : He.DefD := ⟨("_law_price", none), "_law_price", "_law_price", defArgs s__law_price, defBody s__law_price, defScope s__law_price, [], []⟩
def d__law_table : He.DefD := ⟨("_law_table", none), "_law_table", "_law_table", defArgs s__law_table, defBody s__law_table, defScope s__law_table, [], []⟩
def d__law_prices : He.DefD := ⟨("_law_prices", none), "_law_prices", "_law_prices", defArgs s__law_prices, defBody s__law_prices, defScope s__law_prices, [], []⟩
def d__law_row : He.DefD := ⟨("_law_row", none), "_law_row", "_law_row", defArgs s__law_row, defBody s__law_row, defScope s__law_row, [], []⟩
def d__law_manner : He.DefD := ⟨("_law_manner", none), "_law_manner", "_law_manner", defArgs s__law_manner, defBody s__law_manner, defScope s__law_manner, [], []⟩
def d__law_same : He.DefD := ⟨("_law_same", none), "_law_same", "_law_same", defArgs s__law_same, defBody s__law_same, defScope s__law_same, [], []⟩
def d__law_gap : He.DefD := ⟨("_law_gap", none), "_law_gap", "_law_gap", defArgs s__law_gap, defBody s__law_gap, defScope s__law_gap, [], []⟩
def d__law_walk : He.DefD := ⟨("_law_walk", none), "_law_walk", "_law_walk", defArgs s__law_walk, defBody s__law_walk, defScope s__law_walk, [], []⟩
def d__law_may_begin : He.DefD := ⟨("_law_may_begin", none), "_law_may_begin", "_law_may_begin", defArgs s__law_may_begin, defBody s__law_may_begin, defScope s__law_may_begin, [], []⟩
def d__law_may_end : He.DefD := ⟨("_law_may_end", none), "_law_may_end", "_law_may_end", defArgs s__law_may_end, defBody s__law_may_end, defScope s__law_may_end, [], []⟩
def d__law_key : He.DefD := ⟨("_law_key", none), "_law_key", "_law_key", defArgs s__law_key, defBody s__law_key, defScope s__law_key, [], []⟩
def d__law_ways : He.DefD := ⟨("_law_ways", none), "_law_ways", "_law_ways", defArgs s__law_ways, defBody s__law_ways, defScope s__law_ways, [], []⟩
def d__law_all : He.DefD := ⟨("_law_all", none), "_law_all", "_law_all", defArgs s__law_all, defBody s__law_all, defScope s__law_all, [], []⟩
def d_law : He.DefD := ⟨("law", none), "law", "law", defArgs s_law, defBody s_law, defScope s_law, [], []⟩
def d_NoSign_init : He.DefD := ⟨("NoSign", (some "__init__")), "__init__", "NoSign.__init__", defArgs s_NoSign_init, defBody s_NoSign_init, defScope s_NoSign_init, [], []⟩
def fn : List He.DefD := [d_greatest_part, d_lowest, d_least_whole, d_is_sign, d_signs_fit, d_price_kept, d_units_of, d_Prices_init, d_pair_cost, d_opening_cost, d_more_cost, d_in_units, d_ask_signs, d_ask_manner, d_may_begin, d_may_end, d_Sheet_init, d_Sheet_begins, d_Sheet_ends, d_Sheet_gap, d_sheet_of, d_steps_from, d_rest_from, d_rest_table, d_begins_of, d_least_of, d_first_moves, d_cheapest, d_count_of, d__law_next, d__law_great, d__law_signs, d__law_price, d__law_table, d__law_prices, d__law_row, d__law_manner, d__law_same, d__law_gap, d__law_walk, d__law_may_begin, d__law_may_end, d__law_key, d__law_ways, d__law_all, d_law, d_NoSign_init]
def fb : List (PySem.W.Frag → Bool) := [efB exs, fun K => oexB K (ec K 9), fun K => He.tupB K "MANNERS" ((["whole", "within", "over", "stretch"] : List Str).map He.Dv.str)]
def fa : List He.Fa := [.glo "greatest_part", .glo "lowest", .glo "least_whole", .glo "is_sign", .glo "signs_fit", .glo "price_kept", .glo "units_of", .glo "pair_cost", .glo "opening_cost", .glo "more_cost", .glo "in_units", .glo "ask_signs", .glo "ask_manner", .glo "may_begin", .glo "may_end", .glo "sheet_of", .glo "steps_from", .glo "rest_from", .glo "rest_table", .glo "begins_of", .glo "least_of", .glo "first_moves", .glo "cheapest", .glo "count_of", .glo "_law_next", .glo "_law_great", .glo "_law_signs", .glo "_law_price", .glo "_law_table", .glo "_law_prices", .glo "_law_row", .glo "_law_manner", .glo "_law_same", .glo "_law_gap", .glo "_law_walk", .glo "_law_may_begin", .glo "_law_may_end", .glo "_law_key", .glo "_law_ways", .glo "_law_all", .glo "law", .free "abs", .free "all", .free "bool", .free "divmod", .free "enumerate", .free "int", .free "isinstance", .free "len", .free "list", .free "min", .free "ord", .free "range", .free "reversed", .free "str", .free "sum", .free "tuple", .free "zip", .glo "Prices", .cls "Prices", .mkr "Prices", .noat "Prices" "signs", .noat "Prices" "pairs", .noat "Prices" "opening", .noat "Prices" "more", .noat "Prices" "whole", .noat "Prices" "costs", .noat "Prices" "open_units", .noat "Prices" "more_units", .glo "Sheet", .cls "Sheet", .mkr "Sheet", .noat "Sheet" "first", .noat "Sheet" "second", .noat "Sheet" "high", .noat "Sheet" "wide", .noat "Sheet" "manner", .noat "Sheet" "opening", .noat "Sheet" "more", .noat "Sheet" "costs", .meth "Sheet" "begins", .meth "Sheet" "ends", .meth "Sheet" "gap", .glo "WeaveError", .glo "NoPrices", .glo "NoManner", .glo "NoSign", .exc "NoManner", .exc "NoPrices", .glo "MANNERS"]
def csK (K : PySem.W.Frag) : Nat → Addr := fun i => if i = 0 then He.ga K "Prices" else if i = 1 then He.ga K "Sheet" else 0
abbrev R : PySem.W.OpenRow := PySem.W.OpenLaw.row PySem.Challenge.rw_gapweave_k22_small_rows_listed
def ads : List Addr := [3, 6, 4, 24, 37, 49, 68, 77, 84, 91, 98, 105, 112, 127, 138, 145, 152, 159, 166, 173, 174, 181, 188, 195, 231, 242, 249, 256, 261, 266, 271, 278, 284, 289, 296, 303, 308, 315, 320, 327, 334, 341, 346, 353, 360, 367, 374, 381, 388, 395, 400, 0, 23, 36, 48, 67, 76, 83, 90, 97, 104, 111, 126, 137, 144, 151, 158, 165, 172, 180, 187, 194, 230, 241, 248, 255, 260, 265, 270, 277, 283, 279, 288, 295, 302, 307, 314, 319, 326, 333, 340, 345, 352, 359, 366, 373, 380, 387, 394, 399, 22, 25, 35, 47, 65, 66, 71, 72, 73, 74, 75, 78, 79, 80, 81, 82, 85, 86, 87, 88, 89, 92, 93, 94, 95, 96, 99, 100, 101, 102, 103, 106, 107, 108, 109, 110, 124, 125, 128, 129, 132, 133, 134, 135, 136, 139, 140, 141, 142, 143, 146, 147, 148, 149, 150, 153, 154, 155, 156, 157, 160, 161, 162, 163, 164, 167, 168, 169, 170, 171, 175, 176, 177, 178, 179, 182, 183, 184, 185, 186, 189, 190, 191, 192, 193, 207, 214, 221, 228, 229, 232, 233, 236, 237, 238, 239, 240, 243, 244, 245, 246, 247, 250, 251, 252, 253, 254, 257, 258, 259, 262, 263, 264, 267, 268, 269, 272, 273, 274, 275, 276, 280, 281, 282, 285, 286, 287, 290, 291, 292, 293, 294, 297, 298, 299, 300, 301, 304, 305, 306, 309, 310, 311, 312, 313, 316, 317, 318, 321, 322, 323, 324, 325, 328, 329, 330, 331, 332, 335, 336, 337, 338, 339, 342, 343, 344, 347, 348, 349, 350, 351, 354, 355, 356, 357, 358, 361, 362, 363, 364, 365, 368, 369, 370, 371, 372, 375, 376, 377, 378, 379, 382, 383, 384, 385, 386, 389, 390, 391, 392, 393, 396, 397, 398, 64, 123, 206, 213, 220, 227, 59, 60, 61, 62, 63, 120, 121, 122, 203, 204, 205, 208, 209, 210, 211, 212, 215, 216, 217, 218, 219, 222, 223, 224, 225, 226]
abbrev hk : PySem.W.Hook := hookL ads fa fn fb
def ob (s : PySem.W.SharedT) : AlX := obsLG ads fa fn fb (HandSHeadRun.getT s)
theorem ob_eq (s : PySem.W.SharedT) : ob s = hk.obs s.abs := obsLG_eq (HandSHeadRun.getT_eq s)
theorem run (w : World) : HandSHeadRun.RunEq R (PySem.W.view R.prog [53]) hk ob 9000 ("__name__" :: "WeaveError" :: "NoPrices" :: "NoManner" :: "NoSign" :: "greatest_part" :: "lowest" :: "least_whole" :: "is_sign" :: "signs_fit" :: "price_kept" :: "Prices" :: "units_of" :: "pair_cost" :: "opening_cost" :: "more_cost" :: "in_units" :: "ask_signs" :: "MANNERS" :: "ask_manner" :: "may_begin" :: "may_end" :: "Sheet" :: "sheet_of" :: "steps_from" :: "rest_from" :: "rest_table" :: "begins_of" :: "least_of" :: "first_moves" :: "cheapest" :: "count_of" :: "_law_next" :: "_law_great" :: "_law_signs" :: "_law_price" :: "_law_table" :: "_law_prices" :: "_law_row" :: "_law_manner" :: "_law_same" :: "_law_gap" :: "_law_walk" :: "_law_may_begin" :: "_law_may_end" :: "_law_key" :: "_law_ways" :: "_law_all" :: []) w := by
  intro os
  kernel_rfl

end
end K22

namespace GW
open PySem L2 PyProof.Rows
/-! ### errors reckoned -/
section
variable {n n1 : Int} {ds : DS} {us : List Nat} {c k : Nat} {fs : List (Str × Int)}
@[simp] theorem sv_raise : sRaise c n ds = some (.ex c [], n, ds) := (rfl)
@[simp] theorem sv_raiseF {fl : List Str} {ms : Mo (List D)} : sRaiseF c fl ms n ds = sE ms (fun as => fun n ds => match intsE as with
  | some is => if is.length = fl.length then some (.ex c ((fl.zip is).reverse), n, ds) else none
  | none => none) n ds := (rfl)
@[simp] theorem ov_ints0 : intsE [] = some [] := (rfl)
@[simp] theorem ov_ints {i : Int} {r : List D} : intsE (.int i :: r) = (intsE r).map (i :: ·) := (rfl)
theorem try_ex {mb : MS} {hs : List HdM} {n' : Int} {ds' : DS} (h : mb n ds = some (.ex c fs, n', ds')) : sTry us mb hs n ds = sHds us c fs hs n' ds' := by unfold sTry; rw [h]
theorem try_nx {mb : MS} {hs : List HdM} {n' : Int} {ds' : DS} (h : mb n ds = some (.nx, n', ds')) : sTry us mb hs n ds = some (.nx, n', ds') := by unfold sTry; rw [h]
@[simp] theorem sv_hds0 : sHds us c fs [] n ds = some (.ex c fs, n, ds) := (rfl)
@[simp] theorem sv_hdsN {ms : MS} {r : List HdM} : sHds us c fs ((k, none, ms) :: r) n ds = if us.contains c && us.contains k then (if esub c k then ms n ds else sHds us c fs r n ds) else none := (rfl)
@[simp] theorem sv_hdsS {i : Nat} {ms : MS} {r : List HdM} : sHds us c fs ((k, some i, ms) :: r) n ds = if us.contains c && us.contains k then (if esub c k then unM i (ms n (ds.set i (some (.err c fs)))) else sHds us c fs r n ds) else none := (rfl)
@[simp] theorem sv_un {i : Nat} {n' : Int} {ds' : DS} : unM i (some (.nx, n', ds')) = some (.nx, n', ds'.set i none) := (rfl)
@[simp] theorem ov_isE {js : List Nat} : oIsE us js (.err c fs) = if us.contains c && js.all us.contains then some (.bl (js.any (esub c))) else none := (rfl)
@[simp] theorem ov_isV : oIsV us (.err c fs) = if us.contains c then some (.bl true) else none := (rfl)
@[simp] theorem ov_fldE {f : Str} : oFldE us f (.err c fs) = if us.contains c && fldN.contains f then (fs.lookup f).map .int else none := (rfl)
theorem fn0_ex {N : Nat} {ms : MS} {as : List D} (h : outF (ms 0 (startD N as)) = some (.ex c fs, 0)) : fn0 N ms as = some (.ex c fs) := by
  unfold fn0; rw [h]; rfl
theorem drop_of {m : M} {d : D} (h : m n ds = some (.ok d, n1)) : sDrop m n ds = some (.nx, n1, ds) := E_ok h (Eq.refl _)
theorem drop_ex {m : M} (h : m n ds = some (.ex c fs, n1)) : sDrop m n ds = some (.ex c fs, n1, ds) := by
  show sE m _ n ds = _
  unfold sE; rw [h]
theorem set_ex {i : Nat} {m : M} (h : m n ds = some (.ex c fs, n1)) : sSet i m n ds = some (.ex c fs, n1, ds) := by
  show sE m _ n ds = _
  unfold sE; rw [h]
end
/-! ### == of pairs, mins, texts times numbers -/
theorem shaped_int2 (a b : Int) : SeqAt.shaped (.tuple [.int a, .int b]) = true := (rfl)
@[simp] theorem ov_eqQ2 {a b c d : Int} : oEqQ (.tup [.int a, .int b]) (.tup [.int c, .int d]) = some (.bl (decide (a = c) && decide (b = d))) := by
  have e : oEqQ (.tup [.int a, .int b]) (.tup [.int c, .int d]) = some (.bl ((a == c) && ((b == d) && true))) := (rfl)
  rw [e]
  rw [Bool.and_true]
  have h : ∀ x y : Int, (x == y) = decide (x = y) := fun x y => by rw [Bool.eq_iff_iff]; simp
  rw [h, h]
@[simp] theorem ov_min2 {i j : Int} : oMin2 [.int i, .int j] = some (.int (if j < i then j else i)) := (rfl)
@[simp] theorem ov_max2 {i j : Int} : oMax2 [.int i, .int j] = some (.int (if j > i then j else i)) := (rfl)
theorem repS_tx (c : Nat) : ∀ n : Nat, repS (tx [c]) n = tx (List.replicate n c) := fun n => by
  unfold repS
  have : ((List.replicate n (tx [c]).cps.toList).flatten) = List.replicate n c := by
    induction n with
    | zero => rfl
    | succ n ih => rw [List.replicate_succ, List.flatten_cons, ih, List.replicate_succ]; rfl
  rw [this]
theorem ov_mulS {c : Nat} {n : Int} (h0 : 0 ≤ n) (h1 : n ≤ 4096) : oMulS (.str (tx [c])) (.int n) = some (.str (tx (List.replicate n.toNat c))) := by
  show (if n.toNat ≤ 4096 ∧ -4096 ≤ n ∧ (tx [c]).length ≤ 1000 then some (D.str (repS (tx [c]) n.toNat)) else none) = _
  rw [if_pos ⟨by omega, by omega, show 1 ≤ 1000 by decide⟩, repS_tx]
/-- a loop over two parts -/
theorem forL_append {tg : Tg} {body : MS} : ∀ {as bs : List D} {n : Int} {ds : DS} {n1 : Int} {ds1 : DS}, forL tg body as n ds = some (.nx, n1, ds1) → (∀ d ∈ as, ∀ n ds ds2 n' ds', tg.bind d ds = some ds2 → body n ds2 ≠ some (.bk, n', ds')) → forL tg body (as ++ bs) n ds = forL tg body bs n1 ds1
  | [], bs, n, ds, n1, ds1, h, _ => by cases h; rfl
  | a :: as, bs, n, ds, n1, ds1, h, hb => by
    rw [List.cons_append, sv_forCons]
    rw [sv_forCons] at h
    cases e : tg.bind a ds with
    | none => rw [e] at h; cases h
    | some ds2 =>
      rw [e] at h
      dsimp only at h ⊢
      cases e2 : body n ds2 with
      | none => rw [e2] at h; cases h
      | some pp =>
        obtain ⟨fl, n', ds'⟩ := pp
        rw [e2] at h
        cases fl with
        | nx => exact forL_append h fun d hd => hb d (List.mem_cons_of_mem _ hd)
        | ct => exact forL_append h fun d hd => hb d (List.mem_cons_of_mem _ hd)
        | bk => exact absurd e2 (hb a List.mem_cons_self n ds ds2 n' ds' e)
        | rt d => cases h
        | ex c fs => cases h
end GW
namespace GW
open PySem L2 PyProof.Rows
theorem forL_nx {tg : Tg} {body : MS} {a : D} {as : List D} {n n' : Int} {ds ds1 ds' : DS} (h : tg.bind a ds = some ds1) (h2 : body n ds1 = some (.nx, n', ds')) : forL tg body (a :: as) n ds = forL tg body as n' ds' := by
  rw [sv_forCons, h]; dsimp only; rw [h2]
theorem forL_ex {tg : Tg} {body : MS} {a : D} {as : List D} {n n' : Int} {ds ds1 ds' : DS} {c : Nat} {fs : List (Str × Int)} (h : tg.bind a ds = some ds1) (h2 : body n ds1 = some (.ex c fs, n', ds')) : forL tg body (a :: as) n ds = some (.ex c fs, n', ds') := by
  rw [sv_forCons, h]; dsimp only; rw [h2]
theorem forL_rt {tg : Tg} {body : MS} {a : D} {as : List D} {n n' : Int} {ds ds1 ds' : DS} {d : D} (h : tg.bind a ds = some ds1) (h2 : body n ds1 = some (.rt d, n', ds')) : forL tg body (a :: as) n ds = some (.rt d, n', ds') := by
  rw [sv_forCons, h]; dsimp only; rw [h2]
end GW
namespace GW
theorem seq_two {a b c : MS} {n n1 : Int} {ds ds1 : DS} {r : Option (Fl × Int × DS)} (h : sSeq a b n ds = some (.nx, n1, ds1)) (h2 : c n1 ds1 = r) : sSeq a (sSeq b c) n ds = r := by
  unfold sSeq at h ⊢
  cases e : a n ds with
  | none => rw [e] at h; cases h
  | some pp =>
    obtain ⟨fl, k, ds2⟩ := pp
    rw [e] at h
    cases fl with
    | nx => dsimp only at h ⊢; rw [h]; exact h2
    | _ => cases h
end GW

namespace GW
open PySem L2 PyProof.Rows
/-! ### parts of texts -/
theorem ov_slTo {l : List Nat} {k : Nat} (hl : l.length ≤ 16777216) (hk : k ≤ l.length) : oSl none (some (k : Int)) (.str (tx l)) = some (.str (tx (l.take k))) := by
  have hz : (tx l).length = l.length := by simp [tx, Str.length]
  show (if (tx l).length ≤ sizeLine then some (D.str (cutS (tx l) none (some (k : Int)))) else none) = _
  rw [if_pos (by rw [hz]; exact hl)]
  unfold cutS
  rw [HT.sIx_none, HT.sIx_nat, hz, Nat.min_eq_left hk]
  rfl
theorem ov_slFrom {l : List Nat} {k : Nat} (hl : l.length ≤ 16777216) (hk : k ≤ l.length) : oSl (some (k : Int)) none (.str (tx l)) = some (.str (tx (l.drop k))) := by
  have hz : (tx l).length = l.length := by simp [tx, Str.length]
  show (if (tx l).length ≤ sizeLine then some (D.str (cutS (tx l) (some (k : Int)) none)) else none) = _
  rw [if_pos (by rw [hz]; exact hl)]
  unfold cutS
  rw [HT.sIx_none, HT.sIx_nat, hz, Nat.min_eq_left hk]
  have e : (tx l).cps.toList = l := rfl
  rw [e, List.take_of_length_le (by rw [List.length_drop]; omega)]
@[simp] theorem ov_cat {a b : List D} : oCat (.lst a) (.lst b) = if a.length + b.length ≤ 16777216 then some (.lst (a ++ b)) else none := (rfl)
end GW

namespace GW
open PySem L2 PyProof.Rows
/-! ### methods of texts -/
def strsD : List D → Option (List Str)
  | [] => some []
  | .str x :: r => (strsD r).map (x :: ·)
  | _ => none
theorem strs_of {K : PySem.W.Frag} {G H : Hp} : ∀ {vs : List V} {ds : List D} {ys : List Str}, RpL K G H vs ds → strsD ds = some ys → vs = ys.map V.str
  | [], [], ys, r, e => by cases e; rfl
  | [], _ :: _, _, r, _ => by cases r.1
  | _ :: _, [], _, r, _ => by cases r.1
  | v :: vs, d :: ds, ys, ⟨l, c⟩, e => by
    cases d with
    | str x =>
      simp only [strsD] at e
      cases h : strsD ds with
      | none => rw [h] at e; cases e
      | some zs =>
        rw [h] at e; cases e
        have h0 := (c 0 v (.str x) rfl rfl).str_
        have := strs_of (vs := vs) (ds := ds) ⟨by simpa using l, fun i v d a b => c (i + 1) v d a b⟩ h
        subst h0 this
        rfl
    | _ => cases e
def joinD (a : Str) (ds : List D) : Option D := match strsD ds with
  | some ys => if (ys.map (·.length)).sum + ys.length * a.length ≤ 16777216 then some (.str (Txt.join a ys)) else none
  | none => none
def oJoin (a : Str) : D → Option D
  | .lst ds => joinD a ds
  | .tup ds => joinD a ds
  | _ => none
def mM1 (mo me : M) (o : Str → D → Option D) : M := mb mo fun x => match x with
  | .str z => mb me fun y => ret (o z y)
  | _ => ret none
section
variable {X : Cx} {C : Ctx} {wx : WX} {g : Rg} {kr k : Nat} {oe a b e : Expr} {es : List Expr} {pos apos : Pos} {m ma mc mo me : M} {ms : Mo (List D)}
theorem ve_m1 {id : String} {name : Str} {r : V → List V → Hp → VK → Prop} {o : Str → D → Option D} (slot : Slot "str" name id) (ty : typeOf (.builtin id) = pure (.type "method_descriptor")) (rule : MtR X id r)
    (hr : ∀ (G H : Hp) (z : Str) (y : V) (b d : D) (A : AS), Same G H → Rp C.K G H 0 y b A → o z b = some d → ∃ v, scV d = some v ∧ ∀ Q : VK, Q v H → r (.str z) [y] H Q)
    (ho : PE X oe (W C wx .bo 0 mo)) (he : PE X e (W C wx .bo 0 me))
    (hs : starEach [e] X.env = [(false, eval e X.env)] := by rfl) (hbase : attributeBase oe name X.env (eval oe X.env) = eval oe X.env := by rfl) (hline : (apos.endLine == pos.line) = true := by rfl) :
    PE X (.Call (.Attribute oe name apos) [e] [] pos) (W C wx g k (mM1 mo me o)) :=
  (pe_m1 slot ty rule ho he hs hbase hline).wk fun σ H Q w => by
  refine w.imp (t := fun σ H Q => tM1 r _ _ σ H Q) fun F B n ds S h => ?_
  refine ⟨F, B, n, ds, S, (h.bind fun F1 H1 F2 H2 v d G r => r.tr G).mono fun x H1 ⟨F1, n1, da, G1, S1, ⟨A1, r1, f1⟩, h1⟩ => ?_⟩
  cases da with
  | str z =>
    have hx := r1.str_
    subst hx
    refine ⟨⟨z, rfl⟩, F1, B, n1, ds, S1, (h1.bind fun F1 H1 F2 H2 v d G r => r.tr G).mono fun y H2 ⟨F2, n2, db, G2, S2, ⟨A2, r2, f2⟩, h2⟩ => ?_⟩
    obtain ⟨d, e, q⟩ := h2.sc S2
    obtain ⟨v, hv, hr⟩ := hr _ _ z y db d _ (rg_same S2.fh) r2 e
    exact hr Q (q v hv)
  | _ =>
    obtain ⟨d, e, q⟩ := h1.retE
    cases e
theorem ve_join (ho : PE X oe (W C wx .bo 0 mo)) (he : PE X e (W C wx .bo 0 me)) (hK : X.K = C.K := by rfl)
    (hs : starEach [e] X.env = [(false, eval e X.env)] := by rfl) (hbase : attributeBase oe "join" X.env (eval oe X.env) = eval oe X.env := by rfl) (hline : (apos.endLine == pos.line) = true := by rfl) :
    PE X (.Call (.Attribute oe "join" apos) [e] [] pos) (W C wx g k (mM1 mo me oJoin)) :=
  ve_m1 F.slot_str_join F.type_str_join mt_join (fun G H z y b d A hs r e => by
    rw [hK]
    cases r with
    | @lst _ p vs ds h l c =>
      unfold oJoin joinD at e
      dsimp only at e
      cases hy : strsD ds with
      | none => rw [hy] at e; cases e
      | some ys =>
        rw [hy] at e; dsimp only at e
        split at e
        · rename_i hl
          cases e
          have := strs_of (RpL.of l c) hy
          subst this
          exact ⟨_, rfl, fun Q q => ⟨z, p, ys, rfl, rfl, .inl (sqL_mono h hs), hl, q⟩⟩
        · cases e
    | @tup _ _ p vs ds h l c =>
      unfold oJoin joinD at e
      dsimp only at e
      cases hy : strsD ds with
      | none => rw [hy] at e; cases e
      | some ys =>
        rw [hy] at e; dsimp only at e
        split at e
        · rename_i hl
          cases e
          have := strs_of (RpL.of l c) hy
          subst this
          exact ⟨_, rfl, fun Q q => ⟨z, p, ys, rfl, rfl, .inr h, hl, q⟩⟩
        · cases e
    | _ => cases e) ho he hs hbase hline
/-! ### a list times an int -/
def rRepS (K : PySem.W.Frag) : R2 := fun x y H Q => ∃ l k xs, x = .ref l ∧ y = .int k ∧ SqL K H l xs ∧ -(2 ^ 63) ≤ k ∧ k < 2 ^ 63 ∧ xs.length * k.toNat ≤ 2 ^ 24 ∧ ∀ p, H p = none → Q (.ref p) (upd H p (.lst (List.replicate k.toNat xs).flatten))
theorem op_repS : OpR X (binaryOp .Mult) (rRepS X.K) := by
  intro pins s σ H x y v u Q I rx ry h
  obtain ⟨l, k, xs, rfl, rfl, hH, h1, h2, hz, q⟩ := h
  cases rx
  obtain ⟨t, rfl⟩ := ry
  obtain ⟨its, r, p1, _⟩ := I.list hH
  have l1 := r.length
  obtain ⟨⟨cls, dd, data, sl⟩, n, ho, hc, _, hd⟩ := id p1
  simp only at hc hd
  subst hc hd
  have hsz : its.toArray.size * k.toNat ≤ 2 ^ 24 := by rw [List.size_toArray, ← l1]; exact hz
  refine wpAny_binaryOp_repeat_ref (T := "list") (U := "int") (by decide) ⟨_, ho, rfl⟩ (fun s' => typeIs_int s' k t) noFill_list_mul F.fills_int_mul F.slot_int_rmul repeat_list F.slot_int_index.lookup
    (call_meets F.slot_int_rmul (typeIs_int s k t) F.entry_int_rmul (F.args_int_rmul_2 _ _) (lm_int_rmul_list_any k t l its.toArray n dd sl)
      ⟨ho, rfl, ⟨_, ho, rfl⟩, call_meets F.slot_list_mul ⟨_, ho, rfl⟩ F.entry_list_mul (F.args_list_mul_2 _ _)
        (lm_list_mul_any l its.toArray n dd sl k t (by simp [Builtin.List.listFitsIndex]; omega) (by omega) (by simp [Builtin.List.listTooLong, sizeLine]; omega))
        ⟨ho, ?_⟩⟩)
  rw [listMul_foldl_if]
  exact ⟨.ref _, _, I.lnew (t' := s.toks) (r.rep k.toNat) (by rw [PyProof.Rows.lm_len_rep_flat, Nat.mul_comm]; exact hz), rfl, q _ I.fresh⟩
def oRep : D → D → Option D
  | .lst as, .int k => if -(2 ^ 63) ≤ k ∧ k < 2 ^ 63 ∧ as.length * k.toNat ≤ 2 ^ 24 then some (.lst (List.replicate k.toNat as).flatten) else none
  | _, _ => none
theorem RpL.rep {K : PySem.W.Frag} {G H : Hp} {vs : List V} {ds : List D} (r : RpL K G H vs ds) : ∀ k : Nat, RpL K G H (List.replicate k vs).flatten (List.replicate k ds).flatten
  | 0 => ⟨rfl, fun i v d a _ => by simp at a⟩
  | k + 1 => by
    rw [List.replicate_succ, List.replicate_succ, List.flatten_cons, List.flatten_cons]
    exact r.append (RpL.rep r k)
theorem ve_rep (ha : PE X a (W C wx .fz 0 ma)) (hb : PE X b (W C wx .bo 0 mc)) (hK : X.K = C.K := by rfl) : PE X (.BinOp a .Mult b pos) (W C wx .fz 1 (m2 ma mc oRep)) :=
  (pe_op (r := rRepS C.K) (by rw [← hK]; exact op_repS) ha hb).wk fun σ H Q w => by
  obtain ⟨F, B, n, ds, S, h⟩ := w
  refine ⟨F, B, n, ds, S, (h.bind fun F1 H1 F2 H2 v d G r => r.tr G).mono fun x H1 ⟨F1, n1, da, G1, S1, ⟨A1, r1, f1⟩, h1⟩ => ?_⟩
  refine ⟨F1, B, n1, ds, S1, (h1.bind fun F1 H1 F2 H2 v d G r => r.tr G).mono fun y H2 ⟨F2, n2, db, G2, S2, ⟨A2, r2, f2⟩, h2⟩ => ?_⟩
  obtain ⟨d, e, q⟩ := h2.retE
  have r1' : Rp C.K F2 H2 0 x da (fun _ => False) := Rp.go0 (g := .fz) r1 G2
  unfold oRep at e
  split at e
  · rename_i as k _
    split at e
    · rename_i hl
      cases e
      have hy := r2.int_
      subst hy
      cases r1' with
      | @lst _ p1 vs1 _ hh1 l1 c1 =>
        refine ⟨p1, k, vs1, rfl, rfl, sqL_mono hh1 S2.fh, hl.1, hl.2.1, by rw [l1]; exact hl.2.2, fun p hp => ?_⟩
        obtain ⟨G3, S3⟩ := S2.newO (o := .lst (List.replicate k.toNat vs1).flatten) hp
        have R := RpL.rep (K := C.K) (G := F2) (H := H2) (vs := vs1) (ds := as) ⟨l1, fun i v d a b => (c1 i v d a b).z⟩ k.toNat
        exact q (.ref p) F2 _ G3 S3 ⟨fun a => a = p, .lstO (fun _ _ => False) upd_same rfl R.1 (fun i v d a b => Rp.go0 (g := .fz) (R.2 i v d a b) G3) (fun _ _ h => h.elim) (fun _ _ _ h => h.elim), Fr.one S2.fh hp rfl⟩
    · cases e
  · cases e
end
/-! ### reckoned -/
theorem strsD_map (l : List Str) : strsD (l.map D.str) = some l := by
  induction l with
  | nil => rfl
  | cons x l ih => simp [strsD, ih]
theorem tx_ext {a b : Str} (h : a.cps.toList = b.cps.toList) : a = b := by
  cases a; cases b; simp only at h; rw [Array.toList_inj] at h; rw [h]
theorem joinL_nil : ∀ ls : List (List Nat), TL.joinL [] ls = ls.flatten
  | [] => rfl
  | [p] => by simp [TL.joinL]
  | p :: q :: r => by
    show p ++ ([] ++ TL.joinL [] (q :: r)) = _
    rw [List.nil_append, joinL_nil (q :: r)]; simp
theorem join_tx {ls : List (List Nat)} : Txt.join (tx []) (ls.map tx) = tx ls.flatten := by
  rw [TL.join_eq]
  apply tx_ext
  have h := TL.tl_join (tx []) (ls.map tx)
  have e : (ls.map tx).map TL.tl = ls := by simp [TL.tl, Function.comp_def]
  rw [e] at h
  exact h.trans (joinL_nil ls)
/-- ''.join of a list of texts -/
theorem ov_join0 {ls : List (List Nat)} (h : ls.flatten.length ≤ 16777216) : oJoin (tx []) (.lst (ls.map fun l => D.str (tx l))) = some (.str (tx ls.flatten)) := by
  have e1 : strsD (ls.map fun l => D.str (tx l)) = some (ls.map tx) := by
    have := strsD_map (ls.map tx)
    rw [List.map_map] at this; exact this
  have hs : ((ls.map tx).map (·.length)).sum = ls.flatten.length := by
    rw [List.length_flatten, List.map_map]; congr 1
  show joinD _ _ = _
  unfold joinD
  rw [e1]
  dsimp only
  rw [if_pos (by rw [hs]; show _ + _ * 0 ≤ _; omega), join_tx]
theorem rep_one {α : Type} (x : α) (k : Nat) : (List.replicate k [x]).flatten = List.replicate k x := by
  induction k with
  | zero => rfl
  | succ k ih => rw [List.replicate_succ, List.flatten_cons, ih, List.replicate_succ]; rfl
theorem ov_rep1 {x : D} {k : Nat} (h : k ≤ 4096) : oRep (.lst [x]) (.int (k : Int)) = some (.lst (List.replicate k x)) := by
  unfold oRep
  dsimp only
  have h3 : [x].length * (k : Int).toNat ≤ 2 ^ 24 := by
    rw [Int.toNat_natCast, List.length_singleton, Nat.one_mul]
    exact Nat.le_trans h (by decide)
  rw [if_pos ⟨by omega, by omega, h3⟩, Int.toNat_natCast, rep_one]
@[simp] theorem ev_mM1 {mo me : M} {o : Str → D → Option D} {n : Int} {ds : DS} : mM1 mo me o n ds = mb mo (fun x => match x with
  | .str z => mb me fun y => ret (o z y)
  | _ => ret none) n ds := (rfl)
end GW

namespace GW
open PySem L2 PyProof.Rows
/-! ### lists of texts are the same -/
theorem toPs_txs : ∀ xs : List (List Nat), toPs (xs.map fun l => D.str (tx l)) = some (xs.map fun l => PyData.str (tx l))
  | [] => rfl
  | x :: xs => by
    rw [List.map_cons]
    unfold toPs
    rw [toPs_txs xs]
    rfl
theorem lay_txs : ∀ xs : List (List Nat), (∀ x ∈ xs, PyData.canLay0 (.str (tx x)) = true) → PyData.canLayAll0 (xs.map fun l => PyData.str (tx l)) = true
  | [], _ => rfl
  | x :: xs, h => by
    rw [List.map_cons]
    show (PyData.canLay0 _ && PyData.canLayAll0 _) = true
    rw [h x List.mem_cons_self, lay_txs xs fun y hy => h y (List.mem_cons_of_mem _ hy)]; rfl
theorem depth_txs : ∀ xs : List (List Nat), PyData.depthAll (xs.map fun l => PyData.str (tx l)) = 0
  | [] => rfl
  | x :: xs => by
    rw [List.map_cons]
    show max (PyData.depth _) (PyData.depthAll _) = 0
    rw [depth_txs xs]; rfl
theorem eqv_txs : ∀ xs ys : List (List Nat), PyData.eqvAll (xs.map fun l => PyData.str (tx l)) (ys.map fun l => PyData.str (tx l)) = decide (xs = ys)
  | [], [] => rfl
  | [], _ :: _ => rfl
  | _ :: _, [] => rfl
  | x :: xs, y :: ys => by
    rw [List.map_cons, List.map_cons]
    show ((tx x == tx y) && PyData.eqvAll _ _) = _
    rw [eqv_txs xs ys, Bool.eq_iff_iff]
    simp only [Bool.and_eq_true, beq_iff_eq, decide_eq_true_eq, tx_inj, List.cons.injEq]
theorem shaped_txs {xs : List (List Nat)} (h : ∀ x ∈ xs, PyData.canLay0 (.str (tx x)) = true) : SeqAt.shaped (.list (xs.map fun l => PyData.str (tx l))) = true ∧ SeqAt.shaped (.tuple (xs.map fun l => PyData.str (tx l))) = true := by
  have h1 := lay_txs xs h
  have h2 := depth_txs xs
  constructor
  · show (PyData.canLayAll0 _ && decide (PyData.depthAll _ + 1 ≤ 64)) = true
    rw [h1, h2]; rfl
  · show (PyData.canLayAll0 _ && decide (PyData.depthAll _ + 1 ≤ 64)) = true
    rw [h1, h2]; rfl
theorem ov_eqL {xs ys : List (List Nat)} (hx : ∀ x ∈ xs, PyData.canLay0 (.str (tx x)) = true) (hy : ∀ x ∈ ys, PyData.canLay0 (.str (tx x)) = true) : oEqQ (.lst (xs.map fun l => D.str (tx l))) (.lst (ys.map fun l => D.str (tx l))) = some (.bl (decide (xs = ys))) := by
  have e1 : toP (.lst (xs.map fun l => D.str (tx l))) = some (.list (xs.map fun l => PyData.str (tx l))) := by
    show (toPs _).map PyData.list = _
    rw [toPs_txs]; rfl
  have e2 : toP (.lst (ys.map fun l => D.str (tx l))) = some (.list (ys.map fun l => PyData.str (tx l))) := by
    show (toPs _).map PyData.list = _
    rw [toPs_txs]; rfl
  unfold oEqQ
  rw [e1, e2]
  dsimp only
  rw [(shaped_txs hx).1, (shaped_txs hy).1]
  have : PyData.eqv (.list (xs.map fun l => PyData.str (tx l))) (.list (ys.map fun l => PyData.str (tx l))) = PyData.eqvAll (xs.map fun l => PyData.str (tx l)) (ys.map fun l => PyData.str (tx l)) := rfl
  rw [this, eqv_txs]; rfl
theorem ov_eqT {xs ys : List (List Nat)} (hx : ∀ x ∈ xs, PyData.canLay0 (.str (tx x)) = true) (hy : ∀ x ∈ ys, PyData.canLay0 (.str (tx x)) = true) : oEqQ (.tup (xs.map fun l => D.str (tx l))) (.tup (ys.map fun l => D.str (tx l))) = some (.bl (decide (xs = ys))) := by
  have e1 : toP (.tup (xs.map fun l => D.str (tx l))) = some (.tuple (xs.map fun l => PyData.str (tx l))) := by
    show (toPs _).map PyData.tuple = _
    rw [toPs_txs]; rfl
  have e2 : toP (.tup (ys.map fun l => D.str (tx l))) = some (.tuple (ys.map fun l => PyData.str (tx l))) := by
    show (toPs _).map PyData.tuple = _
    rw [toPs_txs]; rfl
  unfold oEqQ
  rw [e1, e2]
  dsimp only
  rw [(shaped_txs hx).2, (shaped_txs hy).2]
  have : PyData.eqv (.tuple (xs.map fun l => PyData.str (tx l))) (.tuple (ys.map fun l => PyData.str (tx l))) = PyData.eqvAll (xs.map fun l => PyData.str (tx l)) (ys.map fun l => PyData.str (tx l)) := rfl
  rw [this, eqv_txs]; rfl
theorem lay_tx {l : List Nat} (h : ∀ c ∈ l, c < 1114112) : PyData.canLay0 (.str (tx l)) = true := by
  show (Array.all _ _) = true
  simp only [Array.all_eq_true', List.mem_toArray, decide_eq_true_eq]
  exact h
theorem ov_neQ2 {a b c d : Int} : oNeQ (.tup [.int a, .int b]) (.tup [.int c, .int d]) = some (.bl (!(decide (a = c) && decide (b = d)))) := by
  have e : oNeQ (.tup [.int a, .int b]) (.tup [.int c, .int d]) = some (.bl (!((a == c) && ((b == d) && true)))) := (rfl)
  rw [e]
  rw [Bool.and_true]
  have h : ∀ x y : Int, (x == y) = decide (x = y) := fun x y => by rw [Bool.eq_iff_iff]; simp
  rw [h, h]
end GW

/-! sorted of triples of ints -/
namespace GW
open PySem PyProof.Rows SrtO
abbrev I3 := Int × Int × Int
def lexT (p q : I3) : Bool := if p.1 = q.1 then (if p.2.1 = q.2.1 then decide (p.2.2 < q.2.2) else decide (p.2.1 < q.2.1)) else decide (p.1 < q.1)
theorem lexT_iff {p q : I3} : lexT p q = true ↔ p.1 < q.1 ∨ (p.1 = q.1 ∧ (p.2.1 < q.2.1 ∨ (p.2.1 = q.2.1 ∧ p.2.2 < q.2.2))) := by
  unfold lexT
  by_cases e : p.1 = q.1
  · rw [if_pos e]
    by_cases e2 : p.2.1 = q.2.1
    · rw [if_pos e2, decide_eq_true_eq]; omega
    · rw [if_neg e2, decide_eq_true_eq]; omega
  · rw [if_neg e, decide_eq_true_eq]; omega
theorem lexT_no {p q : I3} : lexT p q = false ↔ ¬ (p.1 < q.1 ∨ (p.1 = q.1 ∧ (p.2.1 < q.2.1 ∨ (p.2.1 = q.2.1 ∧ p.2.2 < q.2.2)))) := by
  rw [← lexT_iff]
  cases lexT p q <;> simp
theorem swo_lexT {α : Type} (k : α → I3) : Swo fun v u => lexT (k v) (k u) := by
  refine ⟨fun x y h => ?_, fun x y z h1 h2 => ?_⟩
  · have a := lexT_iff.mp h
    refine lexT_no.mpr ?_
    omega
  · have a := lexT_no.mp h1
    have b := lexT_no.mp h2
    refine lexT_no.mpr ?_
    omega
theorem lexT_eq {p q : I3} (h1 : lexT p q = false) (h2 : lexT q p = false) : p = q := by
  have a := lexT_no.mp h1
  have b := lexT_no.mp h2
  obtain ⟨x, y, z⟩ := p
  obtain ⟨x', y', z'⟩ := q
  simp only at a b
  have h1 : x = x' := by omega
  have h2 : y = y' := by omega
  have h3 : z = z' := by omega
  rw [h1, h2, h3]
theorem srt_uniq : ∀ {l m : List I3}, Srtd lexT l → Srtd lexT m → l.Perm m → l = m
  | [], m, _, _, h => (List.Perm.eq_nil h.symm).symm
  | x :: l, [], _, _, h => absurd h.length_eq (by simp)
  | x :: l, y :: m, hl, hm, h => by
    have e : x = y := by
      rcases List.mem_cons.mp (h.mem_iff.mp (List.mem_cons_self (a := x) (l := l))) with e | hx
      · exact e
      · rcases List.mem_cons.mp (h.mem_iff.mpr (List.mem_cons_self (a := y) (l := m))) with e | hy
        · exact e.symm
        · exact lexT_eq ((List.pairwise_cons.mp hm).1 x hx) ((List.pairwise_cons.mp hl).1 y hy)
    subst e
    rw [srt_uniq (List.pairwise_cons.mp hl).2 (List.pairwise_cons.mp hm).2 h.cons_inv]
def insT (p : I3) : List I3 → List I3
  | [] => [p]
  | q :: r => if lexT q p = true then q :: insT p r else p :: q :: r
def sortT : List I3 → List I3
  | [] => []
  | p :: r => insT p (sortT r)
theorem insT_perm (p : I3) : ∀ l, (insT p l).Perm (p :: l)
  | [] => List.Perm.refl _
  | q :: r => by
    unfold insT
    split
    · exact ((insT_perm p r).cons q).trans (List.Perm.swap p q r)
    · exact List.Perm.refl _
theorem sortT_perm : ∀ l, (sortT l).Perm l
  | [] => List.Perm.refl _
  | p :: r => (insT_perm p (sortT r)).trans ((sortT_perm r).cons p)
theorem insT_srt (p : I3) : ∀ {l}, Srtd lexT l → Srtd lexT (insT p l)
  | [], _ => List.pairwise_singleton _ _
  | q :: r, h => by
    obtain ⟨h1, h2⟩ := List.pairwise_cons.mp h
    have O := swo_lexT (fun p : I3 => p)
    unfold insT
    split
    · rename_i hq
      refine List.pairwise_cons.mpr ⟨fun z hz => ?_, insT_srt p h2⟩
      rcases List.mem_cons.mp ((insT_perm p r).mem_iff.mp hz) with rfl | hz
      · exact O.asym _ _ hq
      · exact h1 z hz
    · rename_i hq
      have hq : lexT q p = false := by simpa using hq
      refine List.pairwise_cons.mpr ⟨fun z hz => ?_, h⟩
      rcases List.mem_cons.mp hz with rfl | hz
      · exact hq
      · exact O.tr _ _ _ hq (h1 z hz)
theorem sortT_srt : ∀ l, Srtd lexT (sortT l)
  | [] => List.Pairwise.nil
  | p :: r => insT_srt p (sortT_srt r)
theorem sortT_is {l m : List I3} (h : Srtd lexT m) (hp : l.Perm m) : sortT l = m := srt_uniq (sortT_srt l) h ((sortT_perm l).trans hp)
/-! ### in the heap -/
def IsTri (h : Heap) (v : Value) (p : I3) : Prop := ∃ a o t u w n, v = .ref a ∧ h.get? a = some o ∧ o.cls = .type "tuple" ∧ o.data = .seq #[.int p.1 t, .int p.2.1 u, .int p.2.2 w] n
theorem IsTri.keeps {h h' : Heap} {v : Value} {p : I3} (q : IsTri h v p) (k : ∀ b o, h.get? b = some o → o.cls = .type "tuple" → h'.get? b = some o) : IsTri h' v p := by
  obtain ⟨a, o, t, u, w, n, e, ho, hc, hd⟩ := q
  exact ⟨a, o, t, u, w, n, e, k _ _ ho hc, hc, hd⟩
section
variable {prog : Program} {w : World} {A : Around} {E : Value → Shared → Prop} {s : Shared}
theorem tri_cmp {vs : List Value} {k : Value → I3} (hp : ∀ v ∈ vs, IsTri s.heap v (k v)) : Cmp prog w A s (tuples' true) (fun p => p.1 ∈ vs) (lt2 fun v u => lexT (k v) (k u)) := by
  intro p q hm hm'
  have h1 := hp _ hm
  have h2 := hp _ hm'
  show wpAny (model prog w) A (keyLt' (tuples' true) p.1 q.1) (fun r s' => s' = s ∧ r = lexT (k p.1) (k q.1)) (fun _ _ => False) s
  unfold lexT
  generalize (k p.1) = kp at h1 ⊢
  generalize (k q.1) = kq at h2 ⊢
  obtain ⟨x, y, z⟩ := kp
  obtain ⟨x', y', z'⟩ := kq
  simp only at h1 h2 ⊢
  obtain ⟨a, o, t, u, v, n, e, ho, hc, hd⟩ := h1
  obtain ⟨a', o', t', u', v', n', e', ho', hc', hd'⟩ := h2
  simp only at hd hd'
  rw [e, e']
  refine PySem.W.kat_lt ho hd ho' hd' ?_
  show PySem.W.KatLex prog w A true (decide (3 < 3)) _ [(.int x t, .int x' t'), (.int y u, .int y' u'), (.int z v, .int z' v')] 0 s
  refine PySem.W.kat_cons (SeqAt.EqAt.int_int x t x' t' prog w _ _ ?_)
  refine PySem.W.kat_go (fun e1 => ?_) (fun e1 => ?_)
  · have ex : x = x' := by simpa using e1
    refine PySem.W.kat_yes (PySem.W.kat_cons (SeqAt.EqAt.int_int y u y' u' prog w _ _ ?_))
    refine PySem.W.kat_go (fun e2 => ?_) (fun e2 => ?_)
    · have ey : y = y' := by simpa using e2
      refine PySem.W.kat_yes (PySem.W.kat_cons (SeqAt.EqAt.int_int z v z' v' prog w _ _ ?_))
      refine PySem.W.kat_go (fun e4 => ?_) (fun e4 => ?_)
      · have ez : z = z' := by simpa using e4
        have e3 : (if x = x' then (if y = y' then decide (z < z') else decide (y < y')) else decide (x < x')) = false := by
          rw [if_pos ex, if_pos ey, ez]
          exact decide_eq_false (Int.lt_irrefl _)
        exact PySem.W.kat_yes (PySem.W.kat_nil ⟨rfl, e3.symm⟩)
      · have e3 : (if x = x' then (if y = y' then decide (z < z') else decide (y < y')) else decide (x < x')) = decide (z < z') := by rw [if_pos ex, if_pos ey]
        refine PySem.W.kat_no (PySem.W.kat_one _ _ (PyProof.Rows.lt_int ?_))
        exact (show s = s ∧ decide (z < z') = _ from ⟨rfl, e3.symm⟩)
    · have ey : ¬ y = y' := by simpa using e2
      have e3 : (if x = x' then (if y = y' then decide (z < z') else decide (y < y')) else decide (x < x')) = decide (y < y') := by rw [if_pos ex, if_neg ey]
      refine PySem.W.kat_no (PySem.W.kat_one _ _ (PyProof.Rows.lt_int ?_))
      exact (show s = s ∧ decide (y < y') = _ from ⟨rfl, e3.symm⟩)
  · have ex : ¬ x = x' := by simpa using e1
    have e3 : (if x = x' then (if y = y' then decide (z < z') else decide (y < y')) else decide (x < x')) = decide (x < x') := if_neg ex
    exact PySem.W.kat_no (oneLt_int ⟨rfl, e3.symm⟩)
theorem firsts_ofT {h : Heap} {k : Value → I3} : ∀ {vs : List Value}, (∀ v ∈ vs, IsTri h v (k v)) → ∃ fs : List Value, PySem.W.KatTups h vs fs ∧ fs.length = vs.length ∧ ∀ f ∈ fs, ∃ x t, f = Value.int x t
  | [], _ => ⟨[], PySem.W.KatTups.nil, rfl, fun _ hm => by simp at hm⟩
  | v :: vs, hp => by
    obtain ⟨fs, h1, h2, h3⟩ := firsts_ofT (vs := vs) fun v' hm => hp v' (List.mem_cons_of_mem _ hm)
    obtain ⟨a, o, t, u, w, n, e, ho, hc, hd⟩ := hp v (List.mem_cons_self ..)
    subst e
    refine ⟨.int (k (.ref a)).1 t :: fs, PySem.W.KatTups.cons ho hc hd rfl h1, by rw [List.length_cons, List.length_cons, h2], fun f hm => ?_⟩
    rcases List.mem_cons.mp hm with rfl | hm
    · exact ⟨_, t, rfl⟩
    · exact h3 f hm
theorem tris_sortable {a : Addr} {vs : List Value} {k : Value → I3} (h0 : 0 < vs.length) (hp : ∀ v ∈ vs, IsTri s.heap v (k v)) (ha : ∀ o, s.heap.get? a = some o → o.cls ≠ .type "tuple") : SortableO prog w A s a vs fun v u => lexT (k v) (k u) := by
  intro h' keep
  have hp' : ∀ v ∈ vs, IsTri h' v (k v) := fun v hm => (hp v hm).keeps fun b o e c => keep b o (fun z => by subst z; exact ha o e c) e
  obtain ⟨fs, h1, h2, h3⟩ := firsts_ofT hp'
  refine ⟨tuples' true, fun Q E hq => ?_, tri_cmp hp'⟩
  refine PySem.W.kat_kind (T := .type "int") h1 (by omega) (fun f hm => ?_) (by rfl) ?_
  · obtain ⟨x, t, rfl⟩ := h3 f hm
    exact PySem.W.Looks.now
  · have e : (Value.type "int" != Value.type "tuple") = true := by first | decide +kernel | rfl | decide
    rw [e]
    exact hq
theorem sorted_tris {l : Addr} {vs : List Value} {k : Value → I3} {Q : Value → Shared → Prop} (hl : s.heap.IsList l vs.toArray) (hz : vs.length ≤ sizeLine) (hp : ∀ v ∈ vs, IsTri s.heap v (k v))
    (h : ∀ (h' : Heap) (d : Addr) (out : List Value), Srtd (fun v u => lexT (k v) (k u)) out → Stb (fun v u => lexT (k v) (k u)) out vs → (∀ b o, s.heap.get? b = some o → h'.get? b = some o) → s.heap.objs.size ≤ d → (∃ n, h'.get? d = some (seqObj "list" out.toArray n)) → Q (.ref d) { s with heap := h' }) :
    wpAny (model prog w) A (call (.builtin "sorted") [.ref l]) Q E s := by
  refine sorted_ord (swo_lexT k) hl hz (fun h2 h₁ a ha kk => ?_) fun out hs hb => ?_
  · refine tris_sortable (s := { s with heap := h₁ }) (by omega) (fun v hm => (hp v hm).keeps fun b o e _ => (kk b o e).2) fun o e => ?_
    have e' : some o = some (seqObj "list" vs.toArray 0) := e.symm.trans ha
    cases e'
    intro c
    exact absurd (Value.type.inj c) (by decide)
  · exact h _ _ out hs hb (fun b o e => sortedAll_old e) (Nat.le_succ _) (sortedAll_at s.heap vs out.toArray)
end
end GW

namespace GW
open PySem L2 PyProof.Rows SrtO
def tv (p : I3) : List V := [.int p.1, .int p.2.1, .int p.2.2]
def TriAt (K : PySem.W.Frag) (H : Hp) (xs : List V) (ts : List I3) : Prop := xs.length = ts.length ∧ ∀ (i : Nat) x p, xs[i]? = some x → ts[i]? = some p → ∃ t, x = .ref t ∧ SqT K H t (tv p)
def rSortedT (K : PySem.W.Frag) : List V → Hp → VK → Prop := fun vs H Q => ∃ (a : Addr) (xs : List V) (ts : List I3), vs = [V.ref a] ∧ SqL K H a xs ∧ TriAt K H xs ts ∧
  ∀ ys us p, TriAt K H ys us → Srtd lexT us → us.Perm ts → ys.length ≤ sizeLine → H p = none → Q (.ref p) (upd H p (.lst ys))
noncomputable def triOf (h : Heap) (v : Value) : I3 := by
  classical
  exact if e : ∃ p, IsTri h v p then Classical.choose e else (0, 0, 0)
theorem tri_inj {h : Heap} {v : Value} {p q : I3} (h1 : IsTri h v p) (h2 : IsTri h v q) : p = q := by
  obtain ⟨a, o, t, u, w, n, e, ho, hc, hd⟩ := h1
  obtain ⟨a', o', t', u', w', n', e', ho', hc', hd'⟩ := h2
  rw [e] at e'; cases e'
  rw [ho] at ho'; cases ho'
  rw [hd] at hd'
  injection hd' with hd' _
  have := congrArg Array.toList hd'
  simp only [List.cons.injEq, Value.int.injEq, and_true] at this
  obtain ⟨x, y, z⟩ := p
  obtain ⟨x', y', z'⟩ := q
  simp only at this
  obtain ⟨⟨h1, _⟩, ⟨h2, _⟩, ⟨h3, _⟩⟩ := this
  rw [h1, h2, h3]
theorem triOf_is {h : Heap} {v : Value} {p : I3} (e : IsTri h v p) : triOf h v = p := by
  unfold triOf
  have e' : ∃ p, IsTri h v p := ⟨p, e⟩
  rw [dif_pos e']
  exact tri_inj (Classical.choose_spec e') e
section
variable {X : Cx}
theorem cr_sortedT : CallR X (.builtin "sorted") (rSortedT X.K) := by
  intro pins s σ H vs us Q I r h
  obtain ⟨a, xs, ts, rfl, hs, ⟨hxl, hx⟩, q⟩ := h
  obtain ⟨its, rv, hl, hz⟩ := I.list hs
  obtain ⟨u, rfl, ru⟩ := vals1 r
  obtain rfl : u = Value.ref a := ru
  have hts : ∀ (i : Nat) x, xs[i]? = some x → ∃ p, ts[i]? = some p := fun i x e => by
    have := (List.getElem?_eq_some_iff.mp e).1
    exact ⟨ts[i], List.getElem?_eq_getElem (by omega)⟩
  obtain ⟨e1, e2⟩ := refs_back rv fun x m => by
    obtain ⟨i, hi⟩ := List.getElem?_of_mem m
    obtain ⟨p, hp⟩ := hts i x hi
    obtain ⟨t, e, _⟩ := hx i x p hi hp
    exact ⟨t, e⟩
  -- each value's triple
  have tri : ∀ (i : Nat) v, its[i]? = some v → ∃ t p, v = Value.ref t ∧ ts[i]? = some p ∧ SqT X.K H t (tv p) ∧ IsTri s.heap v p := fun i v hv => by
    have hxi : xs[i]? = some (backV v) := by rw [e1, List.getElem?_map, hv]; rfl
    obtain ⟨p, hp⟩ := hts i _ hxi
    obtain ⟨t, e, ht⟩ := hx i _ p hxi hp
    obtain ⟨b, rfl⟩ := e2 v (List.mem_of_getElem? hv)
    cases e
    obtain ⟨its2, r2, ⟨o, ho, hc, n, hd⟩, _⟩ := I.tuple ht
    refine ⟨t, p, rfl, hp, ht, ?_⟩
    match its2, r2 with
    | [u1, u2, u3], .cons r1 (.cons r2 (.cons r3 .nil)) =>
      obtain ⟨t1, rfl⟩ := r1
      obtain ⟨t2, rfl⟩ := r2
      obtain ⟨t3, rfl⟩ := r3
      exact ⟨t, o, t1, t2, t3, n, rfl, ho, hc, hd⟩
  have hmap : its.map (triOf s.heap) = ts := by
    apply List.ext_getElem?
    intro i
    rw [List.getElem?_map]
    cases hv : its[i]? with
    | none =>
      have := List.getElem?_eq_none_iff.mp hv
      have hl2 := rv.length
      rw [List.getElem?_eq_none (by omega)]; rfl
    | some v =>
      obtain ⟨t, p, _, hp, _, hi⟩ := tri i v hv
      rw [hp, Option.map_some, triOf_is hi]
  refine sorted_tris (k := triOf s.heap) hl.isList (by rw [← rv.length]; exact hz) (fun v hv => ?_) fun h' d out h1 h2 kp hd hn => ?_
  · obtain ⟨i, hi⟩ := List.getElem?_of_mem hv
    obtain ⟨t, p, _, _, _, z⟩ := tri i v hi
    rw [triOf_is z]; exact z
  · have h3 : ∀ u ∈ out, ∃ a, u = Value.ref a := fun u hu => e2 u (h2.perm.mem_iff.mp hu)
    obtain ⟨n, hn⟩ := hn
    have hlen : out.length = its.length := h2.perm.length_eq
    have hz' : (out.map backV).length ≤ sizeLine := by
      rw [List.length_map, hlen, ← rv.length]; exact hz
    refine ⟨.ref d, upd H d (.lst (out.map backV)), I.laid (t' := s.toks) kp hd ⟨hz', out, n, vals_back h3, hn⟩, rfl, q _ (out.map (triOf s.heap)) d ⟨by simp, fun i y p hy hp => ?_⟩ (srtd_map h1) (by rw [← hmap]; exact h2.perm.map _) hz' (I.hok.fresh hd)⟩
    rw [List.getElem?_map] at hy hp
    cases hv : out[i]? with
    | none => rw [hv] at hy; cases hy
    | some v =>
      rw [hv] at hy hp
      cases hy
      cases hp
      have hm := h2.perm.mem_iff.mp (List.mem_of_getElem? hv)
      obtain ⟨j, hj⟩ := List.getElem?_of_mem hm
      obtain ⟨t, p, e, _, ht, z⟩ := tri j v hj
      subst e
      exact ⟨t, rfl, by rw [triOf_is z]; exact ht⟩
end
/-! ### as plain data -/
def triD (p : I3) : D := .tup [.int p.1, .int p.2.1, .int p.2.2]
def trisD : List D → Option (List I3)
  | [] => some []
  | .tup [.int x, .int y, .int z] :: r => (trisD r).map ((x, y, z) :: ·)
  | _ :: _ => none
theorem trisD_map : ∀ l : List I3, trisD (l.map triD) = some l
  | [] => rfl
  | p :: l => by
    show (trisD (l.map triD)).map ((p.1, p.2.1, p.2.2) :: ·) = _
    rw [trisD_map l]; rfl
theorem trisD_eq : ∀ {ds : List D} {ts : List I3}, trisD ds = some ts → ds = ts.map triD
  | [], ts, e => by cases e; rfl
  | d :: ds, ts, e => by
    unfold trisD at e
    split at e
    · rename_i h; cases h
    · rename_i x y z r h
      cases h
      cases h2 : trisD ds with
      | none => rw [h2] at e; cases e
      | some us =>
        rw [h2] at e
        cases e
        rw [trisD_eq h2]; rfl
    · cases e
def oSorted : List D → Option D
  | [.lst ds] => (trisD ds).map fun ts => .lst ((sortT ts).map triD)
  | _ => none
theorem ov_sorted (l : List I3) : oSorted [.lst (l.map triD)] = some (.lst ((sortT l).map triD)) := by
  show (trisD (l.map triD)).map _ = _
  rw [trisD_map]; rfl
section
variable {X : Cx} {C : Ctx} {wx : WX} {e : Expr} {p pos : Pos} {ms : Mo (List D)} {g : Rg}
theorem ve_sorted (hm : X.mg "sorted" = none) (ha : PA X [e] (WA C wx g ms)) (hg : Gl X "sorted" := by rfl)
    (hs : starEach [e] X.env = (false, eval e X.env) :: starEach [] X.env := by rfl) (hpl : (backTo pos (starEach [] X.env)).any (·.1) = false := by rfl) (hK : X.K = C.K := by rfl) : PE X (.Call (.Name "sorted" p) [e] [] pos) (W C wx .fz 1 (mCB ms oSorted)) := by
  refine (pe_callB cr_sortedT hg hm PyProof.Rows.boot_sorted ha (by decide) (by decide) hs hpl).wk fun σ H Q w => ?_
  obtain ⟨F, B, n, ds, S, h⟩ := w
  refine ⟨F, B, n, ds, S, (h.bind fun F1 H1 F2 H2 v d G r => r.tr G).mono fun xs H1 ⟨F1, n1, da, G1, S1, r1, h1⟩ => ?_⟩
  obtain ⟨d, e, q⟩ := h1.retE
  unfold oSorted at e
  split at e
  · rename_i l
    cases ht : trisD l with
    | none => rw [ht] at e; cases e
    | some ts =>
      rw [ht] at e
      cases e
      have hl := trisD_eq ht
      subst hl
      obtain ⟨v, rfl, r⟩ := r1.one
      cases r with
      | @lst _ a vs _ hh l c =>
        rw [hK]
        rw [List.length_map] at l
        refine ⟨a, vs, ts, rfl, sqL_mono hh (rg_same S1.fh), ⟨l, fun i x p hx hp => ?_⟩, fun ys us p hy h1 h2 hz hp => ?_⟩
        · have r2 := c i x (triD p) hx (by rw [List.getElem?_map, hp]; rfl)
          unfold triD at r2
          cases r2 with
          | @tup _ _ t ws _ h3 l3 c3 =>
            refine ⟨t, rfl, ?_⟩
            match ws, l3 with
            | [w1, w2, w3], _ =>
              have e1 := (c3 0 w1 _ rfl rfl).int_
              have e2 := (c3 1 w2 _ rfl rfl).int_
              have e3 := (c3 2 w3 _ rfl rfl).int_
              subst e1 e2 e3
              exact h3
        · obtain ⟨G2, S2⟩ := S1.newO (o := .lst ys) hp
          have hus : sortT ts = us := sortT_is h1 h2.symm
          refine q (.ref p) F1 _ G2 S2 ⟨fun a => a = p, .lstO (fun _ _ => False) upd_same rfl (by rw [hy.1, hus, List.length_map]) (fun i y d hyi hd => ?_) (fun _ _ h => h.elim) (fun _ _ _ h => h.elim), Fr.one S1.fh hp rfl⟩
          rw [hus, List.getElem?_map] at hd
          cases hu : us[i]? with
          | none => rw [hu] at hd; cases hd
          | some z =>
            rw [hu] at hd
            cases hd
            obtain ⟨t, rfl, ht⟩ := hy.2 i y z hyi hu
            refine Rp.go0 (g := .fz) (F := F1) (H := H1) (A := fun _ => False) ?_ G2
            exact .tup ht rfl fun j v d hv hd => by
              match j, hv, hd with
              | 0, hv, hd => cases hv; cases hd; exact .int
              | 1, hv, hd => cases hv; cases hd; exact .int
              | 2, hv, hd => cases hv; cases hd; exact .int
  · cases e
end
end GW

/-! len(set(a text whose signs are unlike)) -/
namespace GWS
open PySem PySem.Froz PyProof.Rows
theorem runD_ok {P : Program} {w : World} : ∀ (cs : List Nat) (tk : Tok) (D : SD) (l : List Str), TxOk P w D l → TxOk P w (runD w cs tk D) ((cs.map sing).reverse ++ l)
  | [], _, _, _, F => F
  | c :: r, tk, D, l, F => by
    have h := runD_ok r (tk + 2) (addTx (hashStr w (sing c)) (.str (sing c) tk) D) (sing c :: l) (add_ok tk F)
    have e : ((c :: r).map sing).reverse ++ l = (r.map sing).reverse ++ (sing c :: l) := by simp
    rw [e]; exact h
theorem finU_get {h : Heap} {a it : Addr} {X : SD} {Y Z : Obj} (hne : a ≠ it) (n m : Nat) (ha : ∃ o, h.get? a = some o) (st : Shared) (hst : st.heap = h) : (finU st a "set" it X n m).heap.get? a = some (sObj "set" X) := by
  obtain ⟨o, ho⟩ := ha
  subst hst
  unfold finU
  refine Heap.get?_push_of_some _ (Heap.get?_push_of_some _ ?_)
  unfold two
  exact PySem.Heap.get?_update_of_ne _ (Ne.symm hne) (get_upd _ ho rfl)
theorem finU_old {a it : Addr} {X : SD} (n m : Nat) (st : Shared) {b : Addr} {o : Obj} (h1 : b ≠ a) (h2 : b ≠ it) (hb : st.heap.get? b = some o) : (finU st a "set" it X n m).heap.get? b = some o := by
  unfold finU
  refine Heap.get?_push_of_some _ (Heap.get?_push_of_some _ ?_)
  unfold two
  exact PySem.Heap.get?_update_of_ne _ (Ne.symm h2) (PySem.Heap.get?_update_of_ne _ (Ne.symm h1) hb)
section
variable {prog : Program} {w : World} {A : Around} {E : Value → Shared → Prop} {s : Shared}
theorem call_set_tx {x : Str} {t : Tok} {Q : Value → Shared → Prop}
    (hh : A.handled = none) (ha : x.cps.all (· < 128) = true) (hn : x.cps.toList.Nodup) (hb : x.cps.toList.length < scanBound)
    (h : ∀ (h' : Heap) (tk : Nat) (o : Obj) (es : Array (Int × Value)) (ep : Nat) (tb : SetTable), h'.get? s.heap.objs.size = some o → o.ExactSet → o.data = .set es ep tb → tb.fits es.size = true → es.size = x.cps.toList.length →
      (∀ b o, b < s.heap.objs.size → s.heap.get? b = some o → h'.get? b = some o) → Q (.ref s.heap.objs.size) { s with heap := h', toks := tk }) :
    wpAny (model prog w) A (call (.type "set") [.str x t]) Q E s := by
  obtain ⟨c, tl, hmro⟩ := PySem.F.called_set.mro
  have hmade := PySem.F.called_set.made
  have hsub := PySem.F.called_set.sub
  refine wpAny_call (codeAny_of_tree ?_)
  show wpAny _ _ (callAny (.type "set") _) _ _ _
  refine wpAny_pure ⟨Code.quiet_builtin _ (by decide +kernel), codeAny_builtin PySem.F.entry_type_call ?_⟩
  rw [Around.under_plain (weight_type_call_type "set" [.str x t] []) rfl]
  have h1 := PySem.F.called_set.notType
  have h2 := PySem.F.called_set.canCreate
  have hct := PySem.F.typeCall_set_1 (.str x t)
  repeat (any_goals (first | assumption | wp_step))

  refine codeAny_mono (code_set_new_1 (.str x t) (E := E) (Q₁ := fun obj s₁ => ∃ led : Bool, obj = .ref s.heap.objs.size ∧ s₁ = { s with heap := s.heap.push { cls := .type "set", dict := none, data := .set #[] 0 (.fresh 0 0 led) } }) fun led => ⟨led, rfl, rfl⟩) fun r s₁ hr => ?_
  cases r with
  | error e => exact hr
  | ok fl =>
    cases fl with
    | ret obj =>
      obtain ⟨led, rfl, rfl⟩ := hr
      have hS : (s.heap.push { cls := .type "set", dict := none, data := .set #[] 0 (.fresh 0 0 led) }).get? s.heap.objs.size = some { cls := .type "set", dict := none, data := .set #[] 0 (.fresh 0 0 led) } := Heap.get?_push_size _ rfl
      have hT : Shared.TypeIs { s with heap := s.heap.push { cls := .type "set", dict := none, data := .set #[] 0 (.fresh 0 0 led) } } (.ref s.heap.objs.size) "set" := ⟨_, hS, rfl⟩
      have hli := PySem.F.called_set.init.lookup
      have hbi := PySem.F.called_set.init.bind (.ref s.heap.objs.size)
      repeat (any_goals (first | assumption | wp_step))

      refine codeAny_mono (codeAny_call_builtin (R := wants (fun r s₂ => r = .none ∧ ∃ (h' : Heap) (tk : Nat) (o : Obj) (es : Array (Int × Value)) (ep : Nat) (tb : SetTable), s₂ = { s with heap := h', toks := tk } ∧
          h'.get? s.heap.objs.size = some o ∧ o.ExactSet ∧ o.data = .set es ep tb ∧ tb.fits es.size = true ∧ es.size = x.cps.toList.length ∧
          (∀ b o, b < s.heap.objs.size → s.heap.get? b = some o → h'.get? b = some o)) E) PySem.F.called_set.init.plain PySem.F.entry_set_init (check_set_init_1 hT ?_)) fun r₂ s₂ hr₂ => ?_
      · have hsls := PySem.F.sub_str_set
        have hslf := PySem.F.sub_str_frozenset
        have hne : (Value.type "str" == Value.type "dict") = false := by decide
        unfold Builtin.«set.__init__» noKeywords Builtin.Frozenset.updateFrom
        generalize hPI : pyIter = PI
        wp_walk
        subst hPI
        refine wpAny_pyIter_ascii ha ?_
        refine wpAny_bind (wpAny_runValue ?_)
        have hsz : (s.heap.push { cls := .type "set", dict := none, data := .set #[] 0 (.fresh 0 0 led) }).objs.size = s.heap.objs.size + 1 := Heap.size_push ..
        have hD : TxOk prog w ((#[], 0, .fresh 0 0 led) : SD) [] := TxOk.nil (by cases led <;> rfl)
        refine code_update (a := s.heap.objs.size) (it := (s.heap.push { cls := .type "set", dict := none, data := .set #[] 0 (.fresh 0 0 led) }).objs.size) (by rw [hsz]; exact Nat.ne_of_lt (Nat.lt_succ_self _)) (T := "set") (x := x) (u := t) (by simp [hh]) x.cps.toList 0 (#[], 0, .fresh 0 0 led) [] _ rfl (Heap.get?_push_of_some _ hS) (Heap.get?_push_size _ rfl) hD (fun _ _ hm => by cases hm) hn (by simpa using hb) ?_
        have FX := runD_ok (P := prog) (w := w) x.cps.toList s.toks (#[], 0, .fresh 0 0 led) [] hD
        have hszX : (runD w x.cps.toList s.toks (#[], 0, .fresh 0 0 led)).1.size = x.cps.toList.length := by
          rw [FX.sz]; simp
        show wpAny _ _ _ _ _ _
        refine wpAny_pure ?_
        show wpAny _ _ (ret Value.none) _ _ _
        refine wpAny_pure ⟨rfl, _, _, sObj "set" (runD w x.cps.toList s.toks (#[], 0, .fresh 0 0 led)), _, _, _, rfl, finU_get (Y := itEnd 0) (Z := itEnd 0) (by rw [hsz]; exact Nat.ne_of_lt (Nat.lt_succ_self _)) (0 + x.cps.toList.length) x.cps.toList.length ⟨_, Heap.get?_push_of_some _ hS⟩ _ rfl, ⟨rfl, rfl, rfl⟩, rfl, FX.fit, hszX, fun b o hb e => finU_old (0 + x.cps.toList.length) x.cps.toList.length _ (Nat.ne_of_lt hb) (by rw [hsz]; exact Nat.ne_of_lt (Nat.lt_succ_of_lt hb)) (Heap.get?_push_of_some _ (Heap.get?_push_of_some _ e))⟩
      · cases r₂ with
        | error e => exact hr₂
        | ok fl₂ =>
          cases fl₂ with
          | ret r =>
            obtain ⟨rfl, h', tk, o, es, ep, tb, rfl, z1, z2, z3, z4, z5, z6⟩ := hr₂
            repeat (any_goals (first | assumption | wp_step))
            exact h _ _ o es ep tb z1 z2 z3 z4 z5 z6
          | _ => exact hr₂.elim
    | _ => exact hr.elim
end
end GWS

namespace GW
open PySem L2 PyProof.Rows
/-- len(set(e)): a text whose signs are unlike -/
def tLenSetTx (ta : TE) : TE := fun σ H Q => ta σ H fun x H1 => ∃ z : Str, x = .str z ∧ z.cps.all (· < 128) = true ∧ z.cps.toList.Nodup ∧ z.cps.toList.length ≤ 64 ∧ Q (.int (z.cps.toList.length : Nat)) H1
theorem pe_lenSetTx {X : Cx} {a : Expr} {ta : TE} {p p2 q pos : Pos} (hg : Gl X "len") (hm : X.mg "len" = none) (hg2 : Gl X "set") (hm2 : X.mg "set" = none) (ha : PE X a ta) (hc : X.calm = true := by rfl)
    (na : starEach [a] X.env = (false, eval a X.env) :: starEach [] X.env := by rfl) : PE X (.Call (.Name "len" p) [.Call (.Name "set" p2) [a] [] q] [] pos) (tLenSetTx ta) := by
  refine ⟨fun pins s σ H Q I h => ?_⟩
  refine Call_ (ld_blt I hg hm PySem.boot_len ?_)
  refine PyProof.Rows.callWith_builtin1 (PyProof.Rows.args_cons ?_ rfl) rfl rfl
  refine Call_ (ld_blt I hg2 hm2 PyProof.Rows.boot_set ?_)
  refine PyProof.Rows.callWith_type1 (PyProof.Rows.args_cons (thn (ha.run pins s σ H _ I h) fun v s1 ⟨x, H1, I1, r1, q1⟩ => PyProof.Rows.args_nil ?_) na) na rfl
  obtain ⟨z, rfl, ha, hnd, hl, q1⟩ := q1
  obtain ⟨t, rfl⟩ := r1
  refine GWS.call_set_tx (I1.ok.hd hc) ha hnd (by unfold scanBound; omega) fun h' tk o es ep tb ho hex hd hf hn hk => ?_
  refine PyProof.Rows.args_nil ?_
  have I2 : Inv X pins σ H1 { s1 with heap := h', toks := tk } := I1.kept fun b o e => hk b o (Heap.lt_size e) e
  exact call_len_set ho hex hd hf (by rw [hn]; omega) ⟨.int (z.cps.toList.length : Nat), H1, I2.tok _, ⟨_, by rw [hn]⟩, q1⟩
def oLenSet : D → Option D
  | .str z => if z.cps.all (· < 128) = true ∧ z.cps.toList.Nodup ∧ z.cps.toList.length ≤ 64 then some (.int (z.cps.toList.length : Nat)) else none
  | _ => none
section
variable {X : Cx} {C : Ctx} {wx : WX} {g : Rg} {k : Nat} {e : Expr} {p p2 p3 pos : Pos} {m : M}
theorem ve_lenSet (hm : X.mg "len" = none) (hm2 : X.mg "set" = none) (ha : PE X e (W C wx .bo 0 m)) (hg : Gl X "len" := by rfl) (hg2 : Gl X "set" := by rfl) (hc : X.calm = true := by rfl)
    (na : starEach [e] X.env = (false, eval e X.env) :: starEach [] X.env := by rfl) : PE X (.Call (.Name "len" p) [.Call (.Name "set" p2) [e] [] p3] [] pos) (W C wx g k (m1 m oLenSet)) :=
  (pe_lenSetTx hg hm hg2 hm2 ha hc na).wk fun σ H Q w => by
  refine w.imp (t := fun σ H Q => tLenSetTx _ σ H Q) fun F B n ds S h => ?_
  refine ⟨F, B, n, ds, S, (h.bind fun F1 H1 F2 H2 v d G r => r.tr G).mono fun x H1 ⟨F1, n1, da, G1, S1, ⟨A1, r1, f1⟩, h1⟩ => ?_⟩
  obtain ⟨d, e, q⟩ := h1.sc S1
  cases da with
  | str z =>
    have hx := r1.str_
    subst hx
    unfold oLenSet at e
    dsimp only at e
    split at e
    · rename_i hh
      cases e
      exact ⟨z, rfl, hh.1, hh.2.1, hh.2.2, q _ rfl⟩
    · cases e
  | _ => cases e
end
theorem ov_lenSet {l : List Nat} (ha : ∀ c ∈ l, c < 128) (hn : l.Nodup) (hl : l.length ≤ 64) : oLenSet (.str (tx l)) = some (.int (l.length : Int)) := by
  unfold oLenSet
  dsimp only
  rw [if_pos ⟨by simp only [Array.all_eq_true', List.mem_toArray, decide_eq_true_eq]; exact ha, hn, hl⟩]
end GW

namespace GW
open PySem L2 PyProof.Rows
/-! ### a slot whose thing is one's own no longer -/
def Ctx.frz (C : Ctx) (i : Nat) : Ctx := { C with T := fun j => if j = i then 0 else C.T j }
section
variable {X : Cx} {C : Ctx} {wx : WX} {kr i : Nat} {F H : Hp} {B : AS} {σ : L2.St} {n : Int} {ds : DS}
theorem Sim.dropTo (S : Sim C F B σ H n ds) : Sim (C.frz i) F B σ H n (ds.set i none) where
  fh := S.fh
  bok := S.bok
  cell := S.cell
  pin := S.pin
  len := by rw [List.length_set]; exact S.len
  rep := by
    obtain ⟨A, h1, h2, h3⟩ := S.rep
    refine ⟨A, fun j d e => ?_, h2, h3⟩
    by_cases hj : i = j
    · subst hj
      by_cases hl : i < ds.length
      · rw [List.getElem?_set_self hl] at e; cases e
      · rw [List.getElem?_eq_none (by rw [List.length_set]; omega)] at e; cases e
    · rw [List.getElem?_set_ne hj] at e
      obtain ⟨v, a, r⟩ := h1 j d e
      refine ⟨v, a, ?_⟩
      have : (C.frz i).T j = C.T j := if_neg (Ne.symm hj)
      rw [this]; exact r
theorem Sim.dropFrom (S : Sim (C.frz i) F B σ H n ds) : Sim C F B σ H n (ds.set i none) where
  fh := S.fh
  bok := S.bok
  cell := S.cell
  pin := S.pin
  len := by rw [List.length_set]; exact S.len
  rep := by
    obtain ⟨A, h1, h2, h3⟩ := S.rep
    refine ⟨A, fun j d e => ?_, h2, h3⟩
    by_cases hj : i = j
    · subst hj
      by_cases hl : i < ds.length
      · rw [List.getElem?_set_self hl] at e; cases e
      · rw [List.getElem?_eq_none (by rw [List.length_set]; omega)] at e; cases e
    · rw [List.getElem?_set_ne hj] at e
      obtain ⟨v, a, r⟩ := h1 j d e
      refine ⟨v, a, ?_⟩
      have : (C.frz i).T j = C.T j := if_neg (Ne.symm hj)
      rw [this] at r; exact r
def sTail (i : Nat) (ms : MS) : MS := fun n ds => match ms n (ds.set i none) with
  | none => none
  | some (.rt d, n', ds') => some (.rt d, n', ds')
  | some (fl, n', ds') => some (fl, n', ds'.set i none)
theorem wss_switch {sts : List Stmt} {ms : MS} (h : PSs X sts (WS (C.frz i) wx kr ms)) : PSs X sts (WS C wx kr (sTail i ms)) := h.wk fun E σ H w => by
  obtain ⟨F, B, n, ds, S, h⟩ := w
  refine ⟨F, B, n, ds.set i none, S.dropTo, ?_⟩
  unfold WSL sTail at h
  unfold WSL
  cases e : ms n (ds.set i none) with
  | none => rw [e] at h; exact h
  | some p =>
    obtain ⟨fl, n', ds'⟩ := p
    rw [e] at h
    cases fl with
    | nx => exact fun σ' F' B' H' G S' => h σ' F' B' H' G S'.dropFrom
    | bk => exact fun σ' F' B' H' G S' => h σ' F' B' H' G S'.dropFrom
    | ct => exact fun σ' F' B' H' G S' => h σ' F' B' H' G S'.dropFrom
    | rt d => exact h
    | ex c fs => exact fun σ' F' B' H' od G S' => h σ' F' B' H' od G S'.dropFrom
end
theorem sv_tail {i : Nat} {ms : MS} {n n' : Int} {ds ds' : DS} {d : D} (h : ms n (ds.set i none) = some (.rt d, n', ds')) : sTail i ms n ds = some (.rt d, n', ds') := by
  unfold sTail; rw [h]
/-! ### list of a list of one's own, its items flat -/
def oListF : List D → Option D
  | [.lst ds] => if flats ds = true then some (.lst ds) else none
  | _ => none
section
variable {X : Cx} {C : Ctx} {wx : WX} {g : Rg} {k : Nat} {oe e : Expr} {p pos apos : Pos} {ms : Mo (List D)} {mo me : M}
theorem ve_listF (hm : X.mg "list" = none) (ha : PA X [e] (WA C wx .bo ms)) (hg : Gl X "list" := by rfl)
    (hs : starEach [e] X.env = (false, eval e X.env) :: starEach [] X.env := by rfl) (hpl : (backTo pos (starEach [] X.env)).any (·.1) = false := by rfl) (hK : X.K = C.K := by rfl) : PE X (.Call (.Name "list" p) [e] [] pos) (W C wx .fz 1 (mCB ms oListF)) := by
  refine (pe_callTy call_list_of hg hm PyProof.Rows.boot_list ha (by decide) (by decide) hs hpl).wk fun σ H Q w => ?_
  obtain ⟨F, B, n, ds, S, h⟩ := w
  refine ⟨F, B, n, ds, S, (h.bind fun F1 H1 F2 H2 v d G r => r.tr G).mono fun xs H1 ⟨F1, n1, da, G1, S1, r1, h1⟩ => ?_⟩
  obtain ⟨d, e, q⟩ := h1.retE
  unfold oListF at e
  split at e
  · rename_i l
    split at e
    · rename_i hf
      cases e
      obtain ⟨v, rfl, r⟩ := r1.one
      cases r with
      | lst hh l c =>
        rw [hK]
        refine ⟨_, _, rfl, .inl (sqL_mono hh (rg_same S1.fh)), fun p hp => ?_⟩
        obtain ⟨G2, S2⟩ := S1.newO (o := .lst _) hp
        exact q (.ref p) F1 _ G2 S2 ⟨fun a => a = p, .lstO (fun _ _ => False) upd_same rfl l (fun i v d a b => Rp.go0 (g := .fz) ((c i v d a b).flat_any (flats_get hf b) F1 0 (fun _ => False)) G2) (fun _ _ h => h.elim) (fun _ _ _ h => h.elim), Fr.one S1.fh hp rfl⟩
    · cases e
  · cases e
/-! ### x.find -/
def oFind (z : Str) : D → Option D
  | .str y => some (.int (Txt.find z y))
  | _ => none
theorem ve_find (ho : PE X oe (W C wx .bo 0 mo)) (he : PE X e (W C wx .bo 0 me))
    (hs : starEach [e] X.env = [(false, eval e X.env)] := by rfl) (hbase : attributeBase oe "find" X.env (eval oe X.env) = eval oe X.env := by rfl) (hline : (apos.endLine == pos.line) = true := by rfl) :
    PE X (.Call (.Attribute oe "find" apos) [e] [] pos) (W C wx g k (mM1 mo me oFind)) :=
  ve_m1 F.slot_str_find F.type_str_find mt_find (fun G H z y b d A hs r e => by
    cases r with
    | str => cases e; exact ⟨_, rfl, fun Q q => ⟨z, _, rfl, rfl, q⟩⟩
    | _ => cases e) ho he hs hbase hline
end
end GW

namespace GW
open PySem L2 PyProof.Rows
/-! ### min of a list of ints -/
def minL : List Int → Option Int
  | [] => none
  | [a] => some a
  | a :: b :: r => (minL (b :: r)).map fun m => if a ≤ m then a else m
theorem minL_le : ∀ {l : List Int} {m : Int}, minL l = some m → m ∈ l ∧ ∀ y ∈ l, m ≤ y
  | [], m, e => by cases e
  | [a], m, e => by cases e; exact ⟨List.mem_cons_self, fun y hy => by simp only [List.mem_singleton] at hy; omega⟩
  | a :: b :: r, m, e => by
    unfold minL at e
    cases h : minL (b :: r) with
    | none => rw [h] at e; cases e
    | some k =>
      rw [h] at e
      simp only [Option.map_some, Option.some.injEq] at e
      obtain ⟨h1, h2⟩ := minL_le h
      by_cases hk : a ≤ k
      · rw [if_pos hk] at e
        subst e
        refine ⟨List.mem_cons_self, fun y hy => ?_⟩
        rcases List.mem_cons.mp hy with rfl | hy
        · exact Int.le_refl _
        · have := h2 y hy; omega
      · rw [if_neg hk] at e
        subst e
        refine ⟨List.mem_cons_of_mem _ h1, fun y hy => ?_⟩
        rcases List.mem_cons.mp hy with rfl | hy
        · omega
        · exact h2 y hy
theorem minL_some : ∀ (a : Int) (l : List Int), ∃ m, minL (a :: l) = some m
  | a, [] => ⟨a, rfl⟩
  | a, b :: r => by
    obtain ⟨m, h⟩ := minL_some b r
    refine ⟨if a ≤ m then a else m, ?_⟩
    unfold minL
    rw [h]; rfl
theorem minL_is {l : List Int} {m : Int} (h1 : m ∈ l) (h2 : ∀ y ∈ l, m ≤ y) : minL l = some m := by
  cases l with
  | nil => cases h1
  | cons a r =>
    obtain ⟨k, hk⟩ := minL_some a r
    obtain ⟨h3, h4⟩ := minL_le hk
    have e1 := h2 k h3
    have e2 := h4 m h1
    rw [hk]
    congr 1
    omega
def oMin : List D → Option D
  | [.lst ds] => ((intsD ds).bind minL).map D.int
  | _ => none
theorem cs_min {K : PySem.W.Frag} : CalS K (rMin K) oMin := by
  intro G H vs ds d hs r0 e
  unfold oMin at e
  split at e
  · rename_i l
    obtain ⟨v, rfl, r⟩ := r0.one
    cases hb : intsD l with
    | none => rw [hb] at e; cases e
    | some bs =>
      rw [hb] at e
      cases hm : minL bs with
      | none =>
        simp only [Option.bind_some, hm] at e
        cases e
      | some k =>
        simp only [Option.bind_some, hm, Option.map_some, Option.some.injEq] at e
        subst e
        obtain ⟨h1, h2⟩ := minL_le hm
        cases r with
        | lst h l c =>
          have := ints_of (RpL.of l c) hb
          subst this
          refine ⟨_, rfl, fun Q q => ⟨_, bs, rfl, sqL_mono h hs, List.length_pos_of_mem h1, fun m hm1 hm2 => ?_⟩⟩
          have e1 := h2 m hm1
          have e2 := hm2 k h1
          have : m = k := by omega
          rw [this]; exact q
  · cases e
section
variable {X : Cx} {C : Ctx} {wx : WX} {g : Rg} {kr k : Nat} {e a b tg : Expr} {es : List Expr} {p p2 pos : Pos} {ms : Mo (List D)} {m ma mc mo : M}
theorem ve_min (hm : X.mg "min" = none) (ha : PA X [e] (WA C wx .bo ms)) (hg : Gl X "min" := by rfl) (hs : starEach [e] X.env = (false, eval e X.env) :: starEach [] X.env := by rfl) (hpl : (backTo pos (starEach [] X.env)).any (·.1) = false := by rfl) (hc : X.calm = true := by rfl) (hK : X.K = C.K := by rfl) : PE X (.Call (.Name "min" p) [e] [] pos) (W C wx g k (mCB ms oMin)) :=
  ve_callB (r := rMin C.K) (by rw [← hK]; exact cr_min hc) cs_min hm PyProof.Rows.boot_min ha hg (hs := hs) (hpl := hpl)
/-! ### a range from its end -/
def rvD (hi : Int) (n : Nat) : List D := (List.range n).map fun i => D.int (hi - (i : Nat))
theorem rv_len {hi : Int} {n : Nat} : (rvD hi n).length = n := by unfold rvD; simp
theorem yld_rv {F H : Hp} {hi : Int} {n : Nat} : Yld C.K F H (Itc hi (-1) n) (rvD hi n) := fun F' H' L i => by
  have hl : (rvD hi n).length = n := rv_len
  refine ⟨fun d hd => ?_, fun hn0 => (fun hn => ?_) (len_none hn0)⟩
  · have hlt : i < n := by
      have := (List.getElem?_eq_some_iff.mp hd).1
      omega
    have he : d = .int (hi + (i : Int) * (-1)) := by
      unfold rvD at hd
      rw [List.getElem?_map, List.getElem?_range hlt] at hd
      cases hd
      show D.int (hi - (i : Int)) = _
      rw [Int.mul_neg, Int.mul_one, Int.sub_eq_add_neg]
    subst he
    refine ⟨hlt, fun x H'' y => ?_⟩
    obtain ⟨y1, y2⟩ := y
    subst y1 y2
    exact ⟨.inl rfl, .int⟩
  · have := List.getElem?_eq_none_iff.mp hn
    exact hl ▸ this
noncomputable def mRev1 (m : M) : Mo (List D) := mb m fun d => ret (match d with | .int j => if r62 j = true then some (rvD ((j.toNat : Int) - 1) j.toNat) else none | _ => none)
noncomputable def mRev2 (ma mc : M) : Mo (List D) := mb ma fun d => mb mc fun d2 => ret (match d, d2 with | .int i, .int j => if r62 i = true ∧ r62 j = true then some (rvD (i + ((j - i).toNat : Int) - 1) (j - i).toNat) else none | _, _ => none)
theorem vi_rev1 (hm : X.mg "reversed" = none) (hmr : X.mg "range" = none) (ha : PE X a (W C wx .bo 0 m)) (hg : Gl X "reversed" := by rfl) (hgr : Gl X "range" := by rfl) (na : starEach [a] X.env = (false, eval a X.env) :: starEach [] X.env := by rfl)
    (hs : starEach [.Call (.Name "range" p2) [a] [] p] X.env = (false, eval (.Call (.Name "range" p2) [a] [] p) X.env) :: starEach [] X.env := by rfl) {p3 : Pos} : PI X tg (.Call (.Name "reversed" p3) [.Call (.Name "range" p2) [a] [] p] [] pos) (WI C wx (mRev1 m)) := (pi_revR hg hm (prg_1 hgr hmr ha na) hs).wk fun σ H Q w => by
  obtain ⟨F, B, n, ds, S, h⟩ := w
  refine ⟨F, B, n, ds, S, (h.bind fun F1 H1 F2 H2 v d G r => r).mono fun v H1 ⟨F1, n1, d, G1, S1, ⟨A, r1, f⟩, h1⟩ => ?_⟩
  obtain ⟨is, e, q⟩ := h1.retE
  cases d with
  | int j =>
    dsimp only at e
    split at e
    · rename_i hj
      cases e
      refine ⟨j, r1.int_, by omega, by omega, (r62_ok hj).1, (r62_ok hj).2, ?_⟩
      have e1 : (j - 0).toNat = j.toNat := by rw [Int.sub_zero]
      have e2 : (0 : Int) + ((j.toNat : Nat) : Int) - 1 = (j.toNat : Int) - 1 := by omega
      rw [e1, e2]
      exact q _ F1 H1 (GoC.refl S1.fh) S1 yld_rv
    · cases e
  | _ => cases e
theorem vi_rev2 (hm : X.mg "reversed" = none) (hmr : X.mg "range" = none) (ha : PE X a (W C wx .bo 0 ma)) (hb : PE X b (W C wx .bo 0 mc)) (hg : Gl X "reversed" := by rfl) (hgr : Gl X "range" := by rfl) (na : starEach [a, b] X.env = (false, eval a X.env) :: starEach [b] X.env := by rfl) (nb : starEach [b] X.env = (false, eval b X.env) :: starEach [] X.env := by rfl)
    (hpb : (backTo p (starEach [b] X.env)).any (·.1) = false := by rfl)
    (hs : starEach [.Call (.Name "range" p2) [a, b] [] p] X.env = (false, eval (.Call (.Name "range" p2) [a, b] [] p) X.env) :: starEach [] X.env := by rfl) {p3 : Pos} : PI X tg (.Call (.Name "reversed" p3) [.Call (.Name "range" p2) [a, b] [] p] [] pos) (WI C wx (mRev2 ma mc)) := (pi_revR hg hm (prg_2 hgr hmr ha hb na nb hpb) hs).wk fun σ H Q w => by
  obtain ⟨F, B, n, ds, S, h⟩ := w
  refine ⟨F, B, n, ds, S, (h.bind fun F1 H1 F2 H2 v d G r => r).mono fun v H1 ⟨F1, n1, d, G1, S1, ⟨A, r1, f⟩, h1⟩ => ?_⟩
  refine ⟨F1, B, n1, ds, S1, (h1.bind fun F1 H1 F2 H2 v d G r => r).mono fun v2 H2 ⟨F2, n2, d2, G2, S2, ⟨A2, r2, f2⟩, h2⟩ => ?_⟩
  obtain ⟨is, e, q⟩ := h2.retE
  cases d with
  | int i =>
    cases d2 with
    | int j =>
      dsimp only at e
      split at e
      · rename_i hj
        cases e
        exact ⟨i, j, r1.int_, r2.int_, (r62_ok hj.1).1, (r62_ok hj.1).2, (r62_ok hj.2).1, (r62_ok hj.2).2, q _ F2 H2 (GoC.refl S2.fh) S2 yld_rv⟩
      · cases e
    | _ => cases e
  | _ => cases e
/-! ### three stores at once -/
def sPar3 (i j l : Nat) (ms : Mo (List D)) : MS := sE ms fun as n ds => match as with
  | [a, b, c] => some (.nx, n, ((ds.set i (some a)).set j (some b)).set l (some c))
  | _ => none
theorem RpL.three {K : PySem.W.Frag} {G H : Hp} {vs : List V} {d d' d2 : D} (r : RpL K G H vs [d, d', d2]) : ∃ v v' v2, vs = [v, v', v2] ∧ Rp K G H 0 v d (fun _ => False) ∧ Rp K G H 0 v' d' (fun _ => False) ∧ Rp K G H 0 v2 d2 (fun _ => False) := by
  obtain ⟨l, c⟩ := r
  match vs, l with
  | [v, v', v2], _ => exact ⟨v, v', v2, rfl, c 0 v d rfl rfl, c 1 v' d' rfl rfl, c 2 v2 d2 rfl rfl⟩
theorem ws_par3 {i j l : Nat} {x y z : Str} {c : Expr} {px py pz pt : Pos} {kt k2 : Nat} {pt2 : Pos} (hi : SlotOk C i) (hj : SlotOk C j) (hl : SlotOk C l)
    (h : PS X (.Assign [.Tuple [.Name x px, .Name y py, .Name z pz] kt pt] (.Tuple [a, b, c] k2 pt2) pos) (tPar3 i j l (WA C wx .fz ms))) : PS X (.Assign [.Tuple [.Name x px, .Name y py, .Name z pz] kt pt] (.Tuple [a, b, c] k2 pt2) pos) (WS C wx kr (sPar3 i j l ms)) := h.wk fun E σ H w => by
  obtain ⟨F, B, n, ds, S, h⟩ := w
  refine ⟨F, B, n, ds, S, (wsl_e (R := RA C .fz) S h).mono fun vs H1 ⟨F1, n1, as, G1, S1, r1, h4⟩ => ?_⟩
  match as with
  | [d1, d2, d3] =>
    obtain ⟨v, v', v2, rfl, ra, rb, rc⟩ := RpL.three r1
    exact ⟨v, v', v2, rfl, h4 _ F1 B H1 (G1.toS S.qB) (((S1.set0 ra hi.1 hi.2).set0 rb hj.1 hj.2).set0 rc hl.1 hl.2)⟩
  | [] => exact h4.elim
  | [_] => exact h4.elim
  | [_, _] => exact h4.elim
  | _ :: _ :: _ :: _ :: _ => exact h4.elim
end
end GW

namespace GW
open PySem L2 PyProof.Rows PySem.Spec
/-! ### o.m(..): a method of one of the program's classes -/
def tMethS (C : Addr) (m : Str) (sp : Sp) (E : L2.St → XK) (ta : TE) (t : TA) : TE := fun σ H Q => ta σ H fun x H1 => ∃ a dx fs, x = .ref a ∧ H1 a = some (.ins C dx fs) ∧ fs.lookup m = none ∧
  t σ H1 fun vs H2 => sp (x :: vs) H2 Q (E σ)
theorem pe_methS {X : Cx} {CX : CXT} {k : Nat} {f C : Addr} {fd : FuncData} {ps : List Str} {sp : Sp} {E : L2.St → XK} {m : Str} {pos apos : Pos} {e o : Expr} {es : List Expr} {ta : TE} {t : TA} {pl : Sem Bool} (he : PE X o ta) (c : Cls X.K C) (hm : Meth X.K C m f) (F : FnOk X.prog X.w X.K X.mg X.base CX k f fd ps sp) (hr : Room k X.A) (hb : Binds X.K fd ps []) (hx : ∀ σ, PassesAt CX X σ (E σ)) (ha : PA X (e :: es) t)
    (hst : starEach (e :: es) X.env = (false, eval e X.env) :: starEach es X.env := by rfl) (hpl : (backTo pos (starEach es X.env)).any (·.1) = false := by rfl)
    (ht : eval (.Call (.Attribute o m apos) (e :: es) [] pos) X.env = (do
      let ov ← eval o X.env
      standAt apos.atName
      let (f, first) ← holding [ov] (getMethod ov m pl)
      callWith pos f first (backTo pos (starEach (e :: es) X.env)) (backToKw pos (keywordEach [] X.env))) := by rfl) :
    PE X (.Call (.Attribute o m apos) (e :: es) [] pos) (tMethS C m sp E ta t) := by
  refine ⟨fun pins s σ H Q I h => ?_⟩
  refine PySem.W.methodCall_KW (pl := pl) (thn (he.run pins s σ H _ I h) fun u s1 ⟨x, H1, I1, rx, a, dx, fs, ex, ea, l, q⟩ => ?_) ht
  subst ex
  obtain rfl : u = Value.ref a := rx
  refine getmeth_ok I1 ea c hm l ?_
  refine PySem.W.callWith_K (first := [.ref a]) (h₀ := X.base) I.ok.mod.kin hm.kp (thn (ha.run pos pins s1 σ H1 _ I1 q) fun us s2 ⟨vs, H2, I2, r, q2⟩ => ⟨I2.kIn, ?_⟩) hst hpl
  exact run_fnS (us := .ref a :: us) (vs := .ref a :: vs) F hr hb (hx σ) I2 (.cons rfl r) q2
/-- a method that stands to be called -/
structure AvM (P : Program) (w : World) (K : PySem.W.Frag) (mg : Str → Option Value) (base : Heap) (C0 : Addr) (m : Str) (ps : List Str) (k : Nat) (sp : Sp) : Prop where
  ex : ∃ (f : Addr) (fd : FuncData), Meth K C0 m f ∧ Binds K fd ps [] ∧ FnOk P w K mg base (L2.CX P w) k f fd ps sp
def isMeth (C0 : Addr) (m : Str) : D → Bool
  | .obj C1 fs => decide (C1 = C0) && (fs.lookup m).isNone
  | _ => false
def mMeth (C0 : Addr) (m : Str) (f : List D → Option (Ot D)) (mo : M) (ms : Mo (List D)) : M := mb mo fun d => if isMeth C0 m d = true then mb ms fun as => fun n _ => pureF f n (d :: as) else ret none
section
variable {X : Cx} {C : Ctx} {wx : WX} {g : Rg} {k kk kr np : Nat} {x m : Str} {p pos apos : Pos} {o e : Expr} {es : List Expr} {ps : List Str} {ms : Mo (List D)} {mo : M} {f : List D → Option (Ot D)} {C0 : Addr}
theorem lookup_none {fs : List (Str × V)} {fds : List (Str × D)} (h : fs.map (·.1) = fds.map (·.1)) {f : Str} (e : fds.lookup f = none) : fs.lookup f = none := by
  induction fds generalizing fs with
  | nil =>
    cases fs with
    | nil => rfl
    | cons p' r' => cases h
  | cons p r ih =>
    cases fs with
    | nil => cases h
    | cons p' r' =>
      obtain ⟨pk, pd⟩ := p
      obtain ⟨pk', pv⟩ := p'
      simp only [List.map_cons, List.cons.injEq] at h
      obtain ⟨h1, h2⟩ := h
      subst h1
      by_cases hk : f = pk'
      · subst hk
        rw [List.lookup_cons_self] at e
        cases e
      · have hb : (f == pk') = false := by simpa using hk
        rw [List.lookup_cons, hb] at e ⊢
        exact ih h2 e
theorem ve_meth {pl : Sem Bool} (F : AvM X.prog X.w X.K X.mg X.base C0 m ps kk (spM C.K none (np + 1) kr (pureF f))) (hc : Cls C.K C0) (hr : Room kk X.A) (tk : Takes X wx) (ho : PE X o (W C wx .fz 0 mo))
    (ha : PA X (e :: es) (WA C wx .fz ms)) (hlen : LenM ms np) (hst : starEach (e :: es) X.env = (false, eval e X.env) :: starEach es X.env := by rfl) (hpl : (backTo pos (starEach es X.env)).any (·.1) = false := by rfl)
    (ht : eval (.Call (.Attribute o m apos) (e :: es) [] pos) X.env = (do
      let ov ← eval o X.env
      standAt apos.atName
      let (f, first) ← holding [ov] (getMethod ov m pl)
      callWith pos f first (backTo pos (starEach (e :: es) X.env)) (backToKw pos (keywordEach [] X.env))) := by rfl) (hK : X.K = C.K := by rfl) :
    PE X (.Call (.Attribute o m apos) (e :: es) [] pos) (W C wx .fz kr (mMeth C0 m f mo ms)) := by
  obtain ⟨fa, fd, hm, hbd, Ff⟩ := F.ex
  refine (pe_methS (pl := pl) ho (by rw [hK]; exact hc) hm Ff hr hbd (fun σ => passAt tk σ) ha hst hpl ht).wk fun σ H Q w => ?_
  obtain ⟨F, B, n, ds, S, h⟩ := w
  refine ⟨F, B, n, ds, S, (h.bind fun F1 H1 F2 H2 v d G r => r.tr G).mono fun x H1 ⟨F1, n1, d, G1, S1, ⟨A1, r1, f1⟩, h1⟩ => ?_⟩
  by_cases hd : isMeth C0 m d = true
  · rw [if_pos hd] at h1
    cases d with
    | obj C1 fds =>
      unfold isMeth at hd
      rw [Bool.and_eq_true, decide_eq_true_eq, Option.isNone_iff_eq_none] at hd
      obtain ⟨rfl, hl0⟩ := hd
      have r10 := r1
      cases r1 with
      | obj hh l c =>
        refine ⟨_, _, _, rfl, rg_same S1.fh _ _ hh, lookup_none l hl0, ?_⟩
        refine ⟨F1, B, n1, ds, S1, WL.strong hlen ((h1.bind (R := fun H F' H' vs as => RA C .fz H F' H' vs as ∧ as.length = np) fun F1 H1 F2 H2 v d G r => r.tr G).mono fun vs H2 ⟨F2, n2, d2, G2, S2, ⟨r2, hl⟩, h2⟩ => ?_)⟩
        refine spM_of (g := .fz) (as := _ :: d2) (RR := RV C .fz kr) (fun _ => ⟨f, rfl⟩) S2 ⟨by simp [r2.1], fun i v' d' _ e1 e2 => ?_, fun i hi => by cases hi⟩ (by simp [hl]) (fun d v F' H' G r _ => r) (fun _ _ _ _ h => by cases h) h2
        cases i with
        | zero =>
          simp only [List.getElem?_cons_zero, Option.some.injEq] at e1 e2
          subst e1 e2
          exact Rp.go0 (g := .fz) r10 G2
        | succ i => exact r2.2 i v' d' (by simpa using e1) (by simpa using e2)
    | _ => cases hd
  · rw [if_neg hd] at h1
    exact h1.retE.elim fun _ z => by cases z.1
/-! ### f(..), the last argument left out -/
def mCallD (z : Str) (f : List D → Option (Ot D)) (ms : Mo (List D)) : M := mb ms fun as => fun n _ => pureF f n (as ++ [.str z])
theorem binds_all {K : PySem.W.Frag} {fd : FuncData} {ps : List Str} (h : ∃ ds, Vals [] ds ∧ L2.Binds K fd ps ds) : L2.Binds K fd ps [] := by
  obtain ⟨ds, h1, h2⟩ := h
  cases h1
  exact h2
structure AvD (P : Program) (w : World) (K : PySem.W.Frag) (mg : Str → Option Value) (base : Heap) (x : Str) (ps : List Str) (k : Nat) (sp : Sp) (z : Str) : Prop where
  ex : ∃ (f : Addr) (fd : FuncData) (ds : List Value), mg x = some (.ref f) ∧ PySem.W.keepIn K (.ref f) = true ∧ Vals [.str z] ds ∧ Binds K fd ps ds ∧ FnOk P w K mg base (L2.CX P w) k f fd ps sp
theorem ve_callD {z : Str} (F : AvD X.prog X.w X.K X.mg X.base x ps kk (spM C.K none (np + 1) kr (pureF f)) z) (hr : Room kk X.A) (tk : Takes X wx)
    (ha : PA X (e :: es) (WA C wx .fz ms)) (hlen : LenM ms np) (hg : Gl X x := by rfl) (hdb : (x == ("__debug__" : Str)) = false := by decide) (he : starEach (e :: es) X.env = (false, eval e X.env) :: starEach es X.env := by rfl) (hpl : (backTo pos (starEach es X.env)).any (·.1) = false := by rfl) :
    PE X (.Call (.Name x p) (e :: es) [] pos) (W C wx .fz kr (mCallD z f ms)) := by
  obtain ⟨fa, fd, vd, hm, hk, hv, hbd, Ff⟩ := F.ex
  refine (pe_callSD Ff hr hg hm hk hbd hv (fun σ => passAt tk σ) ha hdb he hpl).wk fun σ H Q w => ?_
  obtain ⟨F, B, n, ds, S, h⟩ := w
  refine ⟨F, B, n, ds, S, WL.strong hlen ((h.bind (R := fun H F' H' vs as => RA C .fz H F' H' vs as ∧ as.length = np) fun F1 H1 F2 H2 v d G r => r.tr G).mono fun vs H1 ⟨F2, n2, d2, G2, S2, ⟨r2, hl⟩, h2⟩ => ?_)⟩
  refine spM_of (g := .fz) (as := d2 ++ [.str z]) (RR := RV C .fz kr) (fun _ => ⟨f, rfl⟩) S2 ⟨by simp [r2.1], fun i v' d' _ e1 e2 => ?_, fun i hi => by cases hi⟩ (by simp [hl]) (fun d v F' H' G r _ => r) (fun _ _ _ _ h => by cases h) h2
  by_cases hi : i < vs.length
  · rw [List.getElem?_append_left hi] at e1
    rw [List.getElem?_append_left (by rw [← r2.1]; exact hi)] at e2
    exact r2.2 i v' d' e1 e2
  · have h1 := (List.getElem?_eq_some_iff.mp e1).1
    rw [List.length_append, List.length_singleton] at h1
    have : i = vs.length := by omega
    subst this
    rw [List.getElem?_append_right (Nat.le_refl _), Nat.sub_self] at e1
    rw [List.getElem?_append_right (by rw [r2.1]; exact Nat.le_refl _), r2.1, Nat.sub_self] at e2
    cases e1; cases e2
    exact .str
end
end GW

namespace GW
open PySem L2 PyProof.Rows
/-! ### a slot's own thing is let stand -/
section
variable {X : Cx} {C : Ctx} {wx : WX} {kr i : Nat} {F H : Hp} {B : AS} {σ : L2.St} {n : Int} {ds : DS}
theorem Sim.frzTo (S : Sim C F B σ H n ds) (i : Nat) : ∃ F1 B1, GoS B F H B1 F1 H ∧ Sim (C.frz i) F1 B1 σ H n ds := by
  classical
  obtain ⟨A, h1, h2, h3⟩ := S.rep
  let F1 : Hp := fun a => if A i a then H a else F a
  have hA : ∀ a, A i a → F1 a = H a := fun a h => if_pos h
  have hN : ∀ a, ¬ A i a → F1 a = F a := fun a h => if_neg h
  have ff : Same F F1 := fun a o e => by
    by_cases h : A i a
    · have q := (S.bok a (h2 i a h).1).1
      rw [q] at e; cases e
    · rw [hN a h]; exact e
  have fh : Same F1 H := fun a o e => by
    by_cases h : A i a
    · rw [hA a h] at e; exact e
    · rw [hN a h] at e; exact S.fh a o e
  refine ⟨F1, fun a => B a ∧ ¬ A i a, ⟨ff, fh, fun _ _ e _ => e, fun _ _ e _ => e, fun a o e h hb => ?_, fun a ha => .inl ha.1, fun _ o e => ⟨o, e⟩⟩, ⟨fh, fun a ha => ?_, fun q hq => ⟨⟨(S.cell q hq).1, fun z => (h2 i q z).2 hq⟩, (S.cell q hq).2⟩, S.pin, S.len, ?_⟩⟩
  · rw [hN a fun z => hb (h2 i a z).1]; exact e
  · exact ⟨by rw [hN a ha.2]; exact (S.bok a ha.1).1, (S.bok a ha.1).2⟩
  · refine ⟨fun j a => j ≠ i ∧ A j a, fun j d e => ?_, fun j a h => ⟨⟨(h2 j a h.2).1, fun z => h.1 (h3 j i a h.2 z)⟩, (h2 j a h.2).2⟩, fun j j' a h h' => h3 j j' a h.2 h'.2⟩
    obtain ⟨v, e1, r⟩ := h1 j d e
    refine ⟨v, e1, ?_⟩
    by_cases hj : j = i
    · subst hj
      have : (C.frz j).T j = 0 := if_pos rfl
      rw [this]
      exact r.frz ff fun a o ha e => by rw [hA a ha]; exact e
    · have : (C.frz i).T j = C.T j := if_neg hj
      rw [this]
      exact (r.mono ff (fun a o e _ => e) fun a o _ e => e).sup fun a ha => ⟨hj, ha⟩
def sFrz (i : Nat) (ms : MS) : MS := fun n ds => match ms n ds with
  | none => none
  | some (.rt d, n', ds') => some (.rt d, n', ds')
  | some (fl, n', ds') => some (fl, n', ds'.set i none)
theorem wss_freeze {sts : List Stmt} {ms : MS} (h : PSs X sts (WS (C.frz i) wx kr ms)) : PSs X sts (WS C wx kr (sFrz i ms)) := h.wk fun E σ H w => by
  obtain ⟨F, B, n, ds, S, h⟩ := w
  obtain ⟨F1, B1, G0, S1⟩ := S.frzTo i
  refine ⟨F1, B1, n, ds, S1, ?_⟩
  unfold WSL sFrz at h
  unfold WSL
  cases e : ms n ds with
  | none => rw [e] at h; exact h
  | some p =>
    obtain ⟨fl, n', ds'⟩ := p
    rw [e] at h
    cases fl with
    | nx => exact fun σ' F' B' H' G S' => h σ' F' B' H' (G0.trans G) S'.dropFrom
    | bk => exact fun σ' F' B' H' G S' => h σ' F' B' H' (G0.trans G) S'.dropFrom
    | ct => exact fun σ' F' B' H' G S' => h σ' F' B' H' (G0.trans G) S'.dropFrom
    | rt d => exact RtP.tr G0 h
    | ex c fs => exact fun σ' F' B' H' od G S' x => h σ' F' B' H' od (G0.trans G) S'.dropFrom x
end
theorem sv_frzR {i : Nat} {ms : MS} {n n' : Int} {ds ds' : DS} {d : D} (h : ms n ds = some (.rt d, n', ds')) : sFrz i ms n ds = some (.rt d, n', ds') := by
  unfold sFrz; rw [h]
theorem sv_frzN {i : Nat} {ms : MS} {n n' : Int} {ds ds' : DS} (h : ms n ds = some (.nx, n', ds')) : sFrz i ms n ds = some (.nx, n', ds'.set i none) := by
  unfold sFrz; rw [h]
/-! ### the empty list, one's own to any depth -/
section
variable {X : Cx} {C : Ctx} {wx : WX} {k kk : Nat} {pos : Pos}
theorem ve_lstE : PE X (.List [] pos) (W C wx .fz (k + 1) (mLst (ret (some [])))) := by
  refine (pe_lst pa_nil).wk fun σ H Q w => ?_
  obtain ⟨F, B, n, ds, S, h⟩ := w
  have h : WL C wx (RV C .fz (k + 1)) (GW.ret (some (.lst []))) F B n ds σ H Q := h
  obtain ⟨d, e, q⟩ := h.retE
  cases e
  refine ⟨by show 0 ≤ sizeLine; exact Nat.zero_le _, fun p hp => ?_⟩
  obtain ⟨G2, S2⟩ := S.newO (o := .lst []) hp
  exact q (.ref p) F _ G2 S2 ⟨fun a => a = p, .lstO (fun _ _ => False) upd_same rfl rfl (fun i v d a b => by simp at a) (fun _ _ h => h.elim) (fun _ _ _ h => h.elim), Fr.one S.fh hp rfl⟩
end
/-! ### tuple + tuple -/
def oCatT : D → D → Option D
  | .tup as, .tup bs => if as.length + bs.length ≤ 16777216 then some (.tup (as ++ bs)) else none
  | _, _ => none
section
variable {X : Cx} {C : Ctx} {wx : WX} {k : Nat} {a b : Expr} {pos : Pos} {ma mc : M}
theorem ve_catT (ha : PE X a (W C wx .fz 0 ma)) (hb : PE X b (W C wx .fz 0 mc)) (hK : X.K = C.K := by rfl) : PE X (.BinOp a .Add b pos) (W C wx .fz k (m2 ma mc oCatT)) :=
  (pe_op (r := rCatA C.K) (by rw [← hK]; exact op_catA) ha hb).wk fun σ H Q w => by
  obtain ⟨F, B, n, ds, S, h⟩ := w
  refine ⟨F, B, n, ds, S, (h.bind fun F1 H1 F2 H2 v d G r => r.tr G).mono fun x H1 ⟨F1, n1, da, G1, S1, ⟨A1, r1, f1⟩, h1⟩ => ?_⟩
  refine ⟨F1, B, n1, ds, S1, (h1.bind fun F1 H1 F2 H2 v d G r => r.tr G).mono fun y H2 ⟨F2, n2, db, G2, S2, ⟨A2, r2, f2⟩, h2⟩ => ?_⟩
  obtain ⟨d, e, q⟩ := h2.retE
  have r1' : Rp C.K F2 H2 0 x da (fun _ => False) := Rp.go0 (g := .fz) r1 G2
  unfold oCatT at e
  split at e
  · rename_i as bs
    split at e
    · rename_i hl
      cases e
      cases r1' with
      | @tup _ _ p1 vs1 _ hh1 l1 c1 =>
        cases r2 with
        | @tup _ _ p2 vs2 _ hh2 l2 c2 =>
          refine ⟨p1, p2, vs1, vs2, rfl, rfl, hh1, hh2, by rw [sizeLine_eq, l1, l2]; exact hl, fun z => ?_, fun _ z => ?_, fun _ _ p hp => ?_⟩
          · subst z
            have e0 := List.length_eq_zero_iff.mp l1.symm
            subst e0
            exact q (.ref p2) F2 H2 (GoC.refl S2.fh) S2 (RV_of0 (.tup hh2 l2 fun i v d a b => (c2 i v d a b).z))
          · subst z
            have e0 := List.length_eq_zero_iff.mp l2.symm
            subst e0
            rw [List.append_nil] at q
            exact q (.ref p1) F2 H2 (GoC.refl S2.fh) S2 (RV_of0 (.tup hh1 l1 fun i v d a b => (c1 i v d a b).z))
          · obtain ⟨G3, S3⟩ := S2.newO (o := .tup (vs1 ++ vs2)) hp
            have R := RpL.append (K := C.K) (G := F2) (H := H2) (vs := vs1) (ws := vs2) ⟨l1, fun i v d a b => (c1 i v d a b).z⟩ ⟨l2, fun i v d a b => (c2 i v d a b).z⟩
            exact q (.ref p) F2 _ G3 S3 (RV_of0 (.tup (.inl (.inl upd_same)) R.1 fun i v d a b => Rp.go0 (g := .fz) (R.2 i v d a b) G3))
    · cases e
  · cases e
end
end GW

namespace GW
open PySem L2 PyProof.Rows
/-! ### a thing that stands in a list of one's own -/
def mOwnIx (i : Nat) (mp : Mo Pth) (mj : M) : M := mb mp fun π => mb mj fun z => fun n ds => match ds[i]? with
  | some (some d0) => (match getP π d0, z with
    | some (.lst as), .int j => ret (atI as j) n ds
    | _, _ => none)
  | _ => none
section
variable {X : Cx} {C : Ctx} {wx : WX} {o b : Expr} {pos : Pos} {mp : Mo Pth} {mj : M}
theorem ve_ownIx {i l : Nat} (ho : PE X o (WPl C wx i mp)) (hl : PlT mp l) (hT : C.T i = l + 1) (hb : PE X b (W C wx .bo 0 mj)) (hs : PlainIx b := by intro _ _; rfl) (hK : X.K = C.K := by rfl) : PE X (.Subscript o b pos) (W C wx .fz 0 (mOwnIx i mp mj)) :=
  (pe_ix (r := rIxL C.K) (by rw [← hK]; exact ix_list) ho hb hs).wk fun σ H Q w => by
  obtain ⟨F, B, n, ds, S, h⟩ := w
  refine ⟨F, B, n, ds, S, WL.strong hl ((h.bind (R := fun H F' H' v d => RPl σ i H F' H' v d ∧ d.len = l) fun F1 H1 F2 H2 v d G r => r.tr G).mono fun x H1 ⟨F1, n1, π, G1, S1, ⟨⟨p, hvp, hpv⟩, hπ⟩, h1⟩ => ?_)⟩
  subst hvp
  refine ⟨F1, B, n1, ds, S1, (h1.bind fun F1 H1 F2 H2 v d G r => r.tr G).mono fun y H2 ⟨F2, n2, z, G2, S2, ⟨A2, r2, f2⟩, h2⟩ => ?_⟩
  unfold WL at h2
  cases hd : ds[i]? with
  | none => simp only [hd] at h2
  | some x =>
    cases x with
    | none => simp only [hd] at h2
    | some d0 =>
      simp only [hd] at h2
      cases he : getP π d0 with
      | none => simp only [he] at h2
      | some e0 =>
        cases e0 with
        | lst as =>
          cases z with
          | int j =>
            have ey := r2.int_
            subst ey
            simp only [he] at h2
            obtain ⟨Ae, N1⟩ := S1.nodeP hd he rfl (k := 0) (by rw [hT]) hπ hpv
            obtain ⟨Ae2, N2⟩ := S2.nodeP hd he rfl (k := 0) (by rw [hT]) hπ (N1.keep F2 H2 G2)
            obtain ⟨vs2, hvs2, rv2, mu⟩ := N2.lst
            cases hx : ixN as.length j with
            | none =>
              have : atI as j = none := by unfold atI; rw [hx]; rfl
              simp only [this, ret] at h2
            | some t =>
              have e1 : atI as j = as[t]? := by unfold atI; rw [hx]; rfl
              cases ht : as[t]? with
              | none =>
                rw [ht] at e1
                simp only [e1, ret] at h2
              | some d =>
                rw [ht] at e1
                simp only [e1, ret] at h2
                have htl := (List.getElem?_eq_some_iff.mp ht).1
                have htv : t < vs2.length := by rw [rv2.1]; exact htl
                have hv : vs2[t]? = some vs2[t] := List.getElem?_eq_getElem htv
                refine ⟨p, vs2, j, vs2[t], rfl, rfl, .inl (.inl hvs2), ?_, h2 _ F2 H2 (GoC.refl S2.fh) S2 (RV_of0 (rv2.2 t _ d hv ht).z)⟩
                unfold atI
                rw [rv2.1, hx]
                exact hv
          | _ => simp only [he] at h2
        | _ => simp only [he] at h2
end
end GW

namespace GW
open PySem L2 PyProof.Rows
/-! ### behind one token: text.replace of written texts -/
section
variable {X : Cx} {C : Ctx} {wx : WX} {g : Rg} {k kr : Nat} {e o : Expr} {es : List Expr} {m : M} {pos : Pos} {st : Stmt} {sts : List Stmt} {ma mc : MS}
theorem pet_wk {t t' : TE} (h : PET X e t) (w : ∀ σ H Q, t' σ H Q → t σ H Q) : PET X e t' := fun pins s σ H Q h0 I q => h pins s σ H Q h0 I (w _ _ _ q)
theorem pat_wk {t t' : TA} (h : PAT X es t) (w : ∀ σ H Q, t' σ H Q → t σ H Q) : PAT X es t' := fun pos pins s σ H Q h0 I q => h pos pins s σ H Q h0 I (w _ _ _ q)
theorem pst_wk {t t' : TS} (h : PST X st t) (w : ∀ D σ H, t' D σ H → t D σ H) : PST X st t' := fun pins s σ H D h0 I q => h pins s σ H D h0 I (w _ _ _ q)
theorem psst_wk {t t' : TS} (h : PSsT X sts t) (w : ∀ D σ H, t' D σ H → t D σ H) : PSsT X sts t' := fun pins s σ H D h0 I q => h pins s σ H D h0 I (w _ _ _ q)
def oRepl (y z : Str) : D → Option D
  | .str x => if x.length + (x.length + 1) * z.length ≤ 16777216 then some (.str (Txt.replace x y z)) else none
  | _ => none
theorem vet_repl {y z : Str} {i j : Nat} {c0 c1 apos : Pos} (ho : PET X o (W C wx g 0 m)) (hyz : (y == z) = false := by decide)
    (hst : starEach [.Constant (.str y) i c0, .Constant (.str z) j c1] X.env = [(false, eval (.Constant (.str y) i c0) X.env), (false, eval (.Constant (.str z) j c1) X.env)] := by rfl)
    (hbase : attributeBase o "replace" X.env (eval o X.env) = eval o X.env := by rfl) (hline : (apos.endLine == pos.line) = true := by rfl) :
    PET X (.Call (.Attribute o "replace" apos) [.Constant (.str y) i c0, .Constant (.str z) j c1] [] pos) (W C wx g k (m1 m (oRepl y z))) := by
  refine pet_wk (CwR.pet_replT ho hyz hst hbase hline) fun σ H Q w => ?_
  refine w.imp (t := fun σ H Q => CwR.tReplC _ y z σ H Q) fun F B n ds S h => ?_
  refine ⟨F, B, n, ds, S, (h.bind fun F1 H1 F2 H2 v d G r => r.tr G).mono fun v H1 ⟨F1, n1, d, G1, S1, ⟨A1, r1, f1⟩, h1⟩ => ?_⟩
  obtain ⟨d2, e2, q⟩ := h1.sc S1
  cases d with
  | str x =>
    have := r1.str_
    subst this
    unfold oRepl at e2
    simp only at e2
    split at e2
    · rename_i hl
      cases e2
      exact ⟨x, rfl, hl, q _ rfl⟩
    · cases e2
  | _ => cases e2
theorem vat_nil : PAT X [] (WA C wx g (ret (some []))) := fun pos pins s σ H Q _ I q => va_nil.run pos pins s σ H Q I q
theorem vat_of {ms : Mo (List D)} (h : PA X es (WA C wx g ms)) : PAT X es (WA C wx g ms) := fun pos pins s σ H Q _ I q => h.run pos pins s σ H Q I q
theorem vat_cons {ms : Mo (List D)} (ha : PET X e (W C wx g 0 m)) (hr : PAT X es (WA C wx g ms)) (hs : starEach (e :: es) X.env = (false, eval e X.env) :: starEach es X.env := by rfl) : PAT X (e :: es) (WA C wx g (mCons m ms)) := by
  refine pat_wk (pat_cons ha hr hs) fun σ H Q w => ?_
  obtain ⟨F, B, n, ds, S, h⟩ := w
  refine ⟨F, B, n, ds, S, (h.bind fun F1 H1 F2 H2 v d G r => r).mono fun x H1 ⟨F1, n1, d, G1, S1, ⟨A1, r1, f1⟩, h1⟩ => ?_⟩
  refine ⟨F1, B, n1, ds, S1, (h1.bind fun F1 H1 F2 H2 v d G r => r).mono fun xs H2 ⟨F2, n2, d2, G2, S2, r2, h2⟩ => ?_⟩
  obtain ⟨d3, e3, q⟩ := h2.retE
  cases e3
  exact q (x :: xs) F2 H2 (GoC.refl S2.fh) S2 (RpL.cons (r1.go0 (A' := fun _ => False) G2) r2)
theorem pet_tup {x1 : Nat} {t : TA} (h : PAT X es t) : PET X (.Tuple es x1 pos) (tTup t) := fun pins s σ H Q h0 I hq => wpAny_Tuple_spliced (thn (h pos pins s σ H _ h0 I hq) fun us s1 ⟨xs, H1, I1, r, z, q⟩ => by
  have hf := I1.hok.fresh (Nat.le_refl s1.heap.objs.size)
  refine ⟨by rw [← r.length]; exact z, .ref s1.heap.objs.size, upd H1 s1.heap.objs.size (.tup xs), ?_, rfl, q _ hf⟩
  refine I1.laid (t' := s1.toks) (fun b u e => Heap.get?_push_of_some _ e) (Nat.le_refl _) ?_
  exact ⟨z, us, r, ⟨_, Heap.get?_push_size _ rfl, rfl, _, rfl⟩⟩)
theorem vet_tup {x1 : Nat} {ms : Mo (List D)} (h : PAT X es (WA C wx g ms)) : PET X (.Tuple es x1 pos) (W C wx g k (mTup ms)) := by
  refine pet_wk (pet_tup h) fun σ H Q w => ?_
  obtain ⟨F, B, n, ds, S, h⟩ := w
  refine ⟨F, B, n, ds, S, (h.bind fun F1 H1 F2 H2 v d G r => r.tr G).mono fun xs H1 ⟨F1, n1, d, G1, S1, r1, h1⟩ => ?_⟩
  obtain ⟨d2, e2, q⟩ := h1.retE
  split at e2
  · rename_i hl
    cases e2
    refine ⟨by rw [sizeLine_eq, r1.1]; exact hl, fun p hp => ?_⟩
    obtain ⟨G2, S2⟩ := S1.newO (o := .tup xs) hp
    refine q (.ref p) F1 _ G2 S2 (RV_of0 (.tup (.inl (.inl upd_same)) r1.1 fun i v d a b => ?_))
    exact Rp.go0 (r1.2 i v d a b) G2
  · cases e2
theorem wst_ret {m : M} (he : PET X e (W C.stand wx .fz kr m)) : PST X (.Return (some e) pos) (WS C wx kr (sRet m)) := pst_wk (CwR.pst_ret he) fun E σ H w => by
  obtain ⟨F, B, n, ds, S, h⟩ := w
  obtain ⟨F0, G0, S0⟩ := S.stand
  refine ⟨F0, fun a => C.q = some a, n, ds, S0, ?_⟩
  unfold WSL at h
  unfold WL
  cases e : m n ds with
  | none => simp only [sRet, sE, e] at h
  | some p =>
    obtain ⟨o, n'⟩ := p
    cases o with
    | ok d =>
      simp only [sRet, sE, e] at h
      rintro v F' H' G S' ⟨A, r, f⟩
      refine h v (fun a => C.q = some a) F' H' A (G0.trans (G.toS fun _ z => z)) (fun q hq => ⟨(S'.cell q hq).2, (S'.bok q hq).1⟩) r fun a ha => ?_
      exact ⟨.inr (f a ha).1, (f a ha).2.1, fun z => S.nq z (f a ha).1, (f a ha).2.2⟩
    | ex c fs =>
      simp only [sRet, sE, e] at h
      intro F' H' od G S' x
      have G1 : GoC C.q F H F H' := ⟨⟨Same.refl _, fun a o e => G.go.hh a o (S.fh a o e) fun z => by
        have q := (S.bok a (S.cell a z).1).1
        rw [q] at e; exact absurd e (by simp), G.go.hh, G.go.ht, fun a o n _ => n⟩, G.dm⟩
      exact h σ F B H' od (G1.toS S.qB) (S.go G1 fun q hq => (S'.cell q hq).2) x
theorem wst_of (h : PS X st (WS C wx kr ma)) : PST X st (WS C wx kr ma) := fun pins s σ H D _ I q => h.run pins s σ H D I q
theorem wst_cons (h1 : PST X st (WS C wx kr ma)) (h2 : PSsT X sts (WS C wx kr mc)) : PSsT X (st :: sts) (WS C wx kr (sSeq ma mc)) := psst_wk (psst_cons h1 h2) fun E σ H w => by
  obtain ⟨F, B, n, ds, S, h⟩ := w
  exact ⟨F, B, n, ds, S, wsl_seq h⟩
theorem wst_one (h1 : PST X st (WS C wx kr ma)) : PSsT X [st] (WS C wx kr ma) := CwR.psst_one h1
end
section
variable {P : Program} {w : World} {K : PySem.W.Frag} {mg : Str → Option Value} {base : Heap}
theorem def_ok0T {x qual : Str} {params : Arguments} {body : List Stmt} {scope : Scope} {dvs : List V} {kws : List (Str × V)} {f : Addr} {fd : FuncData} {N ps : List Str} {k kr : Nat} {T : Nat → Nat} {ms : MS} (Fu : FunD K x qual params body scope dvs kws f fd) (S : FnScope N ps scope)
    (hnc : ∀ y ∈ scope.names, y.2 ≠ .cell) (hps : 1 ≤ ps.length) (hT : ∀ i, i < ps.length → T i = 0)
    (hb : ∀ (cdv : Value) (A : Around) (outer : List Env) (s : Shared) (H : Hp) (E : XK), Room k (A.deeper (envOfC qual scope s.heap.objs.size f cdv)) →
      PSsT (cxOf (L2.CX P w) P w K mg base N qual scope f cdv A outer s H E) body (WS ⟨K, none, T, fun _ => none⟩ (fun c d _ H => E c d H) kr ms)) :
    FnOk P w K mg base (L2.CX P w) (k + 1) f fd ps (spM K none ps.length kr (pureF (fn0 N.length ms))) := by
  obtain ⟨oc, od, dV, kV, doc, pm, an, cdv, ct, osl, rfl, lk, hcd, _, _⟩ := Fu.ex
  refine fn_ofT lk hcd S hnc hps (fun vs H Q E h => h.1) fun A outer s H vs Q E hr h => ⟨_, hb cdv A outer s H E hr, ?_⟩
  obtain ⟨hlen, F, q, n, as, fh, hq, _, hl, hrep, hm⟩ := h
  have hq := hq rfl
  subst hq
  refine ⟨F, fun _ => False, 0, startD N.length as, sim_start (ci := none) fh hl hrep (fun i hi => hT i (by rw [← hlen]; exact hi)) (fun _ h => h.elim) (fun _ h => by cases h) (fun _ _ h => by cases h), ?_⟩
  have go : ∀ {B' : AS} {F' H' : Hp}, GoS (fun _ => False) F H B' F' H' → GoC none F H F' H' := fun G => ⟨⟨G.ff, G.fh, fun a o e _ => G.hh a o e fun z => z, G.ht, fun a o n e => G.nf a o n e fun z => z⟩, G.dm⟩
  unfold pureF fn0 at hm
  unfold WSL
  cases e : ms 0 (startD N.length as) with
  | none => simp only [e, outF, Option.map_none] at hm
  | some pp =>
    obtain ⟨fl, n', ds'⟩ := pp
    cases fl with
    | nx =>
      simp only [e, outF, Option.map_some] at hm
      exact fun σ' F' B' H' G _ => hm .non F' H' (go G) (fun _ h => by cases h) ⟨fun _ => False, .non, Fr.no⟩
    | bk => simp only [e, outF, Option.map_none] at hm
    | ct => simp only [e, outF, Option.map_none] at hm
    | rt d =>
      simp only [e, outF, Option.map_some] at hm
      exact fun v B' F' H' A G _ r f => hm v F' H' (go G) (fun _ h => by cases h) ⟨A, r, fun a ha => ⟨(f a ha).1.elim (fun z => z.elim) id, (f a ha).2.1, (f a ha).2.2.2⟩⟩
    | ex c fs =>
      simp only [e, outF, Option.map_some] at hm
      exact fun σ' F' B' H' od G _ xr => hm F' H' od (go G) (fun _ h => by cases h) xr
end
end GW

namespace GW
open PySem L2 PyProof.Rows
/-! ### data set in order -/
def pp (d : D) : PyData := (toP d).getD .none
def noN : PyData → Bool
  | .none => false
  | _ => true
theorem noN_ne {p : PyData} (h : noN p = true) : p ≠ .none := fun z => by rw [z] at h; cases h
def dlt (a b : D) : Bool := PySem.W.dataLt (pp a) (pp b)
def oLtQ (a b : D) : Option D := match toP a, toP b with
  | some p, some q => if (PySem.W.alike p q && (noN p && decide (p.depth ≤ 60))) = true then some (.bl (PySem.W.dataLt p q)) else none
  | _, _ => none
def rLtD (K : PySem.W.Frag) : R2 := fun x y H Q => ∃ d e, L2.Dp K H x d ∧ L2.Dp K H y e ∧ PySem.W.alike d e = true ∧ d ≠ .none ∧ d.depth ≤ 60 ∧ Q (.bl (PySem.W.dataLt d e)) H
section
variable {X : Cx}
theorem op_ltD (hu : X.A.units + 64 < cLine) : OpR X (compareOp .Lt) (rLtD X.K) := by
  intro pins s σ H x y v u Q I rx ry h
  obtain ⟨d, e, hd, he, ha, hn, hz, q⟩ := h
  obtain ⟨as, r1⟩ := L2.Dp.reads I d x v hd rx
  obtain ⟨bs, r2⟩ := L2.Dp.reads I e y u he ry
  refine PySem.W.lt_data r1 r2 ha hn ?_ ⟨.bl _, H, I, rfl, q⟩
  have := Nat.min_le_left d.depth e.depth
  omega
end
theorem os_ltQ {K : PySem.W.Frag} : OpS K (rLtD K) oLtQ := by
  intro G H x y a b d A A' hs ra rb e
  unfold oLtQ at e
  split at e
  · rename_i p q h1 h2
    split at e
    · rename_i hc
      cases e
      simp only [Bool.and_eq_true, decide_eq_true_eq] at hc
      exact ⟨_, rfl, fun Q z => ⟨p, q, dp_of hs ra rfl h1, dp_of hs rb rfl h2, hc.1, noN_ne hc.2.1, hc.2.2, z⟩⟩
    · cases e
  · cases e
mutual
theorem toP_inj : ∀ (d e : D) (p : PyData), toP d = some p → toP e = some p → d = e
  | .non, e, p, h1, h2 => by
    simp only [toP, Option.some.injEq] at h1; subst h1
    cases e <;> simp [toP] at h2 <;> rfl
  | .bl b, e, p, h1, h2 => by
    simp only [toP, Option.some.injEq] at h1; subst h1
    cases e <;> simp [toP] at h2 <;> simp [h2]
  | .int b, e, p, h1, h2 => by
    simp only [toP, Option.some.injEq] at h1; subst h1
    cases e <;> simp [toP] at h2 <;> simp [h2]
  | .str b, e, p, h1, h2 => by
    simp only [toP, Option.some.injEq] at h1; subst h1
    cases e <;> simp [toP] at h2 <;> simp [h2]
  | .tup ds, e, p, h1, h2 => by
    simp only [toP, Option.map_eq_some_iff] at h1
    obtain ⟨ps, h3, rfl⟩ := h1
    cases e <;> simp [toP] at h2
    rw [toPs_inj ds _ ps h3 h2]
  | .lst ds, e, p, h1, h2 => by
    simp only [toP, Option.map_eq_some_iff] at h1
    obtain ⟨ps, h3, rfl⟩ := h1
    cases e <;> simp [toP] at h2
    rw [toPs_inj ds _ ps h3 h2]
  | .dct _, _, _, h1, _ => by simp [toP] at h1
  | .obj _ _, _, _, h1, _ => by simp [toP] at h1
  | .err _ _, _, _, h1, _ => by simp [toP] at h1
theorem toPs_inj : ∀ (ds es : List D) (ps : List PyData), toPs ds = some ps → toPs es = some ps → ds = es
  | [], es, ps, h1, h2 => by
    simp only [toPs, Option.some.injEq] at h1; subst h1
    cases es with
    | nil => rfl
    | cons e r =>
      simp only [toPs] at h2
      split at h2 <;> cases h2
  | d :: ds, es, ps, h1, h2 => by
    simp only [toPs] at h1
    split at h1
    · rename_i p q h3 h4
      cases h1
      cases es with
      | nil => cases h2
      | cons e r =>
        simp only [toPs] at h2
        split at h2
        · rename_i p' q' h5 h6
          cases h2
          rw [toP_inj d e p h3 h5, toPs_inj ds r q h4 h6]
        · cases h2
    · cases h1
end
theorem toPs_pp : ∀ {ds : List D} {ps : List PyData}, toPs ds = some ps → ps = ds.map pp ∧ ∀ d ∈ ds, toP d = some (pp d)
  | [], ps, h => by
    simp only [toPs, Option.some.injEq] at h; subst h
    exact ⟨rfl, fun d hd => by cases hd⟩
  | d :: ds, ps, h => by
    simp only [toPs] at h
    split at h
    · rename_i p q h3 h4
      cases h
      obtain ⟨e1, e2⟩ := toPs_pp h4
      have e3 : pp d = p := by unfold pp; rw [h3]; rfl
      refine ⟨by rw [List.map_cons, e3, e1], fun z hz => ?_⟩
      rcases List.mem_cons.mp hz with rfl | hz
      · rw [e3]; exact h3
      · exact e2 z hz
    · cases h
theorem depthAll_le : ∀ {ps : List PyData} {n : Nat}, (∀ p ∈ ps, p.depth ≤ n) → PyData.depthAll ps ≤ n
  | [], n, _ => by simp [PyData.depthAll]
  | p :: ps, n, h => by
    rw [PyData.depthAll]
    have := h p List.mem_cons_self
    have := depthAll_le (ps := ps) (n := n) fun q hq => h q (List.mem_cons_of_mem _ hq)
    omega
/-! ### the first of the least -/
def minQ (d : D) (ds : List D) : D := ds.foldl (fun a y => if dlt y a = true then y else a) d
theorem minQ_mem : ∀ (ds : List D) (d : D), minQ d ds ∈ d :: ds
  | [], d => List.mem_cons_self
  | e :: ds, d => by
    show minQ (if dlt e d = true then e else d) ds ∈ _
    have := minQ_mem ds (if dlt e d = true then e else d)
    rcases List.mem_cons.mp this with h | h
    · rw [h]
      split
      · simp
      · simp
    · exact List.mem_cons_of_mem _ (List.mem_cons_of_mem _ h)
theorem minQ_pp : ∀ (ds : List D) (d : D), pp (minQ d ds) = PySem.W.minD (pp d) (ds.map pp)
  | [], d => rfl
  | e :: ds, d => by
    show pp (minQ (if dlt e d = true then e else d) ds) = PySem.W.minD (if PySem.W.dataLt (pp e) (pp d) then pp e else pp d) (ds.map pp)
    rw [minQ_pp ds]
    unfold dlt
    split <;> rfl
def okQ (ds : List D) : Bool := ds.all fun d => (toP d).isSome && (noN (pp d) && (decide ((pp d).depth ≤ 60) && ds.all fun e => PySem.W.alike (pp d) (pp e)))
theorem okQ_toPs : ∀ {ds : List D}, (∀ d ∈ ds, (toP d).isSome = true) → toPs ds = some (ds.map pp)
  | [], _ => rfl
  | d :: ds, h => by
    have h1 := h d List.mem_cons_self
    have h2 := okQ_toPs (ds := ds) fun e he => h e (List.mem_cons_of_mem _ he)
    obtain ⟨p, hp⟩ := Option.isSome_iff_exists.mp h1
    simp only [toPs, hp, h2, List.map_cons]
    have : pp d = p := by unfold pp; rw [hp]; rfl
    rw [this]
structure OkQ (ds : List D) : Prop where
  ps : toPs ds = some (ds.map pp)
  nn : ∀ d ∈ ds, pp d ≠ .none
  dp : ∀ d ∈ ds, (pp d).depth ≤ 60
  al : ∀ d ∈ ds, ∀ e ∈ ds, PySem.W.alike (pp d) (pp e) = true
theorem okQ_ok {ds : List D} (h : okQ ds = true) : OkQ ds := by
  unfold okQ at h
  rw [List.all_eq_true] at h
  have h' : ∀ d ∈ ds, (toP d).isSome = true ∧ noN (pp d) = true ∧ (pp d).depth ≤ 60 ∧ ∀ e ∈ ds, PySem.W.alike (pp d) (pp e) = true := fun d hd => by
    have := h d hd
    simp only [Bool.and_eq_true, decide_eq_true_eq, List.all_eq_true] at this
    exact this
  exact ⟨okQ_toPs fun d hd => (h' d hd).1, fun d hd => noN_ne (h' d hd).2.1, fun d hd => (h' d hd).2.2.1, fun d hd e he => (h' d hd).2.2.2 e he⟩
theorem okQ_of {ds : List D} (h1 : ∀ d ∈ ds, (toP d).isSome = true) (h2 : ∀ d ∈ ds, noN (pp d) = true) (h3 : ∀ d ∈ ds, (pp d).depth ≤ 60) (h4 : ∀ d ∈ ds, ∀ e ∈ ds, PySem.W.alike (pp d) (pp e) = true) : okQ ds = true := by
  unfold okQ
  rw [List.all_eq_true]
  intro d hd
  simp only [Bool.and_eq_true, decide_eq_true_eq, List.all_eq_true]
  exact ⟨h1 d hd, h2 d hd, h3 d hd, fun e he => h4 d hd e he⟩
def oMinQ : List D → Option D
  | [.lst (d :: ds)] => if okQ (d :: ds) = true then some (minQ d ds) else none
  | _ => none
def rMinD (K : PySem.W.Frag) : List V → Hp → VK → Prop := fun vs H Q => ∃ (a : Addr) (xs : List V) (p : PyData) (ps : List PyData), vs = [V.ref a] ∧ SqL K H a xs ∧ L2.DpAll K H xs (p :: ps) ∧ PySem.W.AlikeAll (p :: ps) ∧ PyData.depthAll (p :: ps) ≤ 60 ∧
  ∀ (i : Nat) x, xs[i]? = some x → (p :: ps)[i]? = some (PySem.W.minD p ps) → Q x H
theorem minD_mem : ∀ (ps : List PyData) (p : PyData), PySem.W.minD p ps ∈ p :: ps
  | [], p => List.mem_cons_self
  | q :: ps, p => by
    show PySem.W.minD (if PySem.W.dataLt q p then q else p) ps ∈ _
    have := minD_mem ps (if PySem.W.dataLt q p then q else p)
    rcases List.mem_cons.mp this with h | h
    · rw [h]
      split
      · simp
      · simp
    · exact List.mem_cons_of_mem _ (List.mem_cons_of_mem _ h)
theorem readsAll_ix {h : Heap} : ∀ {us : List Value} {ps : List PyData} {as : List Addr}, ReadsAll h us ps as → ∀ (i : Nat) u p, us[i]? = some u → ps[i]? = some p → ∃ bs, Reads h u p bs
  | _, _, _, .nil, i, u, p, e, _ => by cases e
  | _, _, _, .cons r rs, 0, u, p, e1, e2 => by cases e1; cases e2; exact ⟨_, r⟩
  | _, _, _, .cons r rs, i + 1, u, p, e1, e2 => readsAll_ix rs i u p (by simpa using e1) (by simpa using e2)
theorem vals_ix : ∀ {xs : List V} {us : List Value}, Vals xs us → ∀ (i : Nat) u, us[i]? = some u → ∃ x, xs[i]? = some x ∧ RelV x u
  | _, _, .nil, i, u, e => by cases e
  | _, _, .cons r rs, 0, u, e => by cases e; exact ⟨_, rfl, r⟩
  | _, _, .cons r rs, i + 1, u, e => by
    obtain ⟨x, h1, h2⟩ := vals_ix rs i u (by simpa using e)
    exact ⟨x, by simpa using h1, h2⟩
theorem dpAll_len {K : PySem.W.Frag} {H : Hp} : ∀ {xs : List V} {ps : List PyData}, L2.DpAll K H xs ps → xs.length = ps.length
  | _, _, .nil => rfl
  | _, _, .cons _ h => by simp [dpAll_len h]
section
variable {X : Cx}
theorem cr_minD (hc : X.calm = true) (hu : X.A.units + 64 < cLine) : CallR X (.builtin "min") (rMinD X.K) := by
  intro pins s σ H vs us Q I r h
  obtain ⟨a, xs, p, ps, rfl, hs, hd, hal, hz, q⟩ := h
  obtain ⟨its, rv, hl, _⟩ := I.list hs
  obtain ⟨u, rfl, ru⟩ := vals1 r
  obtain rfl : u = Value.ref a := ru
  obtain ⟨as, hr⟩ := L2.Dp.readsAll I (p :: ps) xs its hd rv
  refine PySem.W.min_list_data (I.ok.hd hc) hl.isList (as := as) hr hal (by omega) fun i v h' tk bs hv hrd hk => ?_
  have hv' : its[i]? = some v := by simpa using hv
  obtain ⟨x, hx, rx⟩ := vals_ix rv i v hv'
  have hlen := dpAll_len hd
  have hi : i < (p :: ps).length := by rw [← hlen]; exact (List.getElem?_eq_some_iff.mp hx).1
  obtain ⟨bs', hr'⟩ := readsAll_ix hr i v _ hv' (List.getElem?_eq_getElem hi)
  have e := PySem.W.alike_unique _ _ v bs' bs (hal.1 _ (List.getElem_mem hi) _ (minD_mem ps p)) (PySem.W.reads_keeps hk hr') hrd
  exact ⟨x, H, I.kept hk, rx, q i x hx (by rw [List.getElem?_eq_getElem hi, e])⟩
end
section
variable {X : Cx} {C : Ctx} {wx : WX} {e : Expr} {p pos : Pos} {ms : Mo (List D)} {g : Rg}
theorem ve_minQ (hu : X.A.units + 64 < cLine) (hm : X.mg "min" = none) (ha : PA X [e] (WA C wx g ms)) (hg : Gl X "min" := by rfl)
    (hs : starEach [e] X.env = (false, eval e X.env) :: starEach [] X.env := by rfl) (hpl : (backTo pos (starEach [] X.env)).any (·.1) = false := by rfl) (hc : X.calm = true := by rfl) (hK : X.K = C.K := by rfl) : PE X (.Call (.Name "min" p) [e] [] pos) (W C wx g 0 (mCB ms oMinQ)) := by
  refine (pe_callB (cr_minD hc hu) hg hm PyProof.Rows.boot_min ha (by decide) (by decide) hs hpl).wk fun σ H Q w => ?_
  obtain ⟨F, B, n, ds, S, h⟩ := w
  refine ⟨F, B, n, ds, S, (h.bind fun F1 H1 F2 H2 v d G r => r.tr G).mono fun xs H1 ⟨F1, n1, da, G1, S1, r1, h1⟩ => ?_⟩
  obtain ⟨d, e, q⟩ := WL.same (A := fun _ => False) S1 h1
  unfold oMinQ at e
  split at e
  · rename_i d0 l
    split at e
    · rename_i hok
      cases e
      have ok := okQ_ok hok
      obtain ⟨v, rfl, r⟩ := r1.one
      cases r with
      | @lst _ a vs _ hh l0 c =>
        rw [hK]
        refine ⟨a, vs, pp d0, l.map pp, rfl, sqL_mono hh (rg_same S1.fh), dpAll_of (by rw [l0]; simp) (fun i v p hv hp => ?_), ⟨fun x hx y hy => ?_, fun x hx => ?_⟩, depthAll_le fun x hx => ?_, fun i x hx hp => ?_⟩
        · have hi : i < (d0 :: l).length := by rw [← l0]; exact (List.getElem?_eq_some_iff.mp hv).1
          have e1 := (toPs_pp ok.ps).2 (d0 :: l)[i] (List.getElem_mem hi)
          have hp' : ((d0 :: l).map pp)[i]? = some p := hp
          rw [List.getElem?_map, List.getElem?_eq_getElem hi, Option.map_some] at hp'
          cases hp'
          exact dp_of (rg_same S1.fh) (c i v _ hv (List.getElem?_eq_getElem hi)) rfl e1
        · obtain ⟨x', hx', rfl⟩ := List.mem_map.mp (show x ∈ (d0 :: l).map pp from hx)
          obtain ⟨y', hy', rfl⟩ := List.mem_map.mp (show y ∈ (d0 :: l).map pp from hy)
          exact ok.al _ hx' _ hy'
        · obtain ⟨x', hx', rfl⟩ := List.mem_map.mp (show x ∈ (d0 :: l).map pp from hx)
          exact ok.nn _ hx'
        · obtain ⟨x', hx', rfl⟩ := List.mem_map.mp (show x ∈ (d0 :: l).map pp from hx)
          exact ok.dp _ hx'
        · have hi : i < (d0 :: l).length := by rw [← l0]; exact (List.getElem?_eq_some_iff.mp hx).1
          have hp' : ((d0 :: l).map pp)[i]? = some (PySem.W.minD (pp d0) (l.map pp)) := hp
          rw [List.getElem?_map, List.getElem?_eq_getElem hi, Option.map_some, Option.some.injEq] at hp'
          have e1 := (toPs_pp ok.ps).2 (d0 :: l)[i] (List.getElem_mem hi)
          have e2 := (toPs_pp ok.ps).2 (minQ d0 l) (minQ_mem l d0)
          have e3 : (d0 :: l)[i] = minQ d0 l := toP_inj _ _ _ e1 (by rw [e2, minQ_pp, hp'])
          exact q x (c i x _ hx (by rw [List.getElem?_eq_getElem hi, e3]))
    · cases e
  · cases e
end
/-! ### sorted -/
def tup1 : D → Bool
  | .tup (_ :: _) => true
  | _ => false
def leQ (x y : D) : Bool := !dlt y x
def oSortQ : List D → Option D
  | [.lst ds] => if (okQ ds && (flats ds && (ds.all tup1 && decide (ds.length ≤ 16777216)))) = true then some (.lst (ds.mergeSort leQ)) else none
  | _ => none
def rSortD (K : PySem.W.Frag) : List V → Hp → VK → Prop := fun vs H Q => ∃ (a : Addr) (bs : List (V × D)), vs = [V.ref a] ∧ SqL K H a (bs.map (·.1)) ∧ (∀ b ∈ bs, L2.Dp K H b.1 (pp b.2)) ∧ PySem.W.AllAlike (bs.map fun b => pp b.2) ∧ PySem.W.Sortable (bs.map fun b => pp b.2) ∧ bs.length ≤ sizeLine ∧ (∀ b ∈ bs, (pp b.2).depth ≤ 60) ∧
  ∀ q, H q = none → Q (.ref q) (upd H q (.lst ((bs.mergeSort fun x y => leQ x.2 y.2).map (·.1))))
section
variable {X : Cx}
theorem each_of {α : Type} {R : Value → α → Prop} : ∀ {us : List Value} {bs : List α}, us.length = bs.length → (∀ (i : Nat) u b, us[i]? = some u → bs[i]? = some b → R u b) → PySem.W.EachIs R us bs
  | [], [], _, _ => .nil
  | [], _ :: _, h, _ => by cases h
  | _ :: _, [], h, _ => by cases h
  | u :: us, b :: bs, h, c => .cons (c 0 u b rfl rfl) (each_of (by simpa using h) fun i u b a d => c (i + 1) u b (by simpa using a) (by simpa using d))
theorem each_vals : ∀ {us : List Value} {bs : List (V × D)}, PySem.W.EachIs (fun u (b : V × D) => RelV b.1 u) us bs → Vals (bs.map (·.1)) us
  | _, _, .nil => .nil
  | _, _, .cons h t => .cons h (each_vals t)
theorem cr_sortD (hu : X.A.units + 64 < cLine) : CallR X (.builtin "sorted") (rSortD X.K) := by
  intro pins s σ H vs us Q I r h
  obtain ⟨a, bs, rfl, hs, hd, hal, hk, hz, hdp, q⟩ := h
  obtain ⟨its, rv, hl, _⟩ := I.list hs
  obtain ⟨u, rfl, ru⟩ := vals1 r
  obtain rfl : u = Value.ref a := ru
  have hlen : its.length = bs.length := by rw [← rv.length, List.length_map]
  have rel : ∀ (i : Nat) u b, its[i]? = some u → bs[i]? = some b → RelV b.1 u := fun i u b h1 h2 => by
    obtain ⟨x, h3, h4⟩ := vals_ix rv i u h1
    rw [List.getElem?_map, h2] at h3
    cases h3
    exact h4
  refine PySem.W.sorted_data (β := V × D) (enc := fun b => pp b.2) (R := fun u b => RelV b.1 u) hl.isList (each_of hlen rel) (each_of hlen fun i u b h1 h2 => ?_) hal hk hz (fun b hb => by have := hdp b hb; omega) fun out ho e => ?_
  · exact L2.Dp.reads I _ b.1 u (hd b (List.mem_of_getElem? h2)) (rel i u b h1 h2)
  · have e' : Vals ((bs.mergeSort fun x y => leQ x.2 y.2).map (·.1)) out := each_vals e
    obtain ⟨n, hn⟩ := sortedAll_at s.heap its out.toArray
    have hz' : ((bs.mergeSort fun x y => leQ x.2 y.2).map (·.1)).length ≤ sizeLine := by rw [List.length_map, List.length_mergeSort]; exact hz
    exact ⟨.ref (s.heap.objs.size + 1), upd H (s.heap.objs.size + 1) (.lst ((bs.mergeSort fun x y => leQ x.2 y.2).map (·.1))), I.laid (t' := s.toks) (fun b o e => sortedAll_old e) (Nat.le_succ _) ⟨hz', out, n, e', hn⟩, rfl, q _ (I.hok.fresh (Nat.le_succ _))⟩
end
theorem flats_mem : ∀ {ds : List D} {d : D}, flats ds = true → d ∈ ds → flat d = true
  | e :: ds, d, h, hd => by
    simp only [flats, Bool.and_eq_true] at h
    rcases List.mem_cons.mp hd with rfl | hd
    · exact h.1
    · exact flats_mem h.2 hd
theorem tup1_pp {d : D} (h : tup1 d = true) (hp : (toP d).isSome = true) : ∃ x r, pp d = .tuple (x :: r) := by
  obtain ⟨p, hp⟩ := Option.isSome_iff_exists.mp hp
  unfold pp
  rw [hp]
  cases d with
  | tup ds =>
    cases ds with
    | nil => cases h
    | cons y ds =>
      simp only [toP, Option.map_eq_some_iff] at hp
      obtain ⟨ps, h1, rfl⟩ := hp
      simp only [toPs] at h1
      split at h1
      · cases h1; exact ⟨_, _, rfl⟩
      · cases h1
  | _ => cases h
section
variable {X : Cx} {C : Ctx} {wx : WX} {e : Expr} {p pos : Pos} {ms : Mo (List D)} {g : Rg}
theorem ve_sortQ (hu : X.A.units + 64 < cLine) (hm : X.mg "sorted" = none) (ha : PA X [e] (WA C wx g ms)) (hg : Gl X "sorted" := by rfl)
    (hs : starEach [e] X.env = (false, eval e X.env) :: starEach [] X.env := by rfl) (hpl : (backTo pos (starEach [] X.env)).any (·.1) = false := by rfl) (hK : X.K = C.K := by rfl) : PE X (.Call (.Name "sorted" p) [e] [] pos) (W C wx .fz 1 (mCB ms oSortQ)) := by
  refine (pe_callB (cr_sortD hu) hg hm PyProof.Rows.boot_sorted ha (by decide) (by decide) hs hpl).wk fun σ H Q w => ?_
  obtain ⟨F, B, n, ds, S, h⟩ := w
  refine ⟨F, B, n, ds, S, (h.bind fun F1 H1 F2 H2 v d G r => r.tr G).mono fun xs H1 ⟨F1, n1, da, G1, S1, r1, h1⟩ => ?_⟩
  obtain ⟨d, e, q⟩ := h1.retE
  unfold oSortQ at e
  split at e
  · rename_i l
    split at e
    · rename_i hok
      cases e
      simp only [Bool.and_eq_true, decide_eq_true_eq, List.all_eq_true] at hok
      obtain ⟨hok, hfl, htp, hln⟩ := hok
      have ok := okQ_ok hok
      obtain ⟨v, rfl, r⟩ := r1.one
      cases r with
      | @lst _ a vs _ hh l0 c =>
        rw [hK]
        have z1 : (vs.zip l).map (·.1) = vs := List.map_fst_zip (by omega)
        have z2 : (vs.zip l).map (·.2) = l := List.map_snd_zip (by omega)
        have zm : ∀ b ∈ vs.zip l, ∃ i, vs[i]? = some b.1 ∧ l[i]? = some b.2 := fun b hb => by
          obtain ⟨i, hi⟩ := List.getElem?_of_mem hb
          rw [List.getElem?_zip_eq_some] at hi
          exact ⟨i, hi⟩
        have z3 : (vs.zip l).map (fun b => pp b.2) = l.map pp := by
          have := congrArg (List.map pp) z2
          rw [List.map_map] at this
          exact this
        have hms : ((vs.zip l).mergeSort fun x y => leQ x.2 y.2).map (·.2) = l.mergeSort leQ := by
          rw [List.map_mergeSort (s := leQ) (f := fun x : V × D => x.2) fun a _ b _ => rfl, z2]
        refine ⟨a, vs.zip l, rfl, by rw [z1]; exact sqL_mono hh (rg_same S1.fh), fun b hb => ?_, fun x hx y hy => ?_, .inl fun x hx => ?_, by rw [List.length_zip, sizeLine_eq]; omega, fun b hb => ?_, fun p hp => ?_⟩
        · obtain ⟨i, h1, h2⟩ := zm b hb
          exact dp_of (rg_same S1.fh) (c i _ _ h1 h2) rfl ((toPs_pp ok.ps).2 _ (List.mem_of_getElem? h2))
        · rw [z3] at hx hy
          obtain ⟨x', hx', rfl⟩ := List.mem_map.mp hx
          obtain ⟨y', hy', rfl⟩ := List.mem_map.mp hy
          exact ok.al _ hx' _ hy'
        · rw [z3] at hx
          obtain ⟨x', hx', rfl⟩ := List.mem_map.mp hx
          exact tup1_pp (htp x' hx') (by rw [(toPs_pp ok.ps).2 _ hx']; rfl)
        · obtain ⟨i, _, h2⟩ := zm b hb
          exact ok.dp _ (List.mem_of_getElem? h2)
        · obtain ⟨G2, S2⟩ := S1.newO (o := .lst (((vs.zip l).mergeSort fun x y => leQ x.2 y.2).map (·.1))) hp
          refine q (.ref p) F1 _ G2 S2 ⟨fun a => a = p, .lstO (fun _ _ => False) upd_same rfl (by rw [← hms, List.length_map, List.length_map]) (fun i y d hy hd => ?_) (fun _ _ h => h.elim) (fun _ _ _ h => h.elim), Fr.one S1.fh hp rfl⟩
          rw [← hms, List.getElem?_map] at hd
          rw [List.getElem?_map] at hy
          cases hb : ((vs.zip l).mergeSort fun x y => leQ x.2 y.2)[i]? with
          | none => rw [hb] at hd; cases hd
          | some b =>
            rw [hb] at hd hy
            cases hd; cases hy
            have hbm : b ∈ vs.zip l := (List.mergeSort_perm _ _).mem_iff.mp (List.mem_of_getElem? hb)
            obtain ⟨j, h1, h2⟩ := zm b hbm
            have r3 : Rp C.K F1 H1 0 b.1 b.2 (fun _ => False) := (c j _ _ h1 h2).flat_any (flats_mem hfl (List.mem_of_getElem? h2)) _ _ _
            exact Rp.go0 (g := .fz) r3 G2
    · cases e
  · cases e
end
/-! ### rows of numbers -/
def iT (l : List Int) : D := .tup (l.map D.int)
theorem toPs_ints : ∀ l : List Int, toPs (l.map D.int) = some (l.map PyData.int)
  | [] => rfl
  | x :: l => by
    show toPs (D.int x :: l.map D.int) = _
    simp only [toPs, toP, toPs_ints l, List.map_cons]
theorem toP_iT (l : List Int) : toP (iT l) = some (.tuple (l.map .int)) := by
  unfold iT
  simp only [toP, toPs_ints, Option.map_some]
theorem pp_iT (l : List Int) : pp (iT l) = .tuple (l.map .int) := by unfold pp; rw [toP_iT]; rfl
theorem dlt_iT (l m : List Int) : dlt (iT l) (iT m) = decide (l < m) := by
  unfold dlt
  rw [pp_iT, pp_iT, PySem.W.dataLt_tuple]
  exact PySem.W.dataLt_ints l m
theorem okQ_iT (ls : List (List Int)) : okQ (ls.map iT) = true := by
  have key : ∀ d ∈ ls.map iT, ∃ l, d = iT l := fun d hd => by
    obtain ⟨l, _, rfl⟩ := List.mem_map.mp hd
    exact ⟨l, rfl⟩
  refine okQ_of (fun d hd => ?_) (fun d hd => ?_) (fun d hd => ?_) fun d hd e he => ?_
  · obtain ⟨l, rfl⟩ := key d hd; rw [toP_iT]; rfl
  · obtain ⟨l, rfl⟩ := key d hd; rw [pp_iT]; rfl
  · obtain ⟨l, rfl⟩ := key d hd
    rw [pp_iT]
    show (PyData.tuple _).depth ≤ 60
    rw [PyData.depth, PySem.W.depth_ints]; omega
  · obtain ⟨l, rfl⟩ := key d hd
    obtain ⟨m, rfl⟩ := key e he
    rw [pp_iT, pp_iT]
    show PySem.W.alike (.tuple _) (.tuple _) = true
    rw [PySem.W.alike]
    exact PySem.W.alike_ints l m
def minI (l : List Int) (ls : List (List Int)) : List Int := ls.foldl (fun a y => if y < a then y else a) l
theorem minQ_iT : ∀ (ls : List (List Int)) (l : List Int), minQ (iT l) (ls.map iT) = iT (minI l ls)
  | [], l => rfl
  | m :: ls, l => by
    show minQ (if dlt (iT m) (iT l) = true then iT m else iT l) (ls.map iT) = iT (minI (if m < l then m else l) ls)
    rw [dlt_iT]
    by_cases h : m < l
    · rw [if_pos (by simpa using h), if_pos h, minQ_iT]
    · rw [if_neg (by simpa using h), if_neg h, minQ_iT]
theorem ov_minQ (l : List Int) (ls : List (List Int)) : oMinQ [.lst (iT l :: ls.map iT)] = some (iT (minI l ls)) := by
  show (if okQ ((l :: ls).map iT) = true then some (minQ (iT l) (ls.map iT)) else none) = _
  rw [if_pos (okQ_iT _), minQ_iT]
theorem flats_iT : ∀ l : List Int, flats (l.map D.int) = true
  | [] => rfl
  | x :: l => by
    show flats (D.int x :: l.map D.int) = true
    simp only [flats, flat, flats_iT l, Bool.and_self]
theorem flats_all : ∀ {ds : List D}, (∀ d ∈ ds, flat d = true) → flats ds = true
  | [], _ => rfl
  | d :: ds, h => by
    simp only [flats, h d List.mem_cons_self, flats_all fun e he => h e (List.mem_cons_of_mem _ he), Bool.and_self]
def leI (l m : List Int) : Bool := decide (l ≤ m)
theorem ov_sortQ (ls : List (List Int)) (h : ∀ l ∈ ls, l ≠ []) (hz : ls.length ≤ 16777216) : oSortQ [.lst (ls.map iT)] = some (.lst ((ls.mergeSort leI).map iT)) := by
  have h1 : flats (ls.map iT) = true := flats_all fun d hd => by
    obtain ⟨l, _, rfl⟩ := List.mem_map.mp hd
    show flats (l.map D.int) = true
    exact flats_iT l
  have h2 : (ls.map iT).all tup1 = true := List.all_eq_true.mpr fun d hd => by
    obtain ⟨l, hl, rfl⟩ := List.mem_map.mp hd
    cases l with
    | nil => exact absurd rfl (h _ hl)
    | cons => rfl
  show (if (okQ (ls.map iT) && (flats (ls.map iT) && ((ls.map iT).all tup1 && decide ((ls.map iT).length ≤ 16777216)))) = true then _ else none) = _
  rw [okQ_iT, h1, h2, if_pos (by simpa using hz), List.map_mergeSort (s := leQ) (f := iT) fun a _ b _ => ?_]
  unfold leQ leI
  rw [dlt_iT]
  by_cases hab : b < a
  · have : ¬ a ≤ b := fun q => List.not_lt.mpr q hab
    simp [hab, this]
  · have : a ≤ b := List.not_lt.mp hab
    simp [hab, this]
end GW

namespace K22
open PySem L2 PyProof.Rows GW
noncomputable section
structure CF_Prices (K : PySem.W.Frag) (C : Addr) : Prop where
  cls : Cls K C
  n_signs : NoAttr K C "signs"
  n_pairs : NoAttr K C "pairs"
  n_opening : NoAttr K C "opening"
  n_more : NoAttr K C "more"
  n_whole : NoAttr K C "whole"
  n_costs : NoAttr K C "costs"
  n_open_units : NoAttr K C "open_units"
  n_more_units : NoAttr K C "more_units"
structure CF_Sheet (K : PySem.W.Frag) (C : Addr) : Prop where
  cls : Cls K C
  n_first : NoAttr K C "first"
  n_second : NoAttr K C "second"
  n_high : NoAttr K C "high"
  n_wide : NoAttr K C "wide"
  n_manner : NoAttr K C "manner"
  n_opening : NoAttr K C "opening"
  n_more : NoAttr K C "more"
  n_costs : NoAttr K C "costs"
structure BF (mg : Str → Option Value) : Prop where
  abs_ : mg "abs" = none
  all_ : mg "all" = none
  bool_ : mg "bool" = none
  divmod_ : mg "divmod" = none
  enumerate_ : mg "enumerate" = none
  int_ : mg "int" = none
  isinstance_ : mg "isinstance" = none
  len_ : mg "len" = none
  list_ : mg "list" = none
  min_ : mg "min" = none
  ord_ : mg "ord" = none
  range_ : mg "range" = none
  reversed_ : mg "reversed" = none
  str_ : mg "str" = none
  sum_ : mg "sum" = none
  tuple_ : mg "tuple" = none
  zip_ : mg "zip" = none
structure XF (P : Program) (w : World) (K : PySem.W.Frag) (mg : Str → Option Value) (base : Heap) : Prop where
  ef : EFs K exs
  n_WeaveError : mg "WeaveError" = some (.ref (ec K 0))
  n_NoPrices : mg "NoPrices" = some (.ref (ec K 1))
  n_NoManner : mg "NoManner" = some (.ref (ec K 3))
  n_NoSign : mg "NoSign" = some (.ref (ec K 9))
  o_NoManner : EOwn K mg 3
  o_NoPrices : EOwn K mg 1
  m_NoSign : EMk P w K mg base 9 ["row", "place"]
  gt_MANNERS : GTup K mg "MANNERS" ["whole", "within", "over", "stretch"]
def N_NoSign_init : List Str := ["self", "row", "place"]
theorem sc_NoSign_init : FnScope N_NoSign_init ["self", "row", "place"] (defScope s_NoSign_init) := ⟨rfl, rfl, rfl, by decide +kernel, rfl, by decide +kernel, by decide +kernel⟩
/-! greatest_part -/
def N_greatest_part : List Str := ["one", "other", "rest"]
theorem sc_greatest_part : FnScope N_greatest_part ["one", "other"] (defScope s_greatest_part) := ⟨rfl, rfl, rfl, by decide +kernel, rfl, by decide +kernel, by decide +kernel⟩
abbrev T_greatest_part : Nat → Nat := fun _ => 0
def b_greatest_part_1 (cs : Nat → Addr) : MS :=
  (sSeq (sSet 2 (m2 (mCB (mCons (mVar 0) (mCons (mVar 1) (ret (some [])))) oDivmod) (mC (.int 1)) oIx))
  (sSeq (sSet 0 (mVar 1))
  (sSet 1 (mVar 2))))
def t_greatest_part_1 (cs : Nat → Addr) : Mo Bool :=
  (mTest (m2 (mVar 1) (mC (.int 0)) oGt))
def m_greatest_part (cs : Nat → Addr) : MS :=
  (sSeq (sWhile (t_greatest_part_1 cs) (b_greatest_part_1 cs))
  (sRet (mVar 0)))
def f_greatest_part (cs : Nat → Addr) : List D → Option (Ot D) := fn0 3 (m_greatest_part cs)
/-! lowest -/
def N_lowest : List Str := ["fraction", "over", "under", "part"]
theorem sc_lowest : FnScope N_lowest ["fraction"] (defScope s_lowest) := ⟨rfl, rfl, rfl, by decide +kernel, rfl, by decide +kernel, by decide +kernel⟩
abbrev T_lowest : Nat → Nat := fun _ => 0
def m_lowest (cs : Nat → Addr) : MS :=
  (sSeq (sAsg (.tup [1, 2]) (mVar 0))
  (sSeq (sSet 3 (mCall (pureF (f_greatest_part cs)) (mCons (mCB (mCons (mVar 1) (ret (some []))) oAbs) (mCons (mVar 2) (ret (some []))))))
  (sRet (mTup (mCons (m2 (mVar 1) (mVar 3) oDiv) (mCons (m2 (mVar 2) (mVar 3) oDiv) (ret (some []))))))))
def f_lowest (cs : Nat → Addr) : List D → Option (Ot D) := fn0 4 (m_lowest cs)
/-! least_whole -/
def N_least_whole : List Str := ["unders", "whole", "under"]
theorem sc_least_whole : FnScope N_least_whole ["unders"] (defScope s_least_whole) := ⟨rfl, rfl, rfl, by decide +kernel, rfl, by decide +kernel, by decide +kernel⟩
abbrev T_least_whole : Nat → Nat := fun _ => 0
def b_least_whole_1 (cs : Nat → Addr) : MS :=
  (sSet 1 (m2 (m2 (mVar 1) (mVar 2) oMul) (mCall (pureF (f_greatest_part cs)) (mCons (mVar 1) (mCons (mVar 2) (ret (some []))))) oDiv))
def m_least_whole (cs : Nat → Addr) : MS :=
  (sSeq (sSet 1 (mC (.int 1)))
  (sSeq (sFor (mItA (mVar 0)) (.one 2) (b_least_whole_1 cs))
  (sRet (mVar 1))))
def f_least_whole (cs : Nat → Addr) : List D → Option (Ot D) := fn0 3 (m_least_whole cs)
/-! is_sign -/
def N_is_sign : List Str := ["sign"]
theorem sc_is_sign : FnScope N_is_sign ["sign"] (defScope s_is_sign) := ⟨rfl, rfl, rfl, by decide +kernel, rfl, by decide +kernel, by decide +kernel⟩
abbrev T_is_sign : Nat → Nat := fun _ => 0
def m_is_sign (cs : Nat → Addr) : MS :=
  (sRet (mAndV (m3c (mC (.int 32)) (mCB (mCons (mVar 0) (ret (some []))) oOrd) (mC (.int 126)) oLe oLe) (m2 (mCB (mCons (mVar 0) (ret (some []))) oOrd) (mTup (mCons (mC (.int 34)) (mCons (mC (.int 37)) (mCons (mC (.int 45)) (ret (some [])))))) (oInQ true))))
def f_is_sign (cs : Nat → Addr) : List D → Option (Ot D) := fn0 1 (m_is_sign cs)
/-! signs_fit -/
def N_signs_fit : List Str := ["signs", "met", "sign"]
theorem sc_signs_fit : FnScope N_signs_fit ["signs"] (defScope s_signs_fit) := ⟨rfl, rfl, rfl, by decide +kernel, rfl, by decide +kernel, by decide +kernel⟩
def T_signs_fit : Nat → Nat := fun i => if i = 1 then 1 else 0
def b_signs_fit_1 (cs : Nat → Addr) : MS :=
  (sSeq (sIf (mOr (mNot (mTest (mCall (pureF (f_is_sign cs)) (mCons (mVar 2) (ret (some [])))))) (mTest (m2 (mVar 2) (mVar 1) (oInD false)))) (sRet (mC (.bl false))) sNx)
  (sSetK 1 (mC (.bl true)) (mPN 1) (mVar 2)))
def m_signs_fit (cs : Nat → Addr) : MS :=
  (sSeq (sSet 1 (mC (.dct [])))
  (sSeq (sFor (mItA (mVar 0)) (.one 2) (b_signs_fit_1 cs))
  (sRet (m2 (mCB (mCons (mVar 1) (ret (some []))) oLen) (mC (.int 0)) oGt))))
def f_signs_fit (cs : Nat → Addr) : List D → Option (Ot D) := fn0 3 (m_signs_fit cs)
/-! price_kept -/
def N_price_kept : List Str := ["fraction"]
theorem sc_price_kept : FnScope N_price_kept ["fraction"] (defScope s_price_kept) := ⟨rfl, rfl, rfl, by decide +kernel, rfl, by decide +kernel, by decide +kernel⟩
abbrev T_price_kept : Nat → Nat := fun _ => 0
def m_price_kept (cs : Nat → Addr) : MS :=
  (sSeq (sIf (mTest (m2 (m2 (mVar 0) (mC (.int 1)) oIx) (mC (.int 1)) oLt)) (sRaise 1) sNx)
  (sRet (mCall (pureF (f_lowest cs)) (mCons (mVar 0) (ret (some []))))))
def f_price_kept (cs : Nat → Addr) : List D → Option (Ot D) := fn0 1 (m_price_kept cs)
/-! units_of -/
def N_units_of : List Str := ["price", "whole"]
theorem sc_units_of : FnScope N_units_of ["price", "whole"] (defScope s_units_of) := ⟨rfl, rfl, rfl, by decide +kernel, rfl, by decide +kernel, by decide +kernel⟩
abbrev T_units_of : Nat → Nat := fun _ => 0
def m_units_of (cs : Nat → Addr) : MS :=
  (sRet (m2 (m2 (mVar 0) (mC (.int 0)) oIx) (m2 (mVar 1) (m2 (mVar 0) (mC (.int 1)) oIx) oDiv) oMul))
def f_units_of (cs : Nat → Addr) : List D → Option (Ot D) := fn0 2 (m_units_of cs)
/-! Prices_init -/
def N_Prices_init : List Str := ["self", "signs", "pairs", "opening", "more", "line", "unders", "one", "other", "price"]
theorem sc_Prices_init : FnScope N_Prices_init ["self", "signs", "pairs", "opening", "more"] (defScope s_Prices_init) := ⟨rfl, rfl, rfl, by decide +kernel, rfl, by decide +kernel, by decide +kernel⟩
def T_Prices_init : Nat → Nat := fun i => if i = 0 then 2 else if i = 6 then 1 else 0
def b_Prices_init_1 (cs : Nat → Addr) : MS :=
  (sIf (mTest (m2 (mCB (mCons (mVar 5) (ret (some []))) oLen) (mCB (mCons (mVar 1) (ret (some []))) oLen) oNe)) (sRaise 1) sNx)
def b_Prices_init_2 (cs : Nat → Addr) : MS :=
  (sExt 6 (mPN 6) (mLc (mItA (mVar 5)) (.one 9) mYes (m2 (mVar 9) (mC (.int 1)) oIx) [9]))
def b_Prices_init_3 (cs : Nat → Addr) : MS :=
  (sSetK 0 (mFlat (mCall (pureF (f_units_of cs)) (mCons (mVar 9) (mCons (m1 (mVar 0) (oFld (cs 0) "whole")) (ret (some [])))))) (mPF 0 (cs 0) "costs") (m2 (mVar 7) (mVar 8) oAdd))
def b_Prices_init_4 (cs : Nat → Addr) : MS :=
  (sFor (mZip2 (mCons (mVar 1) (mCons (mVar 5) (ret (some []))))) (.tup [8, 9]) (b_Prices_init_3 cs))
def m_Prices_init (cs : Nat → Addr) : MS :=
  (sSeq (sIf (mOr (mNot (mTest (mCall (pureF (f_signs_fit cs)) (mCons (mVar 1) (ret (some [])))))) (mTest (m2 (mCB (mCons (mVar 2) (ret (some []))) oLen) (mCB (mCons (mVar 1) (ret (some []))) oLen) oNe))) (sRaise 1) sNx)
  (sSeq (sFor (mItA (mVar 2)) (.one 5) (b_Prices_init_1 cs))
  (sSeq (sSetF 0 (mFlat (mVar 1)) (cs 0) "signs")
  (sSeq (sSetF 0 (mCB (mCons (mLc (mItA (mVar 2)) (.one 5) mYes (mCB (mCons (mLc (mItA (mVar 5)) (.one 9) mYes (mCall (pureF (f_price_kept cs)) (mCons (mVar 9) (ret (some [])))) [9]) (ret (some []))) oTuple) [5]) (ret (some []))) oTuple) (cs 0) "pairs")
  (sSeq (sSetF 0 (mFlat (mCall (pureF (f_price_kept cs)) (mCons (mVar 3) (ret (some []))))) (cs 0) "opening")
  (sSeq (sSetF 0 (mFlat (mCall (pureF (f_price_kept cs)) (mCons (mVar 4) (ret (some []))))) (cs 0) "more")
  (sSeq (sSet 6 (mLst (mCons (mFlat (m2 (m1 (mVar 0) (oFld (cs 0) "opening")) (mC (.int 1)) oIx)) (mCons (mFlat (m2 (m1 (mVar 0) (oFld (cs 0) "more")) (mC (.int 1)) oIx)) (ret (some []))))))
  (sSeq (sFor (mItA (mFlat (m1 (mVar 0) (oFld (cs 0) "pairs")))) (.one 5) (b_Prices_init_2 cs))
  (sSeq (sSetF 0 (mFlat (mCall (pureF (f_least_whole cs)) (mCons (mVar 6) (ret (some []))))) (cs 0) "whole")
  (sSeq (sSetF 0 (mC (.dct [])) (cs 0) "costs")
  (sSeq (sFor (mZip2 (mCons (mVar 1) (mCons (mFlat (m1 (mVar 0) (oFld (cs 0) "pairs"))) (ret (some []))))) (.tup [7, 5]) (b_Prices_init_4 cs))
  (sSeq (sSetF 0 (mFlat (mCall (pureF (f_units_of cs)) (mCons (m1 (mVar 0) (oFld (cs 0) "opening")) (mCons (m1 (mVar 0) (oFld (cs 0) "whole")) (ret (some [])))))) (cs 0) "open_units")
  (sSetF 0 (mFlat (mCall (pureF (f_units_of cs)) (mCons (m1 (mVar 0) (oFld (cs 0) "more")) (mCons (m1 (mVar 0) (oFld (cs 0) "whole")) (ret (some [])))))) (cs 0) "more_units")))))))))))))
def f_Prices_init (cs : Nat → Addr) : List D → Option (Ot D) := fnI (cs 0) 10 (m_Prices_init cs)
/-! pair_cost -/
def N_pair_cost : List Str := ["prices", "one", "other"]
theorem sc_pair_cost : FnScope N_pair_cost ["prices", "one", "other"] (defScope s_pair_cost) := ⟨rfl, rfl, rfl, by decide +kernel, rfl, by decide +kernel, by decide +kernel⟩
abbrev T_pair_cost : Nat → Nat := fun _ => 0
def m_pair_cost (cs : Nat → Addr) : MS :=
  (sRet (m2 (m1 (mVar 0) (oFld (cs 0) "costs")) (m2 (mVar 1) (mVar 2) oAdd) oDGet))
def f_pair_cost (cs : Nat → Addr) : List D → Option (Ot D) := fn0 3 (m_pair_cost cs)
/-! opening_cost -/
def N_opening_cost : List Str := ["prices"]
theorem sc_opening_cost : FnScope N_opening_cost ["prices"] (defScope s_opening_cost) := ⟨rfl, rfl, rfl, by decide +kernel, rfl, by decide +kernel, by decide +kernel⟩
abbrev T_opening_cost : Nat → Nat := fun _ => 0
def m_opening_cost (cs : Nat → Addr) : MS :=
  (sRet (m1 (mVar 0) (oFld (cs 0) "open_units")))
def f_opening_cost (cs : Nat → Addr) : List D → Option (Ot D) := fn0 1 (m_opening_cost cs)
/-! more_cost -/
def N_more_cost : List Str := ["prices"]
theorem sc_more_cost : FnScope N_more_cost ["prices"] (defScope s_more_cost) := ⟨rfl, rfl, rfl, by decide +kernel, rfl, by decide +kernel, by decide +kernel⟩
abbrev T_more_cost : Nat → Nat := fun _ => 0
def m_more_cost (cs : Nat → Addr) : MS :=
  (sRet (m1 (mVar 0) (oFld (cs 0) "more_units")))
def f_more_cost (cs : Nat → Addr) : List D → Option (Ot D) := fn0 1 (m_more_cost cs)
/-! in_units -/
def N_in_units : List Str := ["prices", "number"]
theorem sc_in_units : FnScope N_in_units ["prices", "number"] (defScope s_in_units) := ⟨rfl, rfl, rfl, by decide +kernel, rfl, by decide +kernel, by decide +kernel⟩
abbrev T_in_units : Nat → Nat := fun _ => 0
def m_in_units (cs : Nat → Addr) : MS :=
  (sRet (mCall (pureF (f_lowest cs)) (mCons (mTup (mCons (mVar 1) (mCons (m1 (mVar 0) (oFld (cs 0) "whole")) (ret (some []))))) (ret (some [])))))
def f_in_units (cs : Nat → Addr) : List D → Option (Ot D) := fn0 2 (m_in_units cs)
/-! ask_signs -/
def N_ask_signs : List Str := ["prices", "rows", "number", "row", "place", "sign"]
theorem sc_ask_signs : FnScope N_ask_signs ["prices", "rows"] (defScope s_ask_signs) := ⟨rfl, rfl, rfl, by decide +kernel, rfl, by decide +kernel, by decide +kernel⟩
abbrev T_ask_signs : Nat → Nat := fun _ => 0
def b_ask_signs_1 (cs : Nat → Addr) : MS :=
  (sIf (mTest (m2 (mVar 5) (m1 (mVar 0) (oFld (cs 0) "signs")) (oInS true))) (sRaiseF 9 ["row", "place"] (mCons (mVar 2) (mCons (mVar 4) (ret (some []))))) sNx)
def b_ask_signs_2 (cs : Nat → Addr) : MS :=
  (sFor (mEnum (mCons (mVar 3) (ret (some [])))) (.tup [4, 5]) (b_ask_signs_1 cs))
def m_ask_signs (cs : Nat → Addr) : MS :=
  (sFor (mEnum (mCons (mVar 1) (ret (some [])))) (.tup [2, 3]) (b_ask_signs_2 cs))
def f_ask_signs (cs : Nat → Addr) : List D → Option (Ot D) := fn0 6 (m_ask_signs cs)
/-! ask_manner -/
def N_ask_manner : List Str := ["manner"]
theorem sc_ask_manner : FnScope N_ask_manner ["manner"] (defScope s_ask_manner) := ⟨rfl, rfl, rfl, by decide +kernel, rfl, by decide +kernel, by decide +kernel⟩
abbrev T_ask_manner : Nat → Nat := fun _ => 0
def m_ask_manner (cs : Nat → Addr) : MS :=
  (sIf (mTest (m2 (mVar 0) (mC (.tup ((["whole", "within", "over", "stretch"] : List Str).map D.str))) (oInQ true))) (sRaise 3) sNx)
def f_ask_manner (cs : Nat → Addr) : List D → Option (Ot D) := fn0 1 (m_ask_manner cs)
/-! may_begin -/
def N_may_begin : List Str := ["manner", "place"]
theorem sc_may_begin : FnScope N_may_begin ["manner", "place"] (defScope s_may_begin) := ⟨rfl, rfl, rfl, by decide +kernel, rfl, by decide +kernel, by decide +kernel⟩
abbrev T_may_begin : Nat → Nat := fun _ => 0
def m_may_begin (cs : Nat → Addr) : MS :=
  (sSeq (sIf (mTest (m2 (mVar 0) (mC (.str "whole")) oEq)) (sRet (m2 (mVar 1) (mTup (mCons (mC (.int 0)) (mCons (mC (.int 0)) (ret (some []))))) oEqQ)) sNx)
  (sSeq (sIf (mTest (m2 (mVar 0) (mC (.str "within")) oEq)) (sRet (m2 (m2 (mVar 1) (mC (.int 0)) oIx) (mC (.int 0)) oEq)) sNx)
  (sSeq (sIf (mTest (m2 (mVar 0) (mC (.str "over")) oEq)) (sRet (m2 (m2 (mVar 1) (mC (.int 1)) oIx) (mC (.int 0)) oEq)) sNx)
  (sRet (mC (.bl true))))))
def f_may_begin (cs : Nat → Addr) : List D → Option (Ot D) := fn0 2 (m_may_begin cs)
/-! may_end -/
def N_may_end : List Str := ["manner", "first", "second", "place"]
theorem sc_may_end : FnScope N_may_end ["manner", "first", "second", "place"] (defScope s_may_end) := ⟨rfl, rfl, rfl, by decide +kernel, rfl, by decide +kernel, by decide +kernel⟩
abbrev T_may_end : Nat → Nat := fun _ => 0
def m_may_end (cs : Nat → Addr) : MS :=
  (sSeq (sIf (mTest (m2 (mVar 0) (mC (.str "whole")) oEq)) (sRet (m2 (mVar 3) (mTup (mCons (mCB (mCons (mVar 1) (ret (some []))) oLen) (mCons (mCB (mCons (mVar 2) (ret (some []))) oLen) (ret (some []))))) oEqQ)) sNx)
  (sSeq (sIf (mTest (m2 (mVar 0) (mC (.str "stretch")) oEq)) (sRet (mC (.bl true))) sNx)
  (sRet (m2 (m2 (mVar 3) (mC (.int 0)) oIx) (mCB (mCons (mVar 1) (ret (some []))) oLen) oEq))))
def f_may_end (cs : Nat → Addr) : List D → Option (Ot D) := fn0 4 (m_may_end cs)
/-! Sheet_init -/
def N_Sheet_init : List Str := ["self", "prices", "first", "second", "manner", "one", "other"]
theorem sc_Sheet_init : FnScope N_Sheet_init ["self", "prices", "first", "second", "manner"] (defScope s_Sheet_init) := ⟨rfl, rfl, rfl, by decide +kernel, rfl, by decide +kernel, by decide +kernel⟩
def T_Sheet_init : Nat → Nat := fun i => if i = 0 then 1 else 0
def m_Sheet_init (cs : Nat → Addr) : MS :=
  (sSeq (sSetF 0 (mVar 2) (cs 1) "first")
  (sSeq (sSetF 0 (mVar 3) (cs 1) "second")
  (sSeq (sSetF 0 (mCB (mCons (mVar 2) (ret (some []))) oLen) (cs 1) "high")
  (sSeq (sSetF 0 (mCB (mCons (mVar 3) (ret (some []))) oLen) (cs 1) "wide")
  (sSeq (sSetF 0 (mVar 4) (cs 1) "manner")
  (sSeq (sSetF 0 (mCall (pureF (f_opening_cost cs)) (mCons (mVar 1) (ret (some [])))) (cs 1) "opening")
  (sSeq (sSetF 0 (mCall (pureF (f_more_cost cs)) (mCons (mVar 1) (ret (some [])))) (cs 1) "more")
  (sSetF 0 (mLc (mItA (mVar 2)) (.one 5) mYes (mLc (mItA (mVar 3)) (.one 6) mYes (mCall (pureF (f_pair_cost cs)) (mCons (mVar 1) (mCons (mVar 5) (mCons (mVar 6) (ret (some [])))))) [6]) [5]) (cs 1) "costs"))))))))
def f_Sheet_init (cs : Nat → Addr) : List D → Option (Ot D) := fnI (cs 1) 7 (m_Sheet_init cs)
/-! Sheet_begins -/
def N_Sheet_begins : List Str := ["self", "i", "j"]
theorem sc_Sheet_begins : FnScope N_Sheet_begins ["self", "i", "j"] (defScope s_Sheet_begins) := ⟨rfl, rfl, rfl, by decide +kernel, rfl, by decide +kernel, by decide +kernel⟩
abbrev T_Sheet_begins : Nat → Nat := fun _ => 0
def m_Sheet_begins (cs : Nat → Addr) : MS :=
  (sRet (mCall (pureF (f_may_begin cs)) (mCons (m1 (mVar 0) (oFld (cs 1) "manner")) (mCons (mTup (mCons (mVar 1) (mCons (mVar 2) (ret (some []))))) (ret (some []))))))
def f_Sheet_begins (cs : Nat → Addr) : List D → Option (Ot D) := fn0 3 (m_Sheet_begins cs)
/-! Sheet_ends -/
def N_Sheet_ends : List Str := ["self", "i", "j"]
theorem sc_Sheet_ends : FnScope N_Sheet_ends ["self", "i", "j"] (defScope s_Sheet_ends) := ⟨rfl, rfl, rfl, by decide +kernel, rfl, by decide +kernel, by decide +kernel⟩
abbrev T_Sheet_ends : Nat → Nat := fun _ => 0
def m_Sheet_ends (cs : Nat → Addr) : MS :=
  (sRet (mCall (pureF (f_may_end cs)) (mCons (m1 (mVar 0) (oFld (cs 1) "manner")) (mCons (m1 (mVar 0) (oFld (cs 1) "first")) (mCons (m1 (mVar 0) (oFld (cs 1) "second")) (mCons (mTup (mCons (mVar 1) (mCons (mVar 2) (ret (some []))))) (ret (some []))))))))
def f_Sheet_ends (cs : Nat → Addr) : List D → Option (Ot D) := fn0 3 (m_Sheet_ends cs)
/-! Sheet_gap -/
def N_Sheet_gap : List Str := ["self", "goes_on"]
theorem sc_Sheet_gap : FnScope N_Sheet_gap ["self", "goes_on"] (defScope s_Sheet_gap) := ⟨rfl, rfl, rfl, by decide +kernel, rfl, by decide +kernel, by decide +kernel⟩
abbrev T_Sheet_gap : Nat → Nat := fun _ => 0
def m_Sheet_gap (cs : Nat → Addr) : MS :=
  (sSeq (sIf (mTest (mVar 1)) (sRet (m1 (mVar 0) (oFld (cs 1) "more"))) sNx)
  (sRet (m2 (m1 (mVar 0) (oFld (cs 1) "opening")) (m1 (mVar 0) (oFld (cs 1) "more")) oAdd)))
def f_Sheet_gap (cs : Nat → Addr) : List D → Option (Ot D) := fn0 2 (m_Sheet_gap cs)
/-! sheet_of -/
def N_sheet_of : List Str := ["prices", "first", "second", "manner"]
theorem sc_sheet_of : FnScope N_sheet_of ["prices", "first", "second", "manner"] (defScope s_sheet_of) := ⟨rfl, rfl, rfl, by decide +kernel, rfl, by decide +kernel, by decide +kernel⟩
abbrev T_sheet_of : Nat → Nat := fun _ => 0
def m_sheet_of (cs : Nat → Addr) : MS :=
  (sSeq (sDrop (mCall (pureF (f_ask_signs cs)) (mCons (mVar 0) (mCons (mLst (mCons (mVar 1) (mCons (mVar 2) (ret (some []))))) (ret (some []))))))
  (sSeq (sDrop (mCall (pureF (f_ask_manner cs)) (mCons (mVar 3) (ret (some [])))))
  (sRet (mCall (pureF (f_Sheet_init cs)) (mCons (mVar 0) (mCons (mVar 1) (mCons (mVar 2) (mCons (mVar 3) (ret (some []))))))))))
def f_sheet_of (cs : Nat → Addr) : List D → Option (Ot D) := fn0 4 (m_sheet_of cs)
/-! steps_from -/
def N_steps_from : List Str := ["sheet", "i", "j", "came", "steps"]
theorem sc_steps_from : FnScope N_steps_from ["sheet", "i", "j", "came"] (defScope s_steps_from) := ⟨rfl, rfl, rfl, by decide +kernel, rfl, by decide +kernel, by decide +kernel⟩
def T_steps_from : Nat → Nat := fun i => if i = 4 then 1 else 0
def m_steps_from (cs : Nat → Addr) : MS :=
  (sSeq (sSet 4 (mLst (ret (some []))))
  (sSeq (sIf (mAnd (mTest (m2 (mVar 1) (m1 (mVar 0) (oFld (cs 1) "high")) oLt)) (mTest (m2 (mVar 2) (m1 (mVar 0) (oFld (cs 1) "wide")) oLt))) (sApp 4 (mTup (mCons (mC (.str "p")) (mCons (m2 (mVar 1) (mC (.int 1)) oAdd) (mCons (m2 (mVar 2) (mC (.int 1)) oAdd) (mCons (mC (.int 0)) (mCons (m2 (m2 (m1 (mVar 0) (oFld (cs 1) "costs")) (mVar 1) oIx) (mVar 2) oIx) (ret (some []))))))))) sNx)
  (sSeq (sIf (mTest (m2 (mVar 1) (m1 (mVar 0) (oFld (cs 1) "high")) oLt)) (sApp 4 (mTup (mCons (mC (.str "a")) (mCons (m2 (mVar 1) (mC (.int 1)) oAdd) (mCons (mVar 2) (mCons (mC (.int 1)) (mCons (mMeth (cs 1) "gap" (f_Sheet_gap cs) (mVar 0) (mCons (m2 (mVar 3) (mC (.int 1)) oEq) (ret (some [])))) (ret (some []))))))))) sNx)
  (sSeq (sIf (mTest (m2 (mVar 2) (m1 (mVar 0) (oFld (cs 1) "wide")) oLt)) (sApp 4 (mTup (mCons (mC (.str "b")) (mCons (mVar 1) (mCons (m2 (mVar 2) (mC (.int 1)) oAdd) (mCons (mC (.int 2)) (mCons (mMeth (cs 1) "gap" (f_Sheet_gap cs) (mVar 0) (mCons (m2 (mVar 3) (mC (.int 2)) oEq) (ret (some [])))) (ret (some []))))))))) sNx)
  (sRetV 4)))))
def f_steps_from (cs : Nat → Addr) : List D → Option (Ot D) := fn0 5 (m_steps_from cs)
/-! rest_from -/
def N_rest_from : List Str := ["sheet", "table", "i", "j", "came", "least", "many", "move", "down", "along", "come", "cost", "rest", "ways"]
theorem sc_rest_from : FnScope N_rest_from ["sheet", "table", "i", "j", "came"] (defScope s_rest_from) := ⟨rfl, rfl, rfl, by decide +kernel, rfl, by decide +kernel, by decide +kernel⟩
abbrev T_rest_from : Nat → Nat := fun _ => 0
def b_rest_from_1 (cs : Nat → Addr) : MS :=
  (sSeq (sAsg (.tup [12, 13]) (m2 (m2 (m2 (mVar 1) (mVar 8) oIx) (mVar 9) oIx) (mVar 10) oIx))
  (sIf (mOr (mTest (m2 (mVar 5) (mC .non) oIs)) (mTest (m2 (m2 (mVar 11) (mVar 12) oAdd) (mVar 5) oLt))) (sSeq (sSet 5 (m2 (mVar 11) (mVar 12) oAdd))
  (sSet 6 (mVar 13))) (sIf (mTest (m2 (m2 (mVar 11) (mVar 12) oAdd) (mVar 5) oEq)) (sAug 6 (mVar 13) oAdd) sNx)))
def m_rest_from (cs : Nat → Addr) : MS :=
  (sSeq (sSet 5 (mC .non))
  (sSeq (sSet 6 (mC (.int 0)))
  (sSeq (sIf (mTest (mMeth (cs 1) "ends" (f_Sheet_ends cs) (mVar 0) (mCons (mVar 2) (mCons (mVar 3) (ret (some [])))))) (sSeq (sSet 5 (mC (.int 0)))
  (sSet 6 (mC (.int 1)))) sNx)
  (sSeq (sFor (mItA (mCall (pureF (f_steps_from cs)) (mCons (mVar 0) (mCons (mVar 2) (mCons (mVar 3) (mCons (mVar 4) (ret (some [])))))))) (.tup [7, 8, 9, 10, 11]) (b_rest_from_1 cs))
  (sRet (mTup (mCons (mVar 5) (mCons (mVar 6) (ret (some []))))))))))
def f_rest_from (cs : Nat → Addr) : List D → Option (Ot D) := fn0 14 (m_rest_from cs)
/-! rest_table -/
def N_rest_table : List Str := ["sheet", "table", "i", "j", "came"]
theorem sc_rest_table : FnScope N_rest_table ["sheet"] (defScope s_rest_table) := ⟨rfl, rfl, rfl, by decide +kernel, rfl, by decide +kernel, by decide +kernel⟩
def T_rest_table : Nat → Nat := fun i => if i = 1 then 2 else 0
def b_rest_table_1 (cs : Nat → Addr) : MS :=
  (sSetI 1 (mLc (mRng (mCons (mC (.int 3)) (ret (some [])))) (.one 4) mYes (mFlat (mCall (pureF (f_rest_from cs)) (mCons (mVar 0) (mCons (mVar 1) (mCons (mVar 2) (mCons (mVar 3) (mCons (mVar 4) (ret (some []))))))))) [4]) (mPI 1 (mVar 2)) (mVar 3))
def b_rest_table_2 (cs : Nat → Addr) : MS :=
  (sFor (mRev1 (m2 (m1 (mVar 0) (oFld (cs 1) "wide")) (mC (.int 1)) oAdd)) (.one 3) (b_rest_table_1 cs))
def m_rest_table (cs : Nat → Addr) : MS :=
  (sSeq (sSet 1 (mLc (mRng (mCons (m2 (m1 (mVar 0) (oFld (cs 1) "high")) (mC (.int 1)) oAdd) (ret (some [])))) (.one 2) mYes (mLc (mRng (mCons (m2 (m1 (mVar 0) (oFld (cs 1) "wide")) (mC (.int 1)) oAdd) (ret (some [])))) (.one 3) mYes (mLst (ret (some []))) [3]) [2]))
  (sSeq (sFor (mRev1 (m2 (m1 (mVar 0) (oFld (cs 1) "high")) (mC (.int 1)) oAdd)) (.one 2) (b_rest_table_2 cs))
  (sRetV 1)))
def f_rest_table (cs : Nat → Addr) : List D → Option (Ot D) := fn0 5 (m_rest_table cs)
/-! begins_of -/
def N_begins_of : List Str := ["sheet", "places", "i", "j"]
theorem sc_begins_of : FnScope N_begins_of ["sheet"] (defScope s_begins_of) := ⟨rfl, rfl, rfl, by decide +kernel, rfl, by decide +kernel, by decide +kernel⟩
def T_begins_of : Nat → Nat := fun i => if i = 1 then 1 else 0
def b_begins_of_1 (cs : Nat → Addr) : MS :=
  (sExt 1 (mPN 1) (mLc (mRng (mCons (m2 (m1 (mVar 0) (oFld (cs 1) "wide")) (mC (.int 1)) oAdd) (ret (some [])))) (.one 3) (mTest (mMeth (cs 1) "begins" (f_Sheet_begins cs) (mVar 0) (mCons (mVar 2) (mCons (mVar 3) (ret (some [])))))) (mTup (mCons (mVar 2) (mCons (mVar 3) (ret (some []))))) [3]))
def m_begins_of (cs : Nat → Addr) : MS :=
  (sSeq (sSet 1 (mLst (ret (some []))))
  (sSeq (sFor (mRng (mCons (m2 (m1 (mVar 0) (oFld (cs 1) "high")) (mC (.int 1)) oAdd) (ret (some [])))) (.one 2) (b_begins_of_1 cs))
  (sRetV 1)))
def f_begins_of (cs : Nat → Addr) : List D → Option (Ot D) := fn0 4 (m_begins_of cs)
/-! least_of -/
def N_least_of : List Str := ["sheet", "table", "i", "j"]
theorem sc_least_of : FnScope N_least_of ["sheet", "table"] (defScope s_least_of) := ⟨rfl, rfl, rfl, by decide +kernel, rfl, by decide +kernel, by decide +kernel⟩
abbrev T_least_of : Nat → Nat := fun _ => 0
def m_least_of (cs : Nat → Addr) : MS :=
  (sRet (mCB (mCons (mLc (mItA (mCall (pureF (f_begins_of cs)) (mCons (mVar 0) (ret (some []))))) (.tup [2, 3]) mYes (m2 (m2 (m2 (m2 (mVar 1) (mVar 2) oIx) (mVar 3) oIx) (mC (.int 0)) oIx) (mC (.int 0)) oIx) [2, 3]) (ret (some []))) oMin))
def f_least_of (cs : Nat → Addr) : List D → Option (Ot D) := fn0 4 (m_least_of cs)
/-! first_moves -/
def N_first_moves : List Str := ["sheet", "table", "i", "j", "moves", "came", "rest", "move", "down", "along", "come", "cost"]
theorem sc_first_moves : FnScope N_first_moves ["sheet", "table", "i", "j"] (defScope s_first_moves) := ⟨rfl, rfl, rfl, by decide +kernel, rfl, by decide +kernel, by decide +kernel⟩
abbrev T_first_moves : Nat → Nat := fun _ => 0
def b_first_moves_1 (cs : Nat → Addr) : MS :=
  (sIf (mTest (m2 (m2 (mVar 11) (m2 (m2 (m2 (m2 (mVar 1) (mVar 8) oIx) (mVar 9) oIx) (mVar 10) oIx) (mC (.int 0)) oIx) oAdd) (mVar 6) oEq)) (sSeq (sAug 4 (mVar 7) oAdd)
  (sSeq (sPar3 2 3 5 (mCons (mVar 8) (mCons (mVar 9) (mCons (mVar 10) (ret (some []))))))
  sBk)) sNx)
def b_first_moves_2 (cs : Nat → Addr) : MS :=
  (sSeq (sSet 6 (m2 (m2 (m2 (m2 (mVar 1) (mVar 2) oIx) (mVar 3) oIx) (mVar 5) oIx) (mC (.int 0)) oIx))
  (sFor (mItA (mCall (pureF (f_steps_from cs)) (mCons (mVar 0) (mCons (mVar 2) (mCons (mVar 3) (mCons (mVar 5) (ret (some [])))))))) (.tup [7, 8, 9, 10, 11]) (b_first_moves_1 cs)))
def t_first_moves_1 (cs : Nat → Addr) : Mo Bool :=
  (mOr (mNot (mTest (mMeth (cs 1) "ends" (f_Sheet_ends cs) (mVar 0) (mCons (mVar 2) (mCons (mVar 3) (ret (some []))))))) (mTest (m2 (m2 (m2 (m2 (m2 (mVar 1) (mVar 2) oIx) (mVar 3) oIx) (mVar 5) oIx) (mC (.int 0)) oIx) (mC (.int 0)) oNe)))
def m_first_moves (cs : Nat → Addr) : MS :=
  (sSeq (sSet 4 (mC (.str "")))
  (sSeq (sSet 5 (mC (.int 0)))
  (sSeq (sWhile (t_first_moves_1 cs) (b_first_moves_2 cs))
  (sRet (mVar 4)))))
def f_first_moves (cs : Nat → Addr) : List D → Option (Ot D) := fn0 12 (m_first_moves cs)
/-! cheapest -/
def N_cheapest : List Str := ["prices", "first", "second", "manner", "sheet", "table", "least", "begins", "i", "j", "place"]
theorem sc_cheapest : FnScope N_cheapest ["prices", "first", "second", "manner"] (defScope s_cheapest) := ⟨rfl, rfl, rfl, by decide +kernel, rfl, by decide +kernel, by decide +kernel⟩
abbrev T_cheapest : Nat → Nat := fun _ => 0
def m_cheapest (cs : Nat → Addr) : MS :=
  (sSeq (sSet 4 (mCall (pureF (f_sheet_of cs)) (mCons (mVar 0) (mCons (mVar 1) (mCons (mVar 2) (mCons (mVar 3) (ret (some []))))))))
  (sSeq (sSet 5 (mCall (pureF (f_rest_table cs)) (mCons (mVar 4) (ret (some [])))))
  (sSeq (sSet 6 (mCall (pureF (f_least_of cs)) (mCons (mVar 4) (mCons (mVar 5) (ret (some []))))))
  (sSeq (sSet 7 (mLc (mItA (mCall (pureF (f_begins_of cs)) (mCons (mVar 4) (ret (some []))))) (.one 10) (mTest (m2 (m2 (m2 (m2 (m2 (mVar 5) (m2 (mVar 10) (mC (.int 0)) oIx) oIx) (m2 (mVar 10) (mC (.int 1)) oIx) oIx) (mC (.int 0)) oIx) (mC (.int 0)) oIx) (mVar 6) oEq)) (mVar 10) [10]))
  (sSeq (sAsg (.tup [8, 9]) (m2 (mVar 7) (mC (.int 0)) oIx))
  (sRet (mTup (mCons (mCall (pureF (f_in_units cs)) (mCons (mVar 0) (mCons (mVar 6) (ret (some []))))) (mCons (mTup (mCons (mVar 8) (mCons (mVar 9) (ret (some []))))) (mCons (mCall (pureF (f_first_moves cs)) (mCons (mVar 4) (mCons (mVar 5) (mCons (mVar 8) (mCons (mVar 9) (ret (some []))))))) (ret (some []))))))))))))
def f_cheapest (cs : Nat → Addr) : List D → Option (Ot D) := fn0 11 (m_cheapest cs)
/-! count_of -/
def N_count_of : List Str := ["prices", "first", "second", "manner", "sheet", "table", "least", "i", "j"]
theorem sc_count_of : FnScope N_count_of ["prices", "first", "second", "manner"] (defScope s_count_of) := ⟨rfl, rfl, rfl, by decide +kernel, rfl, by decide +kernel, by decide +kernel⟩
abbrev T_count_of : Nat → Nat := fun _ => 0
def m_count_of (cs : Nat → Addr) : MS :=
  (sSeq (sSet 4 (mCall (pureF (f_sheet_of cs)) (mCons (mVar 0) (mCons (mVar 1) (mCons (mVar 2) (mCons (mVar 3) (ret (some []))))))))
  (sSeq (sSet 5 (mCall (pureF (f_rest_table cs)) (mCons (mVar 4) (ret (some [])))))
  (sSeq (sSet 6 (mCall (pureF (f_least_of cs)) (mCons (mVar 4) (mCons (mVar 5) (ret (some []))))))
  (sRet (mCB (mCons (mLc (mItA (mCall (pureF (f_begins_of cs)) (mCons (mVar 4) (ret (some []))))) (.tup [7, 8]) (mTest (m2 (m2 (m2 (m2 (m2 (mVar 5) (mVar 7) oIx) (mVar 8) oIx) (mC (.int 0)) oIx) (mC (.int 0)) oIx) (mVar 6) oEq)) (m2 (m2 (m2 (m2 (mVar 5) (mVar 7) oIx) (mVar 8) oIx) (mC (.int 0)) oIx) (mC (.int 1)) oIx) [7, 8]) (ret (some []))) oSum)))))
def f_count_of (cs : Nat → Addr) : List D → Option (Ot D) := fn0 9 (m_count_of cs)
/-! _law_next -/
def N__law_next : List Str := ["_law_script", "_law_at", "_law_cell", "_law_m"]
theorem sc__law_next : FnScope N__law_next ["_law_script", "_law_at"] (defScope s__law_next) := ⟨rfl, rfl, rfl, by decide +kernel, rfl, by decide +kernel, by decide +kernel⟩
abbrev T__law_next : Nat → Nat := fun _ => 0
def m__law_next (cs : Nat → Addr) : MS :=
  (sSeq (sCell (m2 mCell (mC (.int 1)) oAdd))
  (sSeq (sSet 2 (mIf (mTest (m2 (mCB (mCons (mVar 0) (ret (some []))) oLen) (mC (.int 0)) oGt)) (m2 (mVar 0) (m2 mCell (mCB (mCons (mVar 0) (ret (some []))) oLen) oMod) oIx) (mC (.int 0))))
  (sSeq (sSet 3 (m2 (m2 (m2 (m2 (m2 (mVar 2) (mC (.int 2147483647)) oMod) (m2 (m2 mCell mCell oMul) (mC (.int 7919)) oMul) oAdd) (mC (.int 11)) oAdd) (mC (.int 48271)) oMul) (mC (.int 2147483647)) oMod))
  (sRet (m2 (m2 (mVar 3) (mVar 3) oMul) (mC (.int 1999999973)) oMod)))))
def f__law_next (cs : Nat → Addr) : FM := fnC 1 4 (m__law_next cs)
/-! _law_great -/
def N__law_great : List Str := ["_law_script", "_law_at", "_law_m", "_law_cell"]
theorem sc__law_great : FnScope N__law_great ["_law_script", "_law_at"] (defScope s__law_great) := ⟨rfl, rfl, rfl, by decide +kernel, rfl, by decide +kernel, by decide +kernel⟩
abbrev T__law_great : Nat → Nat := fun _ => 0
def m__law_great (cs : Nat → Addr) : MS :=
  (sSeq (sSet 2 (mCall (f__law_next cs) (mCons (mVar 0) (mCons (mC .non) (ret (some []))))))
  (sSeq (sSet 3 (mIf (mTest (m2 (mCB (mCons (mVar 0) (ret (some []))) oLen) (mC (.int 0)) oGt)) (m2 (mVar 0) (m2 mCell (mCB (mCons (mVar 0) (ret (some []))) oLen) oMod) oIx) (mC (.int 0))))
  (sRet (m2 (m2 (m2 (m2 (mVar 3) (m2 (mC (.int 10)) (mC (.int 39)) oPow) oMod) (m2 (mVar 2) (m2 (mC (.int 10)) (mC (.int 28)) oPow) oMul) oAdd) (m2 (mC (.int 2)) (m2 (mC (.int 10)) (mC (.int 39)) oPow) oMul) oMod) (m2 (mC (.int 10)) (mC (.int 39)) oPow) oSub))))
def f__law_great (cs : Nat → Addr) : FM := fnC 1 4 (m__law_great cs)
/-! _law_signs -/
def N__law_signs : List Str := ["_law_script", "_law_at", "_law_many", "_law_every", "_law_m", "_law_step", "_law_k"]
theorem sc__law_signs : FnScope N__law_signs ["_law_script", "_law_at", "_law_many"] (defScope s__law_signs) := ⟨rfl, rfl, rfl, by decide +kernel, rfl, by decide +kernel, by decide +kernel⟩
abbrev T__law_signs : Nat → Nat := fun _ => 0
def m__law_signs (cs : Nat → Addr) : MS :=
  (sSeq (sSet 3 (mC (.str " !#$&'()*+,./0123456789:;<=>?@ABCDEFGHIJKLMNOPQRSTUVWXYZ")))
  (sSeq (sSet 3 (m2 (mVar 3) (mC (.str "[\\]^_`abcdefghijklmnopqrstuvwxyz{|}~")) oAdd))
  (sSeq (sSet 4 (mCall (f__law_next cs) (mCons (mVar 0) (mCons (mC .non) (ret (some []))))))
  (sSeq (sSet 5 (m2 (mLst (mCons (mC (.int 1)) (mCons (mC (.int 3)) (mCons (mC (.int 5)) (mCons (mC (.int 7)) (mCons (mC (.int 9)) (mCons (mC (.int 11)) (ret (some []))))))))) (m2 (mVar 4) (mC (.int 6)) oMod) oIx))
  (sRet (mM1 (mC (.str "")) (mLc (mRng (mCons (mVar 2) (ret (some [])))) (.one 6) mYes (m2 (mVar 3) (m2 (m2 (m2 (mVar 4) (mC (.int 6)) oDiv) (m2 (mVar 6) (mVar 5) oMul) oAdd) (mCB (mCons (mVar 3) (ret (some []))) oLen) oMod) oIx) [6]) oJoin))))))
def f__law_signs (cs : Nat → Addr) : FM := fnC 1 7 (m__law_signs cs)
/-! _law_price -/
def N__law_price : List Str := ["_law_script", "_law_at", "_law_sort", "_law_m"]
theorem sc__law_price : FnScope N__law_price ["_law_script", "_law_at", "_law_sort"] (defScope s__law_price) := ⟨rfl, rfl, rfl, by decide +kernel, rfl, by decide +kernel, by decide +kernel⟩
abbrev T__law_price : Nat → Nat := fun _ => 0
def m__law_price (cs : Nat → Addr) : MS :=
  (sSeq (sSet 3 (mCall (f__law_next cs) (mCons (mVar 0) (mCons (mC .non) (ret (some []))))))
  (sSeq (sIf (mTest (m2 (mVar 2) (mC (.int 0)) oEq)) (sRet (mTup (mCons (m2 (m2 (mVar 3) (mC (.int 7)) oMod) (mC (.int 1)) oSub) (mCons (mC (.int 1)) (ret (some [])))))) sNx)
  (sSeq (sIf (mTest (m2 (mVar 2) (mC (.int 1)) oEq)) (sRet (mTup (mCons (m2 (m2 (mVar 3) (mC (.int 13)) oMod) (mC (.int 4)) oSub) (mCons (m2 (mC (.int 1)) (m2 (m2 (mVar 3) (mC (.int 13)) oDiv) (mC (.int 4)) oMod) oAdd) (ret (some [])))))) sNx)
  (sSeq (sIf (mTest (m2 (mVar 2) (mC (.int 2)) oEq)) (sRet (mTup (mCons (m2 (m2 (mVar 3) (mC (.int 9)) oMod) (mC (.int 6)) oSub) (mCons (mC (.int 1)) (ret (some [])))))) sNx)
  (sRet (mTup (mCons (mCall (f__law_great cs) (mCons (mVar 0) (mCons (mC .non) (ret (some []))))) (mCons (m2 (mC (.int 1)) (m2 (m2 (mVar 3) (mC (.int 13)) oDiv) (mC (.int 999)) oMod) oAdd) (ret (some []))))))))))
def f__law_price (cs : Nat → Addr) : FM := fnC 1 4 (m__law_price cs)
/-! _law_table -/
def N__law_table : List Str := ["_law_script", "_law_at", "_law_many", "_law_m", "_law_sort", "_law_signs_here", "_law_pairs", "_law_k", "_law_j", "_law_opening", "_law_more"]
theorem sc__law_table : FnScope N__law_table ["_law_script", "_law_at", "_law_many"] (defScope s__law_table) := ⟨rfl, rfl, rfl, by decide +kernel, rfl, by decide +kernel, by decide +kernel⟩
def T__law_table : Nat → Nat := fun i => if i = 6 then 2 else 0
def b__law_table_1 (cs : Nat → Addr) : MS :=
  (sIf (mTest (m2 (m2 (m2 (mVar 3) (mC (.int 24)) oDiv) (mC (.int 2)) oMod) (mC (.int 0)) oEq)) (sSetI 6 (mFlat (m2 (m2 (mVar 6) (mVar 8) oIx) (mVar 7) oIx)) (mPI 6 (mVar 7)) (mVar 8)) sNx)
def b__law_table_2 (cs : Nat → Addr) : MS :=
  (sSeq (sIf (mTest (m2 (m2 (m2 (mVar 3) (mC (.int 8)) oDiv) (mC (.int 3)) oMod) (mC (.int 0)) oGt)) (sSetI 6 (mTup (mCons (m2 (m2 (m2 (m2 (mVar 6) (mVar 7) oIx) (mVar 7) oIx) (mC (.int 0)) oIx) (mC (.int 4)) oSub) (mCons (mFlat (m2 (m2 (m2 (mVar 6) (mVar 7) oIx) (mVar 7) oIx) (mC (.int 1)) oIx)) (ret (some []))))) (mPI 6 (mVar 7)) (mVar 7)) sNx)
  (sFor (mRng (mCons (mVar 7) (ret (some [])))) (.one 8) (b__law_table_1 cs)))
def m__law_table (cs : Nat → Addr) : MS :=
  (sSeq (sSet 3 (mCall (f__law_next cs) (mCons (mVar 0) (mCons (mC .non) (ret (some []))))))
  (sSeq (sSet 4 (m2 (mLst (mCons (mC (.int 0)) (mCons (mC (.int 1)) (mCons (mC (.int 2)) (mCons (mC (.int 0)) (mCons (mC (.int 3)) (mCons (mC (.int 2)) (mCons (mC (.int 0)) (mCons (mC (.int 1)) (ret (some []))))))))))) (m2 (mVar 3) (mC (.int 8)) oMod) oIx))
  (sSeq (sSet 5 (mCall (f__law_signs cs) (mCons (mVar 0) (mCons (mC .non) (mCons (mVar 2) (ret (some [])))))))
  (sSeq (sSet 6 (mLc (mRng (mCons (mVar 2) (ret (some [])))) (.one 8) mYes (mLc (mRng (mCons (mVar 2) (ret (some [])))) (.one 7) mYes (mCall (f__law_price cs) (mCons (mVar 0) (mCons (mC .non) (mCons (mVar 4) (ret (some [])))))) [7]) [8]))
  (sSeq (sFor (mRng (mCons (mVar 2) (ret (some [])))) (.one 7) (b__law_table_2 cs))
  (sSeq (sSet 9 (mIf (mTest (m2 (m2 (m2 (mVar 3) (mC (.int 192)) oDiv) (mC (.int 3)) oMod) (mC (.int 0)) oGt)) (mTup (mCons (m2 (m2 (mVar 3) (mC (.int 48)) oDiv) (mC (.int 4)) oMod) (mCons (mC (.int 1)) (ret (some []))))) (mCall (f__law_price cs) (mCons (mVar 0) (mCons (mC .non) (mCons (mVar 4) (ret (some []))))))))
  (sSeq (sSet 10 (mIf (mTest (m2 (m2 (m2 (mVar 3) (mC (.int 3072)) oDiv) (mC (.int 3)) oMod) (mC (.int 0)) oGt)) (mTup (mCons (m2 (m2 (mVar 3) (mC (.int 768)) oDiv) (mC (.int 4)) oMod) (mCons (mC (.int 1)) (ret (some []))))) (mCall (f__law_price cs) (mCons (mVar 0) (mCons (mC .non) (mCons (mVar 4) (ret (some []))))))))
  (sRet (mTup (mCons (mVar 5) (mCons (mVar 6) (mCons (mVar 9) (mCons (mVar 10) (ret (some [])))))))))))))))
def f__law_table (cs : Nat → Addr) : FM := fnC 1 11 (m__law_table cs)
/-! _law_prices -/
def N__law_prices : List Str := ["_law_script", "_law_at", "_law_signs_here", "_law_pairs", "_law_opening", "_law_more"]
theorem sc__law_prices : FnScope N__law_prices ["_law_script", "_law_at"] (defScope s__law_prices) := ⟨rfl, rfl, rfl, by decide +kernel, rfl, by decide +kernel, by decide +kernel⟩
abbrev T__law_prices : Nat → Nat := fun _ => 0
def m__law_prices (cs : Nat → Addr) : MS :=
  (sSeq (sAsg (.tup [2, 3, 4, 5]) (mCall (f__law_table cs) (mCons (mVar 0) (mCons (mC .non) (mCons (m2 (mC (.int 1)) (m2 (mCall (f__law_next cs) (mCons (mVar 0) (mCons (mC .non) (ret (some []))))) (mC (.int 4)) oMod) oAdd) (ret (some [])))))))
  (sRet (mCall (pureF (f_Prices_init cs)) (mCons (mVar 2) (mCons (mVar 3) (mCons (mVar 4) (mCons (mVar 5) (ret (some [])))))))))
def f__law_prices (cs : Nat → Addr) : FM := fnC 1 6 (m__law_prices cs)
/-! _law_row -/
def N__law_row : List Str := ["_law_script", "_law_at", "_law_signs_here", "_law_most", "_law_m", "_law_sort", "_law_row_here", "_law_k"]
theorem sc__law_row : FnScope N__law_row ["_law_script", "_law_at", "_law_signs_here", "_law_most"] (defScope s__law_row) := ⟨rfl, rfl, rfl, by decide +kernel, rfl, by decide +kernel, by decide +kernel⟩
abbrev T__law_row : Nat → Nat := fun _ => 0
def b__law_row_1 (cs : Nat → Addr) : MS :=
  (sSeq (sIf (mTest (m2 (mVar 5) (mC (.int 0)) oGt)) (sSet 4 (mCall (f__law_next cs) (mCons (mVar 0) (mCons (mC .non) (ret (some [])))))) sNx)
  (sSet 6 (m2 (mVar 6) (m2 (mVar 2) (m2 (m2 (mVar 4) (mC (.int 5)) oDiv) (mCB (mCons (mVar 2) (ret (some []))) oLen) oMod) oIx) oAdd)))
def m__law_row (cs : Nat → Addr) : MS :=
  (sSeq (sSet 4 (mCall (f__law_next cs) (mCons (mVar 0) (mCons (mC .non) (ret (some []))))))
  (sSeq (sSet 5 (m2 (m2 (mVar 4) (mC (.int 97)) oDiv) (mC (.int 4)) oMod))
  (sSeq (sSet 6 (mC (.str "")))
  (sSeq (sFor (mRng (mCons (m2 (mVar 4) (m2 (mVar 3) (mC (.int 1)) oAdd) oMod) (ret (some [])))) (.one 7) (b__law_row_1 cs))
  (sRet (mVar 6))))))
def f__law_row (cs : Nat → Addr) : FM := fnC 1 8 (m__law_row cs)
/-! _law_manner -/
def N__law_manner : List Str := ["_law_m"]
theorem sc__law_manner : FnScope N__law_manner ["_law_m"] (defScope s__law_manner) := ⟨rfl, rfl, rfl, by decide +kernel, rfl, by decide +kernel, by decide +kernel⟩
abbrev T__law_manner : Nat → Nat := fun _ => 0
def m__law_manner (cs : Nat → Addr) : MS :=
  (sRet (m2 (mLst (mCons (mC (.str "whole")) (mCons (mC (.str "within")) (mCons (mC (.str "over")) (mCons (mC (.str "stretch")) (ret (some []))))))) (m2 (mVar 0) (mC (.int 4)) oMod) oIx))
def f__law_manner (cs : Nat → Addr) : List D → Option (Ot D) := fn0 1 (m__law_manner cs)
/-! _law_same -/
def N__law_same : List Str := ["_law_found", "_law_due", "_law_a", "_law_b"]
theorem sc__law_same : FnScope N__law_same ["_law_found", "_law_due"] (defScope s__law_same) := ⟨rfl, rfl, rfl, by decide +kernel, rfl, by decide +kernel, by decide +kernel⟩
abbrev T__law_same : Nat → Nat := fun _ => 0
def m__law_same (cs : Nat → Addr) (self : List D → Option (Ot D)) : MS :=
  (sSeq (sIf (mOr (mTest (m1 (mVar 1) (oIsi "list"))) (mTest (m1 (mVar 1) (oIsi "tuple")))) (sSeq (sIf (mOr (mTest (m2 (m1 (mVar 0) (oIsi "list")) (m1 (mVar 1) (oIsi "list")) oNe)) (mTest (m2 (m1 (mVar 0) (oIsi "tuple")) (m1 (mVar 1) (oIsi "tuple")) oNe))) (sRet (mC (.bl false))) sNx)
  (sRet (mAndV (m2 (mCB (mCons (mVar 0) (ret (some []))) oLen) (mCB (mCons (mVar 1) (ret (some []))) oLen) oEq) (mCB (mCons (mLc (mZip2 (mCons (mVar 0) (mCons (mVar 1) (ret (some []))))) (.tup [2, 3]) mYes (mCall (pureF self) (mCons (mVar 2) (mCons (mVar 3) (ret (some []))))) [2, 3]) (ret (some []))) oAll)))) sNx)
  (sSeq (sIf (mTest (m2 (mVar 1) (mC .non) oIs)) (sRet (m2 (mVar 0) (mC .non) oIs)) sNx)
  (sSeq (sIf (mTest (m1 (mVar 1) (oIsi "str"))) (sRet (mAndV (m1 (mVar 0) (oIsi "str")) (m2 (mVar 0) (mVar 1) oEq))) sNx)
  (sRet (mAndV (m1 (mVar 0) (oIsi "int")) (mAndV (m1 (m1 (mVar 0) (oIsi "bool")) oNotV) (m2 (mVar 0) (mVar 1) oEq)))))))
def f__law_same (cs : Nat → Addr) : Nat → List D → Option (Ot D)
  | 0 => fun _ => none
  | k + 1 => fn0 4 (m__law_same cs (f__law_same cs k))
/-! _law_gap -/
def N__law_gap : List Str := ["_law_prices_here", "_law_goes_on"]
theorem sc__law_gap : FnScope N__law_gap ["_law_prices_here", "_law_goes_on"] (defScope s__law_gap) := ⟨rfl, rfl, rfl, by decide +kernel, rfl, by decide +kernel, by decide +kernel⟩
abbrev T__law_gap : Nat → Nat := fun _ => 0
def m__law_gap (cs : Nat → Addr) : MS :=
  (sRet (mIf (mTest (mVar 1)) (mCall (pureF (f_more_cost cs)) (mCons (mVar 0) (ret (some [])))) (m2 (mCall (pureF (f_opening_cost cs)) (mCons (mVar 0) (ret (some [])))) (mCall (pureF (f_more_cost cs)) (mCons (mVar 0) (ret (some [])))) oAdd)))
def f__law_gap (cs : Nat → Addr) : List D → Option (Ot D) := fn0 2 (m__law_gap cs)
/-! _law_walk -/
def N__law_walk : List Str := ["_law_prices_here", "_law_first", "_law_second", "_law_begin", "_law_moves", "_law_i", "_law_j", "_law_total", "_law_last", "_law_move"]
theorem sc__law_walk : FnScope N__law_walk ["_law_prices_here", "_law_first", "_law_second", "_law_begin", "_law_moves"] (defScope s__law_walk) := ⟨rfl, rfl, rfl, by decide +kernel, rfl, by decide +kernel, by decide +kernel⟩
abbrev T__law_walk : Nat → Nat := fun _ => 0
def b__law_walk_1 (cs : Nat → Addr) : MS :=
  (sSeq (sIf (mAnd (mTest (m2 (mVar 9) (mC (.str "p")) oEq)) (mAnd (mTest (m2 (mVar 5) (mCB (mCons (mVar 1) (ret (some []))) oLen) oLt)) (mTest (m2 (mVar 6) (mCB (mCons (mVar 2) (ret (some []))) oLen) oLt)))) (sSeq (sSet 7 (m2 (mVar 7) (mCall (pureF (f_pair_cost cs)) (mCons (mVar 0) (mCons (m2 (mVar 1) (mVar 5) oIx) (mCons (m2 (mVar 2) (mVar 6) oIx) (ret (some [])))))) oAdd))
  (sPar 5 6 (mCons (m2 (mVar 5) (mC (.int 1)) oAdd) (mCons (m2 (mVar 6) (mC (.int 1)) oAdd) (ret (some [])))))) (sIf (mAnd (mTest (m2 (mVar 9) (mC (.str "a")) oEq)) (mTest (m2 (mVar 5) (mCB (mCons (mVar 1) (ret (some []))) oLen) oLt))) (sSeq (sSet 7 (m2 (mVar 7) (mCall (pureF (f__law_gap cs)) (mCons (mVar 0) (mCons (m2 (mVar 8) (mC (.str "a")) oEq) (ret (some []))))) oAdd))
  (sSet 5 (m2 (mVar 5) (mC (.int 1)) oAdd))) (sIf (mAnd (mTest (m2 (mVar 9) (mC (.str "b")) oEq)) (mTest (m2 (mVar 6) (mCB (mCons (mVar 2) (ret (some []))) oLen) oLt))) (sSeq (sSet 7 (m2 (mVar 7) (mCall (pureF (f__law_gap cs)) (mCons (mVar 0) (mCons (m2 (mVar 8) (mC (.str "b")) oEq) (ret (some []))))) oAdd))
  (sSet 6 (m2 (mVar 6) (mC (.int 1)) oAdd))) (sRet (mC .non)))))
  (sSet 8 (mVar 9)))
def m__law_walk (cs : Nat → Addr) : MS :=
  (sSeq (sAsg (.tup [5, 6]) (mVar 3))
  (sSeq (sSet 7 (mC (.int 0)))
  (sSeq (sSet 8 (mC (.str "")))
  (sSeq (sFor (mItA (mVar 4)) (.one 9) (b__law_walk_1 cs))
  (sRet (mTup (mCons (mVar 7) (mCons (mTup (mCons (mVar 5) (mCons (mVar 6) (ret (some []))))) (ret (some []))))))))))
def f__law_walk (cs : Nat → Addr) : List D → Option (Ot D) := fn0 10 (m__law_walk cs)
/-! _law_may_begin -/
def N__law_may_begin : List Str := ["_law_manner_here", "_law_i", "_law_j"]
theorem sc__law_may_begin : FnScope N__law_may_begin ["_law_manner_here", "_law_i", "_law_j"] (defScope s__law_may_begin) := ⟨rfl, rfl, rfl, by decide +kernel, rfl, by decide +kernel, by decide +kernel⟩
abbrev T__law_may_begin : Nat → Nat := fun _ => 0
def m__law_may_begin (cs : Nat → Addr) : MS :=
  (sSeq (sIf (mTest (m2 (mVar 0) (mC (.str "whole")) oEq)) (sRet (mAndV (m2 (mVar 1) (mC (.int 0)) oEq) (m2 (mVar 2) (mC (.int 0)) oEq))) sNx)
  (sSeq (sIf (mTest (m2 (mVar 0) (mC (.str "within")) oEq)) (sRet (m2 (mVar 1) (mC (.int 0)) oEq)) sNx)
  (sRet (mOrV (m2 (mVar 0) (mC (.str "stretch")) oEq) (m2 (mVar 2) (mC (.int 0)) oEq)))))
def f__law_may_begin (cs : Nat → Addr) : List D → Option (Ot D) := fn0 3 (m__law_may_begin cs)
/-! _law_may_end -/
def N__law_may_end : List Str := ["_law_manner_here", "_law_first", "_law_second", "_law_i", "_law_j"]
theorem sc__law_may_end : FnScope N__law_may_end ["_law_manner_here", "_law_first", "_law_second", "_law_i", "_law_j"] (defScope s__law_may_end) := ⟨rfl, rfl, rfl, by decide +kernel, rfl, by decide +kernel, by decide +kernel⟩
abbrev T__law_may_end : Nat → Nat := fun _ => 0
def m__law_may_end (cs : Nat → Addr) : MS :=
  (sSeq (sIf (mTest (m2 (mVar 0) (mC (.str "whole")) oEq)) (sRet (mAndV (m2 (mVar 3) (mCB (mCons (mVar 1) (ret (some []))) oLen) oEq) (m2 (mVar 4) (mCB (mCons (mVar 2) (ret (some []))) oLen) oEq))) sNx)
  (sRet (mOrV (m2 (mVar 0) (mC (.str "stretch")) oEq) (m2 (mVar 3) (mCB (mCons (mVar 1) (ret (some []))) oLen) oEq))))
def f__law_may_end (cs : Nat → Addr) : List D → Option (Ot D) := fn0 5 (m__law_may_end cs)
/-! _law_key -/
def N__law_key : List Str := ["_law_begin", "_law_moves"]
theorem sc__law_key : FnScope N__law_key ["_law_begin", "_law_moves"] (defScope s__law_key) := ⟨rfl, rfl, rfl, by decide +kernel, rfl, by decide +kernel, by decide +kernel⟩
abbrev T__law_key : Nat → Nat := fun _ => 0
def m__law_key (cs : Nat → Addr) : MS :=
  (sRet (mTup (mCons (mVar 0) (mCons (m1 (m1 (m1 (mVar 1) (oRepl "p" "0")) (oRepl "a" "1")) (oRepl "b" "2")) (ret (some []))))))
def f__law_key (cs : Nat → Addr) : List D → Option (Ot D) := fn0 2 (m__law_key cs)
/-! _law_ways -/
def N__law_ways : List Str := ["_law_first", "_law_second", "_law_i", "_law_j", "_law_moves", "_law_ways_here"]
theorem sc__law_ways : FnScope N__law_ways ["_law_first", "_law_second", "_law_i", "_law_j", "_law_moves"] (defScope s__law_ways) := ⟨rfl, rfl, rfl, by decide +kernel, rfl, by decide +kernel, by decide +kernel⟩
def T__law_ways : Nat → Nat := fun i => if i = 5 then 1 else 0
def m__law_ways (cs : Nat → Addr) (self : List D → Option (Ot D)) : MS :=
  (sSeq (sSet 5 (mLst (mCons (mTup (mCons (mVar 4) (mCons (mVar 2) (mCons (mVar 3) (ret (some [])))))) (ret (some [])))))
  (sSeq (sIf (mAnd (mTest (m2 (mVar 2) (mCB (mCons (mVar 0) (ret (some []))) oLen) oLt)) (mTest (m2 (mVar 3) (mCB (mCons (mVar 1) (ret (some []))) oLen) oLt))) (sExt 5 (mPN 5) (mCall (pureF self) (mCons (mVar 0) (mCons (mVar 1) (mCons (m2 (mVar 2) (mC (.int 1)) oAdd) (mCons (m2 (mVar 3) (mC (.int 1)) oAdd) (mCons (m2 (mVar 4) (mC (.str "p")) oAdd) (ret (some []))))))))) sNx)
  (sSeq (sIf (mTest (m2 (mVar 2) (mCB (mCons (mVar 0) (ret (some []))) oLen) oLt)) (sExt 5 (mPN 5) (mCall (pureF self) (mCons (mVar 0) (mCons (mVar 1) (mCons (m2 (mVar 2) (mC (.int 1)) oAdd) (mCons (mVar 3) (mCons (m2 (mVar 4) (mC (.str "a")) oAdd) (ret (some []))))))))) sNx)
  (sSeq (sIf (mTest (m2 (mVar 3) (mCB (mCons (mVar 1) (ret (some []))) oLen) oLt)) (sExt 5 (mPN 5) (mCall (pureF self) (mCons (mVar 0) (mCons (mVar 1) (mCons (mVar 2) (mCons (m2 (mVar 3) (mC (.int 1)) oAdd) (mCons (m2 (mVar 4) (mC (.str "b")) oAdd) (ret (some []))))))))) sNx)
  (sRetV 5)))))
def f__law_ways (cs : Nat → Addr) : Nat → List D → Option (Ot D)
  | 0 => fun _ => none
  | k + 1 => fn0 6 (m__law_ways cs (f__law_ways cs k))
/-! _law_all -/
def N__law_all : List Str := ["_law_prices_here", "_law_first", "_law_second", "_law_manner_here", "_law_found", "_law_i", "_law_j", "_law_moves", "_law_down", "_law_along", "_law_cost"]
theorem sc__law_all : FnScope N__law_all ["_law_prices_here", "_law_first", "_law_second", "_law_manner_here"] (defScope s__law_all) := ⟨rfl, rfl, rfl, by decide +kernel, rfl, by decide +kernel, by decide +kernel⟩
def T__law_all : Nat → Nat := fun i => if i = 4 then 1 else 0
def b__law_all_1 (cs : Nat → Addr) : MS :=
  (sIf (mTest (mCall (pureF (f__law_may_end cs)) (mCons (mVar 3) (mCons (mVar 1) (mCons (mVar 2) (mCons (mVar 8) (mCons (mVar 9) (ret (some []))))))))) (sSeq (sSet 10 (m2 (mCall (pureF (f__law_walk cs)) (mCons (mVar 0) (mCons (mVar 1) (mCons (mVar 2) (mCons (mTup (mCons (mVar 5) (mCons (mVar 6) (ret (some []))))) (mCons (mVar 7) (ret (some [])))))))) (mC (.int 0)) oIx))
  (sApp 4 (mTup (mCons (mVar 10) (mCons (mTup (mCons (mVar 5) (mCons (mVar 6) (ret (some []))))) (mCons (mVar 7) (ret (some [])))))))) sNx)
def b__law_all_2 (cs : Nat → Addr) : MS :=
  (sIf (mTest (mCall (pureF (f__law_may_begin cs)) (mCons (mVar 3) (mCons (mVar 5) (mCons (mVar 6) (ret (some []))))))) (sFor (mItA (mCall (pureF (f__law_ways cs 8)) (mCons (mVar 1) (mCons (mVar 2) (mCons (mVar 5) (mCons (mVar 6) (mCons (mC (.str "")) (ret (some []))))))))) (.tup [7, 8, 9]) (b__law_all_1 cs)) sNx)
def b__law_all_3 (cs : Nat → Addr) : MS :=
  (sFor (mRng (mCons (m2 (mCB (mCons (mVar 2) (ret (some []))) oLen) (mC (.int 1)) oAdd) (ret (some [])))) (.one 6) (b__law_all_2 cs))
def m__law_all (cs : Nat → Addr) : MS :=
  (sSeq (sSet 4 (mLst (ret (some []))))
  (sSeq (sFor (mRng (mCons (m2 (mCB (mCons (mVar 1) (ret (some []))) oLen) (mC (.int 1)) oAdd) (ret (some [])))) (.one 5) (b__law_all_3 cs))
  (sRet (mVar 4))))
def f__law_all (cs : Nat → Addr) : List D → Option (Ot D) := fn0 11 (m__law_all cs)
/-! law -/
def N_law : List Str := ["_law_script", "_law_at", "_law_prices_here", "_law_first", "_law_second", "_law_manner_here", "_law_found", "_law_least", "_law_best", "_law_due", "_law_one"]
theorem sc_law : FnScope N_law ["_law_script"] (defScope s_law) := ⟨rfl, rfl, rfl, by decide +kernel, rfl, by decide +kernel, by decide +kernel⟩
abbrev T_law : Nat → Nat := fun _ => 0
def b_law_1 (cs : Nat → Addr) : MS :=
  (sIf (mTest (m2 (mCall (pureF (f__law_key cs)) (mCons (m2 (mVar 10) (mC (.int 1)) oIx) (mCons (m2 (mVar 10) (mC (.int 2)) oIx) (ret (some []))))) (mCall (pureF (f__law_key cs)) (mCons (m2 (mVar 9) (mC (.int 1)) oIx) (mCons (m2 (mVar 9) (mC (.int 2)) oIx) (ret (some []))))) oLtQ)) (sSet 9 (mVar 10)) sNx)
def m_law (cs : Nat → Addr) : MS :=
  (sNewCell 1 0 (sSeq (sSet 2 (mCall (f__law_prices cs) (mCons (mVar 0) (mCons (mC .non) (ret (some []))))))
  (sSeq (sSet 3 (mCall (f__law_row cs) (mCons (mVar 0) (mCons (mC .non) (mCons (m1 (mVar 2) (oFld (cs 0) "signs")) (mCons (mC (.int 3)) (ret (some []))))))))
  (sSeq (sSet 4 (mCall (f__law_row cs) (mCons (mVar 0) (mCons (mC .non) (mCons (m1 (mVar 2) (oFld (cs 0) "signs")) (mCons (mC (.int 3)) (ret (some []))))))))
  (sSeq (sSet 5 (mCall (pureF (f__law_manner cs)) (mCons (mCall (f__law_next cs) (mCons (mVar 0) (mCons (mC .non) (ret (some []))))) (ret (some [])))))
  (sSeq (sSet 6 (mCall (pureF (f__law_all cs)) (mCons (mVar 2) (mCons (mVar 3) (mCons (mVar 4) (mCons (mVar 5) (ret (some []))))))))
  (sSeq (sSet 7 (mCB (mCons (mLc (mItA (mVar 6)) (.one 10) mYes (m2 (mVar 10) (mC (.int 0)) oIx) [10]) (ret (some []))) oMin))
  (sSeq (sSet 8 (mLc (mItA (mVar 6)) (.one 10) (mTest (m2 (m2 (mVar 10) (mC (.int 0)) oIx) (mVar 7) oEq)) (mVar 10) [10]))
  (sSeq (sSet 9 (m2 (mVar 8) (mC (.int 0)) oIx))
  (sSeq (sFor (mItA (mVar 8)) (.one 10) (b_law_1 cs))
  (sSeq (sIf (mNot (mTest (mCall (pureF (f__law_same cs 3)) (mCons (mCall (pureF (f_cheapest cs)) (mCons (mVar 2) (mCons (mVar 3) (mCons (mVar 4) (mCons (mVar 5) (ret (some []))))))) (mCons (mTup (mCons (mCall (pureF (f_in_units cs)) (mCons (mVar 2) (mCons (mVar 7) (ret (some []))))) (mCons (m2 (mVar 9) (mC (.int 1)) oIx) (mCons (m2 (mVar 9) (mC (.int 2)) oIx) (ret (some [])))))) (ret (some []))))))) (sRet (mC (.bl false))) sNx)
  (sRet (mCall (pureF (f__law_same cs 3)) (mCons (mCall (pureF (f_count_of cs)) (mCons (mVar 2) (mCons (mVar 3) (mCons (mVar 4) (mCons (mVar 5) (ret (some []))))))) (mCons (mCB (mCons (mVar 8) (ret (some []))) oLen) (ret (some [])))))))))))))))))
def f_law (cs : Nat → Addr) : List D → Option (Ot D) := fn0 11 (m_law cs)
end
end K22

namespace K22
open PySem L2 PyProof.Rows GW
section
variable {P : Program} {w : World} {K : PySem.W.Frag} {mg : Str → Option Value} {base : Heap} {cs : Nat → Addr}
theorem ok_NoSign_init {f : Addr} {fd : FuncData} (Fu : FunD K "__init__" "NoSign.__init__" (defArgs s_NoSign_init) (defBody s_NoSign_init) (defScope s_NoSign_init) [] [] f fd) (T : OexC K (ec K 9)) (n0 : PySem.W.findIn K (.ref (ec K 9)) "row" = some none) (n1 : PySem.W.findIn K (.ref (ec K 9)) "place" = some none) : ∃ (fd : FuncData) (ps : List Str), FnOk P w K mg base (L2.CX P w) 1 f fd ps (spX K (ec K 9) ["row", "place"]) ∧ Binds K fd ps [] :=
  ⟨fd, ["self", "row", "place"], def_okX2 (N := N_NoSign_init) Fu sc_NoSign_init rfl T n0 n1 (fun cdv A outer s H E => (pss_cons (ps_ost (pv 0) (pv 1)) (pss_one (ps_ost (pv 0) (pv 2))))), (Fu.bindsN fun _ _ _ _ _ _ us hl => match us, hl with | [_, _, _], _ => rfl)⟩
theorem ok_greatest_part {f : Addr} {fd : FuncData} (Fu : FunD K "greatest_part" "greatest_part" (defArgs s_greatest_part) (defBody s_greatest_part) (defScope s_greatest_part) [] [] f fd) (hm : mg "greatest_part" = some (.ref f)) (bl : BF mg) (xf : XF P w K mg base)    : Av P w K mg base "greatest_part" ["one", "other"] 1 (spM K none 2 0 (pureF (f_greatest_part cs))) :=
  ⟨f, fd, hm, Fu.kp, (Fu.bindsN fun _ _ _ _ _ _ us hl => match us, hl with | [_, _], _ => rfl), def_ok0 (N := N_greatest_part) (T := T_greatest_part) (ms := m_greatest_part cs) Fu sc_greatest_part (by first | (exact fun _ _ => rfl) | decide) (fun cdv A outer s H E hr => by
      exact (ws_cons (ws_while (passes_of rfl) (vt_cmp op_gt os_cmp (ve_var (pv 1) (.inl rfl)) ve_int (nomark _)) (ws_cons (ws_set (i := 2) (ve_ix (ve_divmod bl.divmod_ (va_cons (ve_var (pv 0) (.inl rfl)) (va_cons (ve_var (pv 1) (.inl rfl)) va_nil))) ve_int) rfl rfl sc_greatest_part.nd)
  (ws_cons (ws_set (i := 0) (ve_var (pv 1) (.inl rfl)) rfl rfl sc_greatest_part.nd)
  (ws_one (ws_set (i := 1) (ve_var (pv 2) (.inl rfl)) rfl rfl sc_greatest_part.nd)))))
  (ws_one (ws_ret (ve_var (pv 0) (.inl rfl))))))⟩
theorem ok_lowest {f : Addr} {fd : FuncData} (Fu : FunD K "lowest" "lowest" (defArgs s_lowest) (defBody s_lowest) (defScope s_lowest) [] [] f fd) (hm : mg "lowest" = some (.ref f)) (bl : BF mg) (xf : XF P w K mg base) (A_greatest_part : Av P w K mg base "greatest_part" ["one", "other"] 1 (spM K none 2 0 (pureF (f_greatest_part cs))))   : Av P w K mg base "lowest" ["fraction"] 2 (spM K none 1 0 (pureF (f_lowest cs))) :=
  ⟨f, fd, hm, Fu.kp, (Fu.bindsN fun _ _ _ _ _ _ us hl => match us, hl with | [_], _ => rfl), def_ok0 (N := N_lowest) (T := T_lowest) (ms := m_lowest cs) Fu sc_lowest (by first | (exact fun _ _ => rfl) | decide) (fun cdv A outer s H E hr => by
      exact (ws_cons (ws_asg (ve_var (pv 0) (.inl rfl)) (vg_tup rfl (vgs_cons (i := 1) ⟨rfl, rfl⟩ sc_lowest.nd (vgs_cons (i := 2) ⟨rfl, rfl⟩ sc_lowest.nd vgs_nil))))
  (ws_cons (ws_set (i := 3) (ve_callA A_greatest_part (fun _ => ⟨_, rfl⟩) (hr.mono (by first | decide | omega)) (takes_of rfl rfl rfl rfl) (vc_all (va_cons (ve_abs bl.abs_ (va_cons (ve_var (pv 1) (.inl rfl)) va_nil)) (va_cons (ve_var (pv 2) (.inl rfl)) va_nil))) (LenM.cons (LenM.cons LenM.nil))) rfl rfl sc_lowest.nd)
  (ws_one (ws_ret (ve_tup (va_cons (ve_op op_fdivW os_div (ve_var (pv 1) (.inl rfl)) (ve_var (pv 3) (.inl rfl))) (va_cons (ve_op op_fdivW os_div (ve_var (pv 2) (.inl rfl)) (ve_var (pv 3) (.inl rfl))) va_nil))))))))⟩
theorem ok_least_whole {f : Addr} {fd : FuncData} (Fu : FunD K "least_whole" "least_whole" (defArgs s_least_whole) (defBody s_least_whole) (defScope s_least_whole) [] [] f fd) (hm : mg "least_whole" = some (.ref f)) (bl : BF mg) (xf : XF P w K mg base) (A_greatest_part : Av P w K mg base "greatest_part" ["one", "other"] 1 (spM K none 2 0 (pureF (f_greatest_part cs))))   : Av P w K mg base "least_whole" ["unders"] 2 (spM K none 1 0 (pureF (f_least_whole cs))) :=
  ⟨f, fd, hm, Fu.kp, (Fu.bindsN fun _ _ _ _ _ _ us hl => match us, hl with | [_], _ => rfl), def_ok0 (N := N_least_whole) (T := T_least_whole) (ms := m_least_whole cs) Fu sc_least_whole (by first | (exact fun _ _ => rfl) | decide) (fun cdv A outer s H E hr => by
      exact (ws_cons (ws_set (i := 1) ve_int rfl rfl sc_least_whole.nd)
  (ws_cons (ws_for (passes_of rfl) (vi_any (ve_var (pv 0) (.inl rfl))) (vg_name (i := 2) ⟨rfl, rfl⟩ sc_least_whole.nd) (ws_one (ws_set (i := 1) (ve_op op_fdivW os_div (ve_op op_mulIW os_mul (ve_var (pv 1) (.inl rfl)) (ve_var (pv 2) (.inl rfl))) (ve_bo (k := 0) (ve_callA A_greatest_part (fun _ => ⟨_, rfl⟩) (hr.mono (by first | decide | omega)) (takes_of rfl rfl rfl rfl) (vc_all (va_cons (ve_var (pv 1) (.inl rfl)) (va_cons (ve_var (pv 2) (.inl rfl)) va_nil))) (LenM.cons (LenM.cons LenM.nil))))) rfl rfl sc_least_whole.nd)))
  (ws_one (ws_ret (ve_var (pv 1) (.inl rfl)))))))⟩
theorem ok_is_sign {f : Addr} {fd : FuncData} (Fu : FunD K "is_sign" "is_sign" (defArgs s_is_sign) (defBody s_is_sign) (defScope s_is_sign) [] [] f fd) (hm : mg "is_sign" = some (.ref f)) (bl : BF mg) (xf : XF P w K mg base)    : Av P w K mg base "is_sign" ["sign"] 1 (spM K none 1 0 (pureF (f_is_sign cs))) :=
  ⟨f, fd, hm, Fu.kp, (Fu.bindsN fun _ _ _ _ _ _ us hl => match us, hl with | [_], _ => rfl), def_ok0 (N := N_is_sign) (T := T_is_sign) (ms := m_is_sign cs) Fu sc_is_sign (by first | (exact fun _ _ => rfl) | decide) (fun cdv A outer s H E hr => by
      exact (ws_one (ws_ret (ve_and (ve_chain op_le os_cmp op_le os_cmp ve_int (ve_ord bl.ord_ (va_cons (ve_var (pv 0) (.inl rfl)) va_nil)) ve_int) (ve_one (ve_cmp op_notIn_seq os_inQ (ve_ord bl.ord_ (va_cons (ve_var (pv 0) (.inl rfl)) va_nil)) (ve_tup (va_cons ve_int (va_cons ve_int (va_cons ve_int va_nil)))) rfl))))))⟩
theorem ok_signs_fit {f : Addr} {fd : FuncData} (Fu : FunD K "signs_fit" "signs_fit" (defArgs s_signs_fit) (defBody s_signs_fit) (defScope s_signs_fit) [] [] f fd) (hm : mg "signs_fit" = some (.ref f)) (bl : BF mg) (xf : XF P w K mg base) (A_is_sign : Av P w K mg base "is_sign" ["sign"] 1 (spM K none 1 0 (pureF (f_is_sign cs))))   : Av P w K mg base "signs_fit" ["signs"] 2 (spM K none 1 0 (pureF (f_signs_fit cs))) :=
  ⟨f, fd, hm, Fu.kp, (Fu.bindsN fun _ _ _ _ _ _ us hl => match us, hl with | [_], _ => rfl), def_ok0 (N := N_signs_fit) (T := T_signs_fit) (ms := m_signs_fit cs) Fu sc_signs_fit (by first | (exact fun _ _ => rfl) | decide) (fun cdv A outer s H E hr => by
      exact (ws_cons (ws_set (i := 1) ve_dnew rfl rfl sc_signs_fit.nd)
  (ws_cons (ws_for (passes_of rfl) (vi_any (ve_var (pv 0) (.inl rfl))) (vg_name (i := 2) ⟨rfl, rfl⟩ sc_signs_fit.nd) (ws_cons (ws_if ((vw_or (vt_not (vt_val (ve_bo (k := 0) (ve_callA A_is_sign (fun _ => ⟨_, rfl⟩) (hr.mono (by first | decide | omega)) (takes_of rfl rfl rfl rfl) (vc_all (va_cons (ve_var (pv 2) (.inl rfl)) va_nil)) (LenM.cons LenM.nil))))) (vw_one_or (vt_din (hu_of hr) (ve_var (pv 2) (.inl rfl)) (ve_var (pv 1) (.inr rfl)))))).pt (ws_one (ws_ret ve_bl)) ws_nil)
  (ws_one (ws_setk (hu_of hr) ve_bl (pl_nil (k := 0) (pv 1) rfl) plt_nil rfl (ve_var (pv 2) (.inl rfl))))))
  (ws_one (ws_ret (ve_cmp op_gt os_cmp (ve_len bl.len_ (va_cons (ve_var (pv 1) (.inl rfl)) va_nil)) ve_int (nomark _)))))))⟩
theorem ok_price_kept {f : Addr} {fd : FuncData} (Fu : FunD K "price_kept" "price_kept" (defArgs s_price_kept) (defBody s_price_kept) (defScope s_price_kept) [] [] f fd) (hm : mg "price_kept" = some (.ref f)) (bl : BF mg) (xf : XF P w K mg base) (A_lowest : Av P w K mg base "lowest" ["fraction"] 2 (spM K none 1 0 (pureF (f_lowest cs))))   : Av P w K mg base "price_kept" ["fraction"] 3 (spM K none 1 0 (pureF (f_price_kept cs))) :=
  ⟨f, fd, hm, Fu.kp, (Fu.bindsN fun _ _ _ _ _ _ us hl => match us, hl with | [_], _ => rfl), def_ok0 (N := N_price_kept) (T := T_price_kept) (ms := m_price_kept cs) Fu sc_price_kept (by first | (exact fun _ _ => rfl) | decide) (fun cdv A outer s H E hr => by
      exact (ws_cons (ws_if (vt_cmp op_lt os_cmp (ve_ix (ve_var (pv 0) (.inl rfl)) ve_int) ve_int (nomark _)) (ws_one (ws_raise rfl (takes_of rfl rfl rfl rfl) xf.o_NoPrices)) ws_nil)
  (ws_one (ws_ret (ve_callA A_lowest (fun _ => ⟨_, rfl⟩) (hr.mono (by first | decide | omega)) (takes_of rfl rfl rfl rfl) (vc_all (va_cons (ve_var (pv 0) (.inl rfl)) va_nil)) (LenM.cons LenM.nil))))))⟩
theorem ok_units_of {f : Addr} {fd : FuncData} (Fu : FunD K "units_of" "units_of" (defArgs s_units_of) (defBody s_units_of) (defScope s_units_of) [] [] f fd) (hm : mg "units_of" = some (.ref f)) (bl : BF mg) (xf : XF P w K mg base)    : Av P w K mg base "units_of" ["price", "whole"] 1 (spM K none 2 0 (pureF (f_units_of cs))) :=
  ⟨f, fd, hm, Fu.kp, (Fu.bindsN fun _ _ _ _ _ _ us hl => match us, hl with | [_, _], _ => rfl), def_ok0 (N := N_units_of) (T := T_units_of) (ms := m_units_of cs) Fu sc_units_of (by first | (exact fun _ _ => rfl) | decide) (fun cdv A outer s H E hr => by
      exact (ws_one (ws_ret (ve_op op_mulIW os_mul (ve_ix (ve_var (pv 0) (.inl rfl)) ve_int) (ve_op op_fdivW os_div (ve_var (pv 1) (.inl rfl)) (ve_ix (ve_var (pv 0) (.inl rfl)) ve_int))))))⟩
theorem ok_Prices_init {f : Addr} {fd : FuncData} (Fu : FunD K "__init__" "Prices.__init__" (defArgs s_Prices_init) (defBody s_Prices_init) (defScope s_Prices_init) [] [] f fd) (hm : mg "Prices" = some (.ref (cs 0))) (hk : L2.Mk K (cs 0) f) (bl : BF mg) (xf : XF P w K mg base) (A_least_whole : Av P w K mg base "least_whole" ["unders"] 2 (spM K none 1 0 (pureF (f_least_whole cs)))) (A_price_kept : Av P w K mg base "price_kept" ["fraction"] 3 (spM K none 1 0 (pureF (f_price_kept cs)))) (A_signs_fit : Av P w K mg base "signs_fit" ["signs"] 2 (spM K none 1 0 (pureF (f_signs_fit cs)))) (A_units_of : Av P w K mg base "units_of" ["price", "whole"] 1 (spM K none 2 0 (pureF (f_units_of cs))))  (c_Prices : CF_Prices K (cs 0)) : AvC P w K mg base "Prices" (cs 0) ["self", "signs", "pairs", "opening", "more"] 4 (spI K (cs 0) 4 2 (f_Prices_init cs)) :=
  ⟨f, fd, hm, hk, (Fu.bindsN fun _ _ _ _ _ _ us hl => match us, hl with | [_, _, _, _, _], _ => rfl), def_okI (N := N_Prices_init) (T := T_Prices_init) (ms := m_Prices_init cs) (np := 4) (cs 0) Fu sc_Prices_init rfl (by decide) rfl (by decide) (fun cdv A outer s H E a hr => by
      exact (ws_cons (ws_if ((vw_or (vt_not (vt_val (ve_bo (k := 0) (ve_callA A_signs_fit (fun _ => ⟨_, rfl⟩) (hr.mono (by first | decide | omega)) (takes_of rfl rfl rfl rfl) (vc_all (va_cons (ve_var (pv 1) (.inl rfl)) va_nil)) (LenM.cons LenM.nil))))) (vw_one_or (vt_cmp op_ne os_ne (ve_len bl.len_ (va_cons (ve_var (pv 2) (.inl rfl)) va_nil)) (ve_len bl.len_ (va_cons (ve_var (pv 1) (.inl rfl)) va_nil)) (nomark _))))).pt (ws_one (ws_raise rfl (takes_of rfl rfl rfl rfl) xf.o_NoPrices)) ws_nil)
  (ws_cons (ws_for (passes_of rfl) (vi_any (ve_var (pv 2) (.inl rfl))) (vg_name (i := 5) ⟨rfl, rfl⟩ sc_Prices_init.nd) (ws_one (ws_if (vt_cmp op_ne os_ne (ve_len bl.len_ (va_cons (ve_var (pv 5) (.inl rfl)) va_nil)) (ve_len bl.len_ (va_cons (ve_var (pv 1) (.inl rfl)) va_nil)) (nomark _)) (ws_one (ws_raise rfl (takes_of rfl rfl rfl rfl) xf.o_NoPrices)) ws_nil)))
  (ws_cons (ws_setf (k := 1) c_Prices.cls c_Prices.n_signs (ve_flat (ve_bo (k := 0) (ve_var (pv 1) (.inl rfl)))) (pv 0) rfl)
  (ws_cons (ws_setf (k := 1) c_Prices.cls c_Prices.n_pairs (ve_tuple bl.tuple_ (va_cons (ve_frz (k := 1) (ve_lc (own := [("line", 5)]) (vi_any (ve_var (pv 2) (.inl rfl))) (blkOk_by (own := [("line", 5)]) (N := N_Prices_init) (sc := (defScope s_Prices_init)) (by decide +kernel)) (fun _ _ _ _ _ => (vg_name (i := 5) ⟨rfl, rfl⟩ sc_Prices_init.nd)) (fun _ _ _ _ _ => vts_nil) (fun _ _ _ _ _ => (ve_tuple bl.tuple_ (va_cons (ve_frz (k := 1) (ve_lc (own := [("price", 9)]) (vi_any (ve_var (pv 5) (.inl rfl))) (blkOk_by (own := [("price", 9)]) (N := N_Prices_init) (by kernel_rfl)) (fun _ _ _ _ _ => (vg_name (i := 9) ⟨rfl, rfl⟩ sc_Prices_init.nd)) (fun _ _ _ _ _ => vts_nil) (fun _ _ _ _ _ => (ve_callA A_price_kept (fun _ => ⟨_, rfl⟩) (hr.mono (by first | decide | omega)) takes0 (vc_all (va_cons (ve_var (pv 9) (.inl rfl)) va_nil)) (LenM.cons LenM.nil))) (by decide) (fun i hi => by first | rfl | (simp at hi; subst hi; rfl) | (simp at hi; rcases hi with hi | hi <;> subst hi <;> rfl)) sc_Prices_init.nd)) va_nil))) (by decide) (fun i hi => by first | rfl | (simp at hi; subst hi; rfl) | (simp at hi; rcases hi with hi | hi <;> subst hi <;> rfl)) sc_Prices_init.nd)) va_nil)) (pv 0) rfl)
  (ws_cons (ws_setf (k := 1) c_Prices.cls c_Prices.n_opening (ve_flat (ve_bo (k := 0) (ve_callA A_price_kept (fun _ => ⟨_, rfl⟩) (hr.mono (by first | decide | omega)) (takes_of rfl rfl rfl rfl) (vc_all (va_cons (ve_var (pv 3) (.inl rfl)) va_nil)) (LenM.cons LenM.nil)))) (pv 0) rfl)
  (ws_cons (ws_setf (k := 1) c_Prices.cls c_Prices.n_more (ve_flat (ve_bo (k := 0) (ve_callA A_price_kept (fun _ => ⟨_, rfl⟩) (hr.mono (by first | decide | omega)) (takes_of rfl rfl rfl rfl) (vc_all (va_cons (ve_var (pv 4) (.inl rfl)) va_nil)) (LenM.cons LenM.nil)))) (pv 0) rfl)
  (ws_cons (ws_set (i := 6) (ve_lst1 (va_cons (ve_flat (ve_ix (ve_fld c_Prices.cls c_Prices.n_opening (ve_var (pv 0) (.inr rfl))) ve_int)) (va_cons (ve_flat (ve_ix (ve_fld c_Prices.cls c_Prices.n_more (ve_var (pv 0) (.inr rfl))) ve_int)) va_nil))) rfl rfl sc_Prices_init.nd)
  (ws_cons (ws_for (passes_of rfl) (vi_any (ve_flat (ve_fld c_Prices.cls c_Prices.n_pairs (ve_var (pv 0) (.inr rfl))))) (vg_name (i := 5) ⟨rfl, rfl⟩ sc_Prices_init.nd) (ws_one (ws_ext (pl_nil (k := 0) (pv 6) rfl) plt_nil rfl (ve_lc (own := [("price", 9)]) (vi_any (ve_var (pv 5) (.inl rfl))) (blkOk_by (own := [("price", 9)]) (N := N_Prices_init) (sc := (defScope s_Prices_init)) (by decide +kernel)) (fun _ _ _ _ _ => (vg_name (i := 9) ⟨rfl, rfl⟩ sc_Prices_init.nd)) (fun _ _ _ _ _ => vts_nil) (fun _ _ _ _ _ => (ve_ix (ve_var (pv 9) (.inl rfl)) ve_int)) (by decide) (fun i hi => by first | rfl | (simp at hi; subst hi; rfl) | (simp at hi; rcases hi with hi | hi <;> subst hi <;> rfl)) sc_Prices_init.nd))))
  (ws_cons (ws_setf (k := 1) c_Prices.cls c_Prices.n_whole (ve_callAb A_least_whole (fun _ => ⟨_, rfl⟩) (hr.mono (by first | decide | omega)) (takes_of rfl rfl rfl rfl) (vc_all (va_cons (ve_var (pv 6) (.inr rfl)) va_nil)) (LenM.cons LenM.nil)) (pv 0) rfl)
  (ws_cons (ws_setf (k := 1) c_Prices.cls c_Prices.n_costs ve_dnew (pv 0) rfl)
  (ws_cons (ws_for (passes_of rfl) (vi_zip2 bl.zip_ (va_cons (ve_var (pv 1) (.inl rfl)) (va_cons (ve_flat (ve_fld c_Prices.cls c_Prices.n_pairs (ve_var (pv 0) (.inr rfl)))) va_nil))) (vg_tup rfl (vgs_cons (i := 7) ⟨rfl, rfl⟩ sc_Prices_init.nd (vgs_cons (i := 5) ⟨rfl, rfl⟩ sc_Prices_init.nd vgs_nil))) (ws_one (ws_for (passes_of rfl) (vi_zip2 bl.zip_ (va_cons (ve_var (pv 1) (.inl rfl)) (va_cons (ve_var (pv 5) (.inl rfl)) va_nil))) (vg_tup rfl (vgs_cons (i := 8) ⟨rfl, rfl⟩ sc_Prices_init.nd (vgs_cons (i := 9) ⟨rfl, rfl⟩ sc_Prices_init.nd vgs_nil))) (ws_one (ws_setk (hu_of hr) (ve_callAb A_units_of (fun _ => ⟨_, rfl⟩) (hr.mono (by first | decide | omega)) (takes_of rfl rfl rfl rfl) (vc_all (va_cons (ve_var (pv 9) (.inl rfl)) (va_cons (ve_fld c_Prices.cls c_Prices.n_whole (ve_var (pv 0) (.inr rfl))) va_nil))) (LenM.cons (LenM.cons LenM.nil))) (pl_fd (k := 0) c_Prices.cls c_Prices.n_costs (pv 0) rfl) plt_fd rfl (ve_op op_addIS os_add (ve_var (pv 7) (.inl rfl)) (ve_var (pv 8) (.inl rfl))))))))
  (ws_cons (ws_setf (k := 1) c_Prices.cls c_Prices.n_open_units (ve_callAb A_units_of (fun _ => ⟨_, rfl⟩) (hr.mono (by first | decide | omega)) (takes_of rfl rfl rfl rfl) (vc_all (va_cons (ve_fld c_Prices.cls c_Prices.n_opening (ve_var (pv 0) (.inr rfl))) (va_cons (ve_fld c_Prices.cls c_Prices.n_whole (ve_var (pv 0) (.inr rfl))) va_nil))) (LenM.cons (LenM.cons LenM.nil))) (pv 0) rfl)
  (ws_one (ws_setf (k := 1) c_Prices.cls c_Prices.n_more_units (ve_callAb A_units_of (fun _ => ⟨_, rfl⟩) (hr.mono (by first | decide | omega)) (takes_of rfl rfl rfl rfl) (vc_all (va_cons (ve_fld c_Prices.cls c_Prices.n_more (ve_var (pv 0) (.inr rfl))) (va_cons (ve_fld c_Prices.cls c_Prices.n_whole (ve_var (pv 0) (.inr rfl))) va_nil))) (LenM.cons (LenM.cons LenM.nil))) (pv 0) rfl)))))))))))))))⟩
theorem ok_pair_cost {f : Addr} {fd : FuncData} (Fu : FunD K "pair_cost" "pair_cost" (defArgs s_pair_cost) (defBody s_pair_cost) (defScope s_pair_cost) [] [] f fd) (hm : mg "pair_cost" = some (.ref f)) (bl : BF mg) (xf : XF P w K mg base)   (c_Prices : CF_Prices K (cs 0)) : Av P w K mg base "pair_cost" ["prices", "one", "other"] 1 (spM K none 3 0 (pureF (f_pair_cost cs))) :=
  ⟨f, fd, hm, Fu.kp, (Fu.bindsN fun _ _ _ _ _ _ us hl => match us, hl with | [_, _, _], _ => rfl), def_ok0 (N := N_pair_cost) (T := T_pair_cost) (ms := m_pair_cost cs) Fu sc_pair_cost (by first | (exact fun _ _ => rfl) | decide) (fun cdv A outer s H E hr => by
      exact (ws_one (ws_ret (ve_dget (hu_of hr) (ve_fld c_Prices.cls c_Prices.n_costs (ve_var (pv 0) (.inl rfl))) (ve_op op_addIS os_add (ve_var (pv 1) (.inl rfl)) (ve_var (pv 2) (.inl rfl)))))))⟩
theorem ok_opening_cost {f : Addr} {fd : FuncData} (Fu : FunD K "opening_cost" "opening_cost" (defArgs s_opening_cost) (defBody s_opening_cost) (defScope s_opening_cost) [] [] f fd) (hm : mg "opening_cost" = some (.ref f)) (bl : BF mg) (xf : XF P w K mg base)   (c_Prices : CF_Prices K (cs 0)) : Av P w K mg base "opening_cost" ["prices"] 1 (spM K none 1 0 (pureF (f_opening_cost cs))) :=
  ⟨f, fd, hm, Fu.kp, (Fu.bindsN fun _ _ _ _ _ _ us hl => match us, hl with | [_], _ => rfl), def_ok0 (N := N_opening_cost) (T := T_opening_cost) (ms := m_opening_cost cs) Fu sc_opening_cost (by first | (exact fun _ _ => rfl) | decide) (fun cdv A outer s H E hr => by
      exact (ws_one (ws_ret (ve_fld c_Prices.cls c_Prices.n_open_units (ve_var (pv 0) (.inl rfl))))))⟩
theorem ok_more_cost {f : Addr} {fd : FuncData} (Fu : FunD K "more_cost" "more_cost" (defArgs s_more_cost) (defBody s_more_cost) (defScope s_more_cost) [] [] f fd) (hm : mg "more_cost" = some (.ref f)) (bl : BF mg) (xf : XF P w K mg base)   (c_Prices : CF_Prices K (cs 0)) : Av P w K mg base "more_cost" ["prices"] 1 (spM K none 1 0 (pureF (f_more_cost cs))) :=
  ⟨f, fd, hm, Fu.kp, (Fu.bindsN fun _ _ _ _ _ _ us hl => match us, hl with | [_], _ => rfl), def_ok0 (N := N_more_cost) (T := T_more_cost) (ms := m_more_cost cs) Fu sc_more_cost (by first | (exact fun _ _ => rfl) | decide) (fun cdv A outer s H E hr => by
      exact (ws_one (ws_ret (ve_fld c_Prices.cls c_Prices.n_more_units (ve_var (pv 0) (.inl rfl))))))⟩
theorem ok_in_units {f : Addr} {fd : FuncData} (Fu : FunD K "in_units" "in_units" (defArgs s_in_units) (defBody s_in_units) (defScope s_in_units) [] [] f fd) (hm : mg "in_units" = some (.ref f)) (bl : BF mg) (xf : XF P w K mg base) (A_lowest : Av P w K mg base "lowest" ["fraction"] 2 (spM K none 1 0 (pureF (f_lowest cs))))  (c_Prices : CF_Prices K (cs 0)) : Av P w K mg base "in_units" ["prices", "number"] 3 (spM K none 2 0 (pureF (f_in_units cs))) :=
  ⟨f, fd, hm, Fu.kp, (Fu.bindsN fun _ _ _ _ _ _ us hl => match us, hl with | [_, _], _ => rfl), def_ok0 (N := N_in_units) (T := T_in_units) (ms := m_in_units cs) Fu sc_in_units (by first | (exact fun _ _ => rfl) | decide) (fun cdv A outer s H E hr => by
      exact (ws_one (ws_ret (ve_callA A_lowest (fun _ => ⟨_, rfl⟩) (hr.mono (by first | decide | omega)) (takes_of rfl rfl rfl rfl) (vc_all (va_cons (ve_tup (va_cons (ve_var (pv 1) (.inl rfl)) (va_cons (ve_fld c_Prices.cls c_Prices.n_whole (ve_var (pv 0) (.inl rfl))) va_nil))) va_nil)) (LenM.cons LenM.nil)))))⟩
theorem ok_ask_signs {f : Addr} {fd : FuncData} (Fu : FunD K "ask_signs" "ask_signs" (defArgs s_ask_signs) (defBody s_ask_signs) (defScope s_ask_signs) [] [] f fd) (hm : mg "ask_signs" = some (.ref f)) (bl : BF mg) (xf : XF P w K mg base)   (c_Prices : CF_Prices K (cs 0)) : Av P w K mg base "ask_signs" ["prices", "rows"] 3 (spM K none 2 0 (pureF (f_ask_signs cs))) :=
  ⟨f, fd, hm, Fu.kp, (Fu.bindsN fun _ _ _ _ _ _ us hl => match us, hl with | [_, _], _ => rfl), def_ok0 (N := N_ask_signs) (T := T_ask_signs) (ms := m_ask_signs cs) Fu sc_ask_signs (by first | (exact fun _ _ => rfl) | decide) (fun cdv A outer s H E hr => by
      exact (ws_one (ws_for (passes_of rfl) (vi_enum bl.enumerate_ (va_cons (ve_var (pv 1) (.inl rfl)) va_nil)) (vg_tup rfl (vgs_cons (i := 2) ⟨rfl, rfl⟩ sc_ask_signs.nd (vgs_cons (i := 3) ⟨rfl, rfl⟩ sc_ask_signs.nd vgs_nil))) (ws_one (ws_for (passes_of rfl) (vi_enum bl.enumerate_ (va_cons (ve_var (pv 3) (.inl rfl)) va_nil)) (vg_tup rfl (vgs_cons (i := 4) ⟨rfl, rfl⟩ sc_ask_signs.nd (vgs_cons (i := 5) ⟨rfl, rfl⟩ sc_ask_signs.nd vgs_nil))) (ws_one (ws_if (vt_cmp op_notIn_sign os_notInS (ve_var (pv 5) (.inl rfl)) (ve_fld c_Prices.cls c_Prices.n_signs (ve_var (pv 0) (.inl rfl))) rfl) (ws_one (ws_raiseF rfl (takes_of rfl rfl rfl rfl) xf.m_NoSign (xf.ef.ex 9 (by decide)) (by decide) (hr.mono (by first | decide | omega)) (va_cons (ve_var (pv 2) (.inl rfl)) (va_cons (ve_var (pv 4) (.inl rfl)) va_nil)))) ws_nil)))))))⟩
theorem ok_ask_manner {f : Addr} {fd : FuncData} (Fu : FunD K "ask_manner" "ask_manner" (defArgs s_ask_manner) (defBody s_ask_manner) (defScope s_ask_manner) [] [] f fd) (hm : mg "ask_manner" = some (.ref f)) (bl : BF mg) (xf : XF P w K mg base)    : Av P w K mg base "ask_manner" ["manner"] 1 (spM K none 1 0 (pureF (f_ask_manner cs))) :=
  ⟨f, fd, hm, Fu.kp, (Fu.bindsN fun _ _ _ _ _ _ us hl => match us, hl with | [_], _ => rfl), def_ok0 (N := N_ask_manner) (T := T_ask_manner) (ms := m_ask_manner cs) Fu sc_ask_manner (by first | (exact fun _ _ => rfl) | decide) (fun cdv A outer s H E hr => by
      exact (ws_one (ws_if (vt_cmp op_notIn_seq os_inQ (ve_var (pv 0) (.inl rfl)) (ve_gtup xf.gt_MANNERS) rfl) (ws_one (ws_raise rfl (takes_of rfl rfl rfl rfl) xf.o_NoManner)) ws_nil)))⟩
theorem ok_may_begin {f : Addr} {fd : FuncData} (Fu : FunD K "may_begin" "may_begin" (defArgs s_may_begin) (defBody s_may_begin) (defScope s_may_begin) [] [] f fd) (hm : mg "may_begin" = some (.ref f)) (bl : BF mg) (xf : XF P w K mg base)    : Av P w K mg base "may_begin" ["manner", "place"] 1 (spM K none 2 0 (pureF (f_may_begin cs))) :=
  ⟨f, fd, hm, Fu.kp, (Fu.bindsN fun _ _ _ _ _ _ us hl => match us, hl with | [_, _], _ => rfl), def_ok0 (N := N_may_begin) (T := T_may_begin) (ms := m_may_begin cs) Fu sc_may_begin (by first | (exact fun _ _ => rfl) | decide) (fun cdv A outer s H E hr => by
      exact (ws_cons (ws_if (vt_cmp op_eq os_eq (ve_var (pv 0) (.inl rfl)) ve_str (nomark _)) (ws_one (ws_ret (ve_cmp (op_eqD (hu64 hr)) os_eqQ (ve_var (pv 1) (.inl rfl)) (ve_tup (va_cons ve_int (va_cons ve_int va_nil))) (nomark _)))) ws_nil)
  (ws_cons (ws_if (vt_cmp op_eq os_eq (ve_var (pv 0) (.inl rfl)) ve_str (nomark _)) (ws_one (ws_ret (ve_cmp op_eq os_eq (ve_ix (ve_var (pv 1) (.inl rfl)) ve_int) ve_int (nomark _)))) ws_nil)
  (ws_cons (ws_if (vt_cmp op_eq os_eq (ve_var (pv 0) (.inl rfl)) ve_str (nomark _)) (ws_one (ws_ret (ve_cmp op_eq os_eq (ve_ix (ve_var (pv 1) (.inl rfl)) ve_int) ve_int (nomark _)))) ws_nil)
  (ws_one (ws_ret ve_bl))))))⟩
theorem ok_may_end {f : Addr} {fd : FuncData} (Fu : FunD K "may_end" "may_end" (defArgs s_may_end) (defBody s_may_end) (defScope s_may_end) [] [] f fd) (hm : mg "may_end" = some (.ref f)) (bl : BF mg) (xf : XF P w K mg base)    : Av P w K mg base "may_end" ["manner", "first", "second", "place"] 1 (spM K none 4 0 (pureF (f_may_end cs))) :=
  ⟨f, fd, hm, Fu.kp, (Fu.bindsN fun _ _ _ _ _ _ us hl => match us, hl with | [_, _, _, _], _ => rfl), def_ok0 (N := N_may_end) (T := T_may_end) (ms := m_may_end cs) Fu sc_may_end (by first | (exact fun _ _ => rfl) | decide) (fun cdv A outer s H E hr => by
      exact (ws_cons (ws_if (vt_cmp op_eq os_eq (ve_var (pv 0) (.inl rfl)) ve_str (nomark _)) (ws_one (ws_ret (ve_cmp (op_eqD (hu64 hr)) os_eqQ (ve_var (pv 3) (.inl rfl)) (ve_tup (va_cons (ve_len bl.len_ (va_cons (ve_var (pv 1) (.inl rfl)) va_nil)) (va_cons (ve_len bl.len_ (va_cons (ve_var (pv 2) (.inl rfl)) va_nil)) va_nil))) (nomark _)))) ws_nil)
  (ws_cons (ws_if (vt_cmp op_eq os_eq (ve_var (pv 0) (.inl rfl)) ve_str (nomark _)) (ws_one (ws_ret ve_bl)) ws_nil)
  (ws_one (ws_ret (ve_cmp op_eq os_eq (ve_ix (ve_var (pv 3) (.inl rfl)) ve_int) (ve_len bl.len_ (va_cons (ve_var (pv 1) (.inl rfl)) va_nil)) (nomark _)))))))⟩
theorem ok_Sheet_init {f : Addr} {fd : FuncData} (Fu : FunD K "__init__" "Sheet.__init__" (defArgs s_Sheet_init) (defBody s_Sheet_init) (defScope s_Sheet_init) [] [] f fd) (hm : mg "Sheet" = some (.ref (cs 1))) (hk : L2.Mk K (cs 1) f) (bl : BF mg) (xf : XF P w K mg base) (A_more_cost : Av P w K mg base "more_cost" ["prices"] 1 (spM K none 1 0 (pureF (f_more_cost cs)))) (A_opening_cost : Av P w K mg base "opening_cost" ["prices"] 1 (spM K none 1 0 (pureF (f_opening_cost cs)))) (A_pair_cost : Av P w K mg base "pair_cost" ["prices", "one", "other"] 1 (spM K none 3 0 (pureF (f_pair_cost cs))))  (c_Sheet : CF_Sheet K (cs 1)) : AvC P w K mg base "Sheet" (cs 1) ["self", "prices", "first", "second", "manner"] 2 (spI K (cs 1) 4 1 (f_Sheet_init cs)) :=
  ⟨f, fd, hm, hk, (Fu.bindsN fun _ _ _ _ _ _ us hl => match us, hl with | [_, _, _, _, _], _ => rfl), def_okI (N := N_Sheet_init) (T := T_Sheet_init) (ms := m_Sheet_init cs) (np := 4) (cs 1) Fu sc_Sheet_init rfl (by decide) rfl (by decide) (fun cdv A outer s H E a hr => by
      exact (ws_cons (ws_setf (k := 0) c_Sheet.cls c_Sheet.n_first (ve_var (pv 2) (.inl rfl)) (pv 0) rfl)
  (ws_cons (ws_setf (k := 0) c_Sheet.cls c_Sheet.n_second (ve_var (pv 3) (.inl rfl)) (pv 0) rfl)
  (ws_cons (ws_setf (k := 0) c_Sheet.cls c_Sheet.n_high (ve_len bl.len_ (va_cons (ve_var (pv 2) (.inl rfl)) va_nil)) (pv 0) rfl)
  (ws_cons (ws_setf (k := 0) c_Sheet.cls c_Sheet.n_wide (ve_len bl.len_ (va_cons (ve_var (pv 3) (.inl rfl)) va_nil)) (pv 0) rfl)
  (ws_cons (ws_setf (k := 0) c_Sheet.cls c_Sheet.n_manner (ve_var (pv 4) (.inl rfl)) (pv 0) rfl)
  (ws_cons (ws_setf (k := 0) c_Sheet.cls c_Sheet.n_opening (ve_callA A_opening_cost (fun _ => ⟨_, rfl⟩) (hr.mono (by first | decide | omega)) (takes_of rfl rfl rfl rfl) (vc_all (va_cons (ve_var (pv 1) (.inl rfl)) va_nil)) (LenM.cons LenM.nil)) (pv 0) rfl)
  (ws_cons (ws_setf (k := 0) c_Sheet.cls c_Sheet.n_more (ve_callA A_more_cost (fun _ => ⟨_, rfl⟩) (hr.mono (by first | decide | omega)) (takes_of rfl rfl rfl rfl) (vc_all (va_cons (ve_var (pv 1) (.inl rfl)) va_nil)) (LenM.cons LenM.nil)) (pv 0) rfl)
  (ws_one (ws_setf (k := 0) c_Sheet.cls c_Sheet.n_costs (ve_frz (k := 1) (ve_lc (own := [("one", 5)]) (vi_any (ve_var (pv 2) (.inl rfl))) (blkOk_by (own := [("one", 5)]) (N := N_Sheet_init) (sc := (defScope s_Sheet_init)) (by decide +kernel)) (fun _ _ _ _ _ => (vg_name (i := 5) ⟨rfl, rfl⟩ sc_Sheet_init.nd)) (fun _ _ _ _ _ => vts_nil) (fun _ _ _ _ _ => (ve_frz (k := 1) (ve_lc (own := [("other", 6)]) (vi_any (ve_var (pv 3) (.inl rfl))) (blkOk_by (own := [("other", 6)]) (N := N_Sheet_init) (by kernel_rfl)) (fun _ _ _ _ _ => (vg_name (i := 6) ⟨rfl, rfl⟩ sc_Sheet_init.nd)) (fun _ _ _ _ _ => vts_nil) (fun _ _ _ _ _ => (ve_callA A_pair_cost (fun _ => ⟨_, rfl⟩) (hr.mono (by first | decide | omega)) takes0 (vc_all (va_cons (ve_var (pv 1) (.inl rfl)) (va_cons (ve_var (pv 5) (.inl rfl)) (va_cons (ve_var (pv 6) (.inl rfl)) va_nil)))) (LenM.cons (LenM.cons (LenM.cons LenM.nil))))) (by decide) (fun i hi => by first | rfl | (simp at hi; subst hi; rfl) | (simp at hi; rcases hi with hi | hi <;> subst hi <;> rfl)) sc_Sheet_init.nd))) (by decide) (fun i hi => by first | rfl | (simp at hi; subst hi; rfl) | (simp at hi; rcases hi with hi | hi <;> subst hi <;> rfl)) sc_Sheet_init.nd)) (pv 0) rfl))))))))))⟩
theorem ok_Sheet_begins {f : Addr} {fd : FuncData} (Fu : FunD K "begins" "Sheet.begins" (defArgs s_Sheet_begins) (defBody s_Sheet_begins) (defScope s_Sheet_begins) [] [] f fd) (hm : L2.Meth K (cs 1) "begins" f) (bl : BF mg) (xf : XF P w K mg base) (A_may_begin : Av P w K mg base "may_begin" ["manner", "place"] 1 (spM K none 2 0 (pureF (f_may_begin cs))))  (c_Sheet : CF_Sheet K (cs 1)) : AvM P w K mg base (cs 1) "begins" ["self", "i", "j"] 2 (spM K none 3 0 (pureF (f_Sheet_begins cs))) :=
  ⟨f, fd, hm, (Fu.bindsN fun _ _ _ _ _ _ us hl => match us, hl with | [_, _, _], _ => rfl), def_ok0 (N := N_Sheet_begins) (T := T_Sheet_begins) (ms := m_Sheet_begins cs) Fu sc_Sheet_begins (by first | (exact fun _ _ => rfl) | decide) (fun cdv A outer s H E hr => by
      exact (ws_one (ws_ret (ve_callA A_may_begin (fun _ => ⟨_, rfl⟩) (hr.mono (by first | decide | omega)) (takes_of rfl rfl rfl rfl) (vc_all (va_cons (ve_fld c_Sheet.cls c_Sheet.n_manner (ve_var (pv 0) (.inl rfl))) (va_cons (ve_tup (va_cons (ve_var (pv 1) (.inl rfl)) (va_cons (ve_var (pv 2) (.inl rfl)) va_nil))) va_nil))) (LenM.cons (LenM.cons LenM.nil))))))⟩
theorem ok_Sheet_ends {f : Addr} {fd : FuncData} (Fu : FunD K "ends" "Sheet.ends" (defArgs s_Sheet_ends) (defBody s_Sheet_ends) (defScope s_Sheet_ends) [] [] f fd) (hm : L2.Meth K (cs 1) "ends" f) (bl : BF mg) (xf : XF P w K mg base) (A_may_end : Av P w K mg base "may_end" ["manner", "first", "second", "place"] 1 (spM K none 4 0 (pureF (f_may_end cs))))  (c_Sheet : CF_Sheet K (cs 1)) : AvM P w K mg base (cs 1) "ends" ["self", "i", "j"] 2 (spM K none 3 0 (pureF (f_Sheet_ends cs))) :=
  ⟨f, fd, hm, (Fu.bindsN fun _ _ _ _ _ _ us hl => match us, hl with | [_, _, _], _ => rfl), def_ok0 (N := N_Sheet_ends) (T := T_Sheet_ends) (ms := m_Sheet_ends cs) Fu sc_Sheet_ends (by first | (exact fun _ _ => rfl) | decide) (fun cdv A outer s H E hr => by
      exact (ws_one (ws_ret (ve_callA A_may_end (fun _ => ⟨_, rfl⟩) (hr.mono (by first | decide | omega)) (takes_of rfl rfl rfl rfl) (vc_all (va_cons (ve_fld c_Sheet.cls c_Sheet.n_manner (ve_var (pv 0) (.inl rfl))) (va_cons (ve_fld c_Sheet.cls c_Sheet.n_first (ve_var (pv 0) (.inl rfl))) (va_cons (ve_fld c_Sheet.cls c_Sheet.n_second (ve_var (pv 0) (.inl rfl))) (va_cons (ve_tup (va_cons (ve_var (pv 1) (.inl rfl)) (va_cons (ve_var (pv 2) (.inl rfl)) va_nil))) va_nil))))) (LenM.cons (LenM.cons (LenM.cons (LenM.cons LenM.nil))))))))⟩
theorem ok_Sheet_gap {f : Addr} {fd : FuncData} (Fu : FunD K "gap" "Sheet.gap" (defArgs s_Sheet_gap) (defBody s_Sheet_gap) (defScope s_Sheet_gap) [] [] f fd) (hm : L2.Meth K (cs 1) "gap" f) (bl : BF mg) (xf : XF P w K mg base)   (c_Sheet : CF_Sheet K (cs 1)) : AvM P w K mg base (cs 1) "gap" ["self", "goes_on"] 1 (spM K none 2 0 (pureF (f_Sheet_gap cs))) :=
  ⟨f, fd, hm, (Fu.bindsN fun _ _ _ _ _ _ us hl => match us, hl with | [_, _], _ => rfl), def_ok0 (N := N_Sheet_gap) (T := T_Sheet_gap) (ms := m_Sheet_gap cs) Fu sc_Sheet_gap (by first | (exact fun _ _ => rfl) | decide) (fun cdv A outer s H E hr => by
      exact (ws_cons (ws_if (vt_val (ve_var (pv 1) (.inl rfl))) (ws_one (ws_ret (ve_fld c_Sheet.cls c_Sheet.n_more (ve_var (pv 0) (.inl rfl))))) ws_nil)
  (ws_one (ws_ret (ve_op op_addIS os_add (ve_fld c_Sheet.cls c_Sheet.n_opening (ve_var (pv 0) (.inl rfl))) (ve_fld c_Sheet.cls c_Sheet.n_more (ve_var (pv 0) (.inl rfl))))))))⟩
theorem ok_sheet_of {f : Addr} {fd : FuncData} (Fu : FunD K "sheet_of" "sheet_of" (defArgs s_sheet_of) (defBody s_sheet_of) (defScope s_sheet_of) [] [] f fd) (hm : mg "sheet_of" = some (.ref f)) (bl : BF mg) (xf : XF P w K mg base) (A_Sheet_init : AvC P w K mg base "Sheet" (cs 1) ["self", "prices", "first", "second", "manner"] 2 (spI K (cs 1) 4 1 (f_Sheet_init cs))) (A_ask_manner : Av P w K mg base "ask_manner" ["manner"] 1 (spM K none 1 0 (pureF (f_ask_manner cs)))) (A_ask_signs : Av P w K mg base "ask_signs" ["prices", "rows"] 3 (spM K none 2 0 (pureF (f_ask_signs cs))))   : Av P w K mg base "sheet_of" ["prices", "first", "second", "manner"] 4 (spM K none 4 0 (pureF (f_sheet_of cs))) :=
  ⟨f, fd, hm, Fu.kp, (Fu.bindsN fun _ _ _ _ _ _ us hl => match us, hl with | [_, _, _, _], _ => rfl), def_ok0 (N := N_sheet_of) (T := T_sheet_of) (ms := m_sheet_of cs) Fu sc_sheet_of (by first | (exact fun _ _ => rfl) | decide) (fun cdv A outer s H E hr => by
      exact (ws_cons (ws_expr (ve_callA A_ask_signs (fun _ => ⟨_, rfl⟩) (hr.mono (by first | decide | omega)) (takes_of rfl rfl rfl rfl) (vc_all (va_cons (ve_var (pv 0) (.inl rfl)) (va_cons (ve_frz (k := 1) (ve_lst1 (va_cons (ve_var (pv 1) (.inl rfl)) (va_cons (ve_var (pv 2) (.inl rfl)) va_nil)))) va_nil))) (LenM.cons (LenM.cons LenM.nil))))
  (ws_cons (ws_expr (ve_callA A_ask_manner (fun _ => ⟨_, rfl⟩) (hr.mono (by first | decide | omega)) (takes_of rfl rfl rfl rfl) (vc_all (va_cons (ve_var (pv 3) (.inl rfl)) va_nil)) (LenM.cons LenM.nil)))
  (ws_one (ws_ret (ve_frz (k := 1) (ve_make A_Sheet_init (hr.mono (by first | decide | omega)) (takes_of rfl rfl rfl rfl) (va_cons (ve_var (pv 0) (.inl rfl)) (va_cons (ve_var (pv 1) (.inl rfl)) (va_cons (ve_var (pv 2) (.inl rfl)) (va_cons (ve_var (pv 3) (.inl rfl)) va_nil)))) (LenM.cons (LenM.cons (LenM.cons (LenM.cons LenM.nil)))))))))))⟩
theorem ok_steps_from {f : Addr} {fd : FuncData} (Fu : FunD K "steps_from" "steps_from" (defArgs s_steps_from) (defBody s_steps_from) (defScope s_steps_from) [] [] f fd) (hm : mg "steps_from" = some (.ref f)) (bl : BF mg) (xf : XF P w K mg base) (A_Sheet_gap : AvM P w K mg base (cs 1) "gap" ["self", "goes_on"] 1 (spM K none 2 0 (pureF (f_Sheet_gap cs))))  (c_Sheet : CF_Sheet K (cs 1)) : Av P w K mg base "steps_from" ["sheet", "i", "j", "came"] 2 (spM K none 4 1 (pureF (f_steps_from cs))) :=
  ⟨f, fd, hm, Fu.kp, (Fu.bindsN fun _ _ _ _ _ _ us hl => match us, hl with | [_, _, _, _], _ => rfl), def_ok0 (N := N_steps_from) (T := T_steps_from) (ms := m_steps_from cs) Fu sc_steps_from (by first | (exact fun _ _ => rfl) | decide) (fun cdv A outer s H E hr => by
      exact (ws_cons (ws_set (i := 4) (ve_lst1 va_nil) rfl rfl sc_steps_from.nd)
  (ws_cons (ws_if ((vw_and (vt_cmp op_lt os_cmp (ve_var (pv 1) (.inl rfl)) (ve_fld c_Sheet.cls c_Sheet.n_high (ve_var (pv 0) (.inl rfl))) (nomark _)) (vw_one_and (vt_cmp op_lt os_cmp (ve_var (pv 2) (.inl rfl)) (ve_fld c_Sheet.cls c_Sheet.n_wide (ve_var (pv 0) (.inl rfl))) (nomark _))))).pt (ws_one (ws_app (i := 4) (pv 4) (ve_tup (va_cons ve_str (va_cons (ve_op op_addIS os_add (ve_var (pv 1) (.inl rfl)) ve_int) (va_cons (ve_op op_addIS os_add (ve_var (pv 2) (.inl rfl)) ve_int) (va_cons ve_int (va_cons (ve_ix (ve_ix (ve_fld c_Sheet.cls c_Sheet.n_costs (ve_var (pv 0) (.inl rfl))) (ve_var (pv 1) (.inl rfl))) (ve_var (pv 2) (.inl rfl))) va_nil)))))) rfl)) ws_nil)
  (ws_cons (ws_if (vt_cmp op_lt os_cmp (ve_var (pv 1) (.inl rfl)) (ve_fld c_Sheet.cls c_Sheet.n_high (ve_var (pv 0) (.inl rfl))) (nomark _)) (ws_one (ws_app (i := 4) (pv 4) (ve_tup (va_cons ve_str (va_cons (ve_op op_addIS os_add (ve_var (pv 1) (.inl rfl)) ve_int) (va_cons (ve_var (pv 2) (.inl rfl)) (va_cons ve_int (va_cons (ve_meth (pl := _) A_Sheet_gap c_Sheet.cls (hr.mono (by first | decide | omega)) (takes_of rfl rfl rfl rfl) (ve_var (pv 0) (.inl rfl)) (va_cons (ve_cmp op_eq os_eq (ve_var (pv 3) (.inl rfl)) ve_int (nomark _)) va_nil) (LenM.cons LenM.nil)) va_nil)))))) rfl)) ws_nil)
  (ws_cons (ws_if (vt_cmp op_lt os_cmp (ve_var (pv 2) (.inl rfl)) (ve_fld c_Sheet.cls c_Sheet.n_wide (ve_var (pv 0) (.inl rfl))) (nomark _)) (ws_one (ws_app (i := 4) (pv 4) (ve_tup (va_cons ve_str (va_cons (ve_var (pv 1) (.inl rfl)) (va_cons (ve_op op_addIS os_add (ve_var (pv 2) (.inl rfl)) ve_int) (va_cons ve_int (va_cons (ve_meth (pl := _) A_Sheet_gap c_Sheet.cls (hr.mono (by first | decide | omega)) (takes_of rfl rfl rfl rfl) (ve_var (pv 0) (.inl rfl)) (va_cons (ve_cmp op_eq os_eq (ve_var (pv 3) (.inl rfl)) ve_int (nomark _)) va_nil) (LenM.cons LenM.nil)) va_nil)))))) rfl)) ws_nil)
  (ws_one (ws_retV (pv 4) rfl)))))))⟩
theorem ok_rest_from {f : Addr} {fd : FuncData} (Fu : FunD K "rest_from" "rest_from" (defArgs s_rest_from) (defBody s_rest_from) (defScope s_rest_from) [] [] f fd) (hm : mg "rest_from" = some (.ref f)) (bl : BF mg) (xf : XF P w K mg base) (A_Sheet_ends : AvM P w K mg base (cs 1) "ends" ["self", "i", "j"] 2 (spM K none 3 0 (pureF (f_Sheet_ends cs)))) (A_steps_from : Av P w K mg base "steps_from" ["sheet", "i", "j", "came"] 2 (spM K none 4 1 (pureF (f_steps_from cs))))  (c_Sheet : CF_Sheet K (cs 1)) : Av P w K mg base "rest_from" ["sheet", "table", "i", "j", "came"] 3 (spM K none 5 0 (pureF (f_rest_from cs))) :=
  ⟨f, fd, hm, Fu.kp, (Fu.bindsN fun _ _ _ _ _ _ us hl => match us, hl with | [_, _, _, _, _], _ => rfl), def_ok0 (N := N_rest_from) (T := T_rest_from) (ms := m_rest_from cs) Fu sc_rest_from (by first | (exact fun _ _ => rfl) | decide) (fun cdv A outer s H E hr => by
      exact (ws_cons (ws_set (i := 5) ve_non rfl rfl sc_rest_from.nd)
  (ws_cons (ws_set (i := 6) ve_int rfl rfl sc_rest_from.nd)
  (ws_cons (ws_if (vt_val (ve_bo (k := 0) (ve_meth (pl := _) A_Sheet_ends c_Sheet.cls (hr.mono (by first | decide | omega)) (takes_of rfl rfl rfl rfl) (ve_var (pv 0) (.inl rfl)) (va_cons (ve_var (pv 2) (.inl rfl)) (va_cons (ve_var (pv 3) (.inl rfl)) va_nil)) (LenM.cons (LenM.cons LenM.nil))))) (ws_cons (ws_set (i := 5) ve_int rfl rfl sc_rest_from.nd)
  (ws_one (ws_set (i := 6) ve_int rfl rfl sc_rest_from.nd))) ws_nil)
  (ws_cons (ws_for (passes_of rfl) (vi_any (ve_frz (k := 1) (ve_callA A_steps_from (fun _ => ⟨_, rfl⟩) (hr.mono (by first | decide | omega)) (takes_of rfl rfl rfl rfl) (vc_all (va_cons (ve_var (pv 0) (.inl rfl)) (va_cons (ve_var (pv 2) (.inl rfl)) (va_cons (ve_var (pv 3) (.inl rfl)) (va_cons (ve_var (pv 4) (.inl rfl)) va_nil))))) (LenM.cons (LenM.cons (LenM.cons (LenM.cons LenM.nil))))))) (vg_tup rfl (vgs_cons (i := 7) ⟨rfl, rfl⟩ sc_rest_from.nd (vgs_cons (i := 8) ⟨rfl, rfl⟩ sc_rest_from.nd (vgs_cons (i := 9) ⟨rfl, rfl⟩ sc_rest_from.nd (vgs_cons (i := 10) ⟨rfl, rfl⟩ sc_rest_from.nd (vgs_cons (i := 11) ⟨rfl, rfl⟩ sc_rest_from.nd vgs_nil)))))) (ws_cons (ws_asg (ve_ix (ve_ix (ve_ix (ve_var (pv 1) (.inl rfl)) (ve_var (pv 8) (.inl rfl))) (ve_var (pv 9) (.inl rfl))) (ve_var (pv 10) (.inl rfl))) (vg_tup rfl (vgs_cons (i := 12) ⟨rfl, rfl⟩ sc_rest_from.nd (vgs_cons (i := 13) ⟨rfl, rfl⟩ sc_rest_from.nd vgs_nil))))
  (ws_one (ws_if ((vw_or (vt_cmp op_isN os_is (ve_var (pv 5) (.inl rfl)) ve_non (nomark _)) (vw_one_or (vt_cmp op_lt os_cmp (ve_op op_addIS os_add (ve_var (pv 11) (.inl rfl)) (ve_var (pv 12) (.inl rfl))) (ve_var (pv 5) (.inl rfl)) (nomark _))))).pt (ws_cons (ws_set (i := 5) (ve_op op_addIS os_add (ve_var (pv 11) (.inl rfl)) (ve_var (pv 12) (.inl rfl))) rfl rfl sc_rest_from.nd)
  (ws_one (ws_set (i := 6) (ve_var (pv 13) (.inl rfl)) rfl rfl sc_rest_from.nd))) (ws_one (ws_if (vt_cmp op_eq os_eq (ve_op op_addIS os_add (ve_var (pv 11) (.inl rfl)) (ve_var (pv 12) (.inl rfl))) (ve_var (pv 5) (.inl rfl)) (nomark _)) (ws_one (ws_aug (i := 6) iop_addIS os_add (ve_var (pv 13) (.inl rfl)) rfl rfl sc_rest_from.nd)) ws_nil))))))
  (ws_one (ws_ret (ve_tup (va_cons (ve_var (pv 5) (.inl rfl)) (va_cons (ve_var (pv 6) (.inl rfl)) va_nil))))))))))⟩
theorem ok_rest_table {f : Addr} {fd : FuncData} (Fu : FunD K "rest_table" "rest_table" (defArgs s_rest_table) (defBody s_rest_table) (defScope s_rest_table) [] [] f fd) (hm : mg "rest_table" = some (.ref f)) (bl : BF mg) (xf : XF P w K mg base) (A_rest_from : Av P w K mg base "rest_from" ["sheet", "table", "i", "j", "came"] 3 (spM K none 5 0 (pureF (f_rest_from cs))))  (c_Sheet : CF_Sheet K (cs 1)) : Av P w K mg base "rest_table" ["sheet"] 4 (spM K none 1 2 (pureF (f_rest_table cs))) :=
  ⟨f, fd, hm, Fu.kp, (Fu.bindsN fun _ _ _ _ _ _ us hl => match us, hl with | [_], _ => rfl), def_ok0 (N := N_rest_table) (T := T_rest_table) (ms := m_rest_table cs) Fu sc_rest_table (by first | (exact fun _ _ => rfl) | decide) (fun cdv A outer s H E hr => by
      exact (ws_cons (ws_set (i := 1) (ve_lc (own := [("i", 2)]) (vi_range1 bl.range_ (va_cons (ve_op op_addIS os_add (ve_fld c_Sheet.cls c_Sheet.n_high (ve_var (pv 0) (.inl rfl))) ve_int) va_nil)) (blkOk_by (own := [("i", 2)]) (N := N_rest_table) (sc := (defScope s_rest_table)) (by decide +kernel)) (fun _ _ _ _ _ => (vg_name (i := 2) ⟨rfl, rfl⟩ sc_rest_table.nd)) (fun _ _ _ _ _ => vts_nil) (fun _ _ _ _ _ => (ve_lc (own := [("j", 3)]) (vi_range1 bl.range_ (va_cons (ve_op op_addIS os_add (ve_fld c_Sheet.cls c_Sheet.n_wide (ve_var (pv 0) (.inl rfl))) ve_int) va_nil)) (blkOk_by (own := [("j", 3)]) (N := N_rest_table) (by kernel_rfl)) (fun _ _ _ _ _ => (vg_name (i := 3) ⟨rfl, rfl⟩ sc_rest_table.nd)) (fun _ _ _ _ _ => vts_nil) (fun _ _ _ _ _ => (ve_frz (k := 1) (ve_lst1 va_nil))) (by decide) (fun i hi => by first | rfl | (simp at hi; subst hi; rfl) | (simp at hi; rcases hi with hi | hi <;> subst hi <;> rfl)) sc_rest_table.nd)) (by decide) (fun i hi => by first | rfl | (simp at hi; subst hi; rfl) | (simp at hi; rcases hi with hi | hi <;> subst hi <;> rfl)) sc_rest_table.nd) rfl rfl sc_rest_table.nd)
  (ws_cons (ws_for (passes_of rfl) (vi_rev1 bl.reversed_ bl.range_ (ve_op op_addIS os_add (ve_fld c_Sheet.cls c_Sheet.n_high (ve_var (pv 0) (.inl rfl))) ve_int)) (vg_name (i := 2) ⟨rfl, rfl⟩ sc_rest_table.nd) (ws_one (ws_for (passes_of rfl) (vi_rev1 bl.reversed_ bl.range_ (ve_op op_addIS os_add (ve_fld c_Sheet.cls c_Sheet.n_wide (ve_var (pv 0) (.inl rfl))) ve_int)) (vg_name (i := 3) ⟨rfl, rfl⟩ sc_rest_table.nd) (ws_one (ws_seti (ve_frz (k := 1) (ve_lc (own := [("came", 4)]) (vi_range1 bl.range_ (va_cons ve_int va_nil)) (blkOk_by (own := [("came", 4)]) (N := N_rest_table) (sc := (defScope s_rest_table)) (by decide +kernel)) (fun _ _ _ _ _ => (vg_name (i := 4) ⟨rfl, rfl⟩ sc_rest_table.nd)) (fun _ _ _ _ _ => vts_nil) (fun _ _ _ _ _ => (ve_callAb A_rest_from (fun _ => ⟨_, rfl⟩) (hr.mono (by first | decide | omega)) takes0 (vc_all (va_cons (ve_var (pv 0) (.inl rfl)) (va_cons (ve_var (pv 1) (.inr rfl)) (va_cons (ve_var (pv 2) (.inl rfl)) (va_cons (ve_var (pv 3) (.inl rfl)) (va_cons (ve_var (pv 4) (.inl rfl)) va_nil)))))) (LenM.cons (LenM.cons (LenM.cons (LenM.cons (LenM.cons LenM.nil))))))) (by decide) (fun i hi => by first | rfl | (simp at hi; subst hi; rfl) | (simp at hi; rcases hi with hi | hi <;> subst hi <;> rfl)) sc_rest_table.nd)) (pl_ix (k := 0) (pv 1) (ve_var (pv 2) (.inl rfl)) rfl) plt_ix rfl (ve_var (pv 3) (.inl rfl)))))))
  (ws_one (ws_retV (pv 1) rfl)))))⟩
theorem ok_begins_of {f : Addr} {fd : FuncData} (Fu : FunD K "begins_of" "begins_of" (defArgs s_begins_of) (defBody s_begins_of) (defScope s_begins_of) [] [] f fd) (hm : mg "begins_of" = some (.ref f)) (bl : BF mg) (xf : XF P w K mg base) (A_Sheet_begins : AvM P w K mg base (cs 1) "begins" ["self", "i", "j"] 2 (spM K none 3 0 (pureF (f_Sheet_begins cs))))  (c_Sheet : CF_Sheet K (cs 1)) : Av P w K mg base "begins_of" ["sheet"] 3 (spM K none 1 1 (pureF (f_begins_of cs))) :=
  ⟨f, fd, hm, Fu.kp, (Fu.bindsN fun _ _ _ _ _ _ us hl => match us, hl with | [_], _ => rfl), def_ok0 (N := N_begins_of) (T := T_begins_of) (ms := m_begins_of cs) Fu sc_begins_of (by first | (exact fun _ _ => rfl) | decide) (fun cdv A outer s H E hr => by
      exact (ws_cons (ws_set (i := 1) (ve_lst1 va_nil) rfl rfl sc_begins_of.nd)
  (ws_cons (ws_for (passes_of rfl) (vi_range1 bl.range_ (va_cons (ve_op op_addIS os_add (ve_fld c_Sheet.cls c_Sheet.n_high (ve_var (pv 0) (.inl rfl))) ve_int) va_nil)) (vg_name (i := 2) ⟨rfl, rfl⟩ sc_begins_of.nd) (ws_one (ws_ext (pl_nil (k := 0) (pv 1) rfl) plt_nil rfl (ve_lc (own := [("j", 3)]) (vi_range1 bl.range_ (va_cons (ve_op op_addIS os_add (ve_fld c_Sheet.cls c_Sheet.n_wide (ve_var (pv 0) (.inl rfl))) ve_int) va_nil)) (blkOk_by (own := [("j", 3)]) (N := N_begins_of) (sc := (defScope s_begins_of)) (by decide +kernel)) (fun _ _ _ _ _ => (vg_name (i := 3) ⟨rfl, rfl⟩ sc_begins_of.nd)) (fun _ _ _ _ _ => (vts_one (vt_val (ve_bo (k := 0) (ve_meth (pl := _) A_Sheet_begins c_Sheet.cls (hr.mono (by first | decide | omega)) takes0 (ve_var (pv 0) (.inl rfl)) (va_cons (ve_var (pv 2) (.inl rfl)) (va_cons (ve_var (pv 3) (.inl rfl)) va_nil)) (LenM.cons (LenM.cons LenM.nil))))))) (fun _ _ _ _ _ => (ve_tup (va_cons (ve_var (pv 2) (.inl rfl)) (va_cons (ve_var (pv 3) (.inl rfl)) va_nil)))) (by decide) (fun i hi => by first | rfl | (simp at hi; subst hi; rfl) | (simp at hi; rcases hi with hi | hi <;> subst hi <;> rfl)) sc_begins_of.nd))))
  (ws_one (ws_retV (pv 1) rfl)))))⟩
theorem ok_least_of {f : Addr} {fd : FuncData} (Fu : FunD K "least_of" "least_of" (defArgs s_least_of) (defBody s_least_of) (defScope s_least_of) [] [] f fd) (hm : mg "least_of" = some (.ref f)) (bl : BF mg) (xf : XF P w K mg base) (A_begins_of : Av P w K mg base "begins_of" ["sheet"] 3 (spM K none 1 1 (pureF (f_begins_of cs))))   : Av P w K mg base "least_of" ["sheet", "table"] 4 (spM K none 2 0 (pureF (f_least_of cs))) :=
  ⟨f, fd, hm, Fu.kp, (Fu.bindsN fun _ _ _ _ _ _ us hl => match us, hl with | [_, _], _ => rfl), def_ok0 (N := N_least_of) (T := T_least_of) (ms := m_least_of cs) Fu sc_least_of (by first | (exact fun _ _ => rfl) | decide) (fun cdv A outer s H E hr => by
      exact (ws_one (ws_ret (ve_min bl.min_ (va_cons (ve_bo (k := 1) (ve_lc (own := [("i", 2), ("j", 3)]) (vi_any (ve_frz (k := 1) (ve_callA A_begins_of (fun _ => ⟨_, rfl⟩) (hr.mono (by first | decide | omega)) (takes_of rfl rfl rfl rfl) (vc_all (va_cons (ve_var (pv 0) (.inl rfl)) va_nil)) (LenM.cons LenM.nil)))) (blkOk_by (own := [("i", 2), ("j", 3)]) (N := N_least_of) (sc := (defScope s_least_of)) (by decide +kernel)) (fun _ _ _ _ _ => (vg_tup rfl (vgs_cons (i := 2) ⟨rfl, rfl⟩ sc_least_of.nd (vgs_cons (i := 3) ⟨rfl, rfl⟩ sc_least_of.nd vgs_nil)))) (fun _ _ _ _ _ => vts_nil) (fun _ _ _ _ _ => (ve_ix (ve_ix (ve_ix (ve_ix (ve_var (pv 1) (.inl rfl)) (ve_var (pv 2) (.inl rfl))) (ve_var (pv 3) (.inl rfl))) ve_int) ve_int)) (by decide) (fun i hi => by first | rfl | (simp at hi; subst hi; rfl) | (simp at hi; rcases hi with hi | hi <;> subst hi <;> rfl)) sc_least_of.nd)) va_nil)))))⟩
theorem ok_first_moves {f : Addr} {fd : FuncData} (Fu : FunD K "first_moves" "first_moves" (defArgs s_first_moves) (defBody s_first_moves) (defScope s_first_moves) [] [] f fd) (hm : mg "first_moves" = some (.ref f)) (bl : BF mg) (xf : XF P w K mg base) (A_Sheet_ends : AvM P w K mg base (cs 1) "ends" ["self", "i", "j"] 2 (spM K none 3 0 (pureF (f_Sheet_ends cs)))) (A_steps_from : Av P w K mg base "steps_from" ["sheet", "i", "j", "came"] 2 (spM K none 4 1 (pureF (f_steps_from cs))))  (c_Sheet : CF_Sheet K (cs 1)) : Av P w K mg base "first_moves" ["sheet", "table", "i", "j"] 3 (spM K none 4 0 (pureF (f_first_moves cs))) :=
  ⟨f, fd, hm, Fu.kp, (Fu.bindsN fun _ _ _ _ _ _ us hl => match us, hl with | [_, _, _, _], _ => rfl), def_ok0 (N := N_first_moves) (T := T_first_moves) (ms := m_first_moves cs) Fu sc_first_moves (by first | (exact fun _ _ => rfl) | decide) (fun cdv A outer s H E hr => by
      exact (ws_cons (ws_set (i := 4) ve_str rfl rfl sc_first_moves.nd)
  (ws_cons (ws_set (i := 5) ve_int rfl rfl sc_first_moves.nd)
  (ws_cons (ws_while (passes_of rfl) ((vw_or (vt_not (vt_val (ve_bo (k := 0) (ve_meth (pl := _) A_Sheet_ends c_Sheet.cls (hr.mono (by first | decide | omega)) (takes_of rfl rfl rfl rfl) (ve_var (pv 0) (.inl rfl)) (va_cons (ve_var (pv 2) (.inl rfl)) (va_cons (ve_var (pv 3) (.inl rfl)) va_nil)) (LenM.cons (LenM.cons LenM.nil)))))) (vw_one_or (vt_cmp op_ne os_ne (ve_ix (ve_ix (ve_ix (ve_ix (ve_var (pv 1) (.inl rfl)) (ve_var (pv 2) (.inl rfl))) (ve_var (pv 3) (.inl rfl))) (ve_var (pv 5) (.inl rfl))) ve_int) ve_int (nomark _))))).pt (ws_cons (ws_set (i := 6) (ve_ix (ve_ix (ve_ix (ve_ix (ve_var (pv 1) (.inl rfl)) (ve_var (pv 2) (.inl rfl))) (ve_var (pv 3) (.inl rfl))) (ve_var (pv 5) (.inl rfl))) ve_int) rfl rfl sc_first_moves.nd)
  (ws_one (ws_for (passes_of rfl) (vi_any (ve_frz (k := 1) (ve_callA A_steps_from (fun _ => ⟨_, rfl⟩) (hr.mono (by first | decide | omega)) (takes_of rfl rfl rfl rfl) (vc_all (va_cons (ve_var (pv 0) (.inl rfl)) (va_cons (ve_var (pv 2) (.inl rfl)) (va_cons (ve_var (pv 3) (.inl rfl)) (va_cons (ve_var (pv 5) (.inl rfl)) va_nil))))) (LenM.cons (LenM.cons (LenM.cons (LenM.cons LenM.nil))))))) (vg_tup rfl (vgs_cons (i := 7) ⟨rfl, rfl⟩ sc_first_moves.nd (vgs_cons (i := 8) ⟨rfl, rfl⟩ sc_first_moves.nd (vgs_cons (i := 9) ⟨rfl, rfl⟩ sc_first_moves.nd (vgs_cons (i := 10) ⟨rfl, rfl⟩ sc_first_moves.nd (vgs_cons (i := 11) ⟨rfl, rfl⟩ sc_first_moves.nd vgs_nil)))))) (ws_one (ws_if (vt_cmp op_eq os_eq (ve_op op_addIS os_add (ve_var (pv 11) (.inl rfl)) (ve_ix (ve_ix (ve_ix (ve_ix (ve_var (pv 1) (.inl rfl)) (ve_var (pv 8) (.inl rfl))) (ve_var (pv 9) (.inl rfl))) (ve_var (pv 10) (.inl rfl))) ve_int)) (ve_var (pv 6) (.inl rfl)) (nomark _)) (ws_cons (ws_aug (i := 4) iop_addIS os_add (ve_var (pv 7) (.inl rfl)) rfl rfl sc_first_moves.nd)
  (ws_cons (ws_par3 ⟨rfl, rfl⟩ ⟨rfl, rfl⟩ ⟨rfl, rfl⟩ (ps_par3 (i := 2) (j := 3) (l := 5) rfl sc_first_moves.nd rfl rfl rfl (by decide) (by decide) (by decide) rfl rfl rfl (va_cons (ve_var (pv 8) (.inl rfl)) (va_cons (ve_var (pv 9) (.inl rfl)) (va_cons (ve_var (pv 10) (.inl rfl)) va_nil))) (by rfl)))
  (ws_one ws_break))) ws_nil))))))
  (ws_one (ws_ret (ve_var (pv 4) (.inl rfl))))))))⟩
theorem fo_cheapest {f : Addr} {fd : FuncData} (Fu : FunD K "cheapest" "cheapest" (defArgs s_cheapest) (defBody s_cheapest) (defScope s_cheapest) [.str "whole"] [] f fd) (hm : mg "cheapest" = some (.ref f)) (bl : BF mg) (xf : XF P w K mg base) (A_begins_of : Av P w K mg base "begins_of" ["sheet"] 3 (spM K none 1 1 (pureF (f_begins_of cs)))) (A_first_moves : Av P w K mg base "first_moves" ["sheet", "table", "i", "j"] 3 (spM K none 4 0 (pureF (f_first_moves cs)))) (A_in_units : Av P w K mg base "in_units" ["prices", "number"] 3 (spM K none 2 0 (pureF (f_in_units cs)))) (A_least_of : Av P w K mg base "least_of" ["sheet", "table"] 4 (spM K none 2 0 (pureF (f_least_of cs)))) (A_rest_table : Av P w K mg base "rest_table" ["sheet"] 4 (spM K none 1 2 (pureF (f_rest_table cs)))) (A_sheet_of : Av P w K mg base "sheet_of" ["prices", "first", "second", "manner"] 4 (spM K none 4 0 (pureF (f_sheet_of cs))))   : FnOk P w K mg base (L2.CX P w) 5 f fd ["prices", "first", "second", "manner"] (spM K none 4 0 (pureF (f_cheapest cs))) :=
  def_ok0 (N := N_cheapest) (T := T_cheapest) (ms := m_cheapest cs) Fu sc_cheapest (by first | (exact fun _ _ => rfl) | decide) (fun cdv A outer s H E hr => by
      exact (ws_cons (ws_set (i := 4) (ve_callA A_sheet_of (fun _ => ⟨_, rfl⟩) (hr.mono (by first | decide | omega)) (takes_of rfl rfl rfl rfl) (vc_all (va_cons (ve_var (pv 0) (.inl rfl)) (va_cons (ve_var (pv 1) (.inl rfl)) (va_cons (ve_var (pv 2) (.inl rfl)) (va_cons (ve_var (pv 3) (.inl rfl)) va_nil))))) (LenM.cons (LenM.cons (LenM.cons (LenM.cons LenM.nil))))) rfl rfl sc_cheapest.nd)
  (ws_cons (ws_set (i := 5) (ve_frz (k := 2) (ve_callA A_rest_table (fun _ => ⟨_, rfl⟩) (hr.mono (by first | decide | omega)) (takes_of rfl rfl rfl rfl) (vc_all (va_cons (ve_var (pv 4) (.inl rfl)) va_nil)) (LenM.cons LenM.nil))) rfl rfl sc_cheapest.nd)
  (ws_cons (ws_set (i := 6) (ve_callA A_least_of (fun _ => ⟨_, rfl⟩) (hr.mono (by first | decide | omega)) (takes_of rfl rfl rfl rfl) (vc_all (va_cons (ve_var (pv 4) (.inl rfl)) (va_cons (ve_var (pv 5) (.inl rfl)) va_nil))) (LenM.cons (LenM.cons LenM.nil))) rfl rfl sc_cheapest.nd)
  (ws_cons (ws_setLc0 (i := 7) (own := [("place", 10)]) (vi_any (ve_frz (k := 1) (ve_callA A_begins_of (fun _ => ⟨_, rfl⟩) (hr.mono (by first | decide | omega)) (takes_of rfl rfl rfl rfl) (vc_all (va_cons (ve_var (pv 4) (.inl rfl)) va_nil)) (LenM.cons LenM.nil)))) (blkOk_by (own := [("place", 10)]) (N := N_cheapest) (sc := (defScope s_cheapest)) (by decide +kernel)) (fun _ _ _ _ _ => (vg_name (i := 10) ⟨rfl, rfl⟩ sc_cheapest.nd)) (fun _ _ _ _ _ => (vts_one (vt_cmp op_eq os_eq (ve_ix (ve_ix (ve_ix (ve_ix (ve_var (pv 5) (.inl rfl)) (ve_ix (ve_var (pv 10) (.inl rfl)) ve_int)) (ve_ix (ve_var (pv 10) (.inl rfl)) ve_int)) ve_int) ve_int) (ve_var (pv 6) (.inl rfl)) (nomark _)))) (fun _ _ _ _ _ => (ve_var (pv 10) (.inl rfl))) (by decide) (fun i hi => by first | rfl | (simp at hi; subst hi; rfl) | (simp at hi; rcases hi with hi | hi <;> subst hi <;> rfl)) rfl rfl sc_cheapest.nd rfl rfl (sw_true rfl rfl rfl (by decide +kernel)))
  (ws_cons (ws_asg (ve_ix (ve_var (pv 7) (.inl rfl)) ve_int) (vg_tup rfl (vgs_cons (i := 8) ⟨rfl, rfl⟩ sc_cheapest.nd (vgs_cons (i := 9) ⟨rfl, rfl⟩ sc_cheapest.nd vgs_nil))))
  (ws_one (ws_ret (ve_tup (va_cons (ve_callA A_in_units (fun _ => ⟨_, rfl⟩) (hr.mono (by first | decide | omega)) (takes_of rfl rfl rfl rfl) (vc_all (va_cons (ve_var (pv 0) (.inl rfl)) (va_cons (ve_var (pv 6) (.inl rfl)) va_nil))) (LenM.cons (LenM.cons LenM.nil))) (va_cons (ve_tup (va_cons (ve_var (pv 8) (.inl rfl)) (va_cons (ve_var (pv 9) (.inl rfl)) va_nil))) (va_cons (ve_callA A_first_moves (fun _ => ⟨_, rfl⟩) (hr.mono (by first | decide | omega)) (takes_of rfl rfl rfl rfl) (vc_all (va_cons (ve_var (pv 4) (.inl rfl)) (va_cons (ve_var (pv 5) (.inl rfl)) (va_cons (ve_var (pv 8) (.inl rfl)) (va_cons (ve_var (pv 9) (.inl rfl)) va_nil))))) (LenM.cons (LenM.cons (LenM.cons (LenM.cons LenM.nil))))) va_nil))))))))))))
theorem ok_cheapest {f : Addr} {fd : FuncData} (Fu : FunD K "cheapest" "cheapest" (defArgs s_cheapest) (defBody s_cheapest) (defScope s_cheapest) [.str "whole"] [] f fd) (hm : mg "cheapest" = some (.ref f)) (bl : BF mg) (xf : XF P w K mg base) (A_begins_of : Av P w K mg base "begins_of" ["sheet"] 3 (spM K none 1 1 (pureF (f_begins_of cs)))) (A_first_moves : Av P w K mg base "first_moves" ["sheet", "table", "i", "j"] 3 (spM K none 4 0 (pureF (f_first_moves cs)))) (A_in_units : Av P w K mg base "in_units" ["prices", "number"] 3 (spM K none 2 0 (pureF (f_in_units cs)))) (A_least_of : Av P w K mg base "least_of" ["sheet", "table"] 4 (spM K none 2 0 (pureF (f_least_of cs)))) (A_rest_table : Av P w K mg base "rest_table" ["sheet"] 4 (spM K none 1 2 (pureF (f_rest_table cs)))) (A_sheet_of : Av P w K mg base "sheet_of" ["prices", "first", "second", "manner"] 4 (spM K none 4 0 (pureF (f_sheet_of cs))))   : Av P w K mg base "cheapest" ["prices", "first", "second", "manner"] 5 (spM K none 4 0 (pureF (f_cheapest cs))) :=
  ⟨f, fd, hm, Fu.kp, (binds_all (Fu.binds1 4 1 (by simp) rfl fun T kV doc pm an cdv ct us its h1 h2 => match us, its, h1, h2 with | [_, _, _, _], [_], _, _ => ⟨_, rfl, rfl⟩)), fo_cheapest Fu hm bl xf A_begins_of A_first_moves A_in_units A_least_of A_rest_table A_sheet_of⟩
theorem okD_cheapest {f : Addr} {fd : FuncData} (Fu : FunD K "cheapest" "cheapest" (defArgs s_cheapest) (defBody s_cheapest) (defScope s_cheapest) [.str "whole"] [] f fd) (hm : mg "cheapest" = some (.ref f)) (bl : BF mg) (xf : XF P w K mg base) (A_begins_of : Av P w K mg base "begins_of" ["sheet"] 3 (spM K none 1 1 (pureF (f_begins_of cs)))) (A_first_moves : Av P w K mg base "first_moves" ["sheet", "table", "i", "j"] 3 (spM K none 4 0 (pureF (f_first_moves cs)))) (A_in_units : Av P w K mg base "in_units" ["prices", "number"] 3 (spM K none 2 0 (pureF (f_in_units cs)))) (A_least_of : Av P w K mg base "least_of" ["sheet", "table"] 4 (spM K none 2 0 (pureF (f_least_of cs)))) (A_rest_table : Av P w K mg base "rest_table" ["sheet"] 4 (spM K none 1 2 (pureF (f_rest_table cs)))) (A_sheet_of : Av P w K mg base "sheet_of" ["prices", "first", "second", "manner"] 4 (spM K none 4 0 (pureF (f_sheet_of cs))))   : AvD P w K mg base "cheapest" ["prices", "first", "second", "manner"] 5 (spM K none 4 0 (pureF (f_cheapest cs))) "whole" := by
  obtain ⟨ds, h1, h2⟩ := Fu.binds1 (ps := ["prices", "first", "second", "manner"]) 3 0 (by simp) rfl fun T kV doc pm an cdv ct us its h1 h2 => match us, its, h1, h2 with | [_, _, _], [_], _, _ => ⟨_, rfl, rfl⟩
  exact ⟨f, fd, ds, hm, Fu.kp, h1, h2, fo_cheapest Fu hm bl xf A_begins_of A_first_moves A_in_units A_least_of A_rest_table A_sheet_of⟩
theorem ok_count_of {f : Addr} {fd : FuncData} (Fu : FunD K "count_of" "count_of" (defArgs s_count_of) (defBody s_count_of) (defScope s_count_of) [] [] f fd) (hm : mg "count_of" = some (.ref f)) (bl : BF mg) (xf : XF P w K mg base) (A_begins_of : Av P w K mg base "begins_of" ["sheet"] 3 (spM K none 1 1 (pureF (f_begins_of cs)))) (A_least_of : Av P w K mg base "least_of" ["sheet", "table"] 4 (spM K none 2 0 (pureF (f_least_of cs)))) (A_rest_table : Av P w K mg base "rest_table" ["sheet"] 4 (spM K none 1 2 (pureF (f_rest_table cs)))) (A_sheet_of : Av P w K mg base "sheet_of" ["prices", "first", "second", "manner"] 4 (spM K none 4 0 (pureF (f_sheet_of cs))))   : Av P w K mg base "count_of" ["prices", "first", "second", "manner"] 5 (spM K none 4 0 (pureF (f_count_of cs))) :=
  ⟨f, fd, hm, Fu.kp, (Fu.bindsN fun _ _ _ _ _ _ us hl => match us, hl with | [_, _, _, _], _ => rfl), def_ok0 (N := N_count_of) (T := T_count_of) (ms := m_count_of cs) Fu sc_count_of (by first | (exact fun _ _ => rfl) | decide) (fun cdv A outer s H E hr => by
      exact (ws_cons (ws_set (i := 4) (ve_callA A_sheet_of (fun _ => ⟨_, rfl⟩) (hr.mono (by first | decide | omega)) (takes_of rfl rfl rfl rfl) (vc_all (va_cons (ve_var (pv 0) (.inl rfl)) (va_cons (ve_var (pv 1) (.inl rfl)) (va_cons (ve_var (pv 2) (.inl rfl)) (va_cons (ve_var (pv 3) (.inl rfl)) va_nil))))) (LenM.cons (LenM.cons (LenM.cons (LenM.cons LenM.nil))))) rfl rfl sc_count_of.nd)
  (ws_cons (ws_set (i := 5) (ve_frz (k := 2) (ve_callA A_rest_table (fun _ => ⟨_, rfl⟩) (hr.mono (by first | decide | omega)) (takes_of rfl rfl rfl rfl) (vc_all (va_cons (ve_var (pv 4) (.inl rfl)) va_nil)) (LenM.cons LenM.nil))) rfl rfl sc_count_of.nd)
  (ws_cons (ws_set (i := 6) (ve_callA A_least_of (fun _ => ⟨_, rfl⟩) (hr.mono (by first | decide | omega)) (takes_of rfl rfl rfl rfl) (vc_all (va_cons (ve_var (pv 4) (.inl rfl)) (va_cons (ve_var (pv 5) (.inl rfl)) va_nil))) (LenM.cons (LenM.cons LenM.nil))) rfl rfl sc_count_of.nd)
  (ws_one (ws_ret (ve_sum bl.sum_ (va_cons (ve_bo (k := 1) (ve_lc (own := [("i", 7), ("j", 8)]) (vi_any (ve_frz (k := 1) (ve_callA A_begins_of (fun _ => ⟨_, rfl⟩) (hr.mono (by first | decide | omega)) (takes_of rfl rfl rfl rfl) (vc_all (va_cons (ve_var (pv 4) (.inl rfl)) va_nil)) (LenM.cons LenM.nil)))) (blkOk_by (own := [("i", 7), ("j", 8)]) (N := N_count_of) (sc := (defScope s_count_of)) (by decide +kernel)) (fun _ _ _ _ _ => (vg_tup rfl (vgs_cons (i := 7) ⟨rfl, rfl⟩ sc_count_of.nd (vgs_cons (i := 8) ⟨rfl, rfl⟩ sc_count_of.nd vgs_nil)))) (fun _ _ _ _ _ => (vts_one (vt_cmp op_eq os_eq (ve_ix (ve_ix (ve_ix (ve_ix (ve_var (pv 5) (.inl rfl)) (ve_var (pv 7) (.inl rfl))) (ve_var (pv 8) (.inl rfl))) ve_int) ve_int) (ve_var (pv 6) (.inl rfl)) (nomark _)))) (fun _ _ _ _ _ => (ve_ix (ve_ix (ve_ix (ve_ix (ve_var (pv 5) (.inl rfl)) (ve_var (pv 7) (.inl rfl))) (ve_var (pv 8) (.inl rfl))) ve_int) ve_int)) (by decide) (fun i hi => by first | rfl | (simp at hi; subst hi; rfl) | (simp at hi; rcases hi with hi | hi <;> subst hi <;> rfl)) sc_count_of.nd)) va_nil))))))))⟩
theorem ok__law_next {f : Addr} {fd : FuncData} (Fu : FunD K "_law_next" "_law_next" (defArgs s__law_next) (defBody s__law_next) (defScope s__law_next) [] [] f fd) (hm : mg "_law_next" = some (.ref f)) (bl : BF mg) (xf : XF P w K mg base)    : Av P w K mg base "_law_next" ["_law_script", "_law_at"] 1 (spM K (some 1) 2 0 (f__law_next cs)) :=
  ⟨f, fd, hm, Fu.kp, (Fu.bindsN fun _ _ _ _ _ _ us hl => match us, hl with | [_, _], _ => rfl), def_okC (N := N__law_next) (T := T__law_next) (ms := m__law_next cs) 1 (by decide) Fu sc__law_next (by first | (exact fun _ _ => rfl) | decide) (fun cdv A outer s H E a hr => by
      exact (ws_cons (ws_cell (ve_op op_addIS os_add (ve_cell (pv 1) ⟨_, rfl, rfl⟩ pe_int) ve_int) (pv 1) ⟨_, rfl, rfl⟩ pe_int)
  (ws_cons (ws_set (i := 2) (ve_if (vt_cmp op_gt os_cmp (ve_len bl.len_ (va_cons (ve_var (pv 0) (.inl rfl)) va_nil)) ve_int (nomark _)) (ve_ix (ve_var (pv 0) (.inl rfl)) (ve_op op_mod os_mod (ve_cell (pv 1) ⟨_, rfl, rfl⟩ pe_int) (ve_len bl.len_ (va_cons (ve_var (pv 0) (.inl rfl)) va_nil)))) ve_int) rfl rfl sc__law_next.nd)
  (ws_cons (ws_set (i := 3) (ve_op op_mod os_mod (ve_op op_mulIW os_mul (ve_op op_addIS os_add (ve_op op_addIS os_add (ve_op op_mod os_mod (ve_var (pv 2) (.inl rfl)) ve_int) (ve_op op_mulIW os_mul (ve_op op_mulIW os_mul (ve_cell (pv 1) ⟨_, rfl, rfl⟩ pe_int) (ve_cell (pv 1) ⟨_, rfl, rfl⟩ pe_int)) ve_int)) ve_int) ve_int) ve_int) rfl rfl sc__law_next.nd)
  (ws_one (ws_ret (ve_op op_mod os_mod (ve_op op_mulIW os_mul (ve_var (pv 3) (.inl rfl)) (ve_var (pv 3) (.inl rfl))) ve_int)))))))⟩
theorem ok__law_great {f : Addr} {fd : FuncData} (Fu : FunD K "_law_great" "_law_great" (defArgs s__law_great) (defBody s__law_great) (defScope s__law_great) [] [] f fd) (hm : mg "_law_great" = some (.ref f)) (bl : BF mg) (xf : XF P w K mg base) (A__law_next : Av P w K mg base "_law_next" ["_law_script", "_law_at"] 1 (spM K (some 1) 2 0 (f__law_next cs)))   : Av P w K mg base "_law_great" ["_law_script", "_law_at"] 2 (spM K (some 1) 2 0 (f__law_great cs)) :=
  ⟨f, fd, hm, Fu.kp, (Fu.bindsN fun _ _ _ _ _ _ us hl => match us, hl with | [_, _], _ => rfl), def_okC (N := N__law_great) (T := T__law_great) (ms := m__law_great cs) 1 (by decide) Fu sc__law_great (by first | (exact fun _ _ => rfl) | decide) (fun cdv A outer s H E a hr => by
      exact (ws_cons (ws_set (i := 2) (ve_callA A__law_next (fun h => by cases h) (hr.mono (by first | decide | omega)) (takes_of rfl rfl rfl rfl) (vc_cons (ve_var (pv 0) (.inl rfl)) (vc_cell (pv 1) ⟨_, rfl, rfl⟩ (vc_all va_nil))) (LenM.cons (LenM.cons LenM.nil))) rfl rfl sc__law_great.nd)
  (ws_cons (ws_set (i := 3) (ve_if (vt_cmp op_gt os_cmp (ve_len bl.len_ (va_cons (ve_var (pv 0) (.inl rfl)) va_nil)) ve_int (nomark _)) (ve_ix (ve_var (pv 0) (.inl rfl)) (ve_op op_mod os_mod (ve_cell (pv 1) ⟨_, rfl, rfl⟩ pe_int) (ve_len bl.len_ (va_cons (ve_var (pv 0) (.inl rfl)) va_nil)))) ve_int) rfl rfl sc__law_great.nd)
  (ws_one (ws_ret (ve_op op_sub os_sub (ve_op op_mod os_mod (ve_op op_addIS os_add (ve_op op_mod os_mod (ve_var (pv 3) (.inl rfl)) (ve_op op_pow os_pow ve_int ve_int)) (ve_op op_mulIW os_mul (ve_var (pv 2) (.inl rfl)) (ve_op op_pow os_pow ve_int ve_int))) (ve_op op_mulIW os_mul ve_int (ve_op op_pow os_pow ve_int ve_int))) (ve_op op_pow os_pow ve_int ve_int)))))))⟩
theorem ok__law_signs {f : Addr} {fd : FuncData} (Fu : FunD K "_law_signs" "_law_signs" (defArgs s__law_signs) (defBody s__law_signs) (defScope s__law_signs) [] [] f fd) (hm : mg "_law_signs" = some (.ref f)) (bl : BF mg) (xf : XF P w K mg base) (A__law_next : Av P w K mg base "_law_next" ["_law_script", "_law_at"] 1 (spM K (some 1) 2 0 (f__law_next cs)))   : Av P w K mg base "_law_signs" ["_law_script", "_law_at", "_law_many"] 2 (spM K (some 1) 3 0 (f__law_signs cs)) :=
  ⟨f, fd, hm, Fu.kp, (Fu.bindsN fun _ _ _ _ _ _ us hl => match us, hl with | [_, _, _], _ => rfl), def_okC (N := N__law_signs) (T := T__law_signs) (ms := m__law_signs cs) 1 (by decide) Fu sc__law_signs (by first | (exact fun _ _ => rfl) | decide) (fun cdv A outer s H E a hr => by
      exact (ws_cons (ws_set (i := 3) ve_str rfl rfl sc__law_signs.nd)
  (ws_cons (ws_set (i := 3) (ve_op op_addIS os_add (ve_var (pv 3) (.inl rfl)) ve_str) rfl rfl sc__law_signs.nd)
  (ws_cons (ws_set (i := 4) (ve_callA A__law_next (fun h => by cases h) (hr.mono (by first | decide | omega)) (takes_of rfl rfl rfl rfl) (vc_cons (ve_var (pv 0) (.inl rfl)) (vc_cell (pv 1) ⟨_, rfl, rfl⟩ (vc_all va_nil))) (LenM.cons (LenM.cons LenM.nil))) rfl rfl sc__law_signs.nd)
  (ws_cons (ws_set (i := 5) (ve_ix (ve_frz (k := 1) (ve_lst1 (va_cons ve_int (va_cons ve_int (va_cons ve_int (va_cons ve_int (va_cons ve_int (va_cons ve_int va_nil)))))))) (ve_op op_mod os_mod (ve_var (pv 4) (.inl rfl)) ve_int)) rfl rfl sc__law_signs.nd)
  (ws_one (ws_ret (ve_join ve_str (ve_bo (k := 1) (ve_lc (own := [("_law_k", 6)]) (vi_range1 bl.range_ (va_cons (ve_var (pv 2) (.inl rfl)) va_nil)) (blkOk_by (own := [("_law_k", 6)]) (N := N__law_signs) (sc := (defScope s__law_signs)) (by decide +kernel)) (fun _ _ _ _ _ => (vg_name (i := 6) ⟨rfl, rfl⟩ sc__law_signs.nd)) (fun _ _ _ _ _ => vts_nil) (fun _ _ _ _ _ => (ve_ix (ve_var (pv 3) (.inl rfl)) (ve_op op_mod os_mod (ve_op op_addIS os_add (ve_op op_fdivW os_div (ve_var (pv 4) (.inl rfl)) ve_int) (ve_op op_mulIW os_mul (ve_var (pv 6) (.inl rfl)) (ve_var (pv 5) (.inl rfl)))) (ve_len bl.len_ (va_cons (ve_var (pv 3) (.inl rfl)) va_nil))))) (by decide) (fun i hi => by first | rfl | (simp at hi; subst hi; rfl) | (simp at hi; rcases hi with hi | hi <;> subst hi <;> rfl)) sc__law_signs.nd))))))))))⟩
theorem ok__law_price {f : Addr} {fd : FuncData} (Fu : FunD K "_law_price" "_law_price" (defArgs s__law_price) (defBody s__law_price) (defScope s__law_price) [] [] f fd) (hm : mg "_law_price" = some (.ref f)) (bl : BF mg) (xf : XF P w K mg base) (A__law_great : Av P w K mg base "_law_great" ["_law_script", "_law_at"] 2 (spM K (some 1) 2 0 (f__law_great cs))) (A__law_next : Av P w K mg base "_law_next" ["_law_script", "_law_at"] 1 (spM K (some 1) 2 0 (f__law_next cs)))   : Av P w K mg base "_law_price" ["_law_script", "_law_at", "_law_sort"] 3 (spM K (some 1) 3 0 (f__law_price cs)) :=
  ⟨f, fd, hm, Fu.kp, (Fu.bindsN fun _ _ _ _ _ _ us hl => match us, hl with | [_, _, _], _ => rfl), def_okC (N := N__law_price) (T := T__law_price) (ms := m__law_price cs) 1 (by decide) Fu sc__law_price (by first | (exact fun _ _ => rfl) | decide) (fun cdv A outer s H E a hr => by
      exact (ws_cons (ws_set (i := 3) (ve_callA A__law_next (fun h => by cases h) (hr.mono (by first | decide | omega)) (takes_of rfl rfl rfl rfl) (vc_cons (ve_var (pv 0) (.inl rfl)) (vc_cell (pv 1) ⟨_, rfl, rfl⟩ (vc_all va_nil))) (LenM.cons (LenM.cons LenM.nil))) rfl rfl sc__law_price.nd)
  (ws_cons (ws_if (vt_cmp op_eq os_eq (ve_var (pv 2) (.inl rfl)) ve_int (nomark _)) (ws_one (ws_ret (ve_tup (va_cons (ve_op op_sub os_sub (ve_op op_mod os_mod (ve_var (pv 3) (.inl rfl)) ve_int) ve_int) (va_cons ve_int va_nil))))) ws_nil)
  (ws_cons (ws_if (vt_cmp op_eq os_eq (ve_var (pv 2) (.inl rfl)) ve_int (nomark _)) (ws_one (ws_ret (ve_tup (va_cons (ve_op op_sub os_sub (ve_op op_mod os_mod (ve_var (pv 3) (.inl rfl)) ve_int) ve_int) (va_cons (ve_op op_addIS os_add ve_int (ve_op op_mod os_mod (ve_op op_fdivW os_div (ve_var (pv 3) (.inl rfl)) ve_int) ve_int)) va_nil))))) ws_nil)
  (ws_cons (ws_if (vt_cmp op_eq os_eq (ve_var (pv 2) (.inl rfl)) ve_int (nomark _)) (ws_one (ws_ret (ve_tup (va_cons (ve_op op_sub os_sub (ve_op op_mod os_mod (ve_var (pv 3) (.inl rfl)) ve_int) ve_int) (va_cons ve_int va_nil))))) ws_nil)
  (ws_one (ws_ret (ve_tup (va_cons (ve_callA A__law_great (fun h => by cases h) (hr.mono (by first | decide | omega)) (takes_of rfl rfl rfl rfl) (vc_cons (ve_var (pv 0) (.inl rfl)) (vc_cell (pv 1) ⟨_, rfl, rfl⟩ (vc_all va_nil))) (LenM.cons (LenM.cons LenM.nil))) (va_cons (ve_op op_addIS os_add ve_int (ve_op op_mod os_mod (ve_op op_fdivW os_div (ve_var (pv 3) (.inl rfl)) ve_int) ve_int)) va_nil))))))))))⟩
theorem ok__law_table {f : Addr} {fd : FuncData} (Fu : FunD K "_law_table" "_law_table" (defArgs s__law_table) (defBody s__law_table) (defScope s__law_table) [] [] f fd) (hm : mg "_law_table" = some (.ref f)) (bl : BF mg) (xf : XF P w K mg base) (A__law_next : Av P w K mg base "_law_next" ["_law_script", "_law_at"] 1 (spM K (some 1) 2 0 (f__law_next cs))) (A__law_price : Av P w K mg base "_law_price" ["_law_script", "_law_at", "_law_sort"] 3 (spM K (some 1) 3 0 (f__law_price cs))) (A__law_signs : Av P w K mg base "_law_signs" ["_law_script", "_law_at", "_law_many"] 2 (spM K (some 1) 3 0 (f__law_signs cs)))   : Av P w K mg base "_law_table" ["_law_script", "_law_at", "_law_many"] 4 (spM K (some 1) 3 0 (f__law_table cs)) :=
  ⟨f, fd, hm, Fu.kp, (Fu.bindsN fun _ _ _ _ _ _ us hl => match us, hl with | [_, _, _], _ => rfl), def_okC (N := N__law_table) (T := T__law_table) (ms := m__law_table cs) 1 (by decide) Fu sc__law_table (by first | (exact fun _ _ => rfl) | decide) (fun cdv A outer s H E a hr => by
      exact (ws_cons (ws_set (i := 3) (ve_callA A__law_next (fun h => by cases h) (hr.mono (by first | decide | omega)) (takes_of rfl rfl rfl rfl) (vc_cons (ve_var (pv 0) (.inl rfl)) (vc_cell (pv 1) ⟨_, rfl, rfl⟩ (vc_all va_nil))) (LenM.cons (LenM.cons LenM.nil))) rfl rfl sc__law_table.nd)
  (ws_cons (ws_set (i := 4) (ve_ix (ve_frz (k := 1) (ve_lst1 (va_cons ve_int (va_cons ve_int (va_cons ve_int (va_cons ve_int (va_cons ve_int (va_cons ve_int (va_cons ve_int (va_cons ve_int va_nil)))))))))) (ve_op op_mod os_mod (ve_var (pv 3) (.inl rfl)) ve_int)) rfl rfl sc__law_table.nd)
  (ws_cons (ws_set (i := 5) (ve_callA A__law_signs (fun h => by cases h) (hr.mono (by first | decide | omega)) (takes_of rfl rfl rfl rfl) (vc_cons (ve_var (pv 0) (.inl rfl)) (vc_cell (pv 1) ⟨_, rfl, rfl⟩ (vc_all (va_cons (ve_var (pv 2) (.inl rfl)) va_nil)))) (LenM.cons (LenM.cons (LenM.cons LenM.nil)))) rfl rfl sc__law_table.nd)
  (ws_cons (ws_setLc (i := 6) (own := [("_law_j", 8)]) (vi_range1 bl.range_ (va_cons (ve_var (pv 2) (.inl rfl)) va_nil)) (blkOk_by (own := [("_law_j", 8)]) (N := N__law_table) (sc := (defScope s__law_table)) (by decide +kernel)) (fun _ _ _ _ _ => (vg_name (i := 8) ⟨rfl, rfl⟩ sc__law_table.nd)) (fun _ _ _ _ _ => vts_nil) (fun _ _ _ _ _ => (ve_lc (own := [("_law_k", 7)]) (vi_range1 bl.range_ (va_cons (ve_var (pv 2) (.inl rfl)) va_nil)) (blkOk_by (own := [("_law_k", 7)]) (N := N__law_table) (by kernel_rfl)) (fun _ _ _ _ _ => (vg_name (i := 7) ⟨rfl, rfl⟩ sc__law_table.nd)) (fun _ _ _ _ _ => vts_nil) (fun _ _ _ _ _ => (ve_callA A__law_price (fun h => by cases h) (hr.mono (by first | decide | omega)) takes0 (vc_cons (ve_var (pv 0) (.inl rfl)) (vc_cell (pv 1) ⟨_, rfl, rfl⟩ (vc_all (va_cons (ve_var (pv 4) (.inl rfl)) va_nil)))) (LenM.cons (LenM.cons (LenM.cons LenM.nil))))) (by decide) (fun i hi => by first | rfl | (simp at hi; subst hi; rfl) | (simp at hi; rcases hi with hi | hi <;> subst hi <;> rfl)) sc__law_table.nd)) (by decide) (fun i hi => by first | rfl | (simp at hi; subst hi; rfl) | (simp at hi; rcases hi with hi | hi <;> subst hi <;> rfl)) rfl rfl sc__law_table.nd rfl rfl (sw_true rfl rfl rfl (by decide +kernel)))
  (ws_cons (ws_for (passes_of rfl) (vi_range1 bl.range_ (va_cons (ve_var (pv 2) (.inl rfl)) va_nil)) (vg_name (i := 7) ⟨rfl, rfl⟩ sc__law_table.nd) (ws_cons (ws_if (vt_cmp op_gt os_cmp (ve_op op_mod os_mod (ve_op op_fdivW os_div (ve_var (pv 3) (.inl rfl)) ve_int) ve_int) ve_int (nomark _)) (ws_one (ws_seti (ve_tup (va_cons (ve_op op_sub os_sub (ve_ix (ve_ix (ve_ix (ve_var (pv 6) (.inr rfl)) (ve_var (pv 7) (.inl rfl))) (ve_var (pv 7) (.inl rfl))) ve_int) ve_int) (va_cons (ve_flat (ve_ix (ve_ix (ve_ix (ve_var (pv 6) (.inr rfl)) (ve_var (pv 7) (.inl rfl))) (ve_var (pv 7) (.inl rfl))) ve_int)) va_nil))) (pl_ix (k := 0) (pv 6) (ve_var (pv 7) (.inl rfl)) rfl) plt_ix rfl (ve_var (pv 7) (.inl rfl)))) ws_nil)
  (ws_one (ws_for (passes_of rfl) (vi_range1 bl.range_ (va_cons (ve_var (pv 7) (.inl rfl)) va_nil)) (vg_name (i := 8) ⟨rfl, rfl⟩ sc__law_table.nd) (ws_one (ws_if (vt_cmp op_eq os_eq (ve_op op_mod os_mod (ve_op op_fdivW os_div (ve_var (pv 3) (.inl rfl)) ve_int) ve_int) ve_int (nomark _)) (ws_one (ws_seti (ve_flat (ve_ix (ve_ix (ve_var (pv 6) (.inr rfl)) (ve_var (pv 8) (.inl rfl))) (ve_var (pv 7) (.inl rfl)))) (pl_ix (k := 0) (pv 6) (ve_var (pv 7) (.inl rfl)) rfl) plt_ix rfl (ve_var (pv 8) (.inl rfl)))) ws_nil))))))
  (ws_cons (ws_set (i := 9) (ve_if (vt_cmp op_gt os_cmp (ve_op op_mod os_mod (ve_op op_fdivW os_div (ve_var (pv 3) (.inl rfl)) ve_int) ve_int) ve_int (nomark _)) (ve_tup (va_cons (ve_op op_mod os_mod (ve_op op_fdivW os_div (ve_var (pv 3) (.inl rfl)) ve_int) ve_int) (va_cons ve_int va_nil))) (ve_callA A__law_price (fun h => by cases h) (hr.mono (by first | decide | omega)) (takes_of rfl rfl rfl rfl) (vc_cons (ve_var (pv 0) (.inl rfl)) (vc_cell (pv 1) ⟨_, rfl, rfl⟩ (vc_all (va_cons (ve_var (pv 4) (.inl rfl)) va_nil)))) (LenM.cons (LenM.cons (LenM.cons LenM.nil))))) rfl rfl sc__law_table.nd)
  (ws_cons (ws_set (i := 10) (ve_if (vt_cmp op_gt os_cmp (ve_op op_mod os_mod (ve_op op_fdivW os_div (ve_var (pv 3) (.inl rfl)) ve_int) ve_int) ve_int (nomark _)) (ve_tup (va_cons (ve_op op_mod os_mod (ve_op op_fdivW os_div (ve_var (pv 3) (.inl rfl)) ve_int) ve_int) (va_cons ve_int va_nil))) (ve_callA A__law_price (fun h => by cases h) (hr.mono (by first | decide | omega)) (takes_of rfl rfl rfl rfl) (vc_cons (ve_var (pv 0) (.inl rfl)) (vc_cell (pv 1) ⟨_, rfl, rfl⟩ (vc_all (va_cons (ve_var (pv 4) (.inl rfl)) va_nil)))) (LenM.cons (LenM.cons (LenM.cons LenM.nil))))) rfl rfl sc__law_table.nd)
  (ws_one (ws_ret (ve_tup (va_cons (ve_var (pv 5) (.inl rfl)) (va_cons (ve_var (pv 6) (.inl rfl)) (va_cons (ve_var (pv 9) (.inl rfl)) (va_cons (ve_var (pv 10) (.inl rfl)) va_nil)))))))))))))))⟩
theorem ok__law_prices {f : Addr} {fd : FuncData} (Fu : FunD K "_law_prices" "_law_prices" (defArgs s__law_prices) (defBody s__law_prices) (defScope s__law_prices) [] [] f fd) (hm : mg "_law_prices" = some (.ref f)) (bl : BF mg) (xf : XF P w K mg base) (A_Prices_init : AvC P w K mg base "Prices" (cs 0) ["self", "signs", "pairs", "opening", "more"] 4 (spI K (cs 0) 4 2 (f_Prices_init cs))) (A__law_next : Av P w K mg base "_law_next" ["_law_script", "_law_at"] 1 (spM K (some 1) 2 0 (f__law_next cs))) (A__law_table : Av P w K mg base "_law_table" ["_law_script", "_law_at", "_law_many"] 4 (spM K (some 1) 3 0 (f__law_table cs)))   : Av P w K mg base "_law_prices" ["_law_script", "_law_at"] 6 (spM K (some 1) 2 0 (f__law_prices cs)) :=
  ⟨f, fd, hm, Fu.kp, (Fu.bindsN fun _ _ _ _ _ _ us hl => match us, hl with | [_, _], _ => rfl), def_okC (N := N__law_prices) (T := T__law_prices) (ms := m__law_prices cs) 1 (by decide) Fu sc__law_prices (by first | (exact fun _ _ => rfl) | decide) (fun cdv A outer s H E a hr => by
      exact (ws_cons (ws_asg (ve_callA A__law_table (fun h => by cases h) (hr.mono (by first | decide | omega)) (takes_of rfl rfl rfl rfl) (vc_cons (ve_var (pv 0) (.inl rfl)) (vc_cell (pv 1) ⟨_, rfl, rfl⟩ (vc_all (va_cons (ve_op op_addIS os_add ve_int (ve_op op_mod os_mod (ve_bo (k := 0) (ve_callA A__law_next (fun h => by cases h) (hr.mono (by first | decide | omega)) (takes_of rfl rfl rfl rfl) (vc_cons (ve_var (pv 0) (.inl rfl)) (vc_cell (pv 1) ⟨_, rfl, rfl⟩ (vc_all va_nil))) (LenM.cons (LenM.cons LenM.nil)))) ve_int)) va_nil)))) (LenM.cons (LenM.cons (LenM.cons LenM.nil)))) (vg_tup rfl (vgs_cons (i := 2) ⟨rfl, rfl⟩ sc__law_prices.nd (vgs_cons (i := 3) ⟨rfl, rfl⟩ sc__law_prices.nd (vgs_cons (i := 4) ⟨rfl, rfl⟩ sc__law_prices.nd (vgs_cons (i := 5) ⟨rfl, rfl⟩ sc__law_prices.nd vgs_nil))))))
  (ws_one (ws_ret (ve_frz (k := 2) (ve_make A_Prices_init (hr.mono (by first | decide | omega)) (takes_of rfl rfl rfl rfl) (va_cons (ve_var (pv 2) (.inl rfl)) (va_cons (ve_var (pv 3) (.inl rfl)) (va_cons (ve_var (pv 4) (.inl rfl)) (va_cons (ve_var (pv 5) (.inl rfl)) va_nil)))) (LenM.cons (LenM.cons (LenM.cons (LenM.cons LenM.nil))))))))))⟩
theorem ok__law_row {f : Addr} {fd : FuncData} (Fu : FunD K "_law_row" "_law_row" (defArgs s__law_row) (defBody s__law_row) (defScope s__law_row) [] [] f fd) (hm : mg "_law_row" = some (.ref f)) (bl : BF mg) (xf : XF P w K mg base) (A__law_next : Av P w K mg base "_law_next" ["_law_script", "_law_at"] 1 (spM K (some 1) 2 0 (f__law_next cs)))   : Av P w K mg base "_law_row" ["_law_script", "_law_at", "_law_signs_here", "_law_most"] 2 (spM K (some 1) 4 0 (f__law_row cs)) :=
  ⟨f, fd, hm, Fu.kp, (Fu.bindsN fun _ _ _ _ _ _ us hl => match us, hl with | [_, _, _, _], _ => rfl), def_okC (N := N__law_row) (T := T__law_row) (ms := m__law_row cs) 1 (by decide) Fu sc__law_row (by first | (exact fun _ _ => rfl) | decide) (fun cdv A outer s H E a hr => by
      exact (ws_cons (ws_set (i := 4) (ve_callA A__law_next (fun h => by cases h) (hr.mono (by first | decide | omega)) (takes_of rfl rfl rfl rfl) (vc_cons (ve_var (pv 0) (.inl rfl)) (vc_cell (pv 1) ⟨_, rfl, rfl⟩ (vc_all va_nil))) (LenM.cons (LenM.cons LenM.nil))) rfl rfl sc__law_row.nd)
  (ws_cons (ws_set (i := 5) (ve_op op_mod os_mod (ve_op op_fdivW os_div (ve_var (pv 4) (.inl rfl)) ve_int) ve_int) rfl rfl sc__law_row.nd)
  (ws_cons (ws_set (i := 6) ve_str rfl rfl sc__law_row.nd)
  (ws_cons (ws_for (passes_of rfl) (vi_range1 bl.range_ (va_cons (ve_op op_mod os_mod (ve_var (pv 4) (.inl rfl)) (ve_op op_addIS os_add (ve_var (pv 3) (.inl rfl)) ve_int)) va_nil)) (vg_name (i := 7) ⟨rfl, rfl⟩ sc__law_row.nd) (ws_cons (ws_if (vt_cmp op_gt os_cmp (ve_var (pv 5) (.inl rfl)) ve_int (nomark _)) (ws_one (ws_set (i := 4) (ve_callA A__law_next (fun h => by cases h) (hr.mono (by first | decide | omega)) (takes_of rfl rfl rfl rfl) (vc_cons (ve_var (pv 0) (.inl rfl)) (vc_cell (pv 1) ⟨_, rfl, rfl⟩ (vc_all va_nil))) (LenM.cons (LenM.cons LenM.nil))) rfl rfl sc__law_row.nd)) ws_nil)
  (ws_one (ws_set (i := 6) (ve_op op_addIS os_add (ve_var (pv 6) (.inl rfl)) (ve_ix (ve_var (pv 2) (.inl rfl)) (ve_op op_mod os_mod (ve_op op_fdivW os_div (ve_var (pv 4) (.inl rfl)) ve_int) (ve_len bl.len_ (va_cons (ve_var (pv 2) (.inl rfl)) va_nil))))) rfl rfl sc__law_row.nd))))
  (ws_one (ws_ret (ve_var (pv 6) (.inl rfl)))))))))⟩
theorem ok__law_manner {f : Addr} {fd : FuncData} (Fu : FunD K "_law_manner" "_law_manner" (defArgs s__law_manner) (defBody s__law_manner) (defScope s__law_manner) [] [] f fd) (hm : mg "_law_manner" = some (.ref f)) (bl : BF mg) (xf : XF P w K mg base)    : Av P w K mg base "_law_manner" ["_law_m"] 1 (spM K none 1 0 (pureF (f__law_manner cs))) :=
  ⟨f, fd, hm, Fu.kp, (Fu.bindsN fun _ _ _ _ _ _ us hl => match us, hl with | [_], _ => rfl), def_ok0 (N := N__law_manner) (T := T__law_manner) (ms := m__law_manner cs) Fu sc__law_manner (by first | (exact fun _ _ => rfl) | decide) (fun cdv A outer s H E hr => by
      exact (ws_one (ws_ret (ve_ix (ve_frz (k := 1) (ve_lst1 (va_cons ve_str (va_cons ve_str (va_cons ve_str (va_cons ve_str va_nil)))))) (ve_op op_mod os_mod (ve_var (pv 0) (.inl rfl)) ve_int)))))⟩
theorem ok__law_same {f : Addr} {fd : FuncData} (Fu : FunD K "_law_same" "_law_same" (defArgs s__law_same) (defBody s__law_same) (defScope s__law_same) [] [] f fd) (hm : mg "_law_same" = some (.ref f)) (bl : BF mg) (xf : XF P w K mg base)    : ∀ k : Nat, Av P w K mg base "_law_same" ["_law_found", "_law_due"] (0 + k + 1) (spM K none 2 0 (pureF (f__law_same cs k)))
  | 0 => ⟨f, fd, hm, Fu.kp, (Fu.bindsN fun _ _ _ _ _ _ us hl => match us, hl with | [_, _], _ => rfl), ⟨fun vs H Q E h => h.1, fun A outer s H args us vs Q E hr e0 hb r h => by
      obtain ⟨_, _, _, _, _, _, _, _, _, _, h⟩ := h
      exact h.elim⟩⟩
  | k + 1 => ⟨f, fd, hm, Fu.kp, (Fu.bindsN fun _ _ _ _ _ _ us hl => match us, hl with | [_, _], _ => rfl), def_ok0 (N := N__law_same) (T := T__law_same) (ms := m__law_same cs (f__law_same cs k)) Fu sc__law_same (by first | (exact fun _ _ => rfl) | decide) (fun cdv A outer s H E hr => by
      have ih := ok__law_same Fu hm bl xf  k
      exact (ws_cons (ws_if ((vw_or (vt_val (ve_isi (T := "list") bl.isinstance_ bl.list_ PyProof.Rows.boot_list rfl (ve_var (pv 1) (.inl rfl)))) (vw_one_or (vt_val (ve_isi (T := "tuple") bl.isinstance_ bl.tuple_ PyProof.Rows.boot_tuple rfl (ve_var (pv 1) (.inl rfl))))))).pt (ws_cons (ws_if ((vw_or (vt_cmp op_ne os_ne (ve_isi (T := "list") bl.isinstance_ bl.list_ PyProof.Rows.boot_list rfl (ve_var (pv 0) (.inl rfl))) (ve_isi (T := "list") bl.isinstance_ bl.list_ PyProof.Rows.boot_list rfl (ve_var (pv 1) (.inl rfl))) (nomark _)) (vw_one_or (vt_cmp op_ne os_ne (ve_isi (T := "tuple") bl.isinstance_ bl.tuple_ PyProof.Rows.boot_tuple rfl (ve_var (pv 0) (.inl rfl))) (ve_isi (T := "tuple") bl.isinstance_ bl.tuple_ PyProof.Rows.boot_tuple rfl (ve_var (pv 1) (.inl rfl))) (nomark _))))).pt (ws_one (ws_ret ve_bl)) ws_nil)
  (ws_one (ws_ret (ve_and (ve_cmp op_eq os_eq (ve_len bl.len_ (va_cons (ve_var (pv 0) (.inl rfl)) va_nil)) (ve_len bl.len_ (va_cons (ve_var (pv 1) (.inl rfl)) va_nil)) (nomark _)) (ve_one (ve_all bl.all_ (va_cons (ve_bo (k := 1) (ve_lc (own := [("_law_a", 2), ("_law_b", 3)]) (vi_zip2 bl.zip_ (va_cons (ve_var (pv 0) (.inl rfl)) (va_cons (ve_var (pv 1) (.inl rfl)) va_nil))) (blkOk_by (own := [("_law_a", 2), ("_law_b", 3)]) (N := N__law_same) (sc := (defScope s__law_same)) (by decide +kernel)) (fun _ _ _ _ _ => (vg_tup rfl (vgs_cons (i := 2) ⟨rfl, rfl⟩ sc__law_same.nd (vgs_cons (i := 3) ⟨rfl, rfl⟩ sc__law_same.nd vgs_nil)))) (fun _ _ _ _ _ => vts_nil) (fun _ _ _ _ _ => (ve_callA ih (fun _ => ⟨_, rfl⟩) (hr.mono (by omega)) takes0 (vc_all (va_cons (ve_var (pv 2) (.inl rfl)) (va_cons (ve_var (pv 3) (.inl rfl)) va_nil))) (LenM.cons (LenM.cons LenM.nil)))) (by decide) (fun i hi => by first | rfl | (simp at hi; subst hi; rfl) | (simp at hi; rcases hi with hi | hi <;> subst hi <;> rfl)) sc__law_same.nd)) va_nil))))))) ws_nil)
  (ws_cons (ws_if (vt_cmp op_isN os_is (ve_var (pv 1) (.inl rfl)) ve_non (nomark _)) (ws_one (ws_ret (ve_cmp op_isN os_is (ve_var (pv 0) (.inl rfl)) ve_non (nomark _)))) ws_nil)
  (ws_cons (ws_if (vt_val (ve_isi (T := "str") bl.isinstance_ bl.str_ PyProof.Rows.boot_str rfl (ve_var (pv 1) (.inl rfl)))) (ws_one (ws_ret (ve_and (ve_isi (T := "str") bl.isinstance_ bl.str_ PyProof.Rows.boot_str rfl (ve_var (pv 0) (.inl rfl))) (ve_one (ve_cmp op_eq os_eq (ve_var (pv 0) (.inl rfl)) (ve_var (pv 1) (.inl rfl)) (nomark _)))))) ws_nil)
  (ws_one (ws_ret (ve_and (ve_isi (T := "int") bl.isinstance_ bl.int_ PyProof.Rows.boot_int rfl (ve_var (pv 0) (.inl rfl))) (ve_and (ve_not (ve_isi (T := "bool") bl.isinstance_ bl.bool_ PyProof.Rows.boot_bool rfl (ve_var (pv 0) (.inl rfl)))) (ve_one (ve_cmp op_eq os_eq (ve_var (pv 0) (.inl rfl)) (ve_var (pv 1) (.inl rfl)) (nomark _)))))))))))⟩
theorem ok__law_gap {f : Addr} {fd : FuncData} (Fu : FunD K "_law_gap" "_law_gap" (defArgs s__law_gap) (defBody s__law_gap) (defScope s__law_gap) [] [] f fd) (hm : mg "_law_gap" = some (.ref f)) (bl : BF mg) (xf : XF P w K mg base) (A_more_cost : Av P w K mg base "more_cost" ["prices"] 1 (spM K none 1 0 (pureF (f_more_cost cs)))) (A_opening_cost : Av P w K mg base "opening_cost" ["prices"] 1 (spM K none 1 0 (pureF (f_opening_cost cs))))   : Av P w K mg base "_law_gap" ["_law_prices_here", "_law_goes_on"] 2 (spM K none 2 0 (pureF (f__law_gap cs))) :=
  ⟨f, fd, hm, Fu.kp, (Fu.bindsN fun _ _ _ _ _ _ us hl => match us, hl with | [_, _], _ => rfl), def_ok0 (N := N__law_gap) (T := T__law_gap) (ms := m__law_gap cs) Fu sc__law_gap (by first | (exact fun _ _ => rfl) | decide) (fun cdv A outer s H E hr => by
      exact (ws_one (ws_ret (ve_if (vt_val (ve_var (pv 1) (.inl rfl))) (ve_callA A_more_cost (fun _ => ⟨_, rfl⟩) (hr.mono (by first | decide | omega)) (takes_of rfl rfl rfl rfl) (vc_all (va_cons (ve_var (pv 0) (.inl rfl)) va_nil)) (LenM.cons LenM.nil)) (ve_op op_addIS os_add (ve_bo (k := 0) (ve_callA A_opening_cost (fun _ => ⟨_, rfl⟩) (hr.mono (by first | decide | omega)) (takes_of rfl rfl rfl rfl) (vc_all (va_cons (ve_var (pv 0) (.inl rfl)) va_nil)) (LenM.cons LenM.nil))) (ve_bo (k := 0) (ve_callA A_more_cost (fun _ => ⟨_, rfl⟩) (hr.mono (by first | decide | omega)) (takes_of rfl rfl rfl rfl) (vc_all (va_cons (ve_var (pv 0) (.inl rfl)) va_nil)) (LenM.cons LenM.nil))))))))⟩
theorem ok__law_walk {f : Addr} {fd : FuncData} (Fu : FunD K "_law_walk" "_law_walk" (defArgs s__law_walk) (defBody s__law_walk) (defScope s__law_walk) [] [] f fd) (hm : mg "_law_walk" = some (.ref f)) (bl : BF mg) (xf : XF P w K mg base) (A__law_gap : Av P w K mg base "_law_gap" ["_law_prices_here", "_law_goes_on"] 2 (spM K none 2 0 (pureF (f__law_gap cs)))) (A_pair_cost : Av P w K mg base "pair_cost" ["prices", "one", "other"] 1 (spM K none 3 0 (pureF (f_pair_cost cs))))   : Av P w K mg base "_law_walk" ["_law_prices_here", "_law_first", "_law_second", "_law_begin", "_law_moves"] 3 (spM K none 5 0 (pureF (f__law_walk cs))) :=
  ⟨f, fd, hm, Fu.kp, (Fu.bindsN fun _ _ _ _ _ _ us hl => match us, hl with | [_, _, _, _, _], _ => rfl), def_ok0 (N := N__law_walk) (T := T__law_walk) (ms := m__law_walk cs) Fu sc__law_walk (by first | (exact fun _ _ => rfl) | decide) (fun cdv A outer s H E hr => by
      exact (ws_cons (ws_asg (ve_var (pv 3) (.inl rfl)) (vg_tup rfl (vgs_cons (i := 5) ⟨rfl, rfl⟩ sc__law_walk.nd (vgs_cons (i := 6) ⟨rfl, rfl⟩ sc__law_walk.nd vgs_nil))))
  (ws_cons (ws_set (i := 7) ve_int rfl rfl sc__law_walk.nd)
  (ws_cons (ws_set (i := 8) ve_str rfl rfl sc__law_walk.nd)
  (ws_cons (ws_for (passes_of rfl) (vi_any (ve_var (pv 4) (.inl rfl))) (vg_name (i := 9) ⟨rfl, rfl⟩ sc__law_walk.nd) (ws_cons (ws_if ((vw_and (vt_cmp op_eq os_eq (ve_var (pv 9) (.inl rfl)) ve_str (nomark _)) (vw_and (vt_cmp op_lt os_cmp (ve_var (pv 5) (.inl rfl)) (ve_len bl.len_ (va_cons (ve_var (pv 1) (.inl rfl)) va_nil)) (nomark _)) (vw_one_and (vt_cmp op_lt os_cmp (ve_var (pv 6) (.inl rfl)) (ve_len bl.len_ (va_cons (ve_var (pv 2) (.inl rfl)) va_nil)) (nomark _)))))).pt (ws_cons (ws_set (i := 7) (ve_op op_addIS os_add (ve_var (pv 7) (.inl rfl)) (ve_bo (k := 0) (ve_callA A_pair_cost (fun _ => ⟨_, rfl⟩) (hr.mono (by first | decide | omega)) (takes_of rfl rfl rfl rfl) (vc_all (va_cons (ve_var (pv 0) (.inl rfl)) (va_cons (ve_ix (ve_var (pv 1) (.inl rfl)) (ve_var (pv 5) (.inl rfl))) (va_cons (ve_ix (ve_var (pv 2) (.inl rfl)) (ve_var (pv 6) (.inl rfl))) va_nil)))) (LenM.cons (LenM.cons (LenM.cons LenM.nil)))))) rfl rfl sc__law_walk.nd)
  (ws_one (ws_par ⟨rfl, rfl⟩ ⟨rfl, rfl⟩ (ps_par (i := 5) (j := 6) rfl sc__law_walk.nd rfl rfl (by decide) rfl rfl (va_cons (ve_op op_addIS os_add (ve_var (pv 5) (.inl rfl)) ve_int) (va_cons (ve_op op_addIS os_add (ve_var (pv 6) (.inl rfl)) ve_int) va_nil)) (by rfl))))) (ws_one (ws_if ((vw_and (vt_cmp op_eq os_eq (ve_var (pv 9) (.inl rfl)) ve_str (nomark _)) (vw_one_and (vt_cmp op_lt os_cmp (ve_var (pv 5) (.inl rfl)) (ve_len bl.len_ (va_cons (ve_var (pv 1) (.inl rfl)) va_nil)) (nomark _))))).pt (ws_cons (ws_set (i := 7) (ve_op op_addIS os_add (ve_var (pv 7) (.inl rfl)) (ve_bo (k := 0) (ve_callA A__law_gap (fun _ => ⟨_, rfl⟩) (hr.mono (by first | decide | omega)) (takes_of rfl rfl rfl rfl) (vc_all (va_cons (ve_var (pv 0) (.inl rfl)) (va_cons (ve_cmp op_eq os_eq (ve_var (pv 8) (.inl rfl)) ve_str (nomark _)) va_nil))) (LenM.cons (LenM.cons LenM.nil))))) rfl rfl sc__law_walk.nd)
  (ws_one (ws_set (i := 5) (ve_op op_addIS os_add (ve_var (pv 5) (.inl rfl)) ve_int) rfl rfl sc__law_walk.nd))) (ws_one (ws_if ((vw_and (vt_cmp op_eq os_eq (ve_var (pv 9) (.inl rfl)) ve_str (nomark _)) (vw_one_and (vt_cmp op_lt os_cmp (ve_var (pv 6) (.inl rfl)) (ve_len bl.len_ (va_cons (ve_var (pv 2) (.inl rfl)) va_nil)) (nomark _))))).pt (ws_cons (ws_set (i := 7) (ve_op op_addIS os_add (ve_var (pv 7) (.inl rfl)) (ve_bo (k := 0) (ve_callA A__law_gap (fun _ => ⟨_, rfl⟩) (hr.mono (by first | decide | omega)) (takes_of rfl rfl rfl rfl) (vc_all (va_cons (ve_var (pv 0) (.inl rfl)) (va_cons (ve_cmp op_eq os_eq (ve_var (pv 8) (.inl rfl)) ve_str (nomark _)) va_nil))) (LenM.cons (LenM.cons LenM.nil))))) rfl rfl sc__law_walk.nd)
  (ws_one (ws_set (i := 6) (ve_op op_addIS os_add (ve_var (pv 6) (.inl rfl)) ve_int) rfl rfl sc__law_walk.nd))) (ws_one (ws_ret ve_non)))))))
  (ws_one (ws_set (i := 8) (ve_var (pv 9) (.inl rfl)) rfl rfl sc__law_walk.nd))))
  (ws_one (ws_ret (ve_tup (va_cons (ve_var (pv 7) (.inl rfl)) (va_cons (ve_tup (va_cons (ve_var (pv 5) (.inl rfl)) (va_cons (ve_var (pv 6) (.inl rfl)) va_nil))) va_nil))))))))))⟩
theorem ok__law_may_begin {f : Addr} {fd : FuncData} (Fu : FunD K "_law_may_begin" "_law_may_begin" (defArgs s__law_may_begin) (defBody s__law_may_begin) (defScope s__law_may_begin) [] [] f fd) (hm : mg "_law_may_begin" = some (.ref f)) (bl : BF mg) (xf : XF P w K mg base)    : Av P w K mg base "_law_may_begin" ["_law_manner_here", "_law_i", "_law_j"] 1 (spM K none 3 0 (pureF (f__law_may_begin cs))) :=
  ⟨f, fd, hm, Fu.kp, (Fu.bindsN fun _ _ _ _ _ _ us hl => match us, hl with | [_, _, _], _ => rfl), def_ok0 (N := N__law_may_begin) (T := T__law_may_begin) (ms := m__law_may_begin cs) Fu sc__law_may_begin (by first | (exact fun _ _ => rfl) | decide) (fun cdv A outer s H E hr => by
      exact (ws_cons (ws_if (vt_cmp op_eq os_eq (ve_var (pv 0) (.inl rfl)) ve_str (nomark _)) (ws_one (ws_ret (ve_and (ve_cmp op_eq os_eq (ve_var (pv 1) (.inl rfl)) ve_int (nomark _)) (ve_one (ve_cmp op_eq os_eq (ve_var (pv 2) (.inl rfl)) ve_int (nomark _)))))) ws_nil)
  (ws_cons (ws_if (vt_cmp op_eq os_eq (ve_var (pv 0) (.inl rfl)) ve_str (nomark _)) (ws_one (ws_ret (ve_cmp op_eq os_eq (ve_var (pv 1) (.inl rfl)) ve_int (nomark _)))) ws_nil)
  (ws_one (ws_ret (ve_or (ve_cmp op_eq os_eq (ve_var (pv 0) (.inl rfl)) ve_str (nomark _)) (ve_one (ve_cmp op_eq os_eq (ve_var (pv 2) (.inl rfl)) ve_int (nomark _)))))))))⟩
theorem ok__law_may_end {f : Addr} {fd : FuncData} (Fu : FunD K "_law_may_end" "_law_may_end" (defArgs s__law_may_end) (defBody s__law_may_end) (defScope s__law_may_end) [] [] f fd) (hm : mg "_law_may_end" = some (.ref f)) (bl : BF mg) (xf : XF P w K mg base)    : Av P w K mg base "_law_may_end" ["_law_manner_here", "_law_first", "_law_second", "_law_i", "_law_j"] 1 (spM K none 5 0 (pureF (f__law_may_end cs))) :=
  ⟨f, fd, hm, Fu.kp, (Fu.bindsN fun _ _ _ _ _ _ us hl => match us, hl with | [_, _, _, _, _], _ => rfl), def_ok0 (N := N__law_may_end) (T := T__law_may_end) (ms := m__law_may_end cs) Fu sc__law_may_end (by first | (exact fun _ _ => rfl) | decide) (fun cdv A outer s H E hr => by
      exact (ws_cons (ws_if (vt_cmp op_eq os_eq (ve_var (pv 0) (.inl rfl)) ve_str (nomark _)) (ws_one (ws_ret (ve_and (ve_cmp op_eq os_eq (ve_var (pv 3) (.inl rfl)) (ve_len bl.len_ (va_cons (ve_var (pv 1) (.inl rfl)) va_nil)) (nomark _)) (ve_one (ve_cmp op_eq os_eq (ve_var (pv 4) (.inl rfl)) (ve_len bl.len_ (va_cons (ve_var (pv 2) (.inl rfl)) va_nil)) (nomark _)))))) ws_nil)
  (ws_one (ws_ret (ve_or (ve_cmp op_eq os_eq (ve_var (pv 0) (.inl rfl)) ve_str (nomark _)) (ve_one (ve_cmp op_eq os_eq (ve_var (pv 3) (.inl rfl)) (ve_len bl.len_ (va_cons (ve_var (pv 1) (.inl rfl)) va_nil)) (nomark _))))))))⟩
theorem ok__law_key {f : Addr} {fd : FuncData} (Fu : FunD K "_law_key" "_law_key" (defArgs s__law_key) (defBody s__law_key) (defScope s__law_key) [] [] f fd) (hm : mg "_law_key" = some (.ref f)) (bl : BF mg) (xf : XF P w K mg base)    : Av P w K mg base "_law_key" ["_law_begin", "_law_moves"] 1 (spM K none 2 0 (pureF (f__law_key cs))) :=
  ⟨f, fd, hm, Fu.kp, (Fu.bindsN fun _ _ _ _ _ _ us hl => match us, hl with | [_, _], _ => rfl), def_ok0T (N := N__law_key) (T := T__law_key) (ms := m__law_key cs) Fu sc__law_key (by decide +kernel) (by decide) (by first | (exact fun _ _ => rfl) | decide) (fun cdv A outer s H E hr => by
      exact (wst_one (wst_ret (vet_tup (vat_cons (CwR.PET.of (ve_var (pv 0) (.inl rfl))) (vat_cons (vet_repl (vet_repl (vet_repl (CwR.PET.of (ve_var (pv 1) (.inl rfl)))))) vat_nil))))))⟩
theorem ok__law_ways {f : Addr} {fd : FuncData} (Fu : FunD K "_law_ways" "_law_ways" (defArgs s__law_ways) (defBody s__law_ways) (defScope s__law_ways) [] [] f fd) (hm : mg "_law_ways" = some (.ref f)) (bl : BF mg) (xf : XF P w K mg base)    : ∀ k : Nat, Av P w K mg base "_law_ways" ["_law_first", "_law_second", "_law_i", "_law_j", "_law_moves"] (0 + k + 1) (spM K none 5 1 (pureF (f__law_ways cs k)))
  | 0 => ⟨f, fd, hm, Fu.kp, (Fu.bindsN fun _ _ _ _ _ _ us hl => match us, hl with | [_, _, _, _, _], _ => rfl), ⟨fun vs H Q E h => h.1, fun A outer s H args us vs Q E hr e0 hb r h => by
      obtain ⟨_, _, _, _, _, _, _, _, _, _, h⟩ := h
      exact h.elim⟩⟩
  | k + 1 => ⟨f, fd, hm, Fu.kp, (Fu.bindsN fun _ _ _ _ _ _ us hl => match us, hl with | [_, _, _, _, _], _ => rfl), def_ok0 (N := N__law_ways) (T := T__law_ways) (ms := m__law_ways cs (f__law_ways cs k)) Fu sc__law_ways (by first | (exact fun _ _ => rfl) | decide) (fun cdv A outer s H E hr => by
      have ih := ok__law_ways Fu hm bl xf  k
      exact (ws_cons (ws_set (i := 5) (ve_lst1 (va_cons (ve_tup (va_cons (ve_var (pv 4) (.inl rfl)) (va_cons (ve_var (pv 2) (.inl rfl)) (va_cons (ve_var (pv 3) (.inl rfl)) va_nil)))) va_nil)) rfl rfl sc__law_ways.nd)
  (ws_cons (ws_if ((vw_and (vt_cmp op_lt os_cmp (ve_var (pv 2) (.inl rfl)) (ve_len bl.len_ (va_cons (ve_var (pv 0) (.inl rfl)) va_nil)) (nomark _)) (vw_one_and (vt_cmp op_lt os_cmp (ve_var (pv 3) (.inl rfl)) (ve_len bl.len_ (va_cons (ve_var (pv 1) (.inl rfl)) va_nil)) (nomark _))))).pt (ws_one (ws_ext (pl_nil (k := 0) (pv 5) rfl) plt_nil rfl (ve_callA ih (fun _ => ⟨_, rfl⟩) (hr.mono (by omega)) (takes_of rfl rfl rfl rfl) (vc_all (va_cons (ve_var (pv 0) (.inl rfl)) (va_cons (ve_var (pv 1) (.inl rfl)) (va_cons (ve_op op_addIS os_add (ve_var (pv 2) (.inl rfl)) ve_int) (va_cons (ve_op op_addIS os_add (ve_var (pv 3) (.inl rfl)) ve_int) (va_cons (ve_op op_addIS os_add (ve_var (pv 4) (.inl rfl)) ve_str) va_nil)))))) (LenM.cons (LenM.cons (LenM.cons (LenM.cons (LenM.cons LenM.nil)))))))) ws_nil)
  (ws_cons (ws_if (vt_cmp op_lt os_cmp (ve_var (pv 2) (.inl rfl)) (ve_len bl.len_ (va_cons (ve_var (pv 0) (.inl rfl)) va_nil)) (nomark _)) (ws_one (ws_ext (pl_nil (k := 0) (pv 5) rfl) plt_nil rfl (ve_callA ih (fun _ => ⟨_, rfl⟩) (hr.mono (by omega)) (takes_of rfl rfl rfl rfl) (vc_all (va_cons (ve_var (pv 0) (.inl rfl)) (va_cons (ve_var (pv 1) (.inl rfl)) (va_cons (ve_op op_addIS os_add (ve_var (pv 2) (.inl rfl)) ve_int) (va_cons (ve_var (pv 3) (.inl rfl)) (va_cons (ve_op op_addIS os_add (ve_var (pv 4) (.inl rfl)) ve_str) va_nil)))))) (LenM.cons (LenM.cons (LenM.cons (LenM.cons (LenM.cons LenM.nil)))))))) ws_nil)
  (ws_cons (ws_if (vt_cmp op_lt os_cmp (ve_var (pv 3) (.inl rfl)) (ve_len bl.len_ (va_cons (ve_var (pv 1) (.inl rfl)) va_nil)) (nomark _)) (ws_one (ws_ext (pl_nil (k := 0) (pv 5) rfl) plt_nil rfl (ve_callA ih (fun _ => ⟨_, rfl⟩) (hr.mono (by omega)) (takes_of rfl rfl rfl rfl) (vc_all (va_cons (ve_var (pv 0) (.inl rfl)) (va_cons (ve_var (pv 1) (.inl rfl)) (va_cons (ve_var (pv 2) (.inl rfl)) (va_cons (ve_op op_addIS os_add (ve_var (pv 3) (.inl rfl)) ve_int) (va_cons (ve_op op_addIS os_add (ve_var (pv 4) (.inl rfl)) ve_str) va_nil)))))) (LenM.cons (LenM.cons (LenM.cons (LenM.cons (LenM.cons LenM.nil)))))))) ws_nil)
  (ws_one (ws_retV (pv 5) rfl)))))))⟩
theorem ok__law_all {f : Addr} {fd : FuncData} (Fu : FunD K "_law_all" "_law_all" (defArgs s__law_all) (defBody s__law_all) (defScope s__law_all) [] [] f fd) (hm : mg "_law_all" = some (.ref f)) (bl : BF mg) (xf : XF P w K mg base) (A__law_may_begin : Av P w K mg base "_law_may_begin" ["_law_manner_here", "_law_i", "_law_j"] 1 (spM K none 3 0 (pureF (f__law_may_begin cs)))) (A__law_may_end : Av P w K mg base "_law_may_end" ["_law_manner_here", "_law_first", "_law_second", "_law_i", "_law_j"] 1 (spM K none 5 0 (pureF (f__law_may_end cs)))) (A__law_walk : Av P w K mg base "_law_walk" ["_law_prices_here", "_law_first", "_law_second", "_law_begin", "_law_moves"] 3 (spM K none 5 0 (pureF (f__law_walk cs)))) (A__law_ways : Av P w K mg base "_law_ways" ["_law_first", "_law_second", "_law_i", "_law_j", "_law_moves"] 9 (spM K none 5 1 (pureF (f__law_ways cs 8))))   : Av P w K mg base "_law_all" ["_law_prices_here", "_law_first", "_law_second", "_law_manner_here"] 10 (spM K none 4 0 (pureF (f__law_all cs))) :=
  ⟨f, fd, hm, Fu.kp, (Fu.bindsN fun _ _ _ _ _ _ us hl => match us, hl with | [_, _, _, _], _ => rfl), def_ok0 (N := N__law_all) (T := T__law_all) (ms := m__law_all cs) Fu sc__law_all (by first | (exact fun _ _ => rfl) | decide) (fun cdv A outer s H E hr => by
      exact (ws_cons (ws_set (i := 4) (ve_lst1 va_nil) rfl rfl sc__law_all.nd)
  (ws_cons (ws_for (passes_of rfl) (vi_range1 bl.range_ (va_cons (ve_op op_addIS os_add (ve_len bl.len_ (va_cons (ve_var (pv 1) (.inl rfl)) va_nil)) ve_int) va_nil)) (vg_name (i := 5) ⟨rfl, rfl⟩ sc__law_all.nd) (ws_one (ws_for (passes_of rfl) (vi_range1 bl.range_ (va_cons (ve_op op_addIS os_add (ve_len bl.len_ (va_cons (ve_var (pv 2) (.inl rfl)) va_nil)) ve_int) va_nil)) (vg_name (i := 6) ⟨rfl, rfl⟩ sc__law_all.nd) (ws_one (ws_if (vt_val (ve_bo (k := 0) (ve_callA A__law_may_begin (fun _ => ⟨_, rfl⟩) (hr.mono (by first | decide | omega)) (takes_of rfl rfl rfl rfl) (vc_all (va_cons (ve_var (pv 3) (.inl rfl)) (va_cons (ve_var (pv 5) (.inl rfl)) (va_cons (ve_var (pv 6) (.inl rfl)) va_nil)))) (LenM.cons (LenM.cons (LenM.cons LenM.nil)))))) (ws_one (ws_for (passes_of rfl) (vi_any (ve_frz (k := 1) (ve_callA A__law_ways (fun _ => ⟨_, rfl⟩) (hr.mono (by first | decide | omega)) (takes_of rfl rfl rfl rfl) (vc_all (va_cons (ve_var (pv 1) (.inl rfl)) (va_cons (ve_var (pv 2) (.inl rfl)) (va_cons (ve_var (pv 5) (.inl rfl)) (va_cons (ve_var (pv 6) (.inl rfl)) (va_cons ve_str va_nil)))))) (LenM.cons (LenM.cons (LenM.cons (LenM.cons (LenM.cons LenM.nil)))))))) (vg_tup rfl (vgs_cons (i := 7) ⟨rfl, rfl⟩ sc__law_all.nd (vgs_cons (i := 8) ⟨rfl, rfl⟩ sc__law_all.nd (vgs_cons (i := 9) ⟨rfl, rfl⟩ sc__law_all.nd vgs_nil)))) (ws_one (ws_if (vt_val (ve_bo (k := 0) (ve_callA A__law_may_end (fun _ => ⟨_, rfl⟩) (hr.mono (by first | decide | omega)) (takes_of rfl rfl rfl rfl) (vc_all (va_cons (ve_var (pv 3) (.inl rfl)) (va_cons (ve_var (pv 1) (.inl rfl)) (va_cons (ve_var (pv 2) (.inl rfl)) (va_cons (ve_var (pv 8) (.inl rfl)) (va_cons (ve_var (pv 9) (.inl rfl)) va_nil)))))) (LenM.cons (LenM.cons (LenM.cons (LenM.cons (LenM.cons LenM.nil)))))))) (ws_cons (ws_set (i := 10) (ve_ix (ve_callA A__law_walk (fun _ => ⟨_, rfl⟩) (hr.mono (by first | decide | omega)) (takes_of rfl rfl rfl rfl) (vc_all (va_cons (ve_var (pv 0) (.inl rfl)) (va_cons (ve_var (pv 1) (.inl rfl)) (va_cons (ve_var (pv 2) (.inl rfl)) (va_cons (ve_tup (va_cons (ve_var (pv 5) (.inl rfl)) (va_cons (ve_var (pv 6) (.inl rfl)) va_nil))) (va_cons (ve_var (pv 7) (.inl rfl)) va_nil)))))) (LenM.cons (LenM.cons (LenM.cons (LenM.cons (LenM.cons LenM.nil)))))) ve_int) rfl rfl sc__law_all.nd)
  (ws_one (ws_app (i := 4) (pv 4) (ve_tup (va_cons (ve_var (pv 10) (.inl rfl)) (va_cons (ve_tup (va_cons (ve_var (pv 5) (.inl rfl)) (va_cons (ve_var (pv 6) (.inl rfl)) va_nil))) (va_cons (ve_var (pv 7) (.inl rfl)) va_nil)))) rfl))) ws_nil)))) ws_nil)))))
  (ws_one (ws_ret (ve_var (pv 4) (.inl rfl)))))))⟩
theorem fk_law {f : Addr} {fd : FuncData} (Fu : FunD K "law" "law" (defArgs s_law) (defBody s_law) (defScope s_law) [] [] f fd) (hm : mg "law" = some (.ref f)) (bl : BF mg) (xf : XF P w K mg base) (A__law_all : Av P w K mg base "_law_all" ["_law_prices_here", "_law_first", "_law_second", "_law_manner_here"] 10 (spM K none 4 0 (pureF (f__law_all cs)))) (A__law_key : Av P w K mg base "_law_key" ["_law_begin", "_law_moves"] 1 (spM K none 2 0 (pureF (f__law_key cs)))) (A__law_manner : Av P w K mg base "_law_manner" ["_law_m"] 1 (spM K none 1 0 (pureF (f__law_manner cs)))) (A__law_next : Av P w K mg base "_law_next" ["_law_script", "_law_at"] 1 (spM K (some 1) 2 0 (f__law_next cs))) (A__law_prices : Av P w K mg base "_law_prices" ["_law_script", "_law_at"] 6 (spM K (some 1) 2 0 (f__law_prices cs))) (A__law_row : Av P w K mg base "_law_row" ["_law_script", "_law_at", "_law_signs_here", "_law_most"] 2 (spM K (some 1) 4 0 (f__law_row cs))) (A__law_same : Av P w K mg base "_law_same" ["_law_found", "_law_due"] 4 (spM K none 2 0 (pureF (f__law_same cs 3)))) (A_cheapest : Av P w K mg base "cheapest" ["prices", "first", "second", "manner"] 5 (spM K none 4 0 (pureF (f_cheapest cs)))) (A_count_of : Av P w K mg base "count_of" ["prices", "first", "second", "manner"] 5 (spM K none 4 0 (pureF (f_count_of cs)))) (A_in_units : Av P w K mg base "in_units" ["prices", "number"] 3 (spM K none 2 0 (pureF (f_in_units cs))))  (c_Prices : CF_Prices K (cs 0)) : FnOk P w K mg base (L2.CX P w) 11 f fd ["_law_script"] (spM K none 1 0 (pureF (f_law cs))) :=
  def_ok0 (N := N_law) (T := T_law) (ms := m_law cs) Fu sc_law (by first | (exact fun _ _ => rfl) | decide) (fun cdv A outer s H E hr => by
      exact (ws_newCell (i := 1) rfl (fun _ => rfl) sc_law.nd (fun a => (ws_cons (ws_set (i := 2) (ve_callA A__law_prices (fun h => by cases h) (hr.mono (by first | decide | omega)) (takes_of rfl rfl rfl rfl) (vc_cons (ve_var (pv 0) (.inl rfl)) (vc_cell (pv 1) ⟨_, rfl, rfl⟩ (vc_all va_nil))) (LenM.cons (LenM.cons LenM.nil))) rfl rfl sc_law.nd)
  (ws_cons (ws_set (i := 3) (ve_callA A__law_row (fun h => by cases h) (hr.mono (by first | decide | omega)) (takes_of rfl rfl rfl rfl) (vc_cons (ve_var (pv 0) (.inl rfl)) (vc_cell (pv 1) ⟨_, rfl, rfl⟩ (vc_all (va_cons (ve_fld c_Prices.cls c_Prices.n_signs (ve_var (pv 2) (.inl rfl))) (va_cons ve_int va_nil))))) (LenM.cons (LenM.cons (LenM.cons (LenM.cons LenM.nil))))) rfl rfl sc_law.nd)
  (ws_cons (ws_set (i := 4) (ve_callA A__law_row (fun h => by cases h) (hr.mono (by first | decide | omega)) (takes_of rfl rfl rfl rfl) (vc_cons (ve_var (pv 0) (.inl rfl)) (vc_cell (pv 1) ⟨_, rfl, rfl⟩ (vc_all (va_cons (ve_fld c_Prices.cls c_Prices.n_signs (ve_var (pv 2) (.inl rfl))) (va_cons ve_int va_nil))))) (LenM.cons (LenM.cons (LenM.cons (LenM.cons LenM.nil))))) rfl rfl sc_law.nd)
  (ws_cons (ws_set (i := 5) (ve_callA A__law_manner (fun _ => ⟨_, rfl⟩) (hr.mono (by first | decide | omega)) (takes_of rfl rfl rfl rfl) (vc_all (va_cons (ve_callA A__law_next (fun h => by cases h) (hr.mono (by first | decide | omega)) (takes_of rfl rfl rfl rfl) (vc_cons (ve_var (pv 0) (.inl rfl)) (vc_cell (pv 1) ⟨_, rfl, rfl⟩ (vc_all va_nil))) (LenM.cons (LenM.cons LenM.nil))) va_nil)) (LenM.cons LenM.nil)) rfl rfl sc_law.nd)
  (ws_cons (ws_set (i := 6) (ve_callA A__law_all (fun _ => ⟨_, rfl⟩) (hr.mono (by first | decide | omega)) (takes_of rfl rfl rfl rfl) (vc_all (va_cons (ve_var (pv 2) (.inl rfl)) (va_cons (ve_var (pv 3) (.inl rfl)) (va_cons (ve_var (pv 4) (.inl rfl)) (va_cons (ve_var (pv 5) (.inl rfl)) va_nil))))) (LenM.cons (LenM.cons (LenM.cons (LenM.cons LenM.nil))))) rfl rfl sc_law.nd)
  (ws_cons (ws_set (i := 7) (ve_min bl.min_ (va_cons (ve_bo (k := 1) (ve_lc (own := [("_law_one", 10)]) (vi_any (ve_var (pv 6) (.inl rfl))) (blkOk_by (own := [("_law_one", 10)]) (N := N_law) (sc := (defScope s_law)) (by decide +kernel)) (fun _ _ _ _ _ => (vg_name (i := 10) ⟨rfl, rfl⟩ sc_law.nd)) (fun _ _ _ _ _ => vts_nil) (fun _ _ _ _ _ => (ve_ix (ve_var (pv 10) (.inl rfl)) ve_int)) (by decide) (fun i hi => by first | rfl | (simp at hi; subst hi; rfl) | (simp at hi; rcases hi with hi | hi <;> subst hi <;> rfl)) sc_law.nd)) va_nil)) rfl rfl sc_law.nd)
  (ws_cons (ws_setLc0 (i := 8) (own := [("_law_one", 10)]) (vi_any (ve_var (pv 6) (.inl rfl))) (blkOk_by (own := [("_law_one", 10)]) (N := N_law) (sc := (defScope s_law)) (by decide +kernel)) (fun _ _ _ _ _ => (vg_name (i := 10) ⟨rfl, rfl⟩ sc_law.nd)) (fun _ _ _ _ _ => (vts_one (vt_cmp op_eq os_eq (ve_ix (ve_var (pv 10) (.inl rfl)) ve_int) (ve_var (pv 7) (.inl rfl)) (nomark _)))) (fun _ _ _ _ _ => (ve_var (pv 10) (.inl rfl))) (by decide) (fun i hi => by first | rfl | (simp at hi; subst hi; rfl) | (simp at hi; rcases hi with hi | hi <;> subst hi <;> rfl)) rfl rfl sc_law.nd rfl rfl (sw_true rfl rfl rfl (by decide +kernel)))
  (ws_cons (ws_set (i := 9) (ve_ix (ve_var (pv 8) (.inl rfl)) ve_int) rfl rfl sc_law.nd)
  (ws_cons (ws_for (passes_of rfl) (vi_any (ve_var (pv 8) (.inl rfl))) (vg_name (i := 10) ⟨rfl, rfl⟩ sc_law.nd) (ws_one (ws_if (vt_cmp (op_ltD (hu64 hr)) os_ltQ (ve_bo (k := 0) (ve_callA A__law_key (fun _ => ⟨_, rfl⟩) (hr.mono (by first | decide | omega)) (takes_of rfl rfl rfl rfl) (vc_all (va_cons (ve_ix (ve_var (pv 10) (.inl rfl)) ve_int) (va_cons (ve_ix (ve_var (pv 10) (.inl rfl)) ve_int) va_nil))) (LenM.cons (LenM.cons LenM.nil)))) (ve_bo (k := 0) (ve_callA A__law_key (fun _ => ⟨_, rfl⟩) (hr.mono (by first | decide | omega)) (takes_of rfl rfl rfl rfl) (vc_all (va_cons (ve_ix (ve_var (pv 9) (.inl rfl)) ve_int) (va_cons (ve_ix (ve_var (pv 9) (.inl rfl)) ve_int) va_nil))) (LenM.cons (LenM.cons LenM.nil)))) (nomark _)) (ws_one (ws_set (i := 9) (ve_var (pv 10) (.inl rfl)) rfl rfl sc_law.nd)) ws_nil)))
  (ws_cons (ws_if (vt_not (vt_val (ve_bo (k := 0) (ve_callA A__law_same (fun _ => ⟨_, rfl⟩) (hr.mono (by first | decide | omega)) (takes_of rfl rfl rfl rfl) (vc_all (va_cons (ve_callA A_cheapest (fun _ => ⟨_, rfl⟩) (hr.mono (by first | decide | omega)) (takes_of rfl rfl rfl rfl) (vc_all (va_cons (ve_var (pv 2) (.inl rfl)) (va_cons (ve_var (pv 3) (.inl rfl)) (va_cons (ve_var (pv 4) (.inl rfl)) (va_cons (ve_var (pv 5) (.inl rfl)) va_nil))))) (LenM.cons (LenM.cons (LenM.cons (LenM.cons LenM.nil))))) (va_cons (ve_tup (va_cons (ve_callA A_in_units (fun _ => ⟨_, rfl⟩) (hr.mono (by first | decide | omega)) (takes_of rfl rfl rfl rfl) (vc_all (va_cons (ve_var (pv 2) (.inl rfl)) (va_cons (ve_var (pv 7) (.inl rfl)) va_nil))) (LenM.cons (LenM.cons LenM.nil))) (va_cons (ve_ix (ve_var (pv 9) (.inl rfl)) ve_int) (va_cons (ve_ix (ve_var (pv 9) (.inl rfl)) ve_int) va_nil)))) va_nil))) (LenM.cons (LenM.cons LenM.nil)))))) (ws_one (ws_ret ve_bl)) ws_nil)
  (ws_one (ws_ret (ve_callA A__law_same (fun _ => ⟨_, rfl⟩) (hr.mono (by first | decide | omega)) (takes_of rfl rfl rfl rfl) (vc_all (va_cons (ve_callA A_count_of (fun _ => ⟨_, rfl⟩) (hr.mono (by first | decide | omega)) (takes_of rfl rfl rfl rfl) (vc_all (va_cons (ve_var (pv 2) (.inl rfl)) (va_cons (ve_var (pv 3) (.inl rfl)) (va_cons (ve_var (pv 4) (.inl rfl)) (va_cons (ve_var (pv 5) (.inl rfl)) va_nil))))) (LenM.cons (LenM.cons (LenM.cons (LenM.cons LenM.nil))))) (va_cons (ve_len bl.len_ (va_cons (ve_var (pv 8) (.inl rfl)) va_nil)) va_nil))) (LenM.cons (LenM.cons LenM.nil))))))))))))))))))
end
end K22

namespace K22
open PySem L2 PyProof.Rows GW
variable {cs : Nat → Addr}
/-! ### the greatest part -/
theorem gcd_step {a b : Int} (ha : 0 ≤ a) (hb : 0 < b) : Int.gcd b (a % b) = Int.gcd a b := by
  obtain ⟨A, rfl⟩ := Int.eq_ofNat_of_zero_le ha
  obtain ⟨B, rfl⟩ := Int.eq_ofNat_of_zero_le (show 0 ≤ b by omega)
  show Nat.gcd B ((A : Int) % (B : Int)).natAbs = Nat.gcd A B
  rw [← Int.natCast_emod, Int.natAbs_natCast, Nat.gcd_comm A B, Nat.gcd_rec B A, Nat.gcd_comm]
theorem gp_eval {a b : Int} (ha : 0 ≤ a) (hb : 0 ≤ b) (hs : Sz 8000 b) : f_greatest_part cs [.int a, .int b] = some (.ok (.int (Int.gcd a b))) := by
  unfold f_greatest_part
  apply fn0_of
  have hl := whileL_run (t := t_greatest_part_1 cs) (body := b_greatest_part_1 cs)
    (fun m n ds => n = 0 ∧ ∃ x y r, ds = [some (.int x), some (.int y), r] ∧ 0 ≤ x ∧ 0 ≤ y ∧ m = y.toNat ∧ Sz 8000 y ∧ Int.gcd x y = Int.gcd a b)
    (fun r => ∃ r2 r3, r = (.nx, 0, [some (.int (Int.gcd a b)), r2, r3]))
    (fun m n ds ⟨h0, x, y, r, hd, hx, hy, hm, hs, hg⟩ => by
      subst h0 hd hm
      by_cases h : 0 < y
      · refine ⟨true, 0, by simp [h, t_greatest_part_1], .nx, 0, [some (.int y), some (.int (x % y)), some (.int (x % y))], ?_, ?_⟩
        · simp [b_greatest_part_1, divOk_of h hs (by decide)]
        · have h1 := Int.emod_nonneg x (show y ≠ 0 by omega)
          have h2 := Int.emod_lt_of_pos x h
          refine ⟨(x % y).toNat, by omega, rfl, y, x % y, _, rfl, hy, h1, rfl, ?_, ?_⟩
          · unfold Sz at *; omega
          · rw [gcd_step hx h, hg]
      · have : y = 0 := by omega
        subst this
        refine ⟨false, 0, by simp [t_greatest_part_1], ?_⟩
        refine ⟨some (.int 0), r, ?_⟩
        rw [← hg, Int.gcd_zero_right, Int.natAbs_of_nonneg hx]) FUEL b.toNat (n := 0) (ds := startD 3 [.int a, .int b]) ⟨rfl, a, b, none, rfl, ha, hb, rfl, hs, rfl⟩ (fuel_lt (k := 8000) (by unfold Sz at hs; omega) (by decide))
  obtain ⟨r, h1, r2, r3, h2⟩ := hl
  subst h2
  unfold m_greatest_part
  simp [h1]
/-! ### lowest terms -/
def lowD (a b : Int) : D := .tup [.int (a / Int.gcd a b), .int (b / Int.gcd a b)]
theorem absI (a : Int) : (if a < 0 then -a else a) = (a.natAbs : Int) := by split <;> omega
theorem lowest_eval {a b : Int} (hb : 0 < b) (hs : Sz 8000 b) : f_lowest cs [.tup [.int a, .int b]] = some (.ok (lowD a b)) := by
  have hg : Int.gcd (a.natAbs : Int) b = Int.gcd a b := by simp [Int.gcd]
  have h0 : 0 < Int.gcd a b := Int.gcd_pos_of_ne_zero_right a (by omega)
  have hle : Int.gcd a b ≤ b.natAbs := Nat.le_of_dvd (by omega) (Nat.gcd_dvd_right _ _)
  have hgs : Sz 8000 (Int.gcd a b : Int) := by unfold Sz at *; omega
  have hd : divOk (Int.gcd a b : Int) = true := divOk_of (by omega) hgs (by decide)
  unfold f_lowest m_lowest
  apply fn0_of
  simp [startD, absI, gp_eval (cs := cs) (a := (a.natAbs : Int)) (b := b) (by omega) (by omega) hs, hg, hd, lowD]
theorem low_parts {a b : Int} (hb : 0 < b) : ∃ p q : Int, a / (Int.gcd a b : Int) = p ∧ b / (Int.gcd a b : Int) = q ∧ 0 < q ∧ Int.gcd p q = 1 ∧ p * b = a * q ∧ p.natAbs ≤ a.natAbs ∧ q.natAbs ≤ b.natAbs := by
  have h0 : 0 < Int.gcd a b := Int.gcd_pos_of_ne_zero_right a (by omega)
  obtain ⟨p, hp⟩ : (Int.gcd a b : Int) ∣ a := Int.gcd_dvd_left a b
  obtain ⟨q, hq⟩ : (Int.gcd a b : Int) ∣ b := Int.gcd_dvd_right a b
  have hgg : Int.gcd (Int.gcd a b * p) (Int.gcd a b * q) = Int.gcd a b * Int.gcd p q := by
    rw [Int.gcd_mul_left]; simp
  rw [← hp, ← hq] at hgg
  generalize hg : Int.gcd a b = g at *
  subst hp hq
  have hg1 : Int.gcd p q = 1 := Nat.eq_of_mul_eq_mul_left h0 (by omega)
  have hq0 : 0 < q := by
    rcases Int.lt_trichotomy q 0 with h | h | h
    · have := Int.mul_neg_of_pos_of_neg (show (0 : Int) < g by omega) h; omega
    · subst h; simp at hb
    · exact h
  refine ⟨p, q, Int.mul_ediv_cancel_left p (by omega), Int.mul_ediv_cancel_left q (by omega), hq0, hg1, by rw [← Int.mul_assoc, Int.mul_comm p g], ?_, ?_⟩
  · rw [Int.natAbs_mul]; exact Nat.le_mul_of_pos_left _ (by omega)
  · rw [Int.natAbs_mul]; exact Nat.le_mul_of_pos_left _ (by omega)
end K22

namespace K22
open PySem L2 PyProof.Rows GW
variable {cs : Nat → Addr}
/-! ### drawn numbers -/
abbrev scD (ns : List Int) : D := .lst (ns.map D.int)
theorem at_script {ns : List Int} {i : Int} (h0 : 0 ≤ i) (h1 : i < ns.length) : ∃ c, atI (ns.map D.int) i = some (.int c) := by
  unfold atI ixN
  rw [if_pos h0, if_pos (by simpa using h1)]
  obtain ⟨k, rfl⟩ := Int.eq_ofNat_of_zero_le h0
  have hk : k < ns.length := by omega
  exact ⟨ns[k], by simp [hk]⟩
abbrev mCellAt : M := mIf (mTest (m2 (mCB (mCons (mVar 0) (ret (some []))) oLen) (mC (.int 0)) oGt)) (m2 (mVar 0) (m2 mCell (mCB (mCons (mVar 0) (ret (some []))) oLen) oMod) oIx) (mC (.int 0))
theorem cell_eval (ns : List Int) (n : Int) : ∃ c : Int, ∀ r : DS, mCellAt n (some (scD ns) :: r) = some (.ok (.int c), n) := by
  by_cases hl : 0 < (ns.length : Int)
  · obtain ⟨c, hc⟩ := at_script (ns := ns) (Int.emod_nonneg n (show (ns.length : Int) ≠ 0 by omega)) (Int.emod_lt_of_pos n hl)
    have hl2 : 0 < ns.length := by omega
    exact ⟨c, fun r => by simp [mCellAt, hl, hl2, hc]⟩
  · have hl2 : ¬ 0 < ns.length := by omega
    exact ⟨0, fun r => by simp [mCellAt, hl2]⟩
theorem next_eval {ns : List Int} {n : Int} (h0 : 0 ≤ n) (h1 : n ≤ 1000000) : ∃ v : Int, f__law_next cs n [scD ns, .non] = some (.ok (.int v), n + 1) ∧ 0 ≤ v ∧ v < 1999999973 := by
  obtain ⟨c, hc⟩ := cell_eval ns (n + 1)
  have r0 := Int.emod_nonneg c (show (2147483647 : Int) ≠ 0 by decide)
  have r1 := Int.emod_lt_of_pos c (show (0 : Int) < 2147483647 by decide)
  have hq : (n + 1) * (n + 1) ≤ 1000001 * 1000001 := Int.mul_le_mul (by omega) (by omega) (by omega) (by omega)
  have hq0 : 0 ≤ (n + 1) * (n + 1) := Int.mul_nonneg (by omega) (by omega)
  have m1 : mulOk (n + 1) (n + 1) = true := mulL ⟨by omega, by omega⟩
  have m2 : mulOk ((n + 1) * (n + 1)) 7919 = true := mulR (by decide)
  have m3 : mulOk (c % 2147483647 + (n + 1) * (n + 1) * 7919 + 11) 48271 = true := mulR (by decide)
  have s0 := Int.emod_nonneg ((c % 2147483647 + (n + 1) * (n + 1) * 7919 + 11) * 48271) (show (2147483647 : Int) ≠ 0 by decide)
  have s1 := Int.emod_lt_of_pos ((c % 2147483647 + (n + 1) * (n + 1) * 7919 + 11) * 48271) (show (0 : Int) < 2147483647 by decide)
  generalize hm : (c % 2147483647 + (n + 1) * (n + 1) * 7919 + 11) * 48271 % 2147483647 = m at s0 s1
  have m4 : mulOk m m = true := mulL ⟨by omega, by omega⟩
  refine ⟨m * m % 1999999973, ?_, Int.emod_nonneg _ (by decide), Int.emod_lt_of_pos _ (by decide)⟩
  unfold f__law_next fnC
  have e : m__law_next cs n ((startD 4 [scD ns, .non]).set 1 none) = some (.rt (.int (m * m % 1999999973)), n + 1, [some (scD ns), none, some (.int c), some (.int m)]) := by
    unfold m__law_next
    refine seq_nx (n1 := n + 1) (ds1 := [some (scD ns), none, none, none]) (by simp [startD]) (seq_nx (n1 := n + 1) (ds1 := [some (scD ns), none, some (.int c), none]) (set_of (hc _)) ?_)
    simp [m1, m2, m3, hm, m4]
  rw [e]; rfl
theorem great_eval {ns : List Int} {n : Int} (h0 : 0 ≤ n) (h1 : n ≤ 1000000) : ∃ v : Int, f__law_great cs n [scD ns, .non] = some (.ok (.int v), n + 1) ∧ -(10 ^ 39) ≤ v ∧ v < 10 ^ 39 := by
  obtain ⟨v, hv, v0, v1⟩ := next_eval (cs := cs) (ns := ns) h0 h1
  obtain ⟨c, hc⟩ := cell_eval ns (n + 1)
  have p39 : powOk 10 39 = true := powL (by decide)
  have p28 : powOk 10 28 = true := powL (by decide)
  have m1 : ∀ j : Int, mulOk v j = true := fun j => mulL ⟨by omega, by omega⟩
  have m2 : ∀ j : Int, mulOk 2 j = true := fun j => mulL (by decide)
  refine ⟨(c % 10 ^ 39 + v * 10 ^ 28) % (2 * 10 ^ 39) - 10 ^ 39, ?_, ?_, ?_⟩
  · unfold f__law_great fnC
    have e : m__law_great cs n ((startD 4 [scD ns, .non]).set 1 none) = some (.rt (.int ((c % 10 ^ 39 + v * 10 ^ 28) % (2 * 10 ^ 39) - 10 ^ 39)), n + 1, [some (scD ns), none, some (.int v), some (.int c)]) := by
      unfold m__law_great
      refine seq_nx (n1 := n + 1) (ds1 := [some (scD ns), none, some (.int v), none]) (by simp [startD, hv]) (seq_nx (n1 := n + 1) (ds1 := [some (scD ns), none, some (.int v), some (.int c)]) (set_of (hc _)) ?_)
      simp [p39, p28, m1, m2]
    rw [e]; rfl
  · have := Int.emod_nonneg (c % 10 ^ 39 + v * 10 ^ 28) (show (2 * 10 ^ 39 : Int) ≠ 0 by decide)
    omega
  · have := Int.emod_lt_of_pos (c % 10 ^ 39 + v * 10 ^ 28) (show (0 : Int) < 2 * 10 ^ 39 by decide)
    omega
end K22

namespace K22
open PySem L2 PyProof.Rows GW
variable {cs : Nat → Addr}
/-! ### signs -/
def okS (c : Nat) : Bool := decide (32 ≤ c) && decide (c ≤ 126) && !(c == 34 || c == 37 || c == 45)
theorem is_sign_eval (c : Nat) : f_is_sign cs [.str (tx [c])] = some (.ok (.bl (okS c))) := by
  unfold f_is_sign m_is_sign
  apply fn0_of
  have h1 : scVs [.int 34, .int 37, .int 45] = some [V.int 34, V.int 37, V.int 45] := rfl
  by_cases ha : 32 ≤ c
  · have ha' : (32 : Int) ≤ c := by omega
    by_cases hb : c ≤ 126
    · have hb' : (c : Int) ≤ 126 := by omega
      have e : inV (V.int c) [V.int 34, V.int 37, V.int 45] = (c == 34 || c == 37 || c == 45) := by
        have q : ∀ k : Nat, ((k : Int) == (c : Int)) = (c == k) := fun k => by
          rw [Bool.eq_iff_iff]; simp; omega
        have q1 := q 34
        have q2 := q 37
        have q3 := q 45
        show (eqV (V.int 34) (V.int c) || (eqV (V.int 37) (V.int c) || (eqV (V.int 45) (V.int c) || false))) = _
        show (((34 : Int) == (c : Int)) || (((37 : Int) == (c : Int)) || (((45 : Int) == (c : Int)) || false))) = _
        rw [Bool.or_false, Bool.or_assoc]
        exact congr (congrArg _ q1) (congr (congrArg _ q2) q3)
      simp [startD, ha', hb', oInQ, scV, h1, e, okS, ha, hb]
    · have hb' : ¬ (c : Int) ≤ 126 := by omega
      simp [startD, ha', hb', okS, ha, hb]
  · have ha' : ¬ (32 : Int) ≤ c := by omega
    simp [startD, ha', okS, ha]
theorem nodup_inj {α : Type} : ∀ {l : List α}, l.Nodup → ∀ {i j : Nat} {a : α}, l[i]? = some a → l[j]? = some a → i = j
  | [], _, i, j, a, h, _ => by simp at h
  | b :: l, hn, i, j, a, h1, h2 => by
    rw [List.nodup_cons] at hn
    cases i with
    | zero =>
      cases j with
      | zero => rfl
      | succ j =>
        simp only [List.getElem?_cons_zero, Option.some.injEq] at h1
        subst h1
        exact absurd (List.mem_of_getElem? (by simpa using h2)) hn.1
    | succ i =>
      cases j with
      | zero =>
        simp only [List.getElem?_cons_zero, Option.some.injEq] at h2
        subst h2
        exact absurd (List.mem_of_getElem? (by simpa using h1)) hn.1
      | succ j => rw [nodup_inj hn.2 (i := i) (j := j) (by simpa using h1) (by simpa using h2)]
theorem take_idx {α : Type} {l : List α} {i : Nat} {a : α} (h : a ∈ l.take i) : ∃ j, j < i ∧ l[j]? = some a := by
  obtain ⟨j, hj⟩ := List.getElem?_of_mem h
  have hl := (List.getElem?_eq_some_iff.mp hj).1
  rw [List.length_take] at hl
  rw [List.getElem?_take_of_lt (by omega)] at hj
  exact ⟨j, by omega, hj⟩
/-- texts of signs, none twice -/
structure GoodS (S : List Nat) : Prop where
  nd : S.Nodup
  ok : ∀ c ∈ S, okS c = true
  len : S.length ≤ 12
  pos : 0 < S.length
theorem key_str (x : Str) : keyD (.str x) = some (.inr x) := rfl
theorem put_len (kds : List (Key × D)) (k : Key) (v : D) : (putKD kds k v).length ≤ kds.length + 1 := by
  unfold putKD; split <;> simp
theorem con_nil {i : Nat} {ds : DS} {kds : List (Key × D)} (h : ds[i]? = some (some (.dct kds))) : conAt i .nil ds = true := by
  unfold conAt; rw [h]; rfl
theorem signs_fit_eval {S : List Nat} (h : GoodS S) : f_signs_fit cs [.str (tx S)] = some (.ok (.bl true)) := by
  unfold f_signs_fit
  apply fn0_of
  obtain ⟨n', ds', h1, h2, kds, lastv, h3, h4, h5, h6⟩ := forM_inv (tg := .one 2) (body := b_signs_fit_1 cs) (f := fun c => D.str (tx [c])) (l := S)
    (fun i n ds => n = 0 ∧ ∃ kds lastv, ds = [some (.str (tx S)), some (.dct kds), lastv] ∧ kds.length ≤ i ∧ (0 < i → 0 < kds.length) ∧ ∀ c, (valD kds (.inr (tx [c]))).isSome = true → c ∈ S.take i)
    (fun i c n ds hi ⟨hn, kds, lastv, hd, hl, hp, hk⟩ => by
      subst hn hd
      have hlt := (List.getElem?_eq_some_iff.mp hi).1
      have hmem : c ∈ S := List.mem_of_getElem? hi
      have hnot : (valD kds (.inr (tx [c]))).isSome = false := by
        cases e : (valD kds (.inr (tx [c]))).isSome with
        | false => rfl
        | true =>
          have hm := hk c e
          obtain ⟨j, hj, hjc⟩ := take_idx hm
          have := nodup_inj h.nd hjc hi
          omega
      refine ⟨_, rfl, 0, [some (.str (tx S)), some (.dct (putKD kds (.inr (tx [c])) (.bl true))), some (.str (tx [c]))], ?_, rfl, _, _, rfl, ?_, ?_, ?_⟩
      · unfold b_signs_fit_1
        have hin : oInD false (.str (tx [c])) (.dct kds) = some (.bl false) := by
          show some (D.bl (false ^^ (valD kds (.inr (tx [c]))).isSome)) = _
          rw [hnot]; rfl
        refine seq_nx (ds1 := [some (.str (tx S)), some (.dct kds), some (.str (tx [c]))]) (n1 := 0) ?_ ?_
        · simp [is_sign_eval, h.ok c hmem, hin]
        · have hlen : kds.length < 16777216 := by have := h.len; omega
          simp [sSetK, mPN, conAt, getP, isCon, keyD, setP, hlen]
      · have := put_len kds (.inr (tx [c])) (.bl true); omega
      · intro _
        unfold putKD
        split
        · rename_i hany
          rw [List.length_map]
          cases kds with
          | nil => simp at hany
          | cons _ _ => simp
        · simp
      · intro c2 hc2
        rw [valD_put] at hc2
        have htake : S.take (i + 1) = S.take i ++ [c] := by
          rw [List.take_succ, hi]; rfl
        rw [htake]
        by_cases hcc : (.inr (tx [c2]) : Key) = .inr (tx [c])
        · have : c2 = c := by
            have := tx_inj.mp (Sum.inr.inj hcc)
            simpa using this
          subst this; simp
        · rw [if_neg hcc] at hc2
          exact List.mem_append_left _ (hk c2 hc2)) (n := 0) (ds := [some (.str (tx S)), some (.dct []), none]) ⟨rfl, [], none, rfl, Nat.le_refl _, fun h => absurd h (Nat.lt_irrefl _), fun c hc => by cases hc⟩
  subst h2 h3
  have e : m_signs_fit cs 0 (startD 3 [.str (tx S)]) = some (.rt (.bl true), 0, [some (.str (tx S)), some (.dct kds), lastv]) := by
    unfold m_signs_fit
    refine seq_nx (ds1 := [some (.str (tx S)), some (.dct []), none]) (n1 := 0) (by simp [startD]) (seq_nx (for_of (as := S.map fun c => D.str (tx [c])) (n1 := 0) (by simp) h1) ?_)
    have hp := h5 h.pos
    simp [oLen, hp]
  rw [e]; rfl
end K22

namespace K22
open PySem L2 PyProof.Rows GW
variable {cs : Nat → Addr}
/-! ### fractions as pairs -/
abbrev Fr := Int × Nat
def frD (p : Fr) : D := .tup [.int p.1, .int (p.2 : Int)]
def low (p : Fr) : Fr := (p.1 / (Nat.gcd p.1.natAbs p.2 : Nat), p.2 / Nat.gcd p.1.natAbs p.2)
structure Gd (p : Fr) : Prop where
  pos : 0 < p.2
  le : p.2 ≤ 1000
  sz : p.1.natAbs ≤ 10 ^ 40
theorem gcd_cast (p : Fr) : Int.gcd p.1 (p.2 : Int) = Nat.gcd p.1.natAbs p.2 := by simp [Int.gcd]
theorem low_is (p : Fr) : lowD p.1 (p.2 : Int) = frD (low p) := by
  unfold lowD frD low
  rw [gcd_cast]
  simp
theorem low_spec {p : Fr} (h : 0 < p.2) : 0 < (low p).2 ∧ Nat.gcd (low p).1.natAbs (low p).2 = 1 ∧ (low p).1 * (p.2 : Int) = p.1 * ((low p).2 : Int) ∧ (low p).1.natAbs ≤ p.1.natAbs ∧ (low p).2 ≤ p.2 := by
  obtain ⟨a, b, e1, e2, h1, h2, h3, h4, h5⟩ := low_parts (a := p.1) (b := (p.2 : Int)) (by omega)
  rw [gcd_cast] at e1 e2
  have f1 : (low p).1 = a := e1
  have f2 : ((low p).2 : Int) = b := by rw [← e2]; unfold low; simp
  have hb : b = ((low p).2 : Int) := f2.symm
  subst hb
  rw [f1]
  refine ⟨by omega, ?_, h3, h4, by simpa using h5⟩
  rw [← h2]; simp [Int.gcd]
theorem Gd.low {p : Fr} (h : Gd p) : Gd (low p) := by
  obtain ⟨h1, _, _, h4, h5⟩ := low_spec h.pos
  exact ⟨h1, Nat.le_trans h5 h.le, Nat.le_trans h4 h.sz⟩
theorem low_low {p : Fr} (h : 0 < p.2) : low (low p) = low p := by
  obtain ⟨h1, h2, _, _, _⟩ := low_spec h
  generalize low p = q at h1 h2
  unfold low
  rw [h2]
  simp
theorem Gd.sz1 {p : Fr} (h : Gd p) : Sz 200 p.1 := by
  have := h.sz
  unfold Sz; omega
theorem Gd.sz2 {p : Fr} (h : Gd p) : Sz 10 (p.2 : Int) := by
  have := h.le
  unfold Sz; omega
theorem lowest_fr {p : Fr} (h : Gd p) : f_lowest cs [frD p] = some (.ok (frD (low p))) := by
  rw [← low_is]
  exact lowest_eval (by have := h.pos; omega) (h.sz2.mono (by decide))
theorem price_kept_eval {p : Fr} (h : Gd p) : f_price_kept cs [frD p] = some (.ok (frD (low p))) := by
  have h1 := lowest_fr (cs := cs) h
  have hp : ¬ (p.2 : Int) < 1 := by have := h.pos; omega
  unfold f_price_kept m_price_kept
  apply fn0_of
  have e : (frD p : D) = .tup [.int p.1, .int (p.2 : Int)] := rfl
  simp [startD, e, hp]
  rw [← e, h1]
  rfl
/-! ### the least whole number -/
def lcmL (us : List Nat) : Nat := us.foldl Nat.lcm 1
theorem lcmL_snoc {us : List Nat} {u : Nat} : lcmL (us ++ [u]) = Nat.lcm (lcmL us) u := by
  unfold lcmL; rw [List.foldl_append]; rfl
theorem take_snoc {α : Type} {l : List α} {i : Nat} {a : α} (h : l[i]? = some a) : l.take (i + 1) = l.take i ++ [a] := by
  rw [List.take_succ, h]; rfl
theorem lcm_fold : ∀ (us : List Nat) (w : Nat), (∀ u ∈ us, 0 < u ∧ u ≤ 1000) → 0 < w → 0 < us.foldl Nat.lcm w ∧ us.foldl Nat.lcm w ≤ w * 1000 ^ us.length
  | [], w, _, h => ⟨h, by simp⟩
  | u :: us, w, hu, h => by
    obtain ⟨h1, h2⟩ := hu u List.mem_cons_self
    obtain ⟨i1, i2⟩ := lcm_fold us (Nat.lcm w u) (fun v hv => hu v (List.mem_cons_of_mem _ hv)) (Nat.lcm_pos h h1)
    refine ⟨i1, Nat.le_trans i2 ?_⟩
    have : Nat.lcm w u ≤ w * u := Nat.le_of_dvd (Nat.mul_pos h h1) (Nat.lcm_dvd_mul _ _)
    rw [List.length_cons, Nat.pow_succ, Nat.mul_comm (1000 ^ us.length), ← Nat.mul_assoc]
    exact Nat.mul_le_mul_right _ (Nat.le_trans this (Nat.mul_le_mul_left _ h2))
theorem lcmL_bound (us : List Nat) (h : ∀ u ∈ us, 0 < u ∧ u ≤ 1000) : 0 < lcmL us ∧ lcmL us ≤ 1000 ^ us.length := by
  obtain ⟨h1, h2⟩ := lcm_fold us 1 h (by decide)
  exact ⟨h1, by rw [Nat.one_mul] at h2; exact h2⟩
def unD (us : List Nat) : List D := us.map fun (u : Nat) => D.int (u : Int)
theorem pow_sz {w n : Nat} (h : w ≤ 1000 ^ n) : Sz (10 * n + 1) (w : Int) := by
  unfold Sz
  have h1 : (1000 : Nat) ^ n ≤ (2 ^ 10) ^ n := Nat.pow_le_pow_left (by decide) n
  rw [← Nat.pow_mul] at h1
  have h2 : (2 : Nat) ^ (10 * n) < 2 ^ (10 * n + 1) := Nat.pow_lt_pow_right (by decide) (by omega)
  simp only [Int.natAbs_natCast]
  omega
theorem least_whole_eval {us : List Nat} (h : ∀ u ∈ us, 0 < u ∧ u ≤ 1000) (hl : us.length ≤ 200) : f_least_whole cs [.lst (unD us)] = some (.ok (.int (lcmL us))) := by
  unfold f_least_whole
  apply fn0_of
  obtain ⟨n', ds', h1, h2, lastv, h3⟩ := forM_inv (tg := .one 2) (body := b_least_whole_1 cs) (f := fun (u : Nat) => D.int (u : Int)) (l := us)
    (fun i n ds => n = 0 ∧ ∃ lastv, ds = [some (.lst (unD us)), some (.int (lcmL (us.take i))), lastv])
    (fun i u n ds hi ⟨hn, lastv, hd⟩ => by
      subst hn hd
      have hu := h u (List.mem_of_getElem? hi)
      have hlt := (List.getElem?_eq_some_iff.mp hi).1
      obtain ⟨b1, b2⟩ := lcmL_bound (us.take i) fun v hv => h v (List.mem_of_mem_take hv)
      rw [take_snoc hi, lcmL_snoc]
      generalize lcmL (us.take i) = w at b1 b2
      have hg : Int.gcd (w : Int) (u : Int) = Nat.gcd w u := by simp [Int.gcd]
      have g1 := gp_eval (cs := cs) (a := (w : Int)) (b := (u : Int)) (by omega) (by omega) ((show Sz 10 (u : Int) by unfold Sz; omega).mono (by decide))
      rw [hg] at g1
      have hgp : 0 < Nat.gcd w u := Nat.gcd_pos_of_pos_left _ b1
      have hgl : Nat.gcd w u ≤ u := Nat.le_of_dvd hu.1 (Nat.gcd_dvd_right _ _)
      have m1 : mulOk (w : Int) (u : Int) = true := mulR ⟨by omega, by omega⟩
      have d1 : divOk ((Nat.gcd w u : Nat) : Int) = true := divL ⟨by omega, by omega⟩
      have ev : ((w : Int) * (u : Int)) / ((Nat.gcd w u : Nat) : Int) = ((Nat.lcm w u : Nat) : Int) := by
        unfold Nat.lcm; simp
      refine ⟨_, rfl, 0, [some (.lst (unD us)), some (.int (Nat.lcm w u : Nat)), some (.int u)], ?_, rfl, _, rfl⟩
      unfold b_least_whole_1
      simp [m1, g1, d1]
      exact ev) (n := 0) (ds := [some (.lst (unD us)), some (.int 1), none]) ⟨rfl, none, rfl⟩
  subst h2 h3
  rw [List.take_length] at h1
  have e : m_least_whole cs 0 (startD 3 [.lst (unD us)]) = some (.rt (.int (lcmL us)), 0, [some (.lst (unD us)), some (.int (lcmL us)), lastv]) := by
    unfold m_least_whole
    refine seq_nx (ds1 := [some (.lst (unD us)), some (.int 1), none]) (n1 := 0) (by simp [startD]) (seq_nx (for_of (as := unD us) (n1 := 0) (by simp) h1) ?_)
    simp
  rw [e]; rfl
/-! ### units -/
def un (p : Fr) (w : Nat) : Int := p.1 * ((w / p.2 : Nat) : Int)
theorem units_of_eval {p : Fr} {w : Nat} (h : Gd p) (hw : Sz 2100 (w : Int)) : f_units_of cs [frD p, .int w] = some (.ok (.int (un p w))) := by
  have hp := h.pos
  have d1 : divOk (p.2 : Int) = true := divL ⟨by omega, by have := h.le; omega⟩
  have m1 : mulOk p.1 ((w : Int) / (p.2 : Int)) = true := mulOk_of h.sz1 (b := 2100) (by
    unfold Sz at *
    rw [← Int.natCast_ediv, Int.natAbs_natCast]
    rw [Int.natAbs_natCast] at hw
    exact Nat.lt_of_le_of_lt (Nat.div_le_self _ _) hw) (by decide)
  unfold f_units_of m_units_of
  apply fn0_of
  have e : (frD p : D) = .tup [.int p.1, .int (p.2 : Int)] := rfl
  simp [startD, e, d1, m1, un]
end K22

namespace K22
open PySem L2 PyProof.Rows GW
variable {cs : Nat → Addr}
/-! ### prices are made -/
structure GT (n : Nat) (T : List (List Fr)) : Prop where
  len : T.length = n
  rows : ∀ l ∈ T, l.length = n ∧ ∀ p ∈ l, Gd p
def rowsD (b : Bool) (T : List (List Fr)) : D := seqD b (T.map fun l => seqD b (l.map frD))
def PT (T : List (List Fr)) : D := .tup (T.map fun l => .tup (l.map fun p => frD (low p)))
def und (T : List (List Fr)) : List Nat := T.flatMap fun l => l.map fun p => (low p).2
def unitW (T : List (List Fr)) (o m : Fr) : Nat := lcmL ((low o).2 :: (low m).2 :: und T)
def priceD (cs : Nat → Addr) (S : List Nat) (T : List (List Fr)) (o m : Fr) (w : Nat) (kds : List (Key × D)) : D :=
  .obj (cs 0) [fl "signs" (.str (tx S)), fl "pairs" (PT T), fl "opening" (frD (low o)), fl "more" (frD (low m)), fl "whole" (.int w), fl "costs" (.dct kds), fl "open_units" (.int (un (low o) w)), fl "more_units" (.int (un (low m) w))]
def CostOK (S : List Nat) (T : List (List Fr)) (w : Nat) (kds : List (Key × D)) : Prop := ∀ (i j c d : Nat) (l : List Fr) (p : Fr), S[i]? = some c → S[j]? = some d → T[i]? = some l → l[j]? = some p → valD kds (.inr (tx [c, d])) = some (.int (un (low p) w))
theorem flat_fr (p : Fr) : flat (frD p) = true := by simp [frD, flat, flats]
theorem flats_map {α : Type} {f : α → D} (h : ∀ a, flat (f a) = true) : ∀ l : List α, flats (l.map f) = true
  | [] => rfl
  | a :: l => by simp [flats, h a, flats_map h l]
theorem flat_PT (T : List (List Fr)) : flat (PT T) = true := by
  unfold PT
  simp only [flat]
  refine flats_map (f := fun l => D.tup (l.map fun p => frD (low p))) (fun l => ?_) T
  simp only [flat]
  exact flats_map (f := fun p => frD (low p)) (fun p => flat_fr _) l
theorem und_ok {n : Nat} {T : List (List Fr)} (h : GT n T) {o m : Fr} (ho : Gd o) (hm : Gd m) : ∀ u ∈ (low o).2 :: (low m).2 :: und T, 0 < u ∧ u ≤ 1000 := by
  intro u hu
  rcases List.mem_cons.mp hu with rfl | hu
  · exact ⟨ho.low.pos, ho.low.le⟩
  · rcases List.mem_cons.mp hu with rfl | hu
    · exact ⟨hm.low.pos, hm.low.le⟩
    · obtain ⟨l, hl, hu⟩ := List.mem_flatMap.mp hu
      obtain ⟨p, hp, rfl⟩ := List.mem_map.mp hu
      have := ((h.rows l hl).2 p hp).low
      exact ⟨this.pos, this.le⟩
theorem und_len {n : Nat} : ∀ {T : List (List Fr)}, (∀ l ∈ T, l.length = n) → (und T).length = T.length * n
  | [], _ => by simp [und]
  | l :: T, h => by
    have := und_len (T := T) fun l hl => h l (List.mem_cons_of_mem _ hl)
    unfold und at this ⊢
    rw [List.flatMap_cons, List.length_append, this, List.length_map, h l List.mem_cons_self, List.length_cons, Nat.succ_mul]
    omega
theorem unit_len {n : Nat} {T : List (List Fr)} (h : GT n T) (hn : n ≤ 12) {o m : Fr} : ((low o).2 :: (low m).2 :: und T).length ≤ 146 := by
  rw [List.length_cons, List.length_cons, und_len fun l hl => (h.rows l hl).1, h.len]
  have : n * n ≤ 12 * 12 := Nat.mul_le_mul hn hn
  omega
theorem unit_sz {n : Nat} {T : List (List Fr)} (h : GT n T) (hn : n ≤ 12) {o m : Fr} (ho : Gd o) (hm : Gd m) : 0 < unitW T o m ∧ Sz 2100 (unitW T o m : Int) := by
  obtain ⟨h1, h2⟩ := lcmL_bound _ (und_ok h ho hm)
  have h3 := unit_len h hn (o := o) (m := m)
  refine ⟨h1, (pow_sz (w := unitW T o m) (n := 146) (Nat.le_trans h2 (Nat.pow_le_pow_right (by decide) h3))).mono (by decide)⟩
def OKat (S : List Nat) (T : List (List Fr)) (w : Nat) (kds : List (Key × D)) (i j : Nat) : Prop := ∀ (c d : Nat) (l : List Fr) (p : Fr), S[i]? = some c → S[j]? = some d → T[i]? = some l → l[j]? = some p → valD kds (.inr (tx [c, d])) = some (.int (un (low p) w))
theorem put_ok {S : List Nat} {T : List (List Fr)} {w : Nat} {kds : List (Key × D)} {i j c d : Nat} {l : List Fr} {p : Fr} (hS : S.Nodup) (hc : S[i]? = some c) (hd : S[j]? = some d) (hl : T[i]? = some l) (hp : l[j]? = some p) {i' j' : Nat} (h : OKat S T w kds i' j' ∨ (i' = i ∧ j' = j)) : OKat S T w (putKD kds (.inr (tx [c, d])) (.int (un (low p) w))) i' j' := by
  intro c' d' l' p' hc' hd' hl' hp'
  rw [valD_put]
  by_cases hk : (.inr (tx [c', d']) : Key) = .inr (tx [c, d])
  · have := tx_inj.mp (Sum.inr.inj hk)
    simp only [List.cons.injEq, and_true] at this
    obtain ⟨r1, r2⟩ := this
    subst r1 r2
    have e1 := nodup_inj hS hc hc'
    have e2 := nodup_inj hS hd hd'
    subst e1 e2
    rw [hl] at hl'; cases hl'
    rw [hp] at hp'; cases hp'
    simp
  · rw [if_neg hk]
    rcases h with h | ⟨rfl, rfl⟩
    · exact h c' d' l' p' hc' hd' hl' hp'
    · rw [hc] at hc'; cases hc'
      rw [hd] at hd'; cases hd'
      exact absurd rfl hk
theorem put_flat {kds : List (Key × D)} {k : Key} {v : D} (h : (kds.all fun p => flat p.2) = true) (hv : flat v = true) : ((putKD kds k v).all fun p => flat p.2) = true := by
  rw [List.all_eq_true] at h ⊢
  intro p hp
  unfold putKD at hp
  split at hp
  · obtain ⟨q, hq, rfl⟩ := List.mem_map.mp hp
    split
    · exact hv
    · exact h q hq
  · rcases List.mem_append.mp hp with hp | hp
    · exact h p hp
    · simp only [List.mem_singleton] at hp
      subst hp; exact hv
theorem zip_get {α β : Type} {a : List α} {b : List β} {i : Nat} {x : α} {y : β} (h : (a.zip b)[i]? = some (x, y)) : a[i]? = some x ∧ b[i]? = some y := by
  rw [List.getElem?_zip_eq_some] at h; exact h
theorem init_eval {S : List Nat} {T : List (List Fr)} {o m : Fr} {b : Bool} (hS : GoodS S) (hT : GT S.length T) (ho : Gd o) (hm : Gd m) : ∃ kds, f_Prices_init cs [.str (tx S), rowsD b T, frD o, frD m] = some (.ok (priceD cs S T o m (unitW T o m) kds)) ∧ CostOK S T (unitW T o m) kds ∧ (kds.all fun p => flat p.2) = true := by
  have hS16 : S.length ≤ 16777216 := by have := hS.len; omega
  let st : List (Str × D) → Option D → Option D → Option D → Option D → Option D → DS := fun f x5 x6 x7 x8 x9 => [some (.obj (cs 0) f), some (.str (tx S)), some (rowsD b T), some (frD o), some (frD m), x5, x6, x7, x8, x9]
  have e1 : sIf (mOr (mNot (mTest (mCall (pureF (f_signs_fit cs)) (mCons (mVar 1) (ret (some [])))))) (mTest (m2 (mCB (mCons (mVar 2) (ret (some []))) oLen) (mCB (mCons (mVar 1) (ret (some []))) oLen) oNe))) (sRaise 1) sNx 0 (st [] none none none none none) = some (.nx, 0, st [] none none none none none) := by
    simp [st, signs_fit_eval hS, rowsD, ov_lenS hS16, hT.len]
  obtain ⟨n1, ds1, e2, h2⟩ := forM_inv (tg := .one 5) (body := b_Prices_init_1 cs) (f := fun l => seqD b (l.map frD)) (l := T) (n := 0) (ds := st [] none none none none none)
    (fun i n ds => n = 0 ∧ ∃ x5, ds = st [] x5 none none none none)
    (fun i l n ds hi ⟨hn, x5, hd⟩ => by
      subst hn hd
      have hl := (hT.rows l (List.mem_of_getElem? hi)).1
      refine ⟨_, rfl, 0, st [] (some (seqD b (l.map frD))) none none none none, ?_, rfl, _, rfl⟩
      unfold b_Prices_init_1
      simp [st, ov_lenS hS16, hl]) ⟨rfl, none, rfl⟩
  obtain ⟨rfl, x5, rfl⟩ := h2
  have e3 : sSetF 0 (mFlat (mVar 1)) (cs 0) "signs" 0 (st [] x5 none none none none) = some (.nx, 0, st [fl "signs" (.str (tx S))] x5 none none none none) :=
    setF_of (d := .str (tx S)) (by simp [flat]) (by decide)
  have ePT : ∀ y5 : Option D, mCB (mCons (mLc (mItA (mVar 2)) (.one 5) mYes (mCB (mCons (mLc (mItA (mVar 5)) (.one 9) mYes (mCall (pureF (f_price_kept cs)) (mCons (mVar 9) (ret (some [])))) [9]) (ret (some []))) oTuple) [5]) (ret (some []))) oTuple 0 (st [fl "signs" (.str (tx S))] y5 none none none none) = some (.ok (PT T), 0) := fun y5 => by
    have q := lc_of_comp (mi := mItA (mVar 2)) (tg := .one 5) (tt := mYes) (me := mCB (mCons (mLc (mItA (mVar 5)) (.one 9) mYes (mCall (pureF (f_price_kept cs)) (mCons (mVar 9) (ret (some [])))) [9]) (ret (some []))) oTuple) (vs := [5]) (n := 0) (ds := st [fl "signs" (.str (tx S))] y5 none none none none) (as := T.map fun l => seqD b (l.map frD)) (n1 := 0) (by simp [st, rowsD])
      (compL_map (fun l => seqD b (l.map frD)) (fun l => .tup (l.map fun p => frD (low p))) T fun l hl => ⟨st [fl "signs" (.str (tx S))] (some (seqD b (l.map frD))) none none none none, rfl, by
        have q2 := lc_of_comp (mi := mItA (mVar 5)) (tg := .one 9) (tt := mYes) (me := mCall (pureF (f_price_kept cs)) (mCons (mVar 9) (ret (some [])))) (vs := [9]) (n := 0) (ds := st [fl "signs" (.str (tx S))] (some (seqD b (l.map frD))) none none none none) (as := l.map frD) (n1 := 0) (by simp [st])
          (compL_map frD (fun p => frD (low p)) l fun p hp => ⟨_, rfl, by simp [st, wipeD, price_kept_eval ((hT.rows l hl).2 p hp)]⟩) (by rw [List.length_map, (hT.rows l hl).1]; have := hS.len; omega)
        simp only [ev_cb, ev_cons, ev_mb, q2]
        rfl⟩) (by rw [List.length_map, hT.len]; have := hS.len; omega)
    simp only [ev_cb, ev_cons, ev_mb, q]
    rfl
  have e4 : sSetF 0 (mCB (mCons (mLc (mItA (mVar 2)) (.one 5) mYes (mCB (mCons (mLc (mItA (mVar 5)) (.one 9) mYes (mCall (pureF (f_price_kept cs)) (mCons (mVar 9) (ret (some [])))) [9]) (ret (some []))) oTuple) [5]) (ret (some []))) oTuple) (cs 0) "pairs" 0 (st [fl "signs" (.str (tx S))] x5 none none none none) = some (.nx, 0, st [fl "signs" (.str (tx S)), fl "pairs" (PT T)] x5 none none none none) := setF_of (d := PT T) (ePT x5) (by simp)
  have e5 : sSetF 0 (mFlat (mCall (pureF (f_price_kept cs)) (mCons (mVar 3) (ret (some []))))) (cs 0) "opening" 0 (st [fl "signs" (.str (tx S)), fl "pairs" (PT T)] x5 none none none none) = some (.nx, 0, st [fl "signs" (.str (tx S)), fl "pairs" (PT T), fl "opening" (frD (low o))] x5 none none none none) := setF_of (d := frD (low o)) (by simp [st, price_kept_eval ho, flat_fr]) (by simp)
  have e6 : sSetF 0 (mFlat (mCall (pureF (f_price_kept cs)) (mCons (mVar 4) (ret (some []))))) (cs 0) "more" 0 (st [fl "signs" (.str (tx S)), fl "pairs" (PT T), fl "opening" (frD (low o))] x5 none none none none) = some (.nx, 0, st [fl "signs" (.str (tx S)), fl "pairs" (PT T), fl "opening" (frD (low o)), fl "more" (frD (low m))] x5 none none none none) := setF_of (d := frD (low m)) (by simp [st, price_kept_eval hm, flat_fr]) (by simp)
  let F4 : List (Str × D) := [fl "signs" (.str (tx S)), fl "pairs" (PT T), fl "opening" (frD (low o)), fl "more" (frD (low m))]
  have g1 : ∀ r : DS, oFld (cs 0) "opening" (.obj (cs 0) F4) = some (frD (low o)) := fun _ => by rw [oFld_eq]; rfl
  have g2 : oFld (cs 0) "more" (.obj (cs 0) F4) = some (frD (low m)) := by rw [oFld_eq]; rfl
  have g3 : oFld (cs 0) "pairs" (.obj (cs 0) F4) = some (PT T) := by rw [oFld_eq]; rfl
  have ix2 : ∀ p : Fr, oIx (frD p) (.int 1) = some (.int (p.2 : Int)) := fun p => by simp [frD]
  have ix1 : ∀ p : Fr, oIx (frD p) (.int 0) = some (.int p.1) := fun p => by simp [frD]
  have e7 : sSet 6 (mLst (mCons (mFlat (m2 (m1 (mVar 0) (oFld (cs 0) "opening")) (mC (.int 1)) oIx)) (mCons (mFlat (m2 (m1 (mVar 0) (oFld (cs 0) "more")) (mC (.int 1)) oIx)) (ret (some []))))) 0 (st F4 x5 none none none none) = some (.nx, 0, st F4 x5 (some (.lst (unD [(low o).2, (low m).2]))) none none none) := by
    simp [st, g1 [], g2, ix2, flat, unD]
  obtain ⟨n2, ds2, e8, h8⟩ := forM_inv (tg := .one 5) (body := b_Prices_init_2 cs) (f := fun l => D.tup (l.map fun p => frD (low p))) (l := T) (n := 0) (ds := st F4 x5 (some (.lst (unD [(low o).2, (low m).2]))) none none none)
    (fun i n ds => n = 0 ∧ ∃ x5 x9, ds = st F4 x5 (some (.lst (unD ((low o).2 :: (low m).2 :: und (T.take i))))) none none x9)
    (fun i l n ds hi ⟨hn, x5, x9, hd⟩ => by
      subst hn hd
      have hll := (hT.rows l (List.mem_of_getElem? hi)).1
      have hlt := (List.getElem?_eq_some_iff.mp hi).1
      refine ⟨_, rfl, 0, st F4 (some (.tup (l.map fun p => frD (low p)))) (some (.lst (unD ((low o).2 :: (low m).2 :: und (T.take (i + 1)))))) none none x9, ?_, rfl, _, _, rfl⟩
      unfold b_Prices_init_2
      have q := lc_of_comp (mi := mItA (mVar 5)) (tg := .one 9) (tt := mYes) (me := m2 (mVar 9) (mC (.int 1)) oIx) (vs := [9]) (n := 0) (ds := st F4 (some (.tup (l.map fun p => frD (low p)))) (some (.lst (unD ((low o).2 :: (low m).2 :: und (T.take i))))) none none x9) (as := l.map fun p => frD (low p)) (n1 := 0) (by simp [st])
        (compL_map (fun p => frD (low p)) (fun p => .int ((low p).2 : Int)) l fun p hp => ⟨_, rfl, by simp [st, wipeD, ix2]⟩) (by rw [List.length_map, hll]; have := hS.len; omega)
      have hund : und (T.take (i + 1)) = und (T.take i) ++ l.map fun p => (low p).2 := by
        rw [take_snoc hi]; unfold und; simp
      have hlen : (unD ((low o).2 :: (low m).2 :: und (T.take i))).length + (l.map fun p => D.int ((low p).2 : Int)).length ≤ 16777216 := by
        unfold unD
        rw [List.length_map, List.length_map, List.length_cons, List.length_cons, und_len fun l hl => (hT.rows l (List.mem_of_mem_take hl)).1, hll, List.length_take, hT.len]
        have h1 := hS.len
        have : min i S.length * S.length ≤ 12 * 12 := Nat.mul_le_mul (by omega) h1
        omega
      refine (ext_of (as := unD ((low o).2 :: (low m).2 :: und (T.take i))) (by simp [st]) q hlen).trans ?_
      rw [hund]
      simp [st, unD]) ⟨rfl, _, _, rfl⟩
  obtain ⟨rfl, y5, y9, rfl⟩ := h8
  rw [List.take_length] at e8
  generalize hw : unitW T o m = w
  obtain ⟨w0, wS⟩ := unit_sz hT hS.len ho hm
  rw [hw] at w0 wS
  have hlw : f_least_whole cs [.lst (unD ((low o).2 :: (low m).2 :: und T))] = some (.ok (.int (w : Int))) := by
    rw [← hw]
    exact least_whole_eval (und_ok hT ho hm) (by have := unit_len hT hS.len (o := o) (m := m); omega)
  let X6 : Option D := some (.lst (unD ((low o).2 :: (low m).2 :: und T)))
  have e9 : sSetF 0 (mFlat (mCall (pureF (f_least_whole cs)) (mCons (mVar 6) (ret (some []))))) (cs 0) "whole" 0 (st F4 y5 X6 none none y9) = some (.nx, 0, st [fl "signs" (.str (tx S)), fl "pairs" (PT T), fl "opening" (frD (low o)), fl "more" (frD (low m)), fl "whole" (.int (w : Int))] y5 X6 none none y9) := setF_of (d := .int (w : Int)) (by simp [st, X6, hlw, flat]) (by simp [F4])
  let F6 : List (Key × D) → List (Str × D) := fun kds => [fl "signs" (.str (tx S)), fl "pairs" (PT T), fl "opening" (frD (low o)), fl "more" (frD (low m)), fl "whole" (.int (w : Int)), fl "costs" (.dct kds)]
  have e10 : sSetF 0 (mC (.dct [])) (cs 0) "costs" 0 (st [fl "signs" (.str (tx S)), fl "pairs" (PT T), fl "opening" (frD (low o)), fl "more" (frD (low m)), fl "whole" (.int (w : Int))] y5 X6 none none y9) = some (.nx, 0, st (F6 []) y5 X6 none none y9) := setF_of (d := .dct []) (by simp) (by simp)
  have k1 : ∀ kds, oFld (cs 0) "whole" (.obj (cs 0) (F6 kds)) = some (.int (w : Int)) := fun _ => by rw [oFld_eq]; rfl
  have k2 : ∀ kds, oFld (cs 0) "pairs" (.obj (cs 0) (F6 kds)) = some (PT T) := fun _ => by rw [oFld_eq]; rfl
  have k3 : ∀ kds, oFld (cs 0) "opening" (.obj (cs 0) (F6 kds)) = some (frD (low o)) := fun _ => by rw [oFld_eq]; rfl
  have k4 : ∀ kds, oFld (cs 0) "more" (.obj (cs 0) (F6 kds)) = some (frD (low m)) := fun _ => by rw [oFld_eq]; rfl
  have k5 : ∀ kds, (F6 kds).lookup ("costs" : Str) = some (D.dct kds) := fun _ => rfl
  have k6 : ∀ kds kds', putD ("costs" : Str) (.dct kds') (F6 kds) = F6 kds' := fun _ _ => rfl
  obtain ⟨n3, ds3, e11, h11⟩ := forM_inv (tg := .tup [7, 5]) (body := b_Prices_init_4 cs) (f := fun q : Nat × List Fr => D.tup [.str (tx [q.1]), .tup (q.2.map fun p => frD (low p))]) (l := S.zip T) (n := 0) (ds := st (F6 []) y5 X6 none none y9)
    (fun i n ds => n = 0 ∧ ∃ kds x5 x7 x8 x9, ds = st (F6 kds) x5 X6 x7 x8 x9 ∧ kds.length ≤ i * 12 ∧ (kds.all fun p => flat p.2) = true ∧ ∀ i' j', i' < i → OKat S T w kds i' j')
    (fun i q n ds hi ⟨hn, kds0, x5, x7, x8, x9, hd, hk0, hfl0, hok0⟩ => by
      subst hn hd
      obtain ⟨c, l⟩ := q
      obtain ⟨hc, hl⟩ := zip_get hi
      have hll := (hT.rows l (List.mem_of_getElem? hl)).1
      refine ⟨st (F6 kds0) (some (.tup (l.map fun p => frD (low p)))) X6 (some (.str (tx [c]))) x8 x9, rfl, ?_⟩
      obtain ⟨n4, ds4, f1, f2⟩ := forM_inv (tg := .tup [8, 9]) (body := b_Prices_init_3 cs) (f := fun q : Nat × Fr => D.tup [.str (tx [q.1]), frD (low q.2)]) (l := S.zip l) (n := 0) (ds := st (F6 kds0) (some (.tup (l.map fun p => frD (low p)))) X6 (some (.str (tx [c]))) x8 x9)
        (fun j n ds => n = 0 ∧ ∃ kds x8 x9, ds = st (F6 kds) (some (.tup (l.map fun p => frD (low p)))) X6 (some (.str (tx [c]))) x8 x9 ∧ kds.length ≤ i * 12 + j ∧ (kds.all fun p => flat p.2) = true ∧ (∀ i' j', i' < i → OKat S T w kds i' j') ∧ ∀ j', j' < j → OKat S T w kds i j')
        (fun j q n ds hj ⟨hn, kds, x8, x9, hd, hk, hfl, hok, hok2⟩ => by
          subst hn hd
          obtain ⟨d, p⟩ := q
          obtain ⟨hd, hp⟩ := zip_get hj
          have hgp := ((hT.rows l (List.mem_of_getElem? hl)).2 p (List.mem_of_getElem? hp)).low
          have hjl := (List.getElem?_eq_some_iff.mp hd).1
          have hil := (List.getElem?_eq_some_iff.mp hc).1
          have h12 := hS.len
          refine ⟨st (F6 kds) (some (.tup (l.map fun p => frD (low p)))) X6 (some (.str (tx [c]))) (some (.str (tx [d]))) (some (frD (low p))), rfl, 0, st (F6 (putKD kds (.inr (tx [c, d])) (.int (un (low p) w)))) (some (.tup (l.map fun p => frD (low p)))) X6 (some (.str (tx [c]))) (some (.str (tx [d]))) (some (frD (low p))), ?_, rfl, _, _, _, rfl, ?_, put_flat hfl (by simp [flat]), ?_, ?_⟩
          · unfold b_Prices_init_3
            refine (setKF_of (kds := kds) (key := .inr (tx [c, d])) (d := .int (un (low p) w)) (z := .str (tx [c, d])) (n1 := 0) (n2 := 0) ?_ (k5 kds) ?_ rfl (by have : i * 12 ≤ 12 * 12 := Nat.mul_le_mul (by omega) (Nat.le_refl _); omega)).trans ?_
            · simp [k1, units_of_eval hgp wS, flat]
            · simp [ov_addS]
            · rw [k6]
          · have := put_len kds (.inr (tx [c, d])) (.int (un (low p) w)); omega
          · exact fun i' j' h => put_ok hS.nd hc hd hl hp (.inl (hok i' j' h))
          · intro j' h
            by_cases hjj : j' = j
            · exact put_ok hS.nd hc hd hl hp (.inr ⟨rfl, hjj⟩)
            · exact put_ok hS.nd hc hd hl hp (.inl (hok2 j' (by omega)))) ⟨rfl, kds0, x8, x9, rfl, by omega, hfl0, hok0, fun j' h => absurd h (Nat.not_lt_zero _)⟩
      obtain ⟨rfl, kds4, z8, z9, rfl, hk4, hfl4, hok4, hok5⟩ := f2
      have hzl : (S.zip l).length = S.length := by rw [List.length_zip, hll, Nat.min_self]
      refine ⟨0, st (F6 kds4) (some (.tup (l.map fun p => frD (low p)))) X6 (some (.str (tx [c]))) z8 z9, ?_, rfl, kds4, _, _, _, _, rfl, ?_, hfl4, ?_⟩
      · unfold b_Prices_init_4
        refine for_of (as := (S.zip l).map fun q : Nat × Fr => D.tup [.str (tx [q.1]), frD (low q.2)]) (n1 := 0) ?_ f1
        simp [mZip2, oZip2, st]
      · rw [hzl] at hk4; have := hS.len; rw [Nat.succ_mul]; omega
      · intro i' j' h
        by_cases hii : i' = i
        · subst hii
          by_cases hj : j' < S.length
          · exact hok5 j' (by rw [hzl]; exact hj)
          · intro c' d' l' p' h1 h2
            have := (List.getElem?_eq_some_iff.mp h2).1
            omega
        · exact hok4 i' j' (by omega)) ⟨rfl, [], _, _, _, _, rfl, Nat.le_refl _, rfl, fun i' j' h => absurd h (Nat.not_lt_zero _)⟩
  obtain ⟨rfl, kds, z5, z7, z8, z9, rfl, hk, hfl, hok⟩ := h11
  have hzl : (S.zip T).length = S.length := by rw [List.length_zip, hT.len, Nat.min_self]
  rw [hzl] at hok
  have e12 : sSetF 0 (mFlat (mCall (pureF (f_units_of cs)) (mCons (m1 (mVar 0) (oFld (cs 0) "opening")) (mCons (m1 (mVar 0) (oFld (cs 0) "whole")) (ret (some [])))))) (cs 0) "open_units" 0 (st (F6 kds) z5 X6 z7 z8 z9) = some (.nx, 0, st (F6 kds ++ [fl "open_units" (.int (un (low o) w))]) z5 X6 z7 z8 z9) := setF_of (d := .int (un (low o) w)) (by simp [k1, k3, units_of_eval ho.low wS, flat]) (by simp [F6])
  have k7 : oFld (cs 0) "whole" (.obj (cs 0) (F6 kds ++ [fl "open_units" (.int (un (low o) w))])) = some (.int (w : Int)) := by rw [oFld_eq]; rfl
  have k8 : oFld (cs 0) "more" (.obj (cs 0) (F6 kds ++ [fl "open_units" (.int (un (low o) w))])) = some (frD (low m)) := by rw [oFld_eq]; rfl
  have e13 : sSetF 0 (mFlat (mCall (pureF (f_units_of cs)) (mCons (m1 (mVar 0) (oFld (cs 0) "more")) (mCons (m1 (mVar 0) (oFld (cs 0) "whole")) (ret (some [])))))) (cs 0) "more_units" 0 (st (F6 kds ++ [fl "open_units" (.int (un (low o) w))]) z5 X6 z7 z8 z9) = some (.nx, 0, st (F6 kds ++ [fl "open_units" (.int (un (low o) w)), fl "more_units" (.int (un (low m) w))]) z5 X6 z7 z8 z9) := setF_of (d := .int (un (low m) w)) (by simp [k7, k8, units_of_eval hm.low wS, flat]) (by simp [F6])
  refine ⟨kds, ?_, fun i j c d l p h1 h2 h3 h4 => hok i j (List.getElem?_eq_some_iff.mp h1).1 c d l p h1 h2 h3 h4, hfl⟩
  unfold f_Prices_init fnI
  have hst : startI (cs 0) 10 [.str (tx S), rowsD b T, frD o, frD m] = st [] none none none none none := rfl
  rw [hst]
  have e : m_Prices_init cs 0 (st [] none none none none none) = some (.nx, 0, st (F6 kds ++ [fl "open_units" (.int (un (low o) w)), fl "more_units" (.int (un (low m) w))]) z5 X6 z7 z8 z9) := by
    unfold m_Prices_init
    refine seq_nx e1 (seq_nx (for_of (n1 := 0) (as := T.map fun l => seqD b (l.map frD)) (by simp [st, rowsD]) e2) (seq_nx e3 (seq_nx e4 (seq_nx e5 (seq_nx e6 (seq_nx e7 (seq_nx (for_of (n1 := 0) (as := T.map fun l => D.tup (l.map fun p => frD (low p))) ?_ e8) (seq_nx e9 (seq_nx e10 (seq_nx (for_of (n1 := 0) (as := (S.zip T).map fun q : Nat × List Fr => D.tup [.str (tx [q.1]), .tup (q.2.map fun p => frD (low p))]) ?_ e11) (seq_nx e12 e13)))))))))))
    · simp [st, g3, flat_PT]
      rfl
    · simp only [mZip2, ev_mb, ev_cons, ev_flat, ev_m1, ev_var, ev_ret, st, List.getElem?_cons_zero, List.getElem?_cons_succ, k2, flat_PT, if_true]
      simp [oZip2, PT]
  rw [e]
  rfl
end K22

namespace K22
open PySem L2 PyProof.Rows GW
variable {cs : Nat → Addr}
/-! ### signs drawn -/
def A1 : List Nat := ((List.range 91).drop 32).filter okS
def A2 : List Nat := (List.range 127).drop 91
theorem al1 : Str.ofString " !#$&'()*+,./0123456789:;<=>?@ABCDEFGHIJKLMNOPQRSTUVWXYZ" = tx A1 := by decide +kernel
theorem al2 : Str.ofString "[\\]^_`abcdefghijklmnopqrstuvwxyz{|}~" = tx A2 := by decide +kernel
theorem al3 : (A1 ++ A2).length = 92 ∧ (∀ c ∈ A1 ++ A2, okS c = true) ∧ (A1 ++ A2).Nodup := by decide +kernel
theorem al4 : Str.ofString "" = tx [] := by decide +kernel
theorem flat1 (l : List Nat) : (l.map fun c => [c]).flatten = l := by
  induction l with
  | nil => rfl
  | cons a l ih => simp [ih]
theorem compL_rng {tg : Tg} {me : M} {vs : List Nat} {ds : DS} {n : Int} {N : Nat} (g : Nat → D) (h : ∀ i : Nat, i < N → ∃ ds1, tg.bind (.int (i : Int)) (wipeD ds vs) = some ds1 ∧ me n ds1 = some (.ok (g i), n)) : compL tg mYes me vs (rngD 0 N) n ds = some (.ok ((List.range N).map g), n) := by
  have e : rngD 0 N = (List.range N).map fun (i : Nat) => D.int (i : Int) := by
    apply List.ext_getElem?
    intro i
    by_cases hi : i < N
    · cases hr : (rngD 0 N)[i]? with
      | none => rw [List.getElem?_eq_none_iff, rng_len] at hr; omega
      | some d =>
        obtain ⟨rfl, _⟩ := rng_get hr
        rw [List.getElem?_map, List.getElem?_range hi, Int.zero_add]; rfl
    · rw [List.getElem?_eq_none (by rw [rng_len]; omega), List.getElem?_eq_none (by simp; omega)]
  rw [e]
  exact compL_map (fun (i : Nat) => D.int (i : Int)) g (List.range N) fun i hi => h i (List.mem_range.mp hi)
theorem signs_eval {ns : List Int} {n : Int} {many : Nat} (h0 : 0 ≤ n) (h1 : n ≤ 100000) (hm : many ≤ 8) : ∃ S : List Nat, S.length = many ∧ S.Nodup ∧ (∀ c ∈ S, okS c = true) ∧ f__law_signs cs n [scD ns, .non, .int (many : Int)] = some (.ok (.str (tx S)), n + 1) := by
  obtain ⟨v, hv, v0, v1⟩ := next_eval (cs := cs) (ns := ns) h0 (show n ≤ 1000000 by omega)
  obtain ⟨k1, k2, k3⟩ := al3
  have d6 : divOk 6 = true := divL (by decide)
  have d92 : divOk 92 = true := divL (by decide)
  obtain ⟨t, et, ht⟩ : ∃ t : Nat, atI [D.int 1, .int 3, .int 5, .int 7, .int 9, .int 11] (v % 6) = some (.int (t : Int)) ∧ 0 < t ∧ t ≤ 11 := by
    have : v % 6 = 0 ∨ v % 6 = 1 ∨ v % 6 = 2 ∨ v % 6 = 3 ∨ v % 6 = 4 ∨ v % 6 = 5 := by omega
    rcases this with h | h | h | h | h | h <;> rw [h]
    · exact ⟨1, rfl, by decide⟩
    · exact ⟨3, rfl, by decide⟩
    · exact ⟨5, rfl, by decide⟩
    · exact ⟨7, rfl, by decide⟩
    · exact ⟨9, rfl, by decide⟩
    · exact ⟨11, rfl, by decide⟩
  let st : Option D → Option D → Option D → Option D → DS := fun x3 x4 x5 x6 => [some (scD ns), none, some (.int (many : Int)), x3, x4, x5, x6]
  have hmod : ∀ i : Nat, 0 ≤ (v / 6 + (i : Int) * t) % 92 ∧ (v / 6 + (i : Int) * t) % 92 < 92 := fun i => ⟨Int.emod_nonneg _ (by decide), Int.emod_lt_of_pos _ (by decide)⟩
  have pick : ∀ i : Nat, ∃ c, (A1 ++ A2)[((v / 6 + (i : Int) * t) % 92).toNat]? = some c ∧ atI (A1 ++ A2) ((v / 6 + (i : Int) * t) % 92) = some c := fun i => by
    obtain ⟨h3, h4⟩ := hmod i
    have hl : ((v / 6 + (i : Int) * t) % 92).toNat < (A1 ++ A2).length := by rw [k1]; omega
    refine ⟨(A1 ++ A2)[((v / 6 + (i : Int) * t) % 92).toNat], List.getElem?_eq_getElem hl, ?_⟩
    unfold atI ixN
    rw [if_pos h3, if_pos (by rw [k1]; exact h4)]
    exact List.getElem?_eq_getElem hl
  let F : Nat → Nat := fun i => Classical.choose (pick i)
  have hF := fun i => Classical.choose_spec (pick i)
  have hlen : ((List.range many).map F).length = many := by simp
  refine ⟨(List.range many).map F, hlen, ?_, fun c hc => ?_, ?_⟩
  · refine List.pairwise_map.mpr (List.Pairwise.imp_of_mem (fun {i j} hi hj hij => ?_) List.nodup_range)
    have hi := List.mem_range.mp hi
    have hj := List.mem_range.mp hj
    intro e
    have h3 := (hF i).1
    have h4 := (hF j).1
    have e' : Classical.choose (pick i) = Classical.choose (pick j) := e
    rw [e'] at h3
    have := nodup_inj k3 h3 h4
    obtain ⟨a1, a2⟩ := hmod i
    obtain ⟨b1, b2⟩ := hmod j
    have e2 : (v / 6 + (i : Int) * t) % 92 = (v / 6 + (j : Int) * t) % 92 := by omega
    generalize v / 6 = q at e2
    have ht' : t = 1 ∨ t = 2 ∨ t = 3 ∨ t = 4 ∨ t = 5 ∨ t = 6 ∨ t = 7 ∨ t = 8 ∨ t = 9 ∨ t = 10 ∨ t = 11 := by omega
    rcases ht' with rfl | rfl | rfl | rfl | rfl | rfl | rfl | rfl | rfl | rfl | rfl <;> push_cast at e2 <;> omega
  · obtain ⟨i, _, rfl⟩ := List.mem_map.mp hc
    exact k2 _ (List.mem_of_getElem? (hF i).1)
  · unfold f__law_signs fnC
    have lc := lc_of_comp (mi := mRng (mCons (mVar 2) (ret (some [])))) (tg := .one 6) (tt := mYes) (me := m2 (mVar 3) (m2 (m2 (m2 (mVar 4) (mC (.int 6)) oDiv) (m2 (mVar 6) (mVar 5) oMul) oAdd) (mCB (mCons (mVar 3) (ret (some []))) oLen) oMod) oIx) (vs := [6]) (n := n + 1) (n1 := n + 1) (ds := st (some (.str (tx (A1 ++ A2)))) (some (.int v)) (some (.int (t : Int))) none) (as := rngD 0 many) (by simp [st, r62_nat (n := many) (by omega)])
      (compL_rng (fun i => D.str (tx [F i])) fun i hi => ⟨st (some (.str (tx (A1 ++ A2)))) (some (.int v)) (some (.int (t : Int))) (some (.int (i : Int))), rfl, by
        have m1 : mulOk (i : Int) (t : Int) = true := mulL ⟨by omega, by omega⟩
        have h5 : atI (A1 ++ A2) ((v / 6 + (i : Int) * t) % 92) = some (F i) := (hF i).2
        have h6 : oIx (.str (tx (A1 ++ A2))) (.int ((v / 6 + (i : Int) * t) % 92)) = some (.str (tx [F i])) := by
          rw [ov_ixS (l := A1 ++ A2) (by rw [k1]; decide), h5]; rfl
        have hl : oLen [.str (tx (A1 ++ A2))] = some (.int 92) := by rw [ov_lenS (l := A1 ++ A2) (by rw [k1]; decide), k1]; rfl
        simp [st, d6, m1, hl, h6]⟩) (by rw [rng_len]; omega)
    have e : m__law_signs cs n ((startD 7 [scD ns, .non, .int (many : Int)]).set 1 none) = some (.rt (.str (tx ((List.range many).map F))), n + 1, st (some (.str (tx (A1 ++ A2)))) (some (.int v)) (some (.int (t : Int))) none) := by
      unfold m__law_signs
      refine seq_nx (n1 := n) (ds1 := st (some (.str (tx A1))) none none none) (by simp [startD, st, al1]) (seq_nx (n1 := n) (ds1 := st (some (.str (tx (A1 ++ A2)))) none none none) (by simp [st, al2, ov_addS (a := A1) (b := A2) (by rw [← List.length_append, k1]; decide)]) (seq_nx (n1 := n + 1) (ds1 := st (some (.str (tx (A1 ++ A2)))) (some (.int v)) none none) (by simp [st, hv]) (seq_nx (n1 := n + 1) (ds1 := st (some (.str (tx (A1 ++ A2)))) (some (.int v)) (some (.int (t : Int))) none) ?_ (ret_of ?_))))
      · refine set_of (d := .int (t : Int)) ?_
        simp [st, d6, et]
      · have hj := ov_join0 (ls := ((List.range many).map F).map fun c => [c]) (by rw [flat1]; simp; omega)
        rw [flat1, List.map_map, List.map_map] at hj
        have hj' : oJoin (tx []) (.lst ((List.range many).map fun i => D.str (tx [F i]))) = some (.str (tx ((List.range many).map F))) := hj
        rw [ev_mM1]
        simp only [ev_C, ev_mb, al4, lc, hj', ev_ret]
    rw [e]; rfl
end K22

namespace K22
open PySem L2 PyProof.Rows GW
variable {cs : Nat → Addr}
theorem choose_map {α : Type} {P : α → Prop} {f : α → D} : ∀ {ys : List D}, (∀ y ∈ ys, ∃ a, P a ∧ y = f a) → ∃ l : List α, ys = l.map f ∧ ∀ a ∈ l, P a
  | [], _ => ⟨[], rfl, fun a h => by cases h⟩
  | y :: ys, h => by
    obtain ⟨a, ha, rfl⟩ := h y List.mem_cons_self
    obtain ⟨l, rfl, hl⟩ := choose_map (ys := ys) fun z hz => h z (List.mem_cons_of_mem _ hz)
    exact ⟨a :: l, rfl, fun b hb => by
      rcases List.mem_cons.mp hb with rfl | hb
      · exact ha
      · exact hl b hb⟩
theorem rows_get {T : List (List Fr)} {i : Nat} {l : List Fr} (h : T[i]? = some l) : (T.map fun l => D.lst (l.map frD))[i]? = some (.lst (l.map frD)) := by
  rw [List.getElem?_map, h]; rfl

/-! ### prices drawn -/
theorem price_eval {ns : List Int} {n sort : Int} (h0 : 0 ≤ n) (h1 : n ≤ 100000) : ∃ (a b n' : Int), f__law_price cs n [scD ns, .non, .int sort] = some (.ok (.tup [.int a, .int b]), n') ∧ n + 1 ≤ n' ∧ n' ≤ n + 2 ∧ 0 < b ∧ b ≤ 999 ∧ -(10 ^ 39) ≤ a ∧ a ≤ 10 ^ 39 := by
  obtain ⟨v, hv, v0, v1⟩ := next_eval (cs := cs) (ns := ns) h0 (show n ≤ 1000000 by omega)
  obtain ⟨g, hg, g0, g1⟩ := great_eval (cs := cs) (ns := ns) (n := n + 1) (by omega) (show n + 1 ≤ 1000000 by omega)
  have d13 : divOk 13 = true := divL (by decide)
  let st : DS := [some (scD ns), none, some (.int sort), some (.int v)]
  have s3 : sSet 3 (mCall (f__law_next cs) (mCons (mVar 0) (mCons (mC .non) (ret (some []))))) n ((startD 4 [scD ns, .non, .int sort]).set 1 none) = some (.nx, n + 1, st) := by simp [startD, st, hv]
  by_cases k0 : sort = 0
  · refine ⟨v % 7 - 1, 1, n + 1, ?_, by omega, by omega, by omega, by omega, by omega, by omega⟩
    unfold f__law_price fnC
    have e : m__law_price cs n ((startD 4 [scD ns, .non, .int sort]).set 1 none) = some (.rt (.tup [.int (v % 7 - 1), .int 1]), n + 1, st) := by
      unfold m__law_price
      refine seq_nx s3 (seq_rt (if_t (n1 := n + 1) (by simp [st, k0]) (by simp [st])))
    rw [e]; rfl
  by_cases k1 : sort = 1
  · refine ⟨v % 13 - 4, 1 + v / 13 % 4, n + 1, ?_, by omega, by omega, by omega, by omega, by omega, by omega⟩
    unfold f__law_price fnC
    have e : m__law_price cs n ((startD 4 [scD ns, .non, .int sort]).set 1 none) = some (.rt (.tup [.int (v % 13 - 4), .int (1 + v / 13 % 4)]), n + 1, st) := by
      unfold m__law_price
      refine seq_nx s3 (seq_nx (if_f (n1 := n + 1) (by simp [st, k0]) rfl) (seq_rt (if_t (n1 := n + 1) (by simp [st, k1]) (by simp [st, d13]))))
    rw [e]; rfl
  by_cases k2 : sort = 2
  · refine ⟨v % 9 - 6, 1, n + 1, ?_, by omega, by omega, by omega, by omega, by omega, by omega⟩
    unfold f__law_price fnC
    have e : m__law_price cs n ((startD 4 [scD ns, .non, .int sort]).set 1 none) = some (.rt (.tup [.int (v % 9 - 6), .int 1]), n + 1, st) := by
      unfold m__law_price
      refine seq_nx s3 (seq_nx (if_f (n1 := n + 1) (by simp [st, k0]) rfl) (seq_nx (if_f (n1 := n + 1) (by simp [st, k1]) rfl) (seq_rt (if_t (n1 := n + 1) (by simp [st, k2]) (by simp [st])))))
    rw [e]; rfl
  · refine ⟨g, 1 + v / 13 % 999, n + 1 + 1, ?_, by omega, by omega, by omega, by omega, by omega, by omega⟩
    unfold f__law_price fnC
    have e : m__law_price cs n ((startD 4 [scD ns, .non, .int sort]).set 1 none) = some (.rt (.tup [.int g, .int (1 + v / 13 % 999)]), n + 1 + 1, st) := by
      unfold m__law_price
      refine seq_nx s3 (seq_nx (if_f (n1 := n + 1) (by simp [st, k0]) rfl) (seq_nx (if_f (n1 := n + 1) (by simp [st, k1]) rfl) (seq_nx (if_f (n1 := n + 1) (by simp [st, k2]) rfl) ?_)))
      simp [st, hg, d13]
    rw [e]; rfl
/-- a price that leaves room -/
structure Gd3 (p : Fr) : Prop where
  pos : 0 < p.2
  le : p.2 ≤ 1000
  sz : p.1.natAbs ≤ 10 ^ 39
theorem Gd3.gd {p : Fr} (h : Gd3 p) : Gd p := ⟨h.pos, h.le, Nat.le_trans h.sz (by decide)⟩
theorem frac_fr {ns : List Int} {n : Int} {sort : Int} (h0 : 0 ≤ n) (h1 : n ≤ 100000) : ∃ p n', Gd3 p ∧ f__law_price cs n [scD ns, .non, .int sort] = some (.ok (frD p), n') ∧ n ≤ n' ∧ n' ≤ n + 2 := by
  obtain ⟨a, b, n', e, n0, n1, b0, b1, a0, a1⟩ := price_eval (cs := cs) (ns := ns) (sort := sort) h0 h1
  refine ⟨(a, b.toNat), n', ⟨by show 0 < b.toNat; omega, by show b.toNat ≤ 1000; omega, by show a.natAbs ≤ 10 ^ 39; omega⟩, ?_, by omega, n1⟩
  rw [e]
  have : ((b.toNat : Nat) : Int) = b := Int.toNat_of_nonneg (by omega)
  show _ = some (Ot.ok (D.tup [.int a, .int ((b.toNat : Nat) : Int)]), n')
  rw [this]
end K22

namespace K22
open PySem L2 PyProof.Rows GW
variable {cs : Nat → Addr}
theorem compL_le {tg : Tg} {me : M} {vs : List Nat} {ds : DS} (c : Nat) (Q : D → Prop) (N : Int) : ∀ (as : List D) (step : ∀ d n, d ∈ as → 0 ≤ n → n + c ≤ N → ∃ ds1 y n', tg.bind d (wipeD ds vs) = some ds1 ∧ me n ds1 = some (.ok y, n') ∧ n ≤ n' ∧ n' ≤ n + c ∧ Q y) (n : Int), 0 ≤ n → n + c * as.length ≤ N →
    ∃ ys n', compL tg mYes me vs as n ds = some (.ok ys, n') ∧ n ≤ n' ∧ n' ≤ n + c * as.length ∧ ys.length = as.length ∧ ∀ y ∈ ys, Q y
  | [], _, n, _, _ => ⟨[], n, by simp [compL, GW.ret], by omega, by simp, rfl, fun y h => by cases h⟩
  | d :: r, step, n, h0, hN => by
    rw [List.length_cons] at hN
    have e1 : (c : Int) * ((r.length + 1 : Nat) : Int) = c * (r.length : Int) + c := by
      rw [Int.natCast_add, Int.mul_add]; simp
    rw [e1] at hN
    have hnn : 0 ≤ (c : Int) * (r.length : Int) := Int.mul_nonneg (by omega) (by omega)
    obtain ⟨ds1, y, n1, h1, h2, a1, a2, h3⟩ := step d n List.mem_cons_self h0 (by omega)
    obtain ⟨ys, n2, h4, b1, b2, h5, h6⟩ := compL_le c Q N r (fun d n hd => step d n (List.mem_cons_of_mem _ hd)) n1 (by omega) (by omega)
    refine ⟨y :: ys, n2, ?_, by omega, by rw [List.length_cons, e1]; omega, by simp [h5], fun z hz => ?_⟩
    · unfold compL
      simp only [h1, ev_yes, h2, h4]
    · rcases List.mem_cons.mp hz with rfl | hz
      · exact h3
      · exact h6 z hz
structure GB (n : Nat) (T : List (List Fr)) (B : Nat) : Prop where
  len : T.length = n
  rows : ∀ l ∈ T, l.length = n ∧ ∀ p ∈ l, 0 < p.2 ∧ p.2 ≤ 1000 ∧ p.1.natAbs ≤ 10 ^ 39 + B
theorem GB.mono {n B B' : Nat} {T : List (List Fr)} (h : GB n T B) (hB : B ≤ B') : GB n T B' := ⟨h.len, fun l hl => ⟨(h.rows l hl).1, fun p hp => by have := (h.rows l hl).2 p hp; omega⟩⟩
theorem GB.gt {n B : Nat} {T : List (List Fr)} (h : GB n T B) (hB : B ≤ 100) : GT n T := ⟨h.len, fun l hl => ⟨(h.rows l hl).1, fun p hp => by
  obtain ⟨a, b, c⟩ := (h.rows l hl).2 p hp
  exact ⟨a, b, by omega⟩⟩⟩
theorem GB.set {n B k j : Nat} {T : List (List Fr)} {p : Fr} (h : GB n T B) (hk : k < T.length) (hp : 0 < p.2 ∧ p.2 ≤ 1000 ∧ p.1.natAbs ≤ 10 ^ 39 + B) : GB n (T.set k (T[k].set j p)) B := by
  refine ⟨by rw [List.length_set]; exact h.len, fun l hl => ?_⟩
  rcases List.mem_or_eq_of_mem_set hl with hl | rfl
  · exact h.rows l hl
  · obtain ⟨lk, gk⟩ := h.rows _ (List.getElem_mem hk)
    refine ⟨by rw [List.length_set]; exact lk, fun q hq => ?_⟩
    rcases List.mem_or_eq_of_mem_set hq with hq | rfl
    · exact gk q hq
    · exact hp
theorem sort_at (z : Int) (h0 : 0 ≤ z) (h1 : z < 8) : ∃ s : Int, atI [D.int 0, .int 1, .int 2, .int 0, .int 3, .int 2, .int 0, .int 1] z = some (.int s) := by
  have : z = 0 ∨ z = 1 ∨ z = 2 ∨ z = 3 ∨ z = 4 ∨ z = 5 ∨ z = 6 ∨ z = 7 := by omega
  rcases this with rfl | rfl | rfl | rfl | rfl | rfl | rfl | rfl <;> exact ⟨_, rfl⟩
theorem table_eval {ns : List Int} {n : Int} {many : Nat} (h0 : 0 ≤ n) (h1 : n ≤ 50000) (hm0 : 0 < many) (hm : many ≤ 4) : ∃ (S : List Nat) (T : List (List Fr)) (o m : Fr) (n' : Int), GoodS S ∧ S.length = many ∧ GT many T ∧ Gd o ∧ Gd m ∧ n ≤ n' ∧ n' ≤ n + 60 ∧ f__law_table cs n [scD ns, .non, .int (many : Int)] = some (.ok (.tup [.str (tx S), rowsD false T, frD o, frD m]), n') := by
  obtain ⟨v, hv, v0, v1⟩ := next_eval (cs := cs) (ns := ns) h0 (show n ≤ 1000000 by omega)
  obtain ⟨S, hSl, hSn, hSo, eS⟩ := signs_eval (cs := cs) (ns := ns) (n := n + 1) (many := many) (by omega) (by omega) (by omega)
  obtain ⟨sort, hsort⟩ := sort_at (v % 8) (Int.emod_nonneg _ (by decide)) (Int.emod_lt_of_pos _ (by decide))
  have d8 : divOk 8 = true := divL (by decide)
  have d24 : divOk 24 = true := divL (by decide)
  have d48 : divOk 48 = true := divL (by decide)
  have d192 : divOk 192 = true := divL (by decide)
  have d768 : divOk 768 = true := divL (by decide)
  have d3072 : divOk 3072 = true := divL (by decide)
  have hr : r62 (many : Int) = true := r62_nat (by omega)
  let st : Option D → Option D → Option D → Option D → Option D → DS := fun x6 x7 x8 x9 x10 => [some (scD ns), none, some (.int (many : Int)), some (.int v), some (.int sort), some (.str (tx S)), x6, x7, x8, x9, x10]
  obtain ⟨ys, n3, c1, b1, b2, c2, c3⟩ := compL_le (tg := .one 8) (me := mLc (mRng (mCons (mVar 2) (ret (some [])))) (.one 7) mYes (mCall (f__law_price cs) (mCons (mVar 0) (mCons (mC .non) (mCons (mVar 4) (ret (some [])))))) [7]) (vs := [8]) (ds := st none none none none none) (2 * many) (fun y => ∃ l : List Fr, (l.length = many ∧ ∀ p ∈ l, Gd3 p) ∧ y = .lst (l.map frD)) 100000 (rngD 0 many)
    (fun d n' hd hn0 hn1 => by
      obtain ⟨zs, n2, d1, e1, e2, d2, d3⟩ := compL_le (tg := .one 7) (me := mCall (f__law_price cs) (mCons (mVar 0) (mCons (mC .non) (mCons (mVar 4) (ret (some [])))))) (vs := [7]) (ds := st none none (some d) none none) 2 (fun y => ∃ p : Fr, Gd3 p ∧ y = frD p) 100000 (rngD 0 many)
        (fun d' n'' hd' hn0' hn1' => by
          obtain ⟨p, n2, hp, hpe, z1, z2⟩ := frac_fr (cs := cs) (ns := ns) (sort := sort) hn0' (by omega)
          exact ⟨st none (some d') (some d) none none, frD p, n2, rfl, by simp [st, hpe], z1, z2, p, hp, rfl⟩) n' hn0 (by rw [rng_len]; omega)
      obtain ⟨l, rfl, hl⟩ := choose_map d3
      rw [rng_len] at e2
      rw [List.length_map, rng_len] at d2
      refine ⟨st none none (some d) none none, .lst (l.map frD), n2, rfl, ?_, e1, by push_cast at e2 ⊢; omega, l, ⟨d2, hl⟩, rfl⟩
      exact lc_of_comp (as := rngD 0 many) (n1 := n') (by simp [st, hr]) d1 (by rw [rng_len]; omega)) (n + 1 + 1) (by omega) (by
        rw [rng_len]
        have : (many : Int) * many ≤ 4 * 4 := Int.mul_le_mul (by omega) (by omega) (by omega) (by decide)
        push_cast
        rw [Int.mul_assoc]
        omega)
  have b3 : n3 ≤ n + 1 + 1 + 32 := by
    rw [rng_len] at b2
    have : (many : Int) * many ≤ 4 * 4 := Int.mul_le_mul (by omega) (by omega) (by omega) (by decide)
    push_cast at b2
    rw [Int.mul_assoc] at b2
    omega
  obtain ⟨T0, rfl, hT0⟩ := choose_map c3
  rw [List.length_map, rng_len] at c2
  have G0 : GB many T0 0 := ⟨c2, fun l hl => ⟨(hT0 l hl).1, fun p hp => by
    have := (hT0 l hl).2 p hp
    exact ⟨this.pos, this.le, this.sz⟩⟩⟩
  have e6 := lc_of_comp (mi := mRng (mCons (mVar 2) (ret (some [])))) (n := n + 1 + 1) (n1 := n + 1 + 1) (as := rngD 0 many) (by simp [st, hr]) c1 (by rw [rng_len]; omega)
  obtain ⟨n4, ds4, f1, rfl, T, x7, x8, rfl, hT⟩ := forR_inv (tg := .one 7) (body := b__law_table_2 cs) (N := many) (n := n3) (ds := st (some (rowsD false T0)) none none none none)
    (fun k n' ds => n3 = n' ∧ ∃ T x7 x8, ds = st (some (rowsD false T)) x7 x8 none none ∧ GB many T (4 * k))
    (fun k n' ds hk ⟨hn, T, x7, x8, hd, hT⟩ => by
      subst hn hd
      refine ⟨st (some (rowsD false T)) (some (.int (k : Int))) x8 none none, rfl, ?_⟩
      have hkT : k < T.length := by rw [hT.len]; exact hk
      have ek : T[k]? = some T[k] := List.getElem?_eq_getElem hkT
      obtain ⟨lk, gk⟩ := hT.rows _ (List.getElem_mem hkT)
      have hkl : k < T[k].length := by rw [lk]; exact hk
      have ekk : T[k][k]? = some T[k][k] := List.getElem?_eq_getElem hkl
      obtain ⟨p0, p1, p2⟩ := gk _ (List.getElem_mem hkl)
      obtain ⟨T1, hT1, e1⟩ : ∃ T1, GB many T1 (4 * (k + 1)) ∧ sIf (mTest (m2 (m2 (m2 (mVar 3) (mC (.int 8)) oDiv) (mC (.int 3)) oMod) (mC (.int 0)) oGt)) (sSetI 6 (mTup (mCons (m2 (m2 (m2 (m2 (mVar 6) (mVar 7) oIx) (mVar 7) oIx) (mC (.int 0)) oIx) (mC (.int 4)) oSub) (mCons (mFlat (m2 (m2 (m2 (mVar 6) (mVar 7) oIx) (mVar 7) oIx) (mC (.int 1)) oIx)) (ret (some []))))) (mPI 6 (mVar 7)) (mVar 7)) sNx n3 (st (some (rowsD false T)) (some (.int (k : Int))) x8 none none) = some (.nx, n3, st (some (rowsD false T1)) (some (.int (k : Int))) x8 none none) := by
        by_cases hc : 0 < v / 8 % 3
        · refine ⟨T.set k (T[k].set k (T[k][k].1 - 4, T[k][k].2)), (hT.mono (B' := 4 * (k + 1)) (by omega)).set hkT ⟨p0, p1, by show (T[k][k].1 - 4).natAbs ≤ _; omega⟩, if_t (n1 := n3) (by simp [st, d8, hc]) ?_⟩
          refine (setI_of (as := T.map fun l => D.lst (l.map frD)) (row := T[k].map frD) (d := frD (T[k][k].1 - 4, T[k][k].2)) (k := k) (j := k) (n1 := n3) (n2 := n3) (n3 := n3) ?_ rfl (by simp [st]) (rows_get ek) (by simp [st]) (by rw [List.length_map, lk]; omega)).trans ?_
          · have ha : atI ((T[k]).map frD) (k : Int) = some (frD T[k][k]) := by
              rw [GW.atI_nat, List.getElem?_map, ekk]; rfl
            have hb : atI (T.map fun l => D.lst (l.map frD)) (k : Int) = some (.lst (T[k].map frD)) := by
              rw [GW.atI_nat]; exact rows_get ek
            generalize T[k][k] = pp at *
            simp only [st, rowsD, seqD]
            simp [hb, ha, frD, flat]
          · simp [st, rowsD, seqD, List.map_set]
        · exact ⟨T, hT.mono (by omega), if_f (n1 := n3) (by simp [st, d8, hc]) rfl⟩
      obtain ⟨n5, ds5, g1, rfl, T', x8', rfl, hT'⟩ := forR_inv (tg := .one 8) (body := b__law_table_1 cs) (N := k) (n := n3) (ds := st (some (rowsD false T1)) (some (.int (k : Int))) x8 none none)
        (fun j n' ds => n3 = n' ∧ ∃ T x8, ds = st (some (rowsD false T)) (some (.int (k : Int))) x8 none none ∧ GB many T (4 * (k + 1)))
        (fun j n' ds hj ⟨hn, T, x8, hd, hT⟩ => by
          subst hn hd
          by_cases hc : v / 24 % 2 = 0
          · have hkT : k < T.length := by rw [hT.len]; exact hk
            have hjT : j < T.length := by rw [hT.len]; omega
            have ek : T[k]? = some T[k] := List.getElem?_eq_getElem hkT
            have ej : T[j]? = some T[j] := List.getElem?_eq_getElem hjT
            obtain ⟨lk, gk⟩ := hT.rows _ (List.getElem_mem hkT)
            obtain ⟨lj, gj⟩ := hT.rows _ (List.getElem_mem hjT)
            have hkl : k < T[j].length := by rw [lj]; exact hk
            have ep : T[j][k]? = some T[j][k] := List.getElem?_eq_getElem hkl
            refine ⟨_, rfl, n3, st (some (rowsD false (T.set k (T[k].set j T[j][k])))) (some (.int (k : Int))) (some (.int (j : Int))) none none, ?_, rfl, _, _, rfl, hT.set hkT (gj _ (List.getElem_mem hkl))⟩
            unfold b__law_table_1
            refine if_t (n1 := n3) (by simp [st, d24, hc]) ?_
            refine (setI_of (as := T.map fun l => D.lst (l.map frD)) (row := T[k].map frD) (d := frD T[j][k]) (k := k) (j := j) (n1 := n3) (n2 := n3) (n3 := n3) ?_ rfl (by simp [st]) (rows_get ek) (by simp [st]) (by rw [List.length_map, lk]; omega)).trans ?_
            · simp [st, rowsD, seqD, rows_get ej, List.getElem?_map, ej, ep, flat_fr]
            · simp [st, rowsD, seqD, List.map_set]
          · exact ⟨_, rfl, n3, st (some (rowsD false T)) (some (.int (k : Int))) (some (.int (j : Int))) none none, by unfold b__law_table_1; simp [st, d24, hc], rfl, _, _, rfl, hT⟩) ⟨rfl, T1, x8, rfl, hT1⟩
      refine ⟨n3, st (some (rowsD false T')) (some (.int (k : Int))) x8' none none, ?_, rfl, _, _, _, rfl, hT'⟩
      unfold b__law_table_2
      exact seq_nx e1 (for_of (n1 := n3) (as := rngD 0 k) (by simp [st, r62_nat (n := k) (by omega)]) g1)) ⟨rfl, T0, none, none, rfl, G0⟩
  have hfr : ∀ a : Int, 0 ≤ a → a < 4 → Gd (a, 1) ∧ D.tup [.int a, .int 1] = frD (a, 1) := fun a h0 h1 => ⟨⟨Nat.one_pos, by show 1 ≤ 1000; decide, by show a.natAbs ≤ 10 ^ 40; omega⟩, rfl⟩
  obtain ⟨o, n5, ho, z1, z2, eo⟩ : ∃ o n5, Gd o ∧ n3 ≤ n5 ∧ n5 ≤ n3 + 2 ∧ (mIf (mTest (m2 (m2 (m2 (mVar 3) (mC (.int 192)) oDiv) (mC (.int 3)) oMod) (mC (.int 0)) oGt)) (mTup (mCons (m2 (m2 (mVar 3) (mC (.int 48)) oDiv) (mC (.int 4)) oMod) (mCons (mC (.int 1)) (ret (some []))))) (mCall (f__law_price cs) (mCons (mVar 0) (mCons (mC .non) (mCons (mVar 4) (ret (some []))))))) n3 (st (some (rowsD false T)) x7 x8 none none) = some (.ok (frD o), n5) := by
    by_cases hc : 0 < v / 192 % 3
    · obtain ⟨w1, w2⟩ := hfr (v / 48 % 4) (by omega) (by omega)
      exact ⟨_, n3, w1, by omega, by omega, by rw [← w2]; simp [st, d192, d48, hc]⟩
    · obtain ⟨p, n5, hp, e, z1, z2⟩ := frac_fr (cs := cs) (ns := ns) (n := n3) (sort := sort) (by omega) (by omega)
      exact ⟨p, n5, hp.gd, z1, z2, by simp [st, d192, hc, e]⟩
  obtain ⟨m, n6, hmg, z3, z4, em⟩ : ∃ m n6, Gd m ∧ n5 ≤ n6 ∧ n6 ≤ n5 + 2 ∧ (mIf (mTest (m2 (m2 (m2 (mVar 3) (mC (.int 3072)) oDiv) (mC (.int 3)) oMod) (mC (.int 0)) oGt)) (mTup (mCons (m2 (m2 (mVar 3) (mC (.int 768)) oDiv) (mC (.int 4)) oMod) (mCons (mC (.int 1)) (ret (some []))))) (mCall (f__law_price cs) (mCons (mVar 0) (mCons (mC .non) (mCons (mVar 4) (ret (some []))))))) n5 (st (some (rowsD false T)) x7 x8 (some (frD o)) none) = some (.ok (frD m), n6) := by
    by_cases hc : 0 < v / 3072 % 3
    · obtain ⟨w1, w2⟩ := hfr (v / 768 % 4) (by omega) (by omega)
      exact ⟨_, n5, w1, by omega, by omega, by rw [← w2]; simp [st, d3072, d768, hc]⟩
    · obtain ⟨p, n6, hp, e, z1, z2⟩ := frac_fr (cs := cs) (ns := ns) (n := n5) (sort := sort) (by omega) (by omega)
      exact ⟨p, n6, hp.gd, z1, z2, by simp [st, d3072, hc, e]⟩
  refine ⟨S, T, o, m, n6, ⟨hSn, hSo, by omega, by omega⟩, hSl, hT.gt (by omega), ho, hmg, by omega, by omega, ?_⟩
  unfold f__law_table fnC
  have e : m__law_table cs n ((startD 11 [scD ns, .non, .int (many : Int)]).set 1 none) = some (.rt (.tup [.str (tx S), rowsD false T, frD o, frD m]), n6, st (some (rowsD false T)) x7 x8 (some (frD o)) (some (frD m))) := by
    unfold m__law_table
    refine seq_nx (n1 := n + 1) (ds1 := [some (scD ns), none, some (.int (many : Int)), some (.int v), none, none, none, none, none, none, none]) (by simp [startD, hv]) (seq_nx (n1 := n + 1) (ds1 := [some (scD ns), none, some (.int (many : Int)), some (.int v), some (.int sort), none, none, none, none, none, none]) (set_of (d := .int sort) (by simp [hsort])) (seq_nx (n1 := n + 1 + 1) (ds1 := st none none none none none) (by simp [st, eS]) (seq_nx (n1 := n3) (ds1 := st (some (rowsD false T0)) none none none none) (set_of e6) (seq_nx (for_of (n1 := n3) (as := rngD 0 many) (by simp [st, hr]) f1) (seq_nx (n1 := n5) (ds1 := st (some (rowsD false T)) x7 x8 (some (frD o)) none) (set_of eo) (seq_nx (n1 := n6) (ds1 := st (some (rowsD false T)) x7 x8 (some (frD o)) (some (frD m))) (set_of em) (ret_of ?_)))))))
    simp [st]
  rw [e]; rfl
end K22

namespace K22
open PySem L2 PyProof.Rows GW
variable {cs : Nat → Addr}
theorem notB (b : Bool) : oNotV (.bl b) = some (.bl (!b)) := by cases b <;> rfl
theorem in_units_eval {S : List Nat} {T : List (List Fr)} {o m : Fr} {w : Nat} {kds : List (Key × D)} {x : Int} (w0 : 0 < w) (hw : Sz 2100 (w : Int)) : f_in_units cs [priceD cs S T o m w kds, .int x] = some (.ok (frD (low (x, w)))) := by
  have h1 : oFld (cs 0) "whole" (priceD cs S T o m w kds) = some (.int (w : Int)) := by unfold priceD; rw [oFld_eq]; rfl
  have h2 : f_lowest cs [.tup [.int x, .int (w : Int)]] = some (.ok (lowD x w)) := lowest_eval (by omega) (hw.mono (by decide))
  unfold f_in_units m_in_units
  apply fn0_of
  simp [startD, h1, h2]
  exact low_is (x, w)
theorem add2 {c d : Nat} : oAdd (.str (tx [c])) (.str (tx [d])) = some (.str (tx [c, d])) := ov_addS (a := [c]) (b := [d]) (by simp)
def q (T : List (List Fr)) (i j : Nat) : Fr := (T.getD i []).getD j (0, 1)
theorem q_get {T : List (List Fr)} {n i j : Nat} (h : GT n T) (hi : i < n) (hj : j < n) : ∃ l, T[i]? = some l ∧ l[j]? = some (q T i j) ∧ l ∈ T ∧ q T i j ∈ l ∧ Gd (q T i j) := by
  have hiT : i < T.length := by rw [h.len]; exact hi
  obtain ⟨h1, h2⟩ := h.rows _ (List.getElem_mem hiT)
  have hjl : j < T[i].length := by rw [h1]; exact hj
  have e : q T i j = T[i][j] := by unfold q; simp [hiT, hjl]
  rw [e]
  exact ⟨T[i], by simp [hiT], by simp [hjl], List.getElem_mem hiT, List.getElem_mem hjl, h2 _ (List.getElem_mem hjl)⟩
def V (T : List (List Fr)) (w : Nat) (i j : Nat) : Int := un (low (q T i j)) w
def CostQ (S : List Nat) (T : List (List Fr)) (w : Nat) (kds : List (Key × D)) : Prop := ∀ (i j c d : Nat), S[i]? = some c → S[j]? = some d → valD kds (.inr (tx [c, d])) = some (.int (V T w i j))
theorem costQ {S : List Nat} {T : List (List Fr)} {w : Nat} {kds : List (Key × D)} (hT : GT S.length T) (h : CostOK S T w kds) : CostQ S T w kds := by
  intro i j c d hc hd
  have hi := (List.getElem?_eq_some_iff.mp hc).1
  have hj := (List.getElem?_eq_some_iff.mp hd).1
  obtain ⟨l, h1, h2, _⟩ := q_get hT hi hj
  exact h i j c d l _ hc hd h1 h2
section
variable {S : List Nat} {T : List (List Fr)} {o m : Fr} {w : Nat} {kds : List (Key × D)}
theorem fld_signs : oFld (cs 0) "signs" (priceD cs S T o m w kds) = some (.str (tx S)) := by unfold priceD; rw [oFld_eq]; rfl
theorem fld_costs : oFld (cs 0) "costs" (priceD cs S T o m w kds) = some (.dct kds) := by unfold priceD; rw [oFld_eq]; rfl
theorem fld_ou : oFld (cs 0) "open_units" (priceD cs S T o m w kds) = some (.int (un (low o) w)) := by unfold priceD; rw [oFld_eq]; rfl
theorem fld_mu : oFld (cs 0) "more_units" (priceD cs S T o m w kds) = some (.int (un (low m) w)) := by unfold priceD; rw [oFld_eq]; rfl
theorem opening_cost_eval : f_opening_cost cs [priceD cs S T o m w kds] = some (.ok (.int (un (low o) w))) := by
  unfold f_opening_cost m_opening_cost
  apply fn0_of
  simp [startD, fld_ou]
theorem more_cost_eval : f_more_cost cs [priceD cs S T o m w kds] = some (.ok (.int (un (low m) w))) := by
  unfold f_more_cost m_more_cost
  apply fn0_of
  simp [startD, fld_mu]
theorem dget (hQ : CostQ S T w kds) {i j c d : Nat} (hc : S[i]? = some c) (hd : S[j]? = some d) : oDGet (.dct kds) (.str (tx [c, d])) = some (.int (V T w i j)) := by
  show valD kds (.inr (tx [c, d])) = _
  exact hQ i j c d hc hd
theorem pair_cost_eval (hQ : CostQ S T w kds) {i j c d : Nat} (hc : S[i]? = some c) (hd : S[j]? = some d) : f_pair_cost cs [priceD cs S T o m w kds, .str (tx [c]), .str (tx [d])] = some (.ok (.int (V T w i j))) := by
  unfold f_pair_cost m_pair_cost
  apply fn0_of
  simp [startD, fld_costs, add2, dget hQ hc hd]
end
def pcOf (kds : List (Key × D)) (c d : Nat) : Int := match valD kds (.inr (tx [c, d])) with
  | some (.int v) => v
  | _ => 0
theorem lowD_fr (x : Int) (w : Nat) : frD (low (x, w)) = lowD x (w : Int) := (low_is (x, w)).symm
/-- prices that stand -/
structure PriceOK (cs : Nat → Addr) (P : D) (S : List Nat) (w : Nat) (pc : Nat → Nat → Int) (O M : Int) : Prop where
  signs : oFld (cs 0) "signs" P = some (.str (tx S))
  good : GoodS S
  small : S.length ≤ 4
  pair : ∀ c d, c ∈ S → d ∈ S → f_pair_cost cs [P, .str (tx [c]), .str (tx [d])] = some (.ok (.int (pc c d)))
  oo : f_opening_cost cs [P] = some (.ok (.int O))
  mo : f_more_cost cs [P] = some (.ok (.int M))
  w0 : 0 < w
  iu : ∀ x : Int, f_in_units cs [P, .int x] = some (.ok (lowD x (w : Int)))
theorem prices_eval {ns : List Int} {n : Int} (h0 : 0 ≤ n) (h1 : n ≤ 40000) : ∃ (P : D) (S : List Nat) (w : Nat) (pc : Nat → Nat → Int) (O M : Int) (n' : Int), PriceOK cs P S w pc O M ∧ n ≤ n' ∧ n' ≤ n + 61 ∧ f__law_prices cs n [scD ns, .non] = some (.ok P, n') := by
  obtain ⟨v, hv, v0, v1⟩ := next_eval (cs := cs) (ns := ns) h0 (show n ≤ 1000000 by omega)
  obtain ⟨many, hmany, m0, m1⟩ : ∃ k : Nat, 1 + v % 4 = (k : Int) ∧ 0 < k ∧ k ≤ 4 := ⟨(1 + v % 4).toNat, by omega, by omega, by omega⟩
  obtain ⟨S, T, o, m, n', hS, hSl, hT, ho, hm, a1, a2, eT⟩ := table_eval (cs := cs) (ns := ns) (n := n + 1) (by omega) (by omega) m0 m1
  rw [← hSl] at hT
  obtain ⟨kds, eP, hC, hfl⟩ := init_eval (cs := cs) (b := false) hS hT ho hm
  obtain ⟨w0, wS⟩ := unit_sz hT hS.len ho hm
  have hQ := costQ hT hC
  generalize unitW T o m = w at *
  have hpc : ∀ c d, c ∈ S → d ∈ S → ∃ i j, S[i]? = some c ∧ S[j]? = some d ∧ pcOf kds c d = V T w i j := fun c d hc hd => by
    obtain ⟨i, hi, e1⟩ := List.mem_iff_getElem.mp hc
    obtain ⟨j, hj, e2⟩ := List.mem_iff_getElem.mp hd
    have e1' : S[i]? = some c := by rw [List.getElem?_eq_getElem hi, e1]
    have e2' : S[j]? = some d := by rw [List.getElem?_eq_getElem hj, e2]
    refine ⟨i, j, e1', e2', ?_⟩
    unfold pcOf
    rw [hQ i j c d e1' e2']
  refine ⟨priceD cs S T o m w kds, S, w, pcOf kds, un (low o) w, un (low m) w, n', ⟨fld_signs, hS, by omega, fun c d hc hd => ?_, opening_cost_eval, more_cost_eval, w0, fun x => ?_⟩, by omega, by omega, ?_⟩
  · obtain ⟨i, j, e1, e2, e3⟩ := hpc c d hc hd
    rw [e3]
    exact pair_cost_eval hQ e1 e2
  · rw [← lowD_fr]; exact in_units_eval w0 wS
  · unfold f__law_prices fnC
    have e : m__law_prices cs n ((startD 6 [scD ns, .non]).set 1 none) = some (.rt (priceD cs S T o m w kds), n', [some (scD ns), none, some (.str (tx S)), some (rowsD false T), some (frD o), some (frD m)]) := by
      unfold m__law_prices
      refine seq_nx (n1 := n') (ds1 := [some (scD ns), none, some (.str (tx S)), some (rowsD false T), some (frD o), some (frD m)]) ?_ (ret_of ?_)
      · simp [startD, hv, hmany, eT]
      · simp [eP]
    rw [e]; rfl
/-! ### rows drawn -/
theorem row_eval {ns : List Int} {n : Int} {S : List Nat} {most : Nat} (hS0 : 0 < S.length) (hS : S.length ≤ 12) (hm : most ≤ 20) (h0 : 0 ≤ n) (h1 : n ≤ 90000) : ∃ (L : List Nat) (n' : Int), L.length ≤ most ∧ (∀ c ∈ L, c ∈ S) ∧ n ≤ n' ∧ n' ≤ n + 30 ∧ f__law_row cs n [scD ns, .non, .str (tx S), .int (most : Int)] = some (.ok (.str (tx L)), n') := by
  obtain ⟨v, hv, v0, v1⟩ := next_eval (cs := cs) (ns := ns) h0 (show n ≤ 1000000 by omega)
  have d97 : divOk 97 = true := divL (by decide)
  have d5 : divOk 5 = true := divL (by decide)
  have hS16 : S.length ≤ 16777216 := by omega
  obtain ⟨N, hN, hN1⟩ : ∃ k : Nat, v % ((most : Int) + 1) = (k : Int) ∧ k ≤ most := by
    have z1 := Int.emod_nonneg v (show (most : Int) + 1 ≠ 0 by omega)
    have z2 := Int.emod_lt_of_pos v (show 0 < (most : Int) + 1 by omega)
    exact ⟨(v % ((most : Int) + 1)).toNat, by omega, by omega⟩
  let st : Int → Int → Option D → Option D → DS := fun x4 x5 x6 x7 => [some (scD ns), none, some (.str (tx S)), some (.int (most : Int)), some (.int x4), some (.int x5), x6, x7]
  obtain ⟨n1, ds1, e1, z1, z2, x4, L, x7, rfl, hx0, hL, hA⟩ := forR_inv (tg := .one 7) (body := b__law_row_1 cs) (N := N) (n := n + 1) (ds := st v (v / 97 % 4) (some (.str (tx []))) none)
    (fun i n' ds => n + 1 ≤ n' ∧ n' ≤ n + 1 + i ∧ ∃ x4 L x7, ds = st x4 (v / 97 % 4) (some (.str (tx L))) x7 ∧ 0 ≤ x4 ∧ L.length = i ∧ ∀ c ∈ L, c ∈ S)
    (fun i n' ds hi ⟨z1, z2, x4, L, x7, hd, hx0, hL, hA⟩ => by
      subst hd
      obtain ⟨u, hu, u0, u1⟩ := next_eval (cs := cs) (ns := ns) (n := n') (by omega) (show n' ≤ 1000000 by omega)
      obtain ⟨x4', n2, y1, y2, y3, e1⟩ : ∃ x4' n2, 0 ≤ x4' ∧ n' ≤ n2 ∧ n2 ≤ n' + 1 ∧ sIf (mTest (m2 (mVar 5) (mC (.int 0)) oGt)) (sSet 4 (mCall (f__law_next cs) (mCons (mVar 0) (mCons (mC .non) (ret (some [])))))) sNx n' (st x4 (v / 97 % 4) (some (.str (tx L))) (some (.int (i : Int)))) = some (.nx, n2, st x4' (v / 97 % 4) (some (.str (tx L))) (some (.int (i : Int)))) := by
        by_cases hc : 0 < v / 97 % 4
        · exact ⟨u, n' + 1, u0, by omega, by omega, if_t (n1 := n') (by simp [st, hc]) (by simp [st, hu])⟩
        · exact ⟨x4, n', hx0, by omega, by omega, if_f (n1 := n') (by simp [st, hc]) rfl⟩
      have hp : (0 : Int) < (S.length : Int) := by omega
      obtain ⟨s, hs1, hs2, hs3⟩ := atI_ok (l := S) (i := x4' / 5 % (S.length : Int)) (Int.emod_nonneg _ (by omega)) (Int.emod_lt_of_pos _ hp)
      have es : oIx (.str (tx S)) (.int (x4' / 5 % (S.length : Int))) = some (.str (tx [s])) := by
        rw [ov_ixS (l := S) hS16, hs1]; rfl
      have a1 : oAdd (.str (tx L)) (.str (tx [s])) = some (.str (tx (L ++ [s]))) := ov_addS (by simp; omega)
      refine ⟨st x4 (v / 97 % 4) (some (.str (tx L))) (some (.int (i : Int))), rfl, n2, st x4' (v / 97 % 4) (some (.str (tx (L ++ [s])))) (some (.int (i : Int))), ?_, by omega, by push_cast; omega, x4', L ++ [s], _, rfl, y1, by simp [hL], fun d hd => ?_⟩
      · unfold b__law_row_1
        refine seq_nx e1 (set_of (d := .str (tx (L ++ [s]))) ?_)
        simp only [st]
        simp [ov_lenS hS16, d5, hS0, es, a1, -ov_ixS]
      · rcases List.mem_append.mp hd with hd | hd
        · exact hA d hd
        · simp only [List.mem_singleton] at hd
          subst hd; exact hs3) ⟨by omega, by omega, v, [], none, rfl, v0, rfl, fun c hc => (by cases hc)⟩
  refine ⟨L, n1, by omega, hA, by omega, by omega, ?_⟩
  unfold f__law_row fnC
  have e : m__law_row cs n ((startD 8 [scD ns, .non, .str (tx S), .int (most : Int)]).set 1 none) = some (.rt (.str (tx L)), n1, st x4 (v / 97 % 4) (some (.str (tx L))) x7) := by
    unfold m__law_row
    have hp : (0 : Int) < (most : Int) + 1 := by omega
    refine seq_nx (n1 := n + 1) (ds1 := [some (scD ns), none, some (.str (tx S)), some (.int (most : Int)), some (.int v), none, none, none]) (by simp [startD, hv]) (seq_nx (n1 := n + 1) (ds1 := st v (v / 97 % 4) none none) (by simp [st, d97]) (seq_nx (n1 := n + 1) (ds1 := st v (v / 97 % 4) (some (.str (tx []))) none) (by simp [st, al4]) (seq_nx (for_of (n1 := n + 1) (as := rngD 0 N) ?_ e1) (by simp [st]))))
    simp [st, hp, hN, r62_nat (n := N) (by omega)]
  rw [e]; rfl
end K22

namespace K22
open PySem L2 PyProof.Rows GW
variable {cs : Nat → Addr}
theorem sE0 : Str.ofString "" = tx [] := al4
def enD (l : List D) : List D := l.mapIdx fun i x => D.tup [.int (i : Nat), x]
theorem en_get {l : List D} {i : Nat} {d : D} (h : (enD l)[i]? = some d) : ∃ x, l[i]? = some x ∧ d = .tup [.int (i : Nat), x] := by
  unfold enD at h
  rw [List.getElem?_mapIdx] at h
  cases e : l[i]? with
  | none => rw [e] at h; cases h
  | some c => rw [e] at h; cases h; exact ⟨c, rfl, rfl⟩
theorem en_len {l : List D} : (enD l).length = l.length := by unfold enD; simp
/-- prices with these signs -/
structure HasS (cs : Nat → Addr) (P : D) (S : List Nat) : Prop where
  signs : oFld (cs 0) "signs" P = some (.str (tx S))
  good : GoodS S
structure Row (S F : List Nat) : Prop where
  mem : ∀ c ∈ F, c ∈ S
  len : F.length ≤ 30
/-- the first strange sign stands at A's end -/
structure Bad (S A F : List Nat) : Prop where
  pre : ∀ c ∈ A, c ∈ S
  at_ : ∃ c, F[A.length]? = some c ∧ c ∉ S
  take : F.take A.length = A
section
variable {P : D} {S F G : List Nat}
def st2 (P : D) (rows : D) (x2 x3 x4 x5 : Option D) : DS := [some P, some rows, x2, x3, x4, x5]
theorem signs_in (hP : HasS cs P S) {rows : D} {L : List Nat} (hL : Row S L) (x2 x4 x5 : Option D) : ∃ y4 y5, b_ask_signs_2 cs 0 (st2 P rows x2 (some (.str (tx L))) x4 x5) = some (.nx, 0, st2 P rows x2 (some (.str (tx L))) y4 y5) := by
  obtain ⟨n', ds', h1, rfl, y4, y5, rfl⟩ := forL_inv (tg := .tup [4, 5]) (body := b_ask_signs_1 cs) (as := enD (L.map fun c => D.str (tx [c]))) (n := 0) (ds := st2 P rows x2 (some (.str (tx L))) x4 x5)
    (fun i n ds => n = 0 ∧ ∃ y4 y5, ds = st2 P rows x2 (some (.str (tx L))) y4 y5)
    (fun i d n ds hi ⟨hn, y4, y5, hd⟩ => by
      subst hn hd
      obtain ⟨x, hx, rfl⟩ := en_get hi
      rw [List.getElem?_map] at hx
      cases hc : L[i]? with
      | none => rw [hc] at hx; cases hx
      | some c =>
        rw [hc] at hx; cases hx
        have hm := hL.mem c (List.mem_of_getElem? hc)
        refine ⟨st2 P rows x2 (some (.str (tx L))) (some (.int (i : Nat))) (some (.str (tx [c]))), rfl, 0, st2 P rows x2 (some (.str (tx L))) (some (.int (i : Nat))) (some (.str (tx [c]))), ?_, rfl, _, _, rfl⟩
        unfold b_ask_signs_1
        simp [st2, hP.signs, hm]) ⟨rfl, x4, x5, rfl⟩
  refine ⟨y4, y5, ?_⟩
  unfold b_ask_signs_2
  exact for_of (n1 := 0) (as := enD (L.map fun c => D.str (tx [c]))) (by simp [mEnum, oEnum, enD, st2]) h1
theorem signs_out (hP : HasS cs P S) {rows : D} {A L : List Nat} {r : Int} (hL : Bad S A L) (x4 x5 : Option D) : ∃ ds', b_ask_signs_2 cs 0 (st2 P rows (some (.int r)) (some (.str (tx L))) x4 x5) = some (.ex 9 [("place", (A.length : Int)), ("row", r)], 0, ds') := by
  obtain ⟨c0, h0, hn0⟩ := hL.at_
  obtain ⟨res, h1, ds', rfl⟩ := forL_run (tg := .tup [4, 5]) (body := b_ask_signs_1 cs) (as := enD (L.map fun c => D.str (tx [c]))) (n := 0) (ds := st2 P rows (some (.int r)) (some (.str (tx L))) x4 x5)
    (fun i n ds => n = 0 ∧ i ≤ A.length ∧ ∃ y4 y5, ds = st2 P rows (some (.int r)) (some (.str (tx L))) y4 y5)
    (fun z => ∃ ds', z = (.ex 9 [("place", (A.length : Int)), ("row", r)], 0, ds'))
    (fun i d n ds hi ⟨hn, hiA, y4, y5, hd⟩ => by
      subst hn hd
      obtain ⟨x, hx, rfl⟩ := en_get hi
      rw [List.getElem?_map] at hx
      cases hc : L[i]? with
      | none => rw [hc] at hx; cases hx
      | some c =>
        rw [hc] at hx; cases hx
        refine ⟨st2 P rows (some (.int r)) (some (.str (tx L))) (some (.int (i : Nat))) (some (.str (tx [c]))), rfl, ?_⟩
        by_cases hlt : i < A.length
        · have hm : c ∈ S := by
            refine hL.pre c ?_
            have : (L.take A.length)[i]? = some c := by rw [List.getElem?_take]; simp [hlt, hc]
            rw [hL.take] at this
            exact List.mem_of_getElem? this
          refine ⟨.nx, 0, st2 P rows (some (.int r)) (some (.str (tx L))) (some (.int (i : Nat))) (some (.str (tx [c]))), ?_, rfl, by omega, _, _, rfl⟩
          unfold b_ask_signs_1
          simp [st2, hP.signs, hm]
        · have hi2 : i = A.length := by omega
          subst hi2
          rw [h0] at hc
          cases hc
          refine ⟨.ex 9 [("place", (A.length : Int)), ("row", r)], 0, st2 P rows (some (.int r)) (some (.str (tx L))) (some (.int (A.length : Nat))) (some (.str (tx [c0]))), ?_, _, rfl⟩
          unfold b_ask_signs_1
          simp [st2, hP.signs, hn0])
    (fun n ds ⟨_, h, _⟩ => by
      rw [en_len, List.length_map] at h
      have := (List.getElem?_eq_some_iff.mp h0).1
      omega) ⟨rfl, Nat.zero_le _, x4, x5, rfl⟩
  refine ⟨ds', ?_⟩
  unfold b_ask_signs_2
  exact for_of (n1 := 0) (as := enD (L.map fun c => D.str (tx [c]))) (by simp [mEnum, oEnum, enD, st2]) h1
theorem rows_it {F G : List Nat} : mEnum (mCons (mVar 1) (ret (some []))) 0 (startD 6 [P, .lst [.str (tx F), .str (tx G)]]) = some (.ok [.tup [.int (0 : Nat), .str (tx F)], .tup [.int (1 : Nat), .str (tx G)]], 0) := by
  simp [mEnum, oEnum, startD]
theorem ask_signs_eval (hP : HasS cs P S) (hF : Row S F) (hG : Row S G) : f_ask_signs cs [P, .lst [.str (tx F), .str (tx G)]] = some (.ok .non) := by
  unfold f_ask_signs
  apply fn0_of
  obtain ⟨a4, a5, ha⟩ := signs_in (rows := .lst [.str (tx F), .str (tx G)]) hP hF (some (.int (0 : Nat))) none none
  obtain ⟨b4, b5, hb⟩ := signs_in (rows := .lst [.str (tx F), .str (tx G)]) hP hG (some (.int (1 : Nat))) a4 a5
  have e : m_ask_signs cs 0 (startD 6 [P, .lst [.str (tx F), .str (tx G)]]) = some (.nx, 0, st2 P (.lst [.str (tx F), .str (tx G)]) (some (.int (1 : Nat))) (some (.str (tx G))) b4 b5) := by
    unfold m_ask_signs
    refine for_of rows_it ((forL_nx (ds1 := st2 P (.lst [.str (tx F), .str (tx G)]) (some (.int (0 : Nat))) (some (.str (tx F))) none none) rfl ha).trans ((forL_nx (ds1 := st2 P (.lst [.str (tx F), .str (tx G)]) (some (.int (1 : Nat))) (some (.str (tx G))) a4 a5) rfl hb).trans rfl))
  rw [e]; rfl
theorem ask_signs_0 (hP : HasS cs P S) {A : List Nat} (hF : Bad S A F) : f_ask_signs cs [P, .lst [.str (tx F), .str (tx G)]] = some (.ex 9 [("place", (A.length : Int)), ("row", 0)]) := by
  unfold f_ask_signs
  apply fn0_ex
  obtain ⟨ds', ha⟩ := signs_out (rows := .lst [.str (tx F), .str (tx G)]) (r := ((0 : Nat) : Int)) hP hF none none
  have e : m_ask_signs cs 0 (startD 6 [P, .lst [.str (tx F), .str (tx G)]]) = some (.ex 9 [("place", (A.length : Int)), ("row", 0)], 0, ds') := by
    unfold m_ask_signs
    exact for_of rows_it (forL_ex (ds1 := st2 P (.lst [.str (tx F), .str (tx G)]) (some (.int (0 : Nat))) (some (.str (tx F))) none none) rfl ha)
  rw [e]; rfl
theorem ask_signs_1 (hP : HasS cs P S) {A : List Nat} (hF : Row S F) (hG : Bad S A G) : f_ask_signs cs [P, .lst [.str (tx F), .str (tx G)]] = some (.ex 9 [("place", (A.length : Int)), ("row", 1)]) := by
  unfold f_ask_signs
  apply fn0_ex
  obtain ⟨a4, a5, ha⟩ := signs_in (rows := .lst [.str (tx F), .str (tx G)]) hP hF (some (.int (0 : Nat))) none none
  obtain ⟨ds', hb⟩ := signs_out (rows := .lst [.str (tx F), .str (tx G)]) (r := ((1 : Nat) : Int)) hP hG a4 a5
  have e : m_ask_signs cs 0 (startD 6 [P, .lst [.str (tx F), .str (tx G)]]) = some (.ex 9 [("place", (A.length : Int)), ("row", 1)], 0, ds') := by
    unfold m_ask_signs
    exact for_of rows_it ((forL_nx (ds1 := st2 P (.lst [.str (tx F), .str (tx G)]) (some (.int (0 : Nat))) (some (.str (tx F))) none none) rfl ha).trans (forL_ex (ds1 := st2 P (.lst [.str (tx F), .str (tx G)]) (some (.int (1 : Nat))) (some (.str (tx G))) a4 a5) rfl hb))
  rw [e]; rfl
end
/-! ### manners -/
def mW : List Nat := [119, 104, 111, 108, 101]
def mI : List Nat := [119, 105, 116, 104, 105, 110]
def mO : List Nat := [111, 118, 101, 114]
def mS : List Nat := [115, 116, 114, 101, 116, 99, 104]
theorem sW : Str.ofString "whole" = tx mW := by decide +kernel
theorem sI : Str.ofString "within" = tx mI := by decide +kernel
theorem sO : Str.ofString "over" = tx mO := by decide +kernel
theorem sS : Str.ofString "stretch" = tx mS := by decide +kernel
def mans : List (List Nat) := [mW, mI, mO, mS]
theorem scVs_strs : ∀ zs : List Str, scVs (zs.map D.str) = some (zs.map V.str)
  | [] => rfl
  | z :: zs => by
    show (match scV (.str z), scVs (zs.map D.str) with
      | some v, some vs => some (v :: vs)
      | _, _ => none) = _
    rw [scVs_strs zs]; rfl
theorem inV_strs (x : Str) : ∀ zs : List Str, inV (.str x) (zs.map V.str) = decide (x ∈ zs)
  | [] => rfl
  | z :: zs => by
    have ih := inV_strs x zs
    show (decide (z = x) || inV (.str x) (zs.map V.str)) = _
    rw [ih, Bool.eq_iff_iff]
    simp only [Bool.or_eq_true, decide_eq_true_eq, List.mem_cons]
    exact ⟨fun h => h.elim (fun h => .inl h.symm) .inr, fun h => h.elim (fun h => .inl h.symm) .inr⟩
theorem inQ_strs (x : Str) (zs : List Str) : oInQ true (.str x) (.tup (zs.map D.str)) = some (.bl (!decide (x ∈ zs))) := by
  show (scVs (zs.map D.str)).map (fun vs => D.bl (if true = true then !inV (.str x) vs else inV (.str x) vs)) = _
  rw [scVs_strs]
  simp [inV_strs]
theorem manner_eval (m : List Nat) : f_ask_manner cs [.str (tx m)] = if m ∈ mans then some (.ok .non) else some (.ex 3 []) := by
  have hz : decide (tx m ∈ ([Str.ofString "whole", Str.ofString "within", Str.ofString "over", Str.ofString "stretch"] : List Str)) = decide (m ∈ mans) := by
    rw [sW, sI, sO, sS]
    simp only [mans, List.mem_cons, List.not_mem_nil, tx_inj]
  have e := inQ_strs (tx m) ["whole", "within", "over", "stretch"]
  simp only [List.map_cons, List.map_nil] at e
  unfold f_ask_manner
  by_cases h : m ∈ mans
  · rw [if_pos h]
    rw [hz, decide_eq_true h] at e
    apply fn0_of
    unfold m_ask_manner
    simp [startD, e]
  · rw [if_neg h]
    rw [hz, decide_eq_false h] at e
    apply fn0_ex
    unfold m_ask_manner
    simp [startD, e]
theorem nWI : ¬ mI = mW := by decide
theorem nWO : ¬ mO = mW := by decide
theorem nIO : ¬ mO = mI := by decide
theorem nWS : ¬ mS = mW := by decide
theorem nIS : ¬ mS = mI := by decide
theorem nOS : ¬ mS = mO := by decide
def okB (m : List Nat) (i j : Int) : Bool := if m = mW then decide (i = 0) && decide (j = 0) else if m = mI then decide (i = 0) else if m = mO then decide (j = 0) else true
def okE (m : List Nat) (f g i j : Int) : Bool := if m = mW then decide (i = f) && decide (j = g) else if m = mS then true else decide (i = f)
theorem beg_eval (m : List Nat) (i j : Int) : f_may_begin cs [.str (tx m), .tup [.int i, .int j]] = some (.ok (.bl (okB m i j))) := by
  unfold f_may_begin m_may_begin okB
  apply fn0_of
  by_cases h1 : m = mW
  · simp [startD, sW, tx_inj, h1]
  · by_cases h2 : m = mI
    · subst h2; simp [startD, sW, sI, tx_inj, h1]
    · by_cases h3 : m = mO
      · subst h3; simp [startD, sW, sI, sO, tx_inj, h1, h2]
      · simp [startD, sW, sI, sO, tx_inj, h1, h2, h3]
theorem end_eval (m F G : List Nat) (i j : Int) (hF : F.length ≤ 16777216) (hG : G.length ≤ 16777216) : f_may_end cs [.str (tx m), .str (tx F), .str (tx G), .tup [.int i, .int j]] = some (.ok (.bl (okE m F.length G.length i j))) := by
  unfold f_may_end m_may_end okE
  apply fn0_of
  by_cases h1 : m = mW
  · simp [startD, sW, tx_inj, h1, ov_lenS hF, ov_lenS hG]
  · by_cases h2 : m = mS
    · subst h2; simp [startD, sW, sS, tx_inj, h1]
    · simp [startD, sW, sS, tx_inj, h1, h2, ov_lenS hF]
end K22

namespace K22
open PySem L2 PyProof.Rows GW
variable {cs : Nat → Addr}
/-! ### sheets -/
structure Sh where
  F : List Nat
  G : List Nat
  m : List Nat
  O : Int
  M : Int
  pc : Nat → Nat → Int
def gd (L : List Nat) (i : Nat) : Nat := L.getD i 0
theorem gd_get {L : List Nat} {i : Nat} (h : i < L.length) : L[i]? = some (gd L i) := by
  unfold gd
  simp [h]
abbrev Sh.f (h : Sh) : Nat := h.F.length
abbrev Sh.g (h : Sh) : Nat := h.G.length
def Sh.fld (h : Sh) : List (Str × D) := [fl "first" (.str (tx h.F)), fl "second" (.str (tx h.G)), fl "high" (.int (h.f : Int)), fl "wide" (.int (h.g : Int)), fl "manner" (.str (tx h.m)), fl "opening" (.int h.O), fl "more" (.int h.M), fl "costs" (.lst (h.F.map fun c => .lst (h.G.map fun d => .int (h.pc c d))))]
def Sh.D (h : Sh) (cs : Nat → Addr) : D := .obj (cs 1) h.fld
/-- small rows -/
structure Sh.OK (h : Sh) : Prop where
  f : h.F.length ≤ 100
  g : h.G.length ≤ 100
section
variable {h : Sh}
theorem sh_first : oFld (cs 1) "first" (h.D cs) = some (.str (tx h.F)) := by unfold Sh.D; rw [oFld_eq]; rfl
theorem sh_second : oFld (cs 1) "second" (h.D cs) = some (.str (tx h.G)) := by unfold Sh.D; rw [oFld_eq]; rfl
theorem sh_high : oFld (cs 1) "high" (h.D cs) = some (.int (h.f : Int)) := by unfold Sh.D; rw [oFld_eq]; rfl
theorem sh_wide : oFld (cs 1) "wide" (h.D cs) = some (.int (h.g : Int)) := by unfold Sh.D; rw [oFld_eq]; rfl
theorem sh_manner : oFld (cs 1) "manner" (h.D cs) = some (.str (tx h.m)) := by unfold Sh.D; rw [oFld_eq]; rfl
theorem sh_opening : oFld (cs 1) "opening" (h.D cs) = some (.int h.O) := by unfold Sh.D; rw [oFld_eq]; rfl
theorem sh_more : oFld (cs 1) "more" (h.D cs) = some (.int h.M) := by unfold Sh.D; rw [oFld_eq]; rfl
theorem sh_costs : oFld (cs 1) "costs" (h.D cs) = some (.lst (h.F.map fun c => .lst (h.G.map fun d => .int (h.pc c d)))) := by unfold Sh.D; rw [oFld_eq]; rfl
theorem sh_gap : isMeth (cs 1) "gap" (h.D cs) = true := by
  show (decide (cs 1 = cs 1) && _) = true
  rw [decide_eq_true rfl]; rfl
theorem sh_begins : isMeth (cs 1) "begins" (h.D cs) = true := by
  show (decide (cs 1 = cs 1) && _) = true
  rw [decide_eq_true rfl]; rfl
theorem sh_ends : isMeth (cs 1) "ends" (h.D cs) = true := by
  show (decide (cs 1 = cs 1) && _) = true
  rw [decide_eq_true rfl]; rfl
theorem ev_meth {C0 : Addr} {m : Str} {f : List D → Option (Ot D)} {mo : GW.M} {ms : Mo (List D)} {n : Int} {ds : DS} : mMeth C0 m f mo ms n ds = mb mo (fun d => if isMeth C0 m d = true then mb ms (fun as => fun n _ => pureF f n (d :: as)) else GW.ret none) n ds := (rfl)
def Sh.gp (h : Sh) (b : Bool) : Int := if b then h.M else h.O + h.M
theorem gap_eval (b : Bool) : f_Sheet_gap cs [h.D cs, .bl b] = some (.ok (.int (h.gp b))) := by
  unfold f_Sheet_gap m_Sheet_gap Sh.gp
  apply fn0_of
  cases b <;> simp [startD, sh_more, sh_opening]
def Sh.bg (h : Sh) (i j : Nat) : Bool := okB h.m (i : Int) (j : Int)
def Sh.en (h : Sh) (i j : Nat) : Bool := okE h.m (h.f : Int) (h.g : Int) (i : Int) (j : Int)
theorem begins_eval (i j : Nat) : f_Sheet_begins cs [h.D cs, .int (i : Int), .int (j : Int)] = some (.ok (.bl (h.bg i j))) := by
  unfold f_Sheet_begins m_Sheet_begins
  apply fn0_of
  simp [startD, sh_manner, beg_eval, Sh.bg]
theorem ends_eval (hk : h.OK) (i j : Nat) : f_Sheet_ends cs [h.D cs, .int (i : Int), .int (j : Int)] = some (.ok (.bl (h.en i j))) := by
  have e := end_eval (cs := cs) h.m h.F h.G (i : Int) (j : Int) (by have := hk.f; omega) (by have := hk.g; omega)
  unfold f_Sheet_ends m_Sheet_ends
  apply fn0_of
  simp [startD, sh_manner, sh_first, sh_second, e, Sh.en]
theorem en_corner : h.en h.f h.g = true := by
  unfold Sh.en okE
  split
  · simp
  · split
    · rfl
    · simp
/-! ### steps -/
structure Stp where
  k : Nat
  d : Nat
  a : Nat
  c : Nat
  x : Int
def stD (s : Stp) : D := .tup [.str (tx [s.k]), .int (s.d : Int), .int (s.a : Int), .int (s.c : Int), .int s.x]
def Sh.sp (h : Sh) (i j : Nat) : List Stp := if i < h.f ∧ j < h.g then [⟨112, i + 1, j + 1, 0, h.pc (gd h.F i) (gd h.G j)⟩] else []
def Sh.sa (h : Sh) (i j c : Nat) : List Stp := if i < h.f then [⟨97, i + 1, j, 1, h.gp (decide (c = 1))⟩] else []
def Sh.sb (h : Sh) (i j c : Nat) : List Stp := if j < h.g then [⟨98, i, j + 1, 2, h.gp (decide (c = 2))⟩] else []
def Sh.steps (h : Sh) (i j c : Nat) : List Stp := h.sp i j ++ h.sa i j c ++ h.sb i j c
theorem sp_k : Str.ofString "p" = tx [112] := by decide +kernel
theorem sa_k : Str.ofString "a" = tx [97] := by decide +kernel
theorem sb_k : Str.ofString "b" = tx [98] := by decide +kernel
theorem step_le {i j c : Nat} (hi : i ≤ h.f) (hj : j ≤ h.g) {s : Stp} (hs : s ∈ h.steps i j c) : i ≤ s.d ∧ s.d ≤ h.f ∧ j ≤ s.a ∧ s.a ≤ h.g ∧ s.c < 3 ∧ i + j < s.d + s.a := by
  unfold Sh.steps Sh.sp Sh.sa Sh.sb at hs
  rw [List.mem_append, List.mem_append] at hs
  rcases hs with (hs | hs) | hs
  · split at hs
    · simp only [List.mem_singleton] at hs; subst hs; simp; omega
    · cases hs
  · split at hs
    · simp only [List.mem_singleton] at hs; subst hs; simp; omega
    · cases hs
  · split at hs
    · simp only [List.mem_singleton] at hs; subst hs; simp; omega
    · cases hs
theorem steps_len {i j c : Nat} : (h.steps i j c).length ≤ 3 := by
  unfold Sh.steps Sh.sp Sh.sa Sh.sb
  rw [List.length_append, List.length_append]
  split <;> split <;> split <;> simp
theorem eqc (c : Nat) (k : Nat) : (decide ((c : Int) = (k : Int)) : Bool) = decide (c = k) := by
  rw [Bool.eq_iff_iff]
  simp only [decide_eq_true_eq]
  omega
theorem steps_eval (i j c : Nat) : f_steps_from cs [h.D cs, .int (i : Int), .int (j : Int), .int (c : Int)] = some (.ok (.lst ((h.steps i j c).map stD))) := by
  let st : List Stp → DS := fun l => [some (h.D cs), some (.int (i : Int)), some (.int (j : Int)), some (.int (c : Int)), some (.lst (l.map stD))]
  have e1 : sIf (mAnd (mTest (m2 (mVar 1) (m1 (mVar 0) (oFld (cs 1) "high")) oLt)) (mTest (m2 (mVar 2) (m1 (mVar 0) (oFld (cs 1) "wide")) oLt))) (sApp 4 (mTup (mCons (mC (.str "p")) (mCons (m2 (mVar 1) (mC (.int 1)) oAdd) (mCons (m2 (mVar 2) (mC (.int 1)) oAdd) (mCons (mC (.int 0)) (mCons (m2 (m2 (m1 (mVar 0) (oFld (cs 1) "costs")) (mVar 1) oIx) (mVar 2) oIx) (ret (some []))))))))) sNx 0 (st []) = some (.nx, 0, st (h.sp i j)) := by
    unfold Sh.sp
    by_cases hc : i < h.f ∧ j < h.g
    · rw [if_pos hc]
      have c1 : (i : Int) < (h.f : Int) := by omega
      have c2 : (j : Int) < (h.g : Int) := by omega
      refine if_t (n1 := 0) (by simp only [st]; simp [sh_high, sh_wide, hc.1, hc.2]) ?_
      have q1 : atI (h.F.map fun c => D.lst (h.G.map fun d => .int (h.pc c d))) (i : Int) = some (.lst (h.G.map fun d => .int (h.pc (gd h.F i) d))) := by
        rw [GW.atI_nat, List.getElem?_map, gd_get hc.1]; rfl
      have q2 : atI (h.G.map fun d => D.int (h.pc (gd h.F i) d)) (j : Int) = some (.int (h.pc (gd h.F i) (gd h.G j))) := by
        rw [GW.atI_nat, List.getElem?_map, gd_get hc.2]; rfl
      refine (app_of (as := []) (d := stD ⟨112, i + 1, j + 1, 0, h.pc (gd h.F i) (gd h.G j)⟩) (n1 := 0) rfl ?_ (by simp)).trans rfl
      simp only [st]
      simp [sh_costs, q1, q2, sp_k, stD]
    · rw [if_neg hc]
      refine if_f (n1 := 0) ?_ rfl
      simp only [st]
      by_cases hi : i < h.f
      · have hj : ¬ j < h.g := fun z => hc ⟨hi, z⟩
        simp [sh_high, sh_wide, hi, hj]
      · simp [sh_high, hi]
  have e2 : ∀ l : List Stp, l.length ≤ 3 → sIf (mTest (m2 (mVar 1) (m1 (mVar 0) (oFld (cs 1) "high")) oLt)) (sApp 4 (mTup (mCons (mC (.str "a")) (mCons (m2 (mVar 1) (mC (.int 1)) oAdd) (mCons (mVar 2) (mCons (mC (.int 1)) (mCons (mMeth (cs 1) "gap" (f_Sheet_gap cs) (mVar 0) (mCons (m2 (mVar 3) (mC (.int 1)) oEq) (ret (some [])))) (ret (some []))))))))) sNx 0 (st l) = some (.nx, 0, st (l ++ h.sa i j c)) := fun l hl => by
    unfold Sh.sa
    by_cases hc : i < h.f
    · rw [if_pos hc]
      refine if_t (n1 := 0) (by simp only [st]; simp [sh_high, hc]) ?_
      refine (app_of (as := l.map stD) (d := stD ⟨97, i + 1, j, 1, h.gp (decide (c = 1))⟩) (n1 := 0) rfl ?_ (by rw [List.length_map]; omega)).trans ?_
      · have := eqc c 1
        simp only [st]
        simp [ev_meth, sh_gap, gap_eval, sa_k, stD]
        exact congrArg h.gp this
      · simp [st]
    · rw [if_neg hc]
      refine if_f (n1 := 0) (by simp only [st]; simp [sh_high, hc]) ?_
      simp
  have e3 : ∀ l : List Stp, l.length ≤ 3 → sIf (mTest (m2 (mVar 2) (m1 (mVar 0) (oFld (cs 1) "wide")) oLt)) (sApp 4 (mTup (mCons (mC (.str "b")) (mCons (mVar 1) (mCons (m2 (mVar 2) (mC (.int 1)) oAdd) (mCons (mC (.int 2)) (mCons (mMeth (cs 1) "gap" (f_Sheet_gap cs) (mVar 0) (mCons (m2 (mVar 3) (mC (.int 2)) oEq) (ret (some [])))) (ret (some []))))))))) sNx 0 (st l) = some (.nx, 0, st (l ++ h.sb i j c)) := fun l hl => by
    unfold Sh.sb
    by_cases hc : j < h.g
    · rw [if_pos hc]
      refine if_t (n1 := 0) (by simp only [st]; simp [sh_wide, hc]) ?_
      refine (app_of (as := l.map stD) (d := stD ⟨98, i, j + 1, 2, h.gp (decide (c = 2))⟩) (n1 := 0) rfl ?_ (by rw [List.length_map]; omega)).trans ?_
      · have := eqc c 2
        simp only [st]
        simp [ev_meth, sh_gap, gap_eval, sb_k, stD]
        exact congrArg h.gp this
      · simp [st]
    · rw [if_neg hc]
      refine if_f (n1 := 0) (by simp only [st]; simp [sh_wide, hc]) ?_
      simp
  unfold f_steps_from
  apply fn0_of
  have l1 : (h.sp i j).length ≤ 1 := by unfold Sh.sp; split <;> simp
  have l2 : (h.sa i j c).length ≤ 1 := by unfold Sh.sa; split <;> simp
  have e : m_steps_from cs 0 (startD 5 [h.D cs, .int (i : Int), .int (j : Int), .int (c : Int)]) = some (.rt (.lst ((h.steps i j c).map stD)), 0, st (h.steps i j c)) := by
    unfold m_steps_from
    refine seq_nx (n1 := 0) (ds1 := st []) (by simp [startD, st]) (seq_nx e1 (seq_nx (e2 _ (by omega)) (seq_nx (e3 _ (by rw [List.length_append]; omega)) (by simp [st, Sh.steps]))))
  rw [e]; rfl
end
end K22

namespace K22
open PySem L2 PyProof.Rows GW
variable {cs : Nat → Addr}
/-! ### the least of some costs, and in how many ways -/
abbrev Pr := Int × Int
def bstp : Option Pr → Pr → Option Pr
  | none, q => some q
  | some p, q => if q.1 < p.1 then some q else if q.1 = p.1 then some (p.1, p.2 + q.2) else some p
def bfold (o : Option Pr) (l : List Pr) : Option Pr := l.foldl bstp o
theorem bstp_some (o : Option Pr) (q : Pr) : ∃ p, bstp o q = some p := by
  cases o with
  | none => exact ⟨_, rfl⟩
  | some p =>
    unfold bstp
    by_cases h1 : q.1 < p.1
    · simp [h1]
    · by_cases h2 : q.1 = p.1
      · simp [h1, h2]
      · simp [h1, h2]
theorem bfold_some : ∀ (l : List Pr) (o : Option Pr), (l ≠ [] ∨ o ≠ none) → ∃ p, bfold o l = some p
  | [], o, h => by
    cases o with
    | none => rcases h with h | h <;> exact absurd rfl h
    | some p => exact ⟨p, rfl⟩
  | q :: l, o, _ => by
    obtain ⟨p, hp⟩ := bstp_some o q
    show ∃ p, bfold (bstp o q) l = some p
    exact bfold_some l _ (.inr (by rw [hp]; simp))
/-- what it is -/
theorem bfold_is : ∀ (l : List Pr) (o : Option Pr) (p : Pr), bfold o l = some p → (∀ q ∈ l, p.1 ≤ q.1) ∧ (∀ q, o = some q → p.1 ≤ q.1) ∧ ((∃ q ∈ l, q.1 = p.1) ∨ ∃ q, o = some q ∧ q.1 = p.1)
  | [], o, p, h => by
    have h : o = some p := h
    subst h
    exact ⟨fun q hq => (by cases hq), fun q hq => (by cases hq; exact Int.le_refl _), .inr ⟨p, rfl, rfl⟩⟩
  | q :: l, o, p, h => by
    have h : bfold (bstp o q) l = some p := h
    obtain ⟨h1, h2, h3⟩ := bfold_is l _ p h
    cases o with
    | none =>
      have := h2 q rfl
      refine ⟨fun z hz => ?_, fun z hz => (by cases hz), ?_⟩
      · rcases List.mem_cons.mp hz with rfl | hz
        · exact this
        · exact h1 z hz
      · rcases h3 with ⟨z, hz, e⟩ | ⟨z, hz, e⟩
        · exact .inl ⟨z, List.mem_cons_of_mem _ hz, e⟩
        · cases hz
          exact .inl ⟨q, List.mem_cons_self, e⟩
    | some r =>
      by_cases k1 : q.1 < r.1
      · have eb : bstp (some r) q = some q := by simp [bstp, k1]
        rw [eb] at h2 h3
        have := h2 q rfl
        refine ⟨fun z hz => ?_, fun z hz => (by cases hz; omega), ?_⟩
        · rcases List.mem_cons.mp hz with rfl | hz
          · exact this
          · exact h1 z hz
        · rcases h3 with ⟨z, hz, e⟩ | ⟨z, hz, e⟩
          · exact .inl ⟨z, List.mem_cons_of_mem _ hz, e⟩
          · cases hz
            exact .inl ⟨q, List.mem_cons_self, e⟩
      · by_cases k2 : q.1 = r.1
        · have eb : bstp (some r) q = some (r.1, r.2 + q.2) := by simp [bstp, k2]
          rw [eb] at h2 h3
          have h4 : p.1 ≤ r.1 := h2 (r.1, r.2 + q.2) rfl
          refine ⟨fun z hz => ?_, fun z hz => (by cases hz; exact h4), ?_⟩
          · rcases List.mem_cons.mp hz with rfl | hz
            · omega
            · exact h1 z hz
          · rcases h3 with ⟨z, hz, e⟩ | ⟨z, hz, e⟩
            · exact .inl ⟨z, List.mem_cons_of_mem _ hz, e⟩
            · cases hz
              exact .inr ⟨r, rfl, e⟩
        · have eb : bstp (some r) q = some r := by simp [bstp, k1, k2]
          rw [eb] at h2 h3
          have h4 : p.1 ≤ r.1 := h2 _ rfl
          refine ⟨fun z hz => ?_, fun z hz => (by cases hz; exact h4), ?_⟩
          · rcases List.mem_cons.mp hz with rfl | hz
            · omega
            · exact h1 z hz
          · rcases h3 with ⟨z, hz, e⟩ | ⟨z, hz, e⟩
            · exact .inl ⟨z, List.mem_cons_of_mem _ hz, e⟩
            · cases hz
              exact .inr ⟨r, rfl, e⟩
/-! ### the table's numbers -/
def Sh.cands (h : Sh) (T : Nat → Nat → Nat → Pr) (i j c : Nat) : List Pr := (h.steps i j c).map fun s => (s.x + (T s.d s.a s.c).1, (T s.d s.a s.c).2)
def Sh.en0 (h : Sh) (i j : Nat) : Option Pr := if h.en i j then some (0, 1) else none
def Sh.R (h : Sh) : Nat → Nat → Nat → Nat → Pr
  | 0, _, _, _ => (0, 0)
  | k + 1, i, j, c => (bfold (h.en0 i j) (h.cands (h.R k) i j c)).getD (0, 0)
def Sh.T (h : Sh) (i j c : Nat) : Pr := h.R (h.f + h.g + 1) i j c
section
variable {h : Sh}
theorem cands_congr {T T' : Nat → Nat → Nat → Pr} {i j c : Nat} (e : ∀ s ∈ h.steps i j c, T s.d s.a s.c = T' s.d s.a s.c) : h.cands T i j c = h.cands T' i j c := by
  unfold Sh.cands
  exact List.map_congr_left fun s hs => by rw [e s hs]
theorem R_fuel : ∀ (k k' i j c : Nat), i ≤ h.f → j ≤ h.g → h.f + h.g < i + j + k → h.f + h.g < i + j + k' → h.R k i j c = h.R k' i j c
  | 0, k', i, j, c, hi, hj, h1, h2 => by omega
  | k + 1, 0, i, j, c, hi, hj, h1, h2 => by omega
  | k + 1, k' + 1, i, j, c, hi, hj, h1, h2 => by
    show (bfold _ (h.cands (h.R k) i j c)).getD (0, 0) = (bfold _ (h.cands (h.R k') i j c)).getD (0, 0)
    rw [cands_congr fun s hs => by
      obtain ⟨z1, z2, z3, z4, z5, z6⟩ := step_le hi hj hs
      exact R_fuel k k' s.d s.a s.c z2 z4 (by omega) (by omega)]
theorem T_rec {i j c : Nat} (hi : i ≤ h.f) (hj : j ≤ h.g) : bfold (h.en0 i j) (h.cands h.T i j c) = some (h.T i j c) := by
  have e : h.cands h.T i j c = h.cands (h.R (h.f + h.g)) i j c := cands_congr fun s hs => by
    obtain ⟨z1, z2, z3, z4, z5, z6⟩ := step_le hi hj hs
    exact R_fuel _ _ _ _ _ z2 z4 (by omega) (by omega)
  obtain ⟨p, hp⟩ := bfold_some (h.cands (h.R (h.f + h.g)) i j c) (h.en0 i j) (by
    by_cases hc : i = h.f ∧ j = h.g
    · right
      unfold Sh.en0
      rw [hc.1, hc.2, en_corner]
      simp
    · left
      have : h.steps i j c ≠ [] := by
        unfold Sh.steps Sh.sa Sh.sb
        by_cases hf : i < h.f
        · simp [hf]
        · have : j < h.g := by omega
          simp [this]
      intro z
      exact this (List.map_eq_nil_iff.mp z))
  rw [e]
  show _ = some ((bfold (h.en0 i j) (h.cands (h.R (h.f + h.g)) i j c)).getD (0, 0))
  rw [hp]; rfl
theorem T_end {i j c : Nat} (hi : i ≤ h.f) (hj : j ≤ h.g) (he : h.en i j = true) : (h.T i j c).1 ≤ 0 := by
  obtain ⟨_, h2, _⟩ := bfold_is _ _ _ (T_rec (h := h) (c := c) hi hj)
  exact h2 (0, 1) (by unfold Sh.en0; rw [he]; rfl)
theorem T_step {i j c : Nat} (hi : i ≤ h.f) (hj : j ≤ h.g) {s : Stp} (hs : s ∈ h.steps i j c) : (h.T i j c).1 ≤ s.x + (h.T s.d s.a s.c).1 := by
  obtain ⟨h1, _, _⟩ := bfold_is _ _ _ (T_rec (h := h) (c := c) hi hj)
  exact h1 _ (List.mem_map.mpr ⟨s, hs, rfl⟩)
theorem T_att {i j c : Nat} (hi : i ≤ h.f) (hj : j ≤ h.g) : (h.en i j = true ∧ (h.T i j c).1 = 0) ∨ ∃ s ∈ h.steps i j c, s.x + (h.T s.d s.a s.c).1 = (h.T i j c).1 := by
  obtain ⟨_, _, h3⟩ := bfold_is _ _ _ (T_rec (h := h) (c := c) hi hj)
  rcases h3 with ⟨q, hq, e⟩ | ⟨q, hq, e⟩
  · obtain ⟨s, hs, rfl⟩ := List.mem_map.mp hq
    exact .inr ⟨s, hs, e⟩
  · unfold Sh.en0 at hq
    split at hq
    · rename_i he
      cases hq
      exact .inl ⟨he, e.symm⟩
    · cases hq
/-! ### the table -/
def prD (p : Pr) : D := .tup [.int p.1, .int p.2]
def Sh.cell (h : Sh) (dn : Nat → Nat → Bool) (i j : Nat) : GW.D := if dn i j then .lst [prD (h.T i j 0), prD (h.T i j 1), prD (h.T i j 2)] else .lst []
def Sh.row (h : Sh) (dn : Nat → Nat → Bool) (i : Nat) : GW.D := .lst ((List.range (h.g + 1)).map fun j => h.cell dn i j)
def Sh.tab (h : Sh) (dn : Nat → Nat → Bool) : GW.D := .lst ((List.range (h.f + 1)).map fun i => h.row dn i)
theorem rmap_get {f : Nat → D} {n i : Nat} (hi : i < n) : ((List.range n).map f)[i]? = some (f i) := by
  rw [List.getElem?_map, List.getElem?_range hi]; rfl
theorem tab_ix {dn : Nat → Nat → Bool} {i j : Nat} (hi : i ≤ h.f) (hj : j ≤ h.g) : oIx (h.tab dn) (.int (i : Int)) = some (h.row dn i) ∧ oIx (h.row dn i) (.int (j : Int)) = some (h.cell dn i j) := by
  constructor
  · show atI _ _ = _
    rw [GW.atI_nat, rmap_get (by omega)]
  · show atI _ _ = _
    rw [GW.atI_nat, rmap_get (by omega)]
theorem cell_ix {dn : Nat → Nat → Bool} {i j c : Nat} (hd : dn i j = true) (hc : c < 3) : oIx (h.cell dn i j) (.int (c : Int)) = some (prD (h.T i j c)) := by
  unfold Sh.cell
  rw [if_pos hd]
  show atI _ _ = _
  rw [GW.atI_nat]
  have : c = 0 ∨ c = 1 ∨ c = 2 := by omega
  rcases this with rfl | rfl | rfl <;> rfl
def oD : Option Pr → D
  | none => .non
  | some p => .int p.1
def mD : Option Pr → Int
  | none => 0
  | some p => p.2
theorem rest_eval (hk : h.OK) {dn : Nat → Nat → Bool} {i j c : Nat} (hi : i ≤ h.f) (hj : j ≤ h.g) (hd : ∀ s ∈ h.steps i j c, dn s.d s.a = true) : f_rest_from cs [h.D cs, h.tab dn, .int (i : Int), .int (j : Int), .int (c : Int)] = some (.ok (prD (h.T i j c))) := by
  let st : Option Pr → Option D → Option D → Option D → Option D → Option D → Option D → Option D → DS := fun o x7 x8 x9 x10 x11 x12 x13 => [some (h.D cs), some (h.tab dn), some (.int (i : Int)), some (.int (j : Int)), some (.int (c : Int)), some (oD o), some (.int (mD o)), x7, x8, x9, x10, x11, x12, x13]
  obtain ⟨n1, ds1, e1, rfl, y7, y8, y9, y10, y11, y12, y13, rfl⟩ := forM_inv (tg := .tup [7, 8, 9, 10, 11]) (body := b_rest_from_1 cs) (f := stD) (l := h.steps i j c) (n := 0) (ds := st (h.en0 i j) none none none none none none none)
    (fun t n ds => n = 0 ∧ ∃ x7 x8 x9 x10 x11 x12 x13, ds = st (bfold (h.en0 i j) (((h.steps i j c).take t).map fun s => (s.x + (h.T s.d s.a s.c).1, (h.T s.d s.a s.c).2))) x7 x8 x9 x10 x11 x12 x13)
    (fun t s n ds ht ⟨hn, x7, x8, x9, x10, x11, x12, x13, hds⟩ => by
      subst hn hds
      have hs := List.mem_of_getElem? ht
      obtain ⟨z1, z2, z3, z4, z5, z6⟩ := step_le hi hj hs
      obtain ⟨q1, q2⟩ := tab_ix (h := h) (dn := dn) z2 z4
      have q3 := cell_ix (h := h) (hd s hs) z5
      have etake : bfold (h.en0 i j) (((h.steps i j c).take (t + 1)).map fun s => (s.x + (h.T s.d s.a s.c).1, (h.T s.d s.a s.c).2)) = bstp (bfold (h.en0 i j) (((h.steps i j c).take t).map fun s => (s.x + (h.T s.d s.a s.c).1, (h.T s.d s.a s.c).2))) (s.x + (h.T s.d s.a s.c).1, (h.T s.d s.a s.c).2) := by
        rw [take_snoc ht, List.map_append, List.map_cons, List.map_nil]
        unfold bfold
        rw [List.foldl_append]; rfl
      rw [etake]
      generalize bfold (h.en0 i j) (((h.steps i j c).take t).map fun s => (s.x + (h.T s.d s.a s.c).1, (h.T s.d s.a s.c).2)) = o
      generalize h.T s.d s.a s.c = p at *
      refine ⟨st o (some (.str (tx [s.k]))) (some (.int (s.d : Int))) (some (.int (s.a : Int))) (some (.int (s.c : Int))) (some (.int s.x)) x12 x13, rfl, 0, st (bstp o (s.x + p.1, p.2)) (some (.str (tx [s.k]))) (some (.int (s.d : Int))) (some (.int (s.a : Int))) (some (.int (s.c : Int))) (some (.int s.x)) (some (.int p.1)) (some (.int p.2)), ?_, rfl, _, _, _, _, _, _, _, rfl⟩
      unfold b_rest_from_1
      refine seq_nx (n1 := 0) (ds1 := st o (some (.str (tx [s.k]))) (some (.int (s.d : Int))) (some (.int (s.a : Int))) (some (.int (s.c : Int))) (some (.int s.x)) (some (.int p.1)) (some (.int p.2))) ?_ ?_
      · simp only [st]
        simp [q1, q2, q3, prD]
      · have isN : oIs .non .non = some (.bl true) := rfl
        have isI : ∀ x : Int, oIs (.int x) .non = some (.bl false) := fun _ => rfl
        cases o with
        | none =>
          refine if_t (n1 := 0) ?_ ?_
          · simp [st, oD, isN]
          · simp [st, oD, mD, bstp]
        | some r =>
          by_cases k1 : s.x + p.1 < r.1
          · refine if_t (n1 := 0) ?_ ?_
            · simp [st, oD, isI, k1]
            · simp [st, oD, mD, bstp, k1]
          · by_cases k2 : s.x + p.1 = r.1
            · refine if_f (n1 := 0) ?_ (if_t (n1 := 0) ?_ ?_)
              · simp [st, oD, isI, k1]
              · simp [st, oD, k2]
              · simp [st, oD, mD, bstp, k2]
            · refine if_f (n1 := 0) ?_ (if_f (n1 := 0) ?_ ?_)
              · simp [st, oD, isI, k1]
              · simp [st, oD, k2]
              · simp [st, oD, mD, bstp, k1, k2]) ⟨rfl, none, none, none, none, none, none, none, rfl⟩
  rw [List.take_length] at e1
  have eT := T_rec (h := h) (c := c) hi hj
  have eT' : bfold (h.en0 i j) ((h.steps i j c).map fun s => (s.x + (h.T s.d s.a s.c).1, (h.T s.d s.a s.c).2)) = some (h.T i j c) := eT
  rw [eT'] at e1
  have eE := ends_eval (cs := cs) hk i j
  have eS := steps_eval (cs := cs) (h := h) i j c
  unfold f_rest_from
  apply fn0_of
  have e : m_rest_from cs 0 (startD 14 [h.D cs, h.tab dn, .int (i : Int), .int (j : Int), .int (c : Int)]) = some (.rt (prD (h.T i j c)), 0, st (some (h.T i j c)) y7 y8 y9 y10 y11 y12 y13) := by
    unfold m_rest_from
    refine seq_nx (n1 := 0) (ds1 := [some (h.D cs), some (h.tab dn), some (.int (i : Int)), some (.int (j : Int)), some (.int (c : Int)), some .non, none, none, none, none, none, none, none, none]) (by simp [startD]) (seq_nx (n1 := 0) (ds1 := st none none none none none none none none) (by simp [st, oD, mD]) (seq_nx (n1 := 0) (ds1 := st (h.en0 i j) none none none none none none none) ?_ (seq_nx (for_of (n1 := 0) (as := (h.steps i j c).map stD) (by simp [st, eS]) e1) (by simp [st, oD, mD, prD]))))
    unfold Sh.en0
    cases hen : h.en i j with
    | true =>
      refine if_t (n1 := 0) (by simp [st, ev_meth, sh_ends, eE, hen]) (by simp [st, oD, mD])
    | false =>
      refine if_f (n1 := 0) (by simp [st, ev_meth, sh_ends, eE, hen]) (by simp)
  rw [e]; rfl
end
end K22

namespace K22
open PySem L2 PyProof.Rows GW
variable {cs : Nat → Addr}
/-! ### the table filled from its end -/
theorem set_map {f : Nat → D} {n i : Nat} {v : D} : ((List.range n).map f).set i v = (List.range n).map fun k => if k = i then v else f k := by
  apply List.ext_getElem?
  intro k
  by_cases hk : k < n
  · by_cases hki : k = i
    · subst hki
      rw [List.getElem?_set_self (by simpa using hk), rmap_get hk, if_pos rfl]
    · rw [List.getElem?_set_ne (Ne.symm hki), rmap_get hk, rmap_get hk, if_neg hki]
  · rw [List.getElem?_eq_none (by simp; omega), List.getElem?_eq_none (by simp; omega)]
theorem rv_get {hi : Int} {n i : Nat} {d : D} (h : (rvD hi n)[i]? = some d) : d = .int (hi - (i : Int)) ∧ i < n := by
  have hl := (List.getElem?_eq_some_iff.mp h).1
  rw [rv_len] at hl
  unfold rvD at h
  rw [List.getElem?_map, List.getElem?_range hl] at h
  cases h
  exact ⟨rfl, hl⟩
@[simp] theorem ev_rev1 {m : GW.M} {n : Int} {ds : DS} : mRev1 m n ds = mb m (fun d => GW.ret (match d with | .int j => if r62 j = true then some (rvD ((j.toNat : Int) - 1) j.toNat) else none | _ => none)) n ds := (rfl)
section
variable {h : Sh}
/-- so far: the last t rows, and of the one ahead of them the last u cells -/
def Sh.dn (h : Sh) (t u a b : Nat) : Bool := decide (h.f < a + t) || (decide (a + t = h.f) && decide (h.g < b + u))
theorem dn_step {t u a b : Nat} (ht : t ≤ h.f) (hu : u ≤ h.g) (hb : b ≤ h.g) : h.dn t (u + 1) a b = (h.dn t u a b || (decide (a = h.f - t) && decide (b = h.g - u))) := by
  unfold Sh.dn
  rw [Bool.eq_iff_iff]
  simp only [Bool.or_eq_true, Bool.and_eq_true, decide_eq_true_eq]
  omega
theorem dn_row {t a b : Nat} (hb : b ≤ h.g) : h.dn t (h.g + 1) a b = h.dn (t + 1) 0 a b := by
  unfold Sh.dn
  rw [Bool.eq_iff_iff]
  simp only [Bool.or_eq_true, Bool.and_eq_true, decide_eq_true_eq]
  omega
theorem tab_congr {dn dn' : Nat → Nat → Bool} (e : ∀ a b, a ≤ h.f → b ≤ h.g → dn a b = dn' a b) : h.tab dn = h.tab dn' := by
  unfold Sh.tab Sh.row Sh.cell
  congr 1
  refine List.map_congr_left fun a ha => ?_
  congr 1
  refine List.map_congr_left fun b hb => ?_
  rw [e a b (by have := List.mem_range.mp ha; omega) (by have := List.mem_range.mp hb; omega)]
theorem tab_set {dn : Nat → Nat → Bool} {i j : Nat} (hi : i ≤ h.f) (hj : j ≤ h.g) : D.lst (((List.range (h.f + 1)).map fun i => h.row dn i).set i (.lst (((List.range (h.g + 1)).map fun j => h.cell dn i j).set j (.lst [prD (h.T i j 0), prD (h.T i j 1), prD (h.T i j 2)])))) = h.tab fun a b => dn a b || (decide (a = i) && decide (b = j)) := by
  rw [set_map, set_map]
  unfold Sh.tab
  congr 1
  refine List.map_congr_left fun a ha => ?_
  by_cases hai : a = i
  · subst hai
    rw [if_pos rfl]
    unfold Sh.row
    congr 1
    refine List.map_congr_left fun b hb => ?_
    unfold Sh.cell
    by_cases hbj : b = j
    · subst hbj
      rw [if_pos rfl]
      simp
    · rw [if_neg hbj]
      simp [hbj]
  · rw [if_neg hai]
    unfold Sh.row
    congr 1
    refine List.map_congr_left fun b hb => ?_
    unfold Sh.cell
    simp [hai]
theorem table_step (hk : h.OK) {t u : Nat} (ht : t ≤ h.f) (hu : u ≤ h.g) (x4 : Option D) : b_rest_table_1 cs 0 [some (h.D cs), some (h.tab (h.dn t u)), some (.int ((h.f - t : Nat) : Int)), some (.int ((h.g - u : Nat) : Int)), x4] = some (.nx, 0, [some (h.D cs), some (h.tab (h.dn t (u + 1))), some (.int ((h.f - t : Nat) : Int)), some (.int ((h.g - u : Nat) : Int)), x4]) := by
  have hkf : h.f ≤ 100 := hk.f
  have hkg : h.g ≤ 100 := hk.g
  have hd : ∀ c, ∀ s ∈ h.steps (h.f - t) (h.g - u) c, h.dn t u s.d s.a = true := fun c s hs => by
    obtain ⟨z1, z2, z3, z4, z5, z6⟩ := step_le (by omega) (by omega) hs
    unfold Sh.dn
    simp only [Bool.or_eq_true, Bool.and_eq_true, decide_eq_true_eq]
    omega
  have hr : ∀ c : Nat, f_rest_from cs [h.D cs, h.tab (h.dn t u), .int ((h.f - t : Nat) : Int), .int ((h.g - u : Nat) : Int), .int (c : Int)] = some (.ok (prD (h.T (h.f - t) (h.g - u) c))) := fun c => rest_eval hk (by omega) (by omega) (hd c)
  have hfl : ∀ p : Pr, flat (prD p) = true := fun p => by simp [prD, flat, flats]
  have e2 : h.tab (h.dn t (u + 1)) = h.tab fun a b => h.dn t u a b || (decide (a = h.f - t) && decide (b = h.g - u)) := tab_congr fun a b ha hb => dn_step ht hu hb
  generalize hdn : h.dn t u = dn at *
  generalize hi : h.f - t = i at *
  generalize hj : h.g - u = j at *
  have lc := lc_of_comp (mi := mRng (mCons (mC (.int 3)) (ret (some [])))) (tg := .one 4) (tt := mYes) (me := mFlat (mCall (pureF (f_rest_from cs)) (mCons (mVar 0) (mCons (mVar 1) (mCons (mVar 2) (mCons (mVar 3) (mCons (mVar 4) (ret (some []))))))))) (vs := [4]) (n := 0) (n1 := 0) (ds := [some (h.D cs), some (h.tab dn), some (.int (i : Int)), some (.int (j : Int)), x4]) (as := rngD 0 3) (by simp [r62_of (i := 3) ⟨by decide, by decide⟩])
    (compL_rng (fun c => prD (h.T i j c)) fun c hc => ⟨[some (h.D cs), some (h.tab dn), some (.int (i : Int)), some (.int (j : Int)), some (.int (c : Int))], rfl, by simp [hr, hfl]⟩) (by rw [rng_len]; decide)
  have hrow : ((List.range (h.f + 1)).map fun i => h.row dn i)[i]? = some (.lst ((List.range (h.g + 1)).map fun j => h.cell dn i j)) := rmap_get (f := fun i => h.row dn i) (by omega)
  unfold b_rest_table_1
  refine (setI_of (as := (List.range (h.f + 1)).map fun i => h.row dn i) (row := (List.range (h.g + 1)).map fun j => h.cell dn i j) (d := .lst [prD (h.T i j 0), prD (h.T i j 1), prD (h.T i j 2)]) (k := i) (j := j) (n1 := 0) (n2 := 0) (n3 := 0) lc rfl (by simp) hrow (by simp) (by simp; omega)).trans ?_
  have e3 := tab_set (h := h) (dn := dn) (i := i) (j := j) (by omega) (by omega)
  rw [e2, ← e3]
  rfl
def yes : Nat → Nat → Bool := fun _ _ => true
theorem table_all (hk : h.OK) : f_rest_table cs [h.D cs] = some (.ok (h.tab yes)) := by
  have hkf : h.f ≤ 100 := hk.f
  have hkg : h.g ≤ 100 := hk.g
  let st : (Nat → Nat → Bool) → Option D → Option D → DS := fun dn x2 x3 => [some (h.D cs), some (h.tab dn), x2, x3, none]
  obtain ⟨n1, ds1, e1, rfl, x2, x3, rfl⟩ := forL_inv (tg := .one 2) (body := b_rest_table_2 cs) (as := rvD (h.f : Int) (h.f + 1)) (n := 0) (ds := st (h.dn 0 0) none none)
    (fun t n ds => n = 0 ∧ ∃ x2 x3, ds = st (h.dn t 0) x2 x3)
    (fun t d n ds ht ⟨hn, x2, x3, hd⟩ => by
      subst hn hd
      obtain ⟨rfl, htl⟩ := rv_get ht
      have et : (h.f : Int) - (t : Int) = ((h.f - t : Nat) : Int) := by omega
      rw [et]
      obtain ⟨n2, ds2, e2, rfl, x3', rfl⟩ := forL_inv (tg := .one 3) (body := b_rest_table_1 cs) (as := rvD (h.g : Int) (h.g + 1)) (n := 0) (ds := st (h.dn t 0) (some (.int ((h.f - t : Nat) : Int))) x3)
        (fun u n ds => n = 0 ∧ ∃ x3, ds = st (h.dn t u) (some (.int ((h.f - t : Nat) : Int))) x3)
        (fun u d n ds hu ⟨hn, x3, hd⟩ => by
          subst hn hd
          obtain ⟨rfl, hul⟩ := rv_get hu
          have eu : (h.g : Int) - (u : Int) = ((h.g - u : Nat) : Int) := by omega
          rw [eu]
          exact ⟨st (h.dn t u) (some (.int ((h.f - t : Nat) : Int))) (some (.int ((h.g - u : Nat) : Int))), rfl, 0, st (h.dn t (u + 1)) (some (.int ((h.f - t : Nat) : Int))) (some (.int ((h.g - u : Nat) : Int))), table_step hk (by omega) (by omega) none, rfl, _, rfl⟩) ⟨rfl, x3, rfl⟩
      refine ⟨st (h.dn t 0) (some (.int ((h.f - t : Nat) : Int))) x3, rfl, 0, st (h.dn (t + 1) 0) (some (.int ((h.f - t : Nat) : Int))) x3', ?_, rfl, _, _, rfl⟩
      rw [rv_len] at e2
      have ec : h.tab (h.dn t (h.g + 1)) = h.tab (h.dn (t + 1) 0) := tab_congr fun a b _ hb => dn_row hb
      unfold b_rest_table_2
      refine (for_of (n1 := 0) (as := rvD (h.g : Int) (h.g + 1)) ?_ e2).trans ?_
      · have r1 : r62 ((h.g : Int) + 1) = true := r62_of ⟨by omega, by omega⟩
        have e2 : ((h.g : Int) + 1).toNat = h.g + 1 := by omega
        have e3 : ((h.g + 1 : Nat) : Int) - 1 = (h.g : Int) := by omega
        simp only [st]
        simp only [ev_rev1, ev_mb, ev_m2, ev_m1, ev_var, List.getElem?_cons_zero, sh_wide, ev_ret, ev_C, ov_add, r1, if_true, e2, e3]
      · show some (Fl.nx, (0 : Int), st _ _ _) = _
        simp only [st, ec]) ⟨rfl, none, none, rfl⟩
  rw [rv_len] at e1
  have e0 : h.tab (h.dn (h.f + 1) 0) = h.tab yes := tab_congr fun a b _ _ => by
    unfold Sh.dn yes
    simp only [Bool.or_eq_true, Bool.and_eq_true, decide_eq_true_eq]
    omega
  have en : h.tab (h.dn 0 0) = .lst ((List.range (h.f + 1)).map fun _ => .lst ((List.range (h.g + 1)).map fun _ => .lst [])) := by
    unfold Sh.tab Sh.row Sh.cell
    congr 1
    refine List.map_congr_left fun a ha => ?_
    congr 1
    refine List.map_congr_left fun b hb => ?_
    have ha := List.mem_range.mp ha
    have hb := List.mem_range.mp hb
    rw [if_neg]
    unfold Sh.dn
    simp only [Bool.or_eq_true, Bool.and_eq_true, decide_eq_true_eq]
    omega
  have rf : r62 ((h.f : Int) + 1) = true := r62_of ⟨by omega, by omega⟩
  have rg : r62 ((h.g : Int) + 1) = true := r62_of ⟨by omega, by omega⟩
  have tf : ((h.f : Int) + 1).toNat = h.f + 1 := by omega
  have tg : ((h.g : Int) + 1).toNat = h.g + 1 := by omega
  unfold f_rest_table
  apply fn0_of
  have lc := lc_of_comp (mi := mRng (mCons (m2 (m1 (mVar 0) (oFld (cs 1) "high")) (mC (.int 1)) oAdd) (ret (some [])))) (tg := .one 2) (tt := mYes) (me := mLc (mRng (mCons (m2 (m1 (mVar 0) (oFld (cs 1) "wide")) (mC (.int 1)) oAdd) (ret (some [])))) (.one 3) mYes (mLst (ret (some []))) [3]) (vs := [2]) (n := 0) (n1 := 0) (ds := [some (h.D cs), none, none, none, none]) (as := rngD 0 (h.f + 1)) (by simp [sh_high, rf, tf])
    (compL_rng (fun _ => .lst ((List.range (h.g + 1)).map fun _ => .lst [])) fun i hi => ⟨[some (h.D cs), none, some (.int (i : Int)), none, none], rfl, lc_of_comp (n1 := 0) (as := rngD 0 (h.g + 1)) (by simp [sh_wide, rg, tg]) (compL_rng (fun _ => .lst []) fun j hj => ⟨_, rfl, by simp⟩) (by rw [rng_len]; omega)⟩) (by rw [rng_len]; omega)
  rw [← en] at lc
  have e : m_rest_table cs 0 (startD 5 [h.D cs]) = some (.rt (h.tab yes), 0, st yes x2 x3) := by
    unfold m_rest_table
    refine seq_nx (n1 := 0) (ds1 := st (h.dn 0 0) none none) (set_of lc) (seq_nx (for_of (n1 := 0) (as := rvD (h.f : Int) (h.f + 1)) ?_ e1) ?_)
    · have e3 : ((h.f + 1 : Nat) : Int) - 1 = (h.f : Int) := by omega
      simp only [st]
      simp only [ev_rev1, ev_mb, ev_m2, ev_m1, ev_var, List.getElem?_cons_zero, sh_high, ev_ret, ev_C, ov_add, rf, if_true, tf, e3]
    · simp [st, e0]
  rw [e]; rfl
end
end K22

namespace K22
open PySem L2 PyProof.Rows GW
variable {cs : Nat → Addr}
/-! ### where it may begin -/
theorem compL_filter {α : Type} {tg : Tg} {tt : Mo Bool} {me : GW.M} {vs : List Nat} {ds : DS} {n : Int} (f g : α → D) (p : α → Bool) : ∀ (l : List α), (∀ a ∈ l, ∃ ds1, tg.bind (f a) (wipeD ds vs) = some ds1 ∧ tt n ds1 = some (.ok (p a), n) ∧ me n ds1 = some (.ok (g a), n)) → compL tg tt me vs (l.map f) n ds = some (.ok ((l.filter p).map g), n)
  | [], _ => rfl
  | a :: r, h => by
    obtain ⟨ds1, h1, h2, h3⟩ := h a List.mem_cons_self
    have ih := compL_filter (tg := tg) (tt := tt) (me := me) (vs := vs) (ds := ds) (n := n) f g p r fun b hb => h b (List.mem_cons_of_mem _ hb)
    show compL tg tt me vs (f a :: r.map f) n ds = _
    unfold compL
    cases hp : p a with
    | true =>
      rw [hp] at h2
      simp only [h1, h2, h3, ih, List.filter_cons, hp, if_true, List.map_cons]
    | false =>
      rw [hp] at h2
      simp only [h1, h2, ih, List.filter_cons, hp, Bool.false_eq_true, if_false]
theorem rng_map (N : Nat) : rngD 0 N = (List.range N).map fun (i : Nat) => D.int (i : Int) := by
  apply List.ext_getElem?
  intro i
  by_cases hi : i < N
  · cases hr : (rngD 0 N)[i]? with
    | none => rw [List.getElem?_eq_none_iff, rng_len] at hr; omega
    | some d =>
      obtain ⟨rfl, _⟩ := rng_get hr
      rw [List.getElem?_map, List.getElem?_range hi, Int.zero_add]; rfl
  · rw [List.getElem?_eq_none (by rw [rng_len]; omega), List.getElem?_eq_none (by simp; omega)]
def plD (p : Nat × Nat) : D := .tup [.int (p.1 : Int), .int (p.2 : Int)]
def Sh.bgR (h : Sh) (i : Nat) : List (Nat × Nat) := ((List.range (h.g + 1)).filter fun j => h.bg i j).map fun j => (i, j)
def Sh.bgs (h : Sh) : List (Nat × Nat) := (List.range (h.f + 1)).flatMap h.bgR
section
variable {h : Sh}
theorem bgs_mem {p : Nat × Nat} : p ∈ h.bgs ↔ p.1 ≤ h.f ∧ p.2 ≤ h.g ∧ h.bg p.1 p.2 = true := by
  unfold Sh.bgs Sh.bgR
  rw [List.mem_flatMap]
  constructor
  · rintro ⟨i, hi, hp⟩
    obtain ⟨j, hj, rfl⟩ := List.mem_map.mp hp
    obtain ⟨h1, h2⟩ := List.mem_filter.mp hj
    have := List.mem_range.mp hi
    have := List.mem_range.mp h1
    exact ⟨by show i ≤ h.f; omega, by show j ≤ h.g; omega, h2⟩
  · rintro ⟨h1, h2, h3⟩
    exact ⟨p.1, List.mem_range.mpr (by omega), List.mem_map.mpr ⟨p.2, List.mem_filter.mpr ⟨List.mem_range.mpr (by omega), h3⟩, rfl⟩⟩
theorem bg_zero : h.bg 0 0 = true := by
  unfold Sh.bg okB
  split
  · rfl
  · split
    · rfl
    · split <;> rfl
theorem bgR_len (i : Nat) : (h.bgR i).length ≤ h.g + 1 := by
  unfold Sh.bgR
  rw [List.length_map]
  exact Nat.le_trans (List.length_filter_le _ _) (by simp)
theorem bg_take_len : ∀ (l : List Nat), (l.flatMap h.bgR).length ≤ l.length * (h.g + 1)
  | [] => by simp
  | a :: l => by
    rw [List.flatMap_cons, List.length_append, List.length_cons, Nat.succ_mul]
    have := bgR_len (h := h) a
    have := bg_take_len l
    omega
theorem begins_of_eval (hk : h.OK) : f_begins_of cs [h.D cs] = some (.ok (.lst (h.bgs.map plD))) := by
  have hkf : h.f ≤ 100 := hk.f
  have hkg : h.g ≤ 100 := hk.g
  have rf : r62 ((h.f : Int) + 1) = true := r62_of ⟨by omega, by omega⟩
  have rg : r62 ((h.g : Int) + 1) = true := r62_of ⟨by omega, by omega⟩
  have tf : ((h.f : Int) + 1).toNat = h.f + 1 := by omega
  have tg : ((h.g : Int) + 1).toNat = h.g + 1 := by omega
  let st : List (Nat × Nat) → Option D → Option D → DS := fun l x2 x3 => [some (h.D cs), some (.lst (l.map plD)), x2, x3]
  obtain ⟨n1, ds1, e1, rfl, x2, x3, rfl⟩ := forR_inv (tg := .one 2) (body := b_begins_of_1 cs) (N := h.f + 1) (n := 0) (ds := st [] none none)
    (fun i n ds => n = 0 ∧ ∃ x2 x3, ds = st ((List.range i).flatMap h.bgR) x2 x3)
    (fun i n ds hi ⟨hn, x2, x3, hd⟩ => by
      subst hn hd
      refine ⟨st ((List.range i).flatMap h.bgR) (some (.int (i : Int))) x3, rfl, 0, st ((List.range (i + 1)).flatMap h.bgR) (some (.int (i : Int))) x3, ?_, rfl, _, _, rfl⟩
      have e0 : (List.range (i + 1)).flatMap h.bgR = (List.range i).flatMap h.bgR ++ h.bgR i := by
        rw [List.range_succ, List.flatMap_append]; simp
      have hl : ((List.range i).flatMap h.bgR).length ≤ 101 * 101 := by
        refine Nat.le_trans (bg_take_len _) ?_
        rw [List.length_range]
        exact Nat.mul_le_mul (by omega) (by omega)
      have hl2 := bgR_len (h := h) i
      rw [e0]
      generalize (List.range i).flatMap h.bgR = l at *
      have lc := lc_of_comp (mi := mRng (mCons (m2 (m1 (mVar 0) (oFld (cs 1) "wide")) (mC (.int 1)) oAdd) (ret (some [])))) (tg := .one 3) (tt := mTest (mMeth (cs 1) "begins" (f_Sheet_begins cs) (mVar 0) (mCons (mVar 2) (mCons (mVar 3) (ret (some [])))))) (me := mTup (mCons (mVar 2) (mCons (mVar 3) (ret (some []))))) (vs := [3]) (n := 0) (n1 := 0) (ds := st l (some (.int (i : Int))) x3) (as := (List.range (h.g + 1)).map fun (j : Nat) => D.int (j : Int)) (by simp [st, sh_wide, rg, tg, rng_map])
        (compL_filter (fun (j : Nat) => D.int (j : Int)) (fun j => plD (i, j)) (fun j => h.bg i j) (List.range (h.g + 1)) fun j hj => ⟨st l (some (.int (i : Int))) (some (.int (j : Int))), rfl, by simp [st, ev_meth, sh_begins, begins_eval], by simp [st, plD]⟩) (by simp; omega)
      have elc : D.lst ((((List.range (h.g + 1)).filter fun j => h.bg i j)).map fun j => plD (i, j)) = .lst ((h.bgR i).map plD) := by
        unfold Sh.bgR
        rw [List.map_map]; rfl
      rw [elc] at lc
      unfold b_begins_of_1
      refine (ext_of (as := l.map plD) (by simp [st]) lc (by rw [List.length_map, List.length_map]; omega)).trans ?_
      simp [st]) ⟨rfl, none, none, rfl⟩
  unfold f_begins_of
  apply fn0_of
  have e : m_begins_of cs 0 (startD 4 [h.D cs]) = some (.rt (.lst (h.bgs.map plD)), 0, st h.bgs x2 x3) := by
    unfold m_begins_of
    refine seq_nx (n1 := 0) (ds1 := st [] none none) (by simp [startD, st]) (seq_nx (for_of (n1 := 0) (as := rngD 0 (h.f + 1)) (by simp [st, sh_high, rf, tf]) e1) ?_)
    simp [st, Sh.bgs]
  rw [e]; rfl
theorem bgs_len (hk : h.OK) : h.bgs.length ≤ 101 * 101 := by
  have hkf : h.f ≤ 100 := hk.f
  have hkg : h.g ≤ 100 := hk.g
  unfold Sh.bgs
  refine Nat.le_trans (bg_take_len _) ?_
  rw [List.length_range]
  exact Nat.mul_le_mul (by omega) (by omega)
/-! ### the least -/
def Sh.ts (h : Sh) : List Int := h.bgs.map fun p => (h.T p.1 p.2 0).1
theorem intsD_map : ∀ l : List Int, intsD (l.map D.int) = some l
  | [] => rfl
  | a :: l => by
    show (intsD (l.map D.int)).map (a :: ·) = _
    rw [intsD_map l]; rfl
theorem least_some (h : Sh) : ∃ v, minL h.ts = some v := by
  have : (0, 0) ∈ h.bgs := bgs_mem.mpr ⟨Nat.zero_le _, Nat.zero_le _, bg_zero⟩
  unfold Sh.ts
  cases e : h.bgs with
  | nil => rw [e] at this; cases this
  | cons a l => exact minL_some _ _
theorem T00 {i j : Nat} (hi : i ≤ h.f) (hj : j ≤ h.g) (c : Nat) (hc : c < 3) : oIx (h.tab yes) (.int (i : Int)) = some (h.row yes i) ∧ oIx (h.row yes i) (.int (j : Int)) = some (h.cell yes i j) ∧ oIx (h.cell yes i j) (.int (c : Int)) = some (prD (h.T i j c)) ∧ oIx (prD (h.T i j c)) (.int 0) = some (.int (h.T i j c).1) := by
  obtain ⟨q1, q2⟩ := tab_ix (h := h) (dn := yes) hi hj
  exact ⟨q1, q2, cell_ix rfl hc, rfl⟩
theorem least_eval (hk : h.OK) {v : Int} (hv : minL h.ts = some v) : f_least_of cs [h.D cs, h.tab yes] = some (.ok (.int v)) := by
  have hb := begins_of_eval (cs := cs) hk
  have hl := bgs_len hk
  unfold f_least_of
  apply fn0_of
  have lc := lc_of_comp (mi := mItA (mCall (pureF (f_begins_of cs)) (mCons (mVar 0) (ret (some []))))) (tg := .tup [2, 3]) (tt := mYes) (me := m2 (m2 (m2 (m2 (mVar 1) (mVar 2) oIx) (mVar 3) oIx) (mC (.int 0)) oIx) (mC (.int 0)) oIx) (vs := [2, 3]) (n := 0) (n1 := 0) (ds := [some (h.D cs), some (h.tab yes), none, none]) (as := h.bgs.map plD) (by simp [hb])
    (compL_map plD (fun p => .int (h.T p.1 p.2 0).1) h.bgs fun p hp => ⟨[some (h.D cs), some (h.tab yes), some (.int (p.1 : Int)), some (.int (p.2 : Int))], rfl, by
      obtain ⟨z1, z2, _⟩ := bgs_mem.mp hp
      obtain ⟨q1, q2, q3, q4⟩ := T00 (h := h) z1 z2 0 (by decide)
      have q3' : oIx (h.cell yes p.1 p.2) (.int 0) = some (prD (h.T p.1 p.2 0)) := q3
      simp [q1, q2, q3', q4]⟩) (by rw [List.length_map]; omega)
  have hm : oMin [.lst (h.bgs.map fun p => D.int (h.T p.1 p.2 0).1)] = some (.int v) := by
    show ((intsD _).bind minL).map D.int = _
    have : (h.bgs.map fun p => D.int (h.T p.1 p.2 0).1) = h.ts.map D.int := by unfold Sh.ts; rw [List.map_map]; rfl
    rw [this, intsD_map, Option.bind_some, hv]; rfl
  have e : m_least_of cs 0 (startD 4 [h.D cs, h.tab yes]) = some (.rt (.int v), 0, [some (h.D cs), some (h.tab yes), none, none]) := by
    unfold m_least_of
    refine ret_of ?_
    show mCB _ _ 0 [some (h.D cs), some (h.tab yes), none, none] = _
    simp only [ev_cb, ev_cons, ev_mb, lc, ev_ret, hm]
  rw [e]; rfl
/-! ### the first moves -/
inductive Mv (h : Sh) : Nat → Nat → Nat → List Nat → Prop
  | fin {i j c : Nat} : h.en i j = true → (h.T i j c).1 = 0 → Mv h i j c []
  | go {i j c : Nat} {s : Stp} {ms : List Nat} {l r : List Stp} : ¬ (h.en i j = true ∧ (h.T i j c).1 = 0) → h.steps i j c = l ++ s :: r → (∀ z ∈ l, z.x + (h.T z.d z.a z.c).1 ≠ (h.T i j c).1) → s.x + (h.T s.d s.a s.c).1 = (h.T i j c).1 → Mv h s.d s.a s.c ms → Mv h i j c (s.k :: ms)
@[simp] theorem sv_par3 {i j l : Nat} {ms : Mo (List D)} {n : Int} {ds : DS} : sPar3 i j l ms n ds = sE ms (fun as n ds => match as with
  | [a, b, c] => some (.nx, n, ((ds.set i (some a)).set j (some b)).set l (some c))
  | _ => none) n ds := (rfl)
theorem moves_eval (hk : h.OK) {i j : Nat} (hi : i ≤ h.f) (hj : j ≤ h.g) : ∃ ms, Mv h i j 0 ms ∧ ms.length ≤ 300 ∧ f_first_moves cs [h.D cs, h.tab yes, .int (i : Int), .int (j : Int)] = some (.ok (.str (tx ms))) := by
  have hkf : h.f ≤ 100 := hk.f
  have hkg : h.g ≤ 100 := hk.g
  have sE0 : Str.ofString "" = tx [] := al4
  let st : Nat → Nat → List Nat → Nat → Option D → Option D → Option D → Option D → Option D → Option D → DS := fun i j w c x6 x7 x8 x9 x10 x11 => [some (h.D cs), some (h.tab yes), some (.int (i : Int)), some (.int (j : Int)), some (.str (tx w)), some (.int (c : Int)), x6, x7, x8, x9, x10, x11]
  obtain ⟨r, e1, i1, j1, c1, w1, y6, y7, y8, y9, y10, y11, rfl, hMv, hw⟩ := whileL_run (t := t_first_moves_1 cs) (body := b_first_moves_2 cs)
    (fun fl n ds => ∃ i' j' c w x6 x7 x8 x9 x10 x11, n = 0 ∧ ds = st i' j' w c x6 x7 x8 x9 x10 x11 ∧ i' ≤ h.f ∧ j' ≤ h.g ∧ c < 3 ∧ w.length ≤ i' + j' ∧ fl + (i' + j') = h.f + h.g ∧ ∀ ms, Mv h i' j' c ms → Mv h i j 0 (w ++ ms))
    (fun r => ∃ i' j' c w x6 x7 x8 x9 x10 x11, r = (.nx, 0, st i' j' w c x6 x7 x8 x9 x10 x11) ∧ Mv h i j 0 w ∧ w.length ≤ 300)
    (fun fl n ds ⟨i', j', c, w, x6, x7, x8, x9, x10, x11, hn, hd, hi', hj', hc, hwl, hfl, hgo⟩ => by
      subst hn hd
      obtain ⟨q1, q2, q3, q4⟩ := T00 (h := h) hi' hj' c hc
      have eE := ends_eval (cs := cs) hk i' j'
      have eS := steps_eval (cs := cs) (h := h) i' j' c
      by_cases hfin : h.en i' j' = true ∧ (h.T i' j' c).1 = 0
      · refine ⟨false, 0, ?_, i', j', c, w, _, _, _, _, _, _, rfl, ?_, by omega⟩
        · unfold t_first_moves_1
          simp only [st]
          simp [ev_meth, sh_ends, eE, hfin.1, q1, q2, q3, q4, hfin.2]
        · have := hgo [] (.fin hfin.1 hfin.2)
          rwa [List.append_nil] at this
      · refine ⟨true, 0, ?_, ?_⟩
        · unfold t_first_moves_1
          simp only [st]
          cases hen : h.en i' j' with
          | false => simp [ev_meth, sh_ends, eE, hen]
          | true =>
            have hz : ¬ (h.T i' j' c).1 = 0 := fun z => hfin ⟨hen, z⟩
            simp [ev_meth, sh_ends, eE, hen, q1, q2, q3, q4, hz]
        · have e6 : sSet 6 (m2 (m2 (m2 (m2 (mVar 1) (mVar 2) oIx) (mVar 3) oIx) (mVar 5) oIx) (mC (.int 0)) oIx) 0 (st i' j' w c x6 x7 x8 x9 x10 x11) = some (.nx, 0, st i' j' w c (some (.int (h.T i' j' c).1)) x7 x8 x9 x10 x11) := by
            refine set_of (d := .int (h.T i' j' c).1) ?_
            simp only [st]
            simp [q1, q2, q3, q4]
          obtain ⟨r2, e2, s, l, rr, z7, z8, z9, z10, z11, rfl, hsp, hl, hs⟩ := forL_run (tg := .tup [7, 8, 9, 10, 11]) (body := b_first_moves_1 cs) (as := (h.steps i' j' c).map stD) (n := 0) (ds := st i' j' w c (some (.int (h.T i' j' c).1)) x7 x8 x9 x10 x11)
            (fun t n ds => n = 0 ∧ (∀ z ∈ (h.steps i' j' c).take t, z.x + (h.T z.d z.a z.c).1 ≠ (h.T i' j' c).1) ∧ ∃ x7 x8 x9 x10 x11, ds = st i' j' w c (some (.int (h.T i' j' c).1)) x7 x8 x9 x10 x11)
            (fun r => ∃ (s : Stp) (l rr : List Stp) (z7 z8 z9 z10 z11 : Option D), r = (.nx, 0, st s.d s.a (w ++ [s.k]) s.c (some (.int (h.T i' j' c).1)) z7 z8 z9 z10 z11) ∧ h.steps i' j' c = l ++ s :: rr ∧ (∀ z ∈ l, z.x + (h.T z.d z.a z.c).1 ≠ (h.T i' j' c).1) ∧ s.x + (h.T s.d s.a s.c).1 = (h.T i' j' c).1)
            (fun t d n ds ht ⟨hn, hpre, x7, x8, x9, x10, x11, hd⟩ => by
              subst hn hd
              rw [List.getElem?_map] at ht
              cases hs : (h.steps i' j' c)[t]? with
              | none => rw [hs] at ht; cases ht
              | some s =>
                rw [hs] at ht
                cases ht
                have hm := List.mem_of_getElem? hs
                have hlt := (List.getElem?_eq_some_iff.mp hs).1
                obtain ⟨z1, z2, z3, z4, z5, z6⟩ := step_le hi' hj' hm
                obtain ⟨p1, p2, p3, p4⟩ := T00 (h := h) z2 z4 s.c z5
                refine ⟨st i' j' w c (some (.int (h.T i' j' c).1)) (some (.str (tx [s.k]))) (some (.int (s.d : Int))) (some (.int (s.a : Int))) (some (.int (s.c : Int))) (some (.int s.x)), rfl, ?_⟩
                by_cases heq : s.x + (h.T s.d s.a s.c).1 = (h.T i' j' c).1
                · have a1 : oAdd (.str (tx w)) (.str (tx [s.k])) = some (.str (tx (w ++ [s.k]))) := ov_addS (by simp; omega)
                  refine ⟨.bk, 0, st s.d s.a (w ++ [s.k]) s.c (some (.int (h.T i' j' c).1)) (some (.str (tx [s.k]))) (some (.int (s.d : Int))) (some (.int (s.a : Int))) (some (.int (s.c : Int))) (some (.int s.x)), ?_, s, (h.steps i' j' c).take t, (h.steps i' j' c).drop (t + 1), _, _, _, _, _, rfl, ?_, hpre, heq⟩
                  · unfold b_first_moves_1
                    refine if_t (n1 := 0) ?_ (seq_nx (n1 := 0) (ds1 := st i' j' (w ++ [s.k]) c (some (.int (h.T i' j' c).1)) (some (.str (tx [s.k]))) (some (.int (s.d : Int))) (some (.int (s.a : Int))) (some (.int (s.c : Int))) (some (.int s.x))) ?_ (seq_nx (n1 := 0) (ds1 := st s.d s.a (w ++ [s.k]) s.c (some (.int (h.T i' j' c).1)) (some (.str (tx [s.k]))) (some (.int (s.d : Int))) (some (.int (s.a : Int))) (some (.int (s.c : Int))) (some (.int s.x))) ?_ rfl))
                    · simp only [st]
                      simp [p1, p2, p3, p4, heq]
                    · simp only [st]
                      simp [a1]
                    · simp [st]
                  · rw [← List.take_append_drop t (h.steps i' j' c)]
                    congr 1
                    · rw [List.take_append_drop]
                    · rw [List.take_append_drop, List.drop_eq_getElem_cons hlt]
                      congr 1
                      exact (List.getElem?_eq_some_iff.mp hs).2
                · refine ⟨.nx, 0, st i' j' w c (some (.int (h.T i' j' c).1)) (some (.str (tx [s.k]))) (some (.int (s.d : Int))) (some (.int (s.a : Int))) (some (.int (s.c : Int))) (some (.int s.x)), ?_, rfl, ?_, _, _, _, _, _, rfl⟩
                  · unfold b_first_moves_1
                    refine if_f (n1 := 0) ?_ rfl
                    simp only [st]
                    simp [p1, p2, p3, p4, heq]
                  · rw [take_snoc hs]
                    intro z hz
                    rcases List.mem_append.mp hz with hz | hz
                    · exact hpre z hz
                    · simp only [List.mem_singleton] at hz
                      subst hz; exact heq)
            (fun n ds ⟨hn, hpre, _⟩ => by
              rw [List.length_map, List.take_length] at hpre
              rcases T_att (h := h) (c := c) hi' hj' with z | ⟨s, hs, e⟩
              · exact absurd z hfin
              · exact absurd e (hpre s hs)) ⟨rfl, fun z hz => (by simp at hz), _, _, _, _, _, rfl⟩
          have hm : s ∈ h.steps i' j' c := by rw [hsp]; simp
          obtain ⟨z1, z2, z3, z4, z5, z6⟩ := step_le hi' hj' hm
          refine ⟨.nx, 0, st s.d s.a (w ++ [s.k]) s.c (some (.int (h.T i' j' c).1)) z7 z8 z9 z10 z11, ?_, h.f + h.g - (s.d + s.a), by omega, s.d, s.a, s.c, w ++ [s.k], _, _, _, _, _, _, rfl, rfl, z2, z4, z5, by simp; omega, by omega, fun ms hms => ?_⟩
          · unfold b_first_moves_2
            exact seq_nx e6 (for_of (n1 := 0) (as := (h.steps i' j' c).map stD) (by simp only [st]; simp [eS]) e2)
          · rw [List.append_assoc]
            exact hgo _ (.go hfin hsp hl hs hms)) FUEL (h.f + h.g - (i + j)) (n := 0) (ds := st i j [] 0 none none none none none none) ⟨i, j, 0, [], none, none, none, none, none, none, rfl, rfl, hi, hj, by decide, by simp, by omega, fun ms hms => hms⟩ (fuel_lt (k := 9) (by omega) (by decide))
  refine ⟨w1, hMv, hw, ?_⟩
  unfold f_first_moves
  apply fn0_of
  have e : m_first_moves cs 0 (startD 12 [h.D cs, h.tab yes, .int (i : Int), .int (j : Int)]) = some (.rt (.str (tx w1)), 0, st i1 j1 w1 c1 y6 y7 y8 y9 y10 y11) := by
    unfold m_first_moves
    refine seq_nx (n1 := 0) (ds1 := [some (h.D cs), some (h.tab yes), some (.int (i : Int)), some (.int (j : Int)), some (.str (tx [])), none, none, none, none, none, none, none]) (by simp [startD, sE0]) (seq_nx (n1 := 0) (ds1 := st i j [] 0 none none none none none none) (by simp [st]) (seq_nx e1 (by simp [st])))
  rw [e]; rfl
end
end K22

namespace K22
open PySem L2 PyProof.Rows GW
variable {cs : Nat → Addr}
/-! ### a sheet is made -/
section
variable {P : D} {S F G m : List Nat} {w : Nat} {pc : Nat → Nat → Int} {O M : Int}
theorem PriceOK.has (hP : PriceOK cs P S w pc O M) : HasS cs P S := ⟨hP.signs, hP.good⟩
theorem sheet_init (hP : PriceOK cs P S w pc O M) (hF : Row S F) (hG : Row S G) : f_Sheet_init cs [P, .str (tx F), .str (tx G), .str (tx m)] = some (.ok (Sh.D ⟨F, G, m, O, M, pc⟩ cs)) := by
  have hF16 : F.length ≤ 16777216 := by have := hF.len; omega
  have hG16 : G.length ≤ 16777216 := by have := hG.len; omega
  have lF := ov_lenS hF16
  have lG := ov_lenS hG16
  have eo := hP.oo
  have em := hP.mo
  let st : List (Str × D) → DS := fun f => [some (.obj (cs 1) f), some P, some (.str (tx F)), some (.str (tx G)), some (.str (tx m)), none, none]
  have e1 : sSetF 0 (mVar 2) (cs 1) "first" 0 (st []) = some (.nx, 0, st [fl "first" (.str (tx F))]) := setF_of (d := .str (tx F)) (by simp) (by decide)
  have e2 : sSetF 0 (mVar 3) (cs 1) "second" 0 (st [fl "first" (.str (tx F))]) = some (.nx, 0, st [fl "first" (.str (tx F)), fl "second" (.str (tx G))]) := setF_of (d := .str (tx G)) (by simp) (by simp)
  have e3 : sSetF 0 (mCB (mCons (mVar 2) (ret (some []))) oLen) (cs 1) "high" 0 (st [fl "first" (.str (tx F)), fl "second" (.str (tx G))]) = some (.nx, 0, st [fl "first" (.str (tx F)), fl "second" (.str (tx G)), fl "high" (.int F.length)]) := setF_of (d := .int F.length) (by simp [lF]) (by simp)
  have e4 : sSetF 0 (mCB (mCons (mVar 3) (ret (some []))) oLen) (cs 1) "wide" 0 (st [fl "first" (.str (tx F)), fl "second" (.str (tx G)), fl "high" (.int F.length)]) = some (.nx, 0, st [fl "first" (.str (tx F)), fl "second" (.str (tx G)), fl "high" (.int F.length), fl "wide" (.int G.length)]) := setF_of (d := .int G.length) (by simp [lG]) (by simp)
  have e5 : sSetF 0 (mVar 4) (cs 1) "manner" 0 (st [fl "first" (.str (tx F)), fl "second" (.str (tx G)), fl "high" (.int F.length), fl "wide" (.int G.length)]) = some (.nx, 0, st [fl "first" (.str (tx F)), fl "second" (.str (tx G)), fl "high" (.int F.length), fl "wide" (.int G.length), fl "manner" (.str (tx m))]) := setF_of (d := .str (tx m)) (by simp) (by simp)
  have e6 : sSetF 0 (mCall (pureF (f_opening_cost cs)) (mCons (mVar 1) (ret (some [])))) (cs 1) "opening" 0 (st [fl "first" (.str (tx F)), fl "second" (.str (tx G)), fl "high" (.int F.length), fl "wide" (.int G.length), fl "manner" (.str (tx m))]) = some (.nx, 0, st [fl "first" (.str (tx F)), fl "second" (.str (tx G)), fl "high" (.int F.length), fl "wide" (.int G.length), fl "manner" (.str (tx m)), fl "opening" (.int O)]) := setF_of (d := .int O) (by simp [eo]) (by simp)
  have e7 : sSetF 0 (mCall (pureF (f_more_cost cs)) (mCons (mVar 1) (ret (some [])))) (cs 1) "more" 0 (st [fl "first" (.str (tx F)), fl "second" (.str (tx G)), fl "high" (.int F.length), fl "wide" (.int G.length), fl "manner" (.str (tx m)), fl "opening" (.int O)]) = some (.nx, 0, st [fl "first" (.str (tx F)), fl "second" (.str (tx G)), fl "high" (.int F.length), fl "wide" (.int G.length), fl "manner" (.str (tx m)), fl "opening" (.int O), fl "more" (.int M)]) := setF_of (d := .int M) (by simp [em]) (by simp)
  have lc : ∀ fs : List (Str × D), mLc (mItA (mVar 2)) (.one 5) mYes (mLc (mItA (mVar 3)) (.one 6) mYes (mCall (pureF (f_pair_cost cs)) (mCons (mVar 1) (mCons (mVar 5) (mCons (mVar 6) (ret (some [])))))) [6]) [5] 0 (st fs) = some (.ok (.lst (F.map fun c => .lst (G.map fun d => .int (pc c d)))), 0) := fun fs =>
    lc_of_comp (n1 := 0) (as := F.map fun c => D.str (tx [c])) (by simp [st])
      (compL_map (fun c => D.str (tx [c])) (fun c => .lst (G.map fun d => .int (pc c d))) F fun c hc => ⟨[some (.obj (cs 1) fs), some P, some (.str (tx F)), some (.str (tx G)), some (.str (tx m)), some (.str (tx [c])), none], rfl,
        lc_of_comp (n1 := 0) (as := G.map fun c => D.str (tx [c])) (by simp)
          (compL_map (fun c => D.str (tx [c])) (fun d => .int (pc c d)) G fun d hd => ⟨[some (.obj (cs 1) fs), some P, some (.str (tx F)), some (.str (tx G)), some (.str (tx m)), some (.str (tx [c])), some (.str (tx [d]))], rfl, by simp [hP.pair c d (hF.mem c hc) (hG.mem d hd)]⟩) (by rw [List.length_map]; have := hG.len; omega)⟩) (by rw [List.length_map]; have := hF.len; omega)
  have e8 : sSetF 0 (mLc (mItA (mVar 2)) (.one 5) mYes (mLc (mItA (mVar 3)) (.one 6) mYes (mCall (pureF (f_pair_cost cs)) (mCons (mVar 1) (mCons (mVar 5) (mCons (mVar 6) (ret (some [])))))) [6]) [5]) (cs 1) "costs" 0 (st [fl "first" (.str (tx F)), fl "second" (.str (tx G)), fl "high" (.int F.length), fl "wide" (.int G.length), fl "manner" (.str (tx m)), fl "opening" (.int O), fl "more" (.int M)]) = some (.nx, 0, st (Sh.fld ⟨F, G, m, O, M, pc⟩)) := setF_of (lc _) (by simp)
  unfold f_Sheet_init fnI
  have hst : startI (cs 1) 7 [P, .str (tx F), .str (tx G), .str (tx m)] = st [] := rfl
  rw [hst]
  have e : m_Sheet_init cs 0 (st []) = some (.nx, 0, st (Sh.fld ⟨F, G, m, O, M, pc⟩)) := by
    unfold m_Sheet_init
    exact seq_nx e1 (seq_nx e2 (seq_nx e3 (seq_nx e4 (seq_nx e5 (seq_nx e6 (seq_nx e7 e8))))))
  rw [e]; rfl
theorem sheet_of_eval (hP : PriceOK cs P S w pc O M) (hF : Row S F) (hG : Row S G) (hm : m ∈ mans) : f_sheet_of cs [P, .str (tx F), .str (tx G), .str (tx m)] = some (.ok (Sh.D ⟨F, G, m, O, M, pc⟩ cs)) := by
  have h1 := ask_signs_eval hP.has hF hG
  have h2 := manner_eval (cs := cs) m
  rw [if_pos hm] at h2
  have h3 := sheet_init (m := m) hP hF hG
  unfold f_sheet_of m_sheet_of
  apply fn0_of
  simp [startD, h1, h2, h3]
theorem sheet_of_sign {d1 d2 d3 : D} {c : Addr} {fs : List (Str × Int)} (h : f_ask_signs cs [P, .lst [d1, d2]] = some (.ex c fs)) : f_sheet_of cs [P, d1, d2, d3] = some (.ex c fs) := by
  unfold f_sheet_of m_sheet_of
  apply fn0_ex
  simp [startD, h]
theorem sheet_of_manner (hP : PriceOK cs P S w pc O M) (hF : Row S F) (hG : Row S G) (hm : m ∉ mans) : f_sheet_of cs [P, .str (tx F), .str (tx G), .str (tx m)] = some (.ex 3 []) := by
  have h1 := ask_signs_eval hP.has hF hG
  have h2 := manner_eval (cs := cs) m
  rw [if_neg hm] at h2
  unfold f_sheet_of m_sheet_of
  apply fn0_ex
  simp [startD, h1, h2]
/-! ### the cheapest -/
theorem cheapest_ex {d1 d2 d3 : D} {c : Addr} {fs : List (Str × Int)} (h : f_sheet_of cs [P, d1, d2, d3] = some (.ex c fs)) : f_cheapest cs [P, d1, d2, d3] = some (.ex c fs) := by
  unfold f_cheapest m_cheapest
  apply fn0_ex
  simp [startD, h]
/-- what is told of a sheet -/
structure Told (h : Sh) (v : Int) (b : Nat × Nat) (ms : List Nat) : Prop where
  least : minL h.ts = some v
  first : ∃ l, h.bgs.filter (fun p => decide ((h.T p.1 p.2 0).1 = v)) = b :: l
  moves : Mv h b.1 b.2 0 ms
  len : ms.length ≤ 300
theorem Told.bg {h : Sh} {v : Int} {b : Nat × Nat} {ms : List Nat} (t : Told h v b ms) : b.1 ≤ h.f ∧ b.2 ≤ h.g ∧ h.bg b.1 b.2 = true ∧ (h.T b.1 b.2 0).1 = v := by
  obtain ⟨l, hl⟩ := t.first
  have hm : b ∈ h.bgs.filter (fun p => decide ((h.T p.1 p.2 0).1 = v)) := by rw [hl]; simp
  obtain ⟨h1, h2⟩ := List.mem_filter.mp hm
  obtain ⟨z1, z2, z3⟩ := bgs_mem.mp h1
  exact ⟨z1, z2, z3, of_decide_eq_true h2⟩
theorem cheapest_eval (hP : PriceOK cs P S w pc O M) (hF : Row S F) (hG : Row S G) (hm : m ∈ mans) : ∃ (v : Int) (b : Nat × Nat) (ms : List Nat), Told ⟨F, G, m, O, M, pc⟩ v b ms ∧ f_cheapest cs [P, .str (tx F), .str (tx G), .str (tx m)] = some (.ok (.tup [lowD v (w : Int), plD b, .str (tx ms)])) := by
  have e1 := sheet_of_eval (m := m) hP hF hG hm
  have hk : Sh.OK ⟨F, G, m, O, M, pc⟩ := ⟨by have := hF.len; show F.length ≤ 100; omega, by have := hG.len; show G.length ≤ 100; omega⟩
  generalize hh : (⟨F, G, m, O, M, pc⟩ : Sh) = h at *
  obtain ⟨v, hv⟩ := least_some h
  have e2 := table_all (cs := cs) hk
  have e3 := least_eval (cs := cs) hk hv
  have e4 := begins_of_eval (cs := cs) hk
  have e5 := hP.iu v
  have hbl := bgs_len hk
  obtain ⟨b, l, hbl2⟩ : ∃ b l, h.bgs.filter (fun p => decide ((h.T p.1 p.2 0).1 = v)) = b :: l := by
    obtain ⟨h1, _⟩ := minL_le hv
    obtain ⟨p, hp, hpe⟩ := List.mem_map.mp h1
    have : p ∈ h.bgs.filter (fun p => decide ((h.T p.1 p.2 0).1 = v)) := List.mem_filter.mpr ⟨hp, decide_eq_true hpe⟩
    cases e : h.bgs.filter (fun p => decide ((h.T p.1 p.2 0).1 = v)) with
    | nil => rw [e] at this; cases this
    | cons b l => exact ⟨b, l, rfl⟩
  have hb : b ∈ h.bgs := by
    have : b ∈ h.bgs.filter (fun p => decide ((h.T p.1 p.2 0).1 = v)) := by rw [hbl2]; simp
    exact (List.mem_filter.mp this).1
  obtain ⟨z1, z2, _⟩ := bgs_mem.mp hb
  obtain ⟨ms, hMv, hml, e6⟩ := moves_eval (cs := cs) hk z1 z2
  refine ⟨v, b, ms, ⟨hv, ⟨l, hbl2⟩, hMv, hml⟩, ?_⟩
  have lc := lc_of_comp (mi := mItA (mCall (pureF (f_begins_of cs)) (mCons (mVar 4) (ret (some []))))) (tg := .one 10) (tt := mTest (m2 (m2 (m2 (m2 (m2 (mVar 5) (m2 (mVar 10) (mC (.int 0)) oIx) oIx) (m2 (mVar 10) (mC (.int 1)) oIx) oIx) (mC (.int 0)) oIx) (mC (.int 0)) oIx) (mVar 6) oEq)) (me := mVar 10) (vs := [10]) (n := 0) (n1 := 0) (ds := [some P, some (.str (tx F)), some (.str (tx G)), some (.str (tx m)), some (h.D cs), some (h.tab yes), some (.int v), none, none, none, none]) (as := h.bgs.map plD) (by simp [e4])
    (compL_filter plD plD (fun p => decide ((h.T p.1 p.2 0).1 = v)) h.bgs fun p hp => ⟨[some P, some (.str (tx F)), some (.str (tx G)), some (.str (tx m)), some (h.D cs), some (h.tab yes), some (.int v), none, none, none, some (plD p)], rfl, by
      obtain ⟨y1, y2, _⟩ := bgs_mem.mp hp
      obtain ⟨q1, q2, q3, q4⟩ := T00 (h := h) y1 y2 0 (by decide)
      have q3' : oIx (h.cell yes p.1 p.2) (.int 0) = some (prD (h.T p.1 p.2 0)) := q3
      have i0 : oIx (plD p) (.int 0) = some (.int (p.1 : Int)) := rfl
      have i1 : oIx (plD p) (.int 1) = some (.int (p.2 : Int)) := rfl
      simp [q1, q2, q3', q4, i0, i1], by simp⟩) (by rw [List.length_map]; omega)
  rw [hbl2] at lc
  unfold f_cheapest
  apply fn0_of
  have e : m_cheapest cs 0 (startD 11 [P, .str (tx F), .str (tx G), .str (tx m)]) = some (.rt (.tup [lowD v (w : Int), plD b, .str (tx ms)]), 0, [some P, some (.str (tx F)), some (.str (tx G)), some (.str (tx m)), some (h.D cs), some (h.tab yes), some (.int v), some (.lst ((b :: l).map plD)), some (.int (b.1 : Int)), some (.int (b.2 : Int)), none]) := by
    unfold m_cheapest
    refine seq_nx (n1 := 0) (ds1 := [some P, some (.str (tx F)), some (.str (tx G)), some (.str (tx m)), some (h.D cs), none, none, none, none, none, none]) (by simp [startD, e1]) ?_
    refine seq_nx (n1 := 0) (ds1 := [some P, some (.str (tx F)), some (.str (tx G)), some (.str (tx m)), some (h.D cs), some (h.tab yes), none, none, none, none, none]) (by simp [e2]) ?_
    refine seq_nx (n1 := 0) (ds1 := [some P, some (.str (tx F)), some (.str (tx G)), some (.str (tx m)), some (h.D cs), some (h.tab yes), some (.int v), none, none, none, none]) (by simp [e3]) ?_
    refine seq_nx (n1 := 0) (ds1 := [some P, some (.str (tx F)), some (.str (tx G)), some (.str (tx m)), some (h.D cs), some (h.tab yes), some (.int v), some (.lst ((b :: l).map plD)), none, none, none]) (set_of lc) ?_
    refine seq_nx (n1 := 0) (ds1 := [some P, some (.str (tx F)), some (.str (tx G)), some (.str (tx m)), some (h.D cs), some (h.tab yes), some (.int v), some (.lst ((b :: l).map plD)), some (.int (b.1 : Int)), some (.int (b.2 : Int)), none]) (by simp [plD]) ?_
    refine ret_of ?_
    simp [e5, e6, plD]
  rw [e]; rfl
end
end K22

namespace K22
open PySem L2 PyProof.Rows GW
variable {cs : Nat → Addr}
theorem same_int (k : Nat) (a : Int) : f__law_same cs (k + 1) [.int a, .int a] = some (.ok (.bl true)) := by
  show fn0 4 (m__law_same cs (f__law_same cs k)) _ = _
  apply fn0_of
  have isI : oIs (.int a) .non = some (.bl false) := rfl
  unfold m__law_same
  simp [startD, notB, isI]
theorem same_str (k : Nat) (x : Str) : f__law_same cs (k + 1) [.str x, .str x] = some (.ok (.bl true)) := by
  show fn0 4 (m__law_same cs (f__law_same cs k)) _ = _
  apply fn0_of
  have isS : oIs (.str x) .non = some (.bl false) := rfl
  unfold m__law_same
  simp [startD, isS]
theorem zip_self {α : Type} (l : List α) : l.zip l = l.map fun k => (k, k) := by
  induction l with
  | nil => rfl
  | cons a l ih => simp [ih]
theorem all_bls {α : Type} (l : List α) : oAll [.lst (l.map fun _ => D.bl true)] = some (.bl true) := by
  have h : ∀ l : List α, blsD (l.map fun _ => D.bl true) = some (l.map fun _ => true) := fun l => by
    induction l with
    | nil => rfl
    | cons a l ih => simp [blsD, ih]
  show Option.map (fun bs => D.bl (bs.all id)) (blsD _) = _
  rw [h]
  simp
theorem same_seq {α : Type} {b : Bool} {k : Nat} {f : α → D} {l : List α} (hl : l.length ≤ 1000000) (h : ∀ a ∈ l, f__law_same cs k [f a, f a] = some (.ok (.bl true))) : f__law_same cs (k + 1) [seqD b (l.map f), seqD b (l.map f)] = some (.ok (.bl true)) := by
  show fn0 4 (m__law_same cs (f__law_same cs k)) _ = _
  apply fn0_of
  have lc := lc_of_comp (mi := mZip2 (mCons (mVar 0) (mCons (mVar 1) (ret (some []))))) (tg := .tup [2, 3]) (tt := mYes) (me := mCall (pureF (f__law_same cs k)) (mCons (mVar 2) (mCons (mVar 3) (ret (some []))))) (vs := [2, 3]) (n := 0) (n1 := 0) (ds := [some (seqD b (l.map f)), some (seqD b (l.map f)), none, none]) (as := l.map fun a => D.tup [f a, f a]) (by
      cases b <;> simp [mZip2, oZip2, seqD, zip_self, Function.comp_def])
    (compL_map (fun a => D.tup [f a, f a]) (fun _ => .bl true) l fun a ha => ⟨_, rfl, by simp [wipeD, h a ha]⟩) (by rw [List.length_map]; omega)
  have e : m__law_same cs (f__law_same cs k) 0 (startD 4 [seqD b (l.map f), seqD b (l.map f)]) = some (.rt (.bl true), 0, [some (seqD b (l.map f)), some (seqD b (l.map f)), none, none]) := by
    unfold m__law_same
    refine seq_rt (if_t (n1 := 0) (by cases b <;> simp [seqD, startD]) (seq_nx (n1 := 0) (ds1 := [some (seqD b (l.map f)), some (seqD b (l.map f)), none, none]) (by cases b <;> simp [seqD, startD]) (ret_of ?_)))
    have hlen : oLen [seqD b (l.map f)] = some (.int (l.length : Int)) := by cases b <;> simp [seqD]
    simp only [ev_andV, ev_mb, ev_m2, ev_cb, ev_cons, ev_var, List.getElem?_cons_zero, List.getElem?_cons_succ, ev_ret, hlen, ov_eqI, decide_true, lc, all_bls]
  rw [e]; rfl
theorem same_pl (k : Nat) (a b : Int) : f__law_same cs (k + 2) [.tup [.int a, .int b], .tup [.int a, .int b]] = some (.ok (.bl true)) :=
  same_seq (b := true) (f := D.int) (l := [a, b]) (by simp) fun a _ => same_int k a
theorem same_told (d : D) (p : Nat × Nat) (ms : Str) (hd : ∃ a b : Int, d = .tup [.int a, .int b]) : f__law_same cs 3 [.tup [d, plD p, .str ms], .tup [d, plD p, .str ms]] = some (.ok (.bl true)) := by
  obtain ⟨a, b, rfl⟩ := hd
  refine same_seq (b := true) (f := fun d => d) (l := [D.tup [.int a, .int b], plD p, .str ms]) (by simp) fun x hx => ?_
  simp only [List.mem_cons, List.not_mem_nil, or_false] at hx
  rcases hx with rfl | rfl | rfl
  · exact same_pl 0 a b
  · exact same_pl 0 _ _
  · exact same_str 1 ms
theorem same_three (x : Str) (i j : Int) : f__law_same cs 3 [.tup [.str x, .int i, .int j], .tup [.str x, .int i, .int j]] = some (.ok (.bl true)) :=
  same_seq (b := true) (f := fun d => d) (l := [D.str x, .int i, .int j]) (by simp) fun a ha => by
    simp only [List.mem_cons, List.not_mem_nil, or_false] at ha
    rcases ha with rfl | rfl | rfl
    · exact same_str 1 x
    · exact same_int 1 i
    · exact same_int 1 j
section
variable {P : D} {S F G m : List Nat} {w : Nat} {pc : Nat → Nat → Int} {O M : Int}
theorem gap_law (hP : PriceOK cs P S w pc O M) (b : Bool) : f__law_gap cs [P, .bl b] = some (.ok (.int (Sh.gp ⟨F, G, m, O, M, pc⟩ b))) := by
  unfold f__law_gap m__law_gap Sh.gp
  apply fn0_of
  cases b <;> simp [startD, hP.mo, hP.oo]
end
theorem manner_law (v : Int) : ∃ m ∈ mans, f__law_manner cs [.int v] = some (.ok (.str (tx m))) := by
  have h : v % 4 = 0 ∨ v % 4 = 1 ∨ v % 4 = 2 ∨ v % 4 = 3 := by omega
  unfold f__law_manner m__law_manner
  have i0 : atI [D.str (tx mW), .str (tx mI), .str (tx mO), .str (tx mS)] 2 = some (.str (tx mO)) := rfl
  have i1 : atI [D.str (tx mW), .str (tx mI), .str (tx mO), .str (tx mS)] 3 = some (.str (tx mS)) := rfl
  rcases h with h | h | h | h
  · exact ⟨mW, by simp [mans], fn0_of (by simp [startD, h, sW, sI, sO, sS])⟩
  · exact ⟨mI, by simp [mans], fn0_of (by simp [startD, h, sW, sI, sO, sS])⟩
  · exact ⟨mO, by simp [mans], fn0_of (by simp [startD, h, sW, sI, sO, sS, i0])⟩
  · exact ⟨mS, by simp [mans], fn0_of (by simp [startD, h, sW, sI, sO, sS, i1])⟩
theorem mans_or {m : List Nat} (hm : m ∈ mans) : m = mW ∨ m = mI ∨ m = mO ∨ m = mS := by simpa [mans] using hm
theorem bg_law {m : List Nat} (hm : m ∈ mans) (i j : Int) : f__law_may_begin cs [.str (tx m), .int i, .int j] = some (.ok (.bl (okB m i j))) := by
  unfold f__law_may_begin m__law_may_begin okB
  apply fn0_of
  rcases mans_or hm with rfl | rfl | rfl | rfl
  · by_cases h : i = 0 <;> simp [startD, sW, h]
  · simp [startD, sW, sI, tx_inj, nWI]
  · simp [startD, sW, sI, sS, tx_inj, nWO, nIO, nOS, Ne.symm nOS, show ¬ mO = mS from Ne.symm nOS]
  · simp [startD, sW, sI, sS, tx_inj, nWS, nIS, nOS]
theorem en_law {m F G : List Nat} (hm : m ∈ mans) (hF : F.length ≤ 16777216) (hG : G.length ≤ 16777216) (i j : Int) : f__law_may_end cs [.str (tx m), .str (tx F), .str (tx G), .int i, .int j] = some (.ok (.bl (okE m F.length G.length i j))) := by
  have lF := ov_lenS hF
  have lG := ov_lenS hG
  unfold f__law_may_end m__law_may_end okE
  apply fn0_of
  rcases mans_or hm with rfl | rfl | rfl | rfl
  · by_cases h : i = F.length <;> simp [startD, sW, h, lF, lG]
  · simp [startD, sW, sS, tx_inj, nWI, show ¬ mI = mS from Ne.symm nIS, lF]
  · simp [startD, sW, sS, tx_inj, nWO, show ¬ mO = mS from Ne.symm nOS, lF]
  · simp [startD, sW, sS, tx_inj, nWS]
theorem lowD_two (v w : Int) : ∃ a b : Int, lowD v w = .tup [.int a, .int b] := ⟨_, _, rfl⟩
theorem sub_len : ∀ {l S : List Nat}, l.Nodup → (∀ x ∈ l, x ∈ S) → l.length ≤ S.length
  | [], _, _, _ => Nat.zero_le _
  | a :: l, S, hn, h => by
    rw [List.nodup_cons] at hn
    have ha := h a List.mem_cons_self
    have := sub_len (S := S.erase a) hn.2 fun x hx => by
      have hxa : x ≠ a := fun e => hn.1 (e ▸ hx)
      exact (List.mem_erase_of_ne hxa).mpr (h x (List.mem_cons_of_mem _ hx))
    rw [List.length_erase_of_mem ha] at this
    have := List.length_pos_of_mem ha
    rw [List.length_cons]; omega
def ot : List Nat := [113, 120, 81, 88, 48, 55, 43, 126, 32]
theorem ot_s : Str.ofString "qxQX07+~ " = tx ot := by decide +kernel
def oth (S : List Nat) : List Nat := ot.filter fun c => !decide (c ∈ S)
theorem oth_len {S : List Nat} (h : S.length ≤ 4) : 5 ≤ (oth S).length := by
  have h1 : (ot.filter fun c => decide (c ∈ S)).length ≤ S.length := sub_len (List.Pairwise.filter _ (show ot.Nodup by decide)) fun x hx => of_decide_eq_true (List.mem_filter.mp hx).2
  have h2 : ∀ l : List Nat, (l.filter fun c => !decide (c ∈ S)).length + (l.filter fun c => decide (c ∈ S)).length = l.length := fun l => by
    induction l with
    | nil => rfl
    | cons a l ih =>
      by_cases ha : a ∈ S
      · simp [ha]; omega
      · simp [ha]; omega
  have h3 := h2 ot
  have h4 : ot.length = 9 := rfl
  unfold oth
  omega
theorem oth_at {S : List Nat} {i : Int} (h : S.length ≤ 4) (h0 : 0 ≤ i) (h1 : i < 5) : ∃ c, c ∉ S ∧ atI ((oth S).map fun c => D.str (tx [c])) i = some (.str (tx [c])) := by
  have hl := oth_len h
  obtain ⟨k, rfl⟩ := Int.eq_ofNat_of_zero_le h0
  have hk : k < (oth S).length := by omega
  refine ⟨(oth S)[k], ?_, ?_⟩
  · have := (List.mem_filter.mp (List.getElem_mem hk : (oth S)[k] ∈ oth S)).2
    simpa using this
  · rw [GW.atI_nat, List.getElem?_map, List.getElem?_eq_getElem hk]; rfl
section
variable {S : List Nat}
theorem bad_ins {L : List Nat} {c s : Nat} {R : List Nat} (hL : ∀ d ∈ L, d ∈ S) (hc : c ∉ S) (hs : s ≤ L.length) : Bad S (L.take s) (L.take s ++ [c] ++ R) := by
  refine ⟨fun d hd => hL d (List.mem_of_mem_take hd), ⟨c, ?_, hc⟩, ?_⟩
  · rw [List.append_assoc, List.getElem?_append_right (Nat.le_refl _), Nat.sub_self]; rfl
  · rw [List.append_assoc, List.take_left]
end
inductive Pt (h : Sh) : Nat → Nat → Nat → List Nat → Nat → Nat → Int → Prop
  | nil {i j c : Nat} : Pt h i j c [] i j 0
  | cons {i j c i' j' : Nat} {s : Stp} {ms : List Nat} {x : Int} : s ∈ h.steps i j c → Pt h s.d s.a s.c ms i' j' x → Pt h i j c (s.k :: ms) i' j' (s.x + x)
theorem Pt.inv {h : Sh} {i j c i' j' k : Nat} {ms : List Nat} {x : Int} (p : Pt h i j c (k :: ms) i' j' x) : ∃ s ∈ h.steps i j c, s.k = k ∧ Pt h s.d s.a s.c ms i' j' (x - s.x) := by
  cases p with
  | @cons _ _ _ _ _ s _ x hs hp =>
    refine ⟨s, hs, rfl, ?_⟩
    have : s.x + x - s.x = x := by omega
    rw [this]; exact hp
theorem Pt.inv0 {h : Sh} {i j c i' j' : Nat} {x : Int} (p : Pt h i j c [] i' j' x) : i = i' ∧ j = j' ∧ x = 0 := by
  cases p
  exact ⟨rfl, rfl, rfl⟩
theorem Mv.pt {h : Sh} {i j c : Nat} {ms : List Nat} (m : Mv h i j c ms) : i ≤ h.f → j ≤ h.g → ∃ i' j', Pt h i j c ms i' j' (h.T i j c).1 ∧ h.en i' j' = true ∧ i' ≤ h.f ∧ j' ≤ h.g := by
  induction m with
  | @fin i j c he h0 =>
    intro hi hj
    exact ⟨i, j, by rw [h0]; exact .nil, he, hi, hj⟩
  | @go i j c s ms l r hn hsp hl hs _ ih =>
    intro hi hj
    have hm : s ∈ h.steps i j c := by rw [hsp]; simp
    obtain ⟨z1, z2, z3, z4, z5, z6⟩ := step_le hi hj hm
    obtain ⟨i', j', hp, he, h1, h2⟩ := ih z2 z4
    exact ⟨i', j', by rw [← hs]; exact .cons hm hp, he, h1, h2⟩
section
variable {P : D} {S F G m : List Nat} {w : Nat} {pc : Nat → Nat → Int} {O M : Int}
def lastOK (lw : List Nat) (c : Nat) : Prop := (lw = [97] ↔ c = 1) ∧ (lw = [98] ↔ c = 2)
theorem walk_eval (hP : PriceOK cs P S w pc O M) (hF : Row S F) (hG : Row S G) {i j i' j' : Nat} {ms : List Nat} {x : Int} (hp : Pt ⟨F, G, m, O, M, pc⟩ i j 0 ms i' j' x) (hi : i ≤ F.length) (hj : j ≤ G.length) : f__law_walk cs [P, .str (tx F), .str (tx G), plD (i, j), .str (tx ms)] = some (.ok (.tup [.int x, .tup [.int (i' : Int), .int (j' : Int)]])) := by
  have hF16 : F.length ≤ 16777216 := by have := hF.len; omega
  have hG16 : G.length ≤ 16777216 := by have := hG.len; omega
  have lF := ov_lenS hF16
  have lG := ov_lenS hG16
  have sE0 : Str.ofString "" = tx [] := al4
  have gl := gap_law (F := F) (G := G) (m := m) hP
  generalize hh : (⟨F, G, m, O, M, pc⟩ : Sh) = h at *
  have hf : h.F = F := by rw [← hh]
  have hg : h.G = G := by rw [← hh]
  have hff : h.f = F.length := by show h.F.length = _; rw [hf]
  have hgg : h.g = G.length := by show h.G.length = _; rw [hg]
  have hpc : h.pc = pc := by rw [← hh]
  let st : Nat → Nat → Int → List Nat → Option D → DS := fun a b y lw x9 => [some P, some (.str (tx F)), some (.str (tx G)), some (plD (i, j)), some (.str (tx ms)), some (.int (a : Int)), some (.int (b : Int)), some (.int y), some (.str (tx lw)), x9]
  obtain ⟨n1, ds1, e1, rfl, a, b, c, y, lw, x9, rfl, ha, hb, hpt, hlw⟩ := forM_inv (tg := .one 9) (body := b__law_walk_1 cs) (f := fun c => D.str (tx [c])) (l := ms) (n := 0) (ds := st i j 0 [] none)
    (fun t n ds => n = 0 ∧ ∃ a b c y lw x9, ds = st a b y lw x9 ∧ a ≤ h.f ∧ b ≤ h.g ∧ Pt h a b c (ms.drop t) i' j' (x - y) ∧ lastOK lw c)
    (fun t k n ds ht ⟨hn, a, b, c, y, lw, x9, hd, ha, hb, hpt, hlw⟩ => by
      subst hn hd
      have hdr : ms.drop t = k :: ms.drop (t + 1) := by
        obtain ⟨hlt, hk⟩ := List.getElem?_eq_some_iff.mp ht
        rw [List.drop_eq_getElem_cons hlt, hk]
      rw [hdr] at hpt
      obtain ⟨s, hs, rfl, hpt'⟩ := hpt.inv
      obtain ⟨z1, z2, z3, z4, z5, z6⟩ := step_le ha hb hs
      have hx : x - y - s.x = x - (y + s.x) := by omega
      rw [hx] at hpt'
      refine ⟨st a b y lw (some (.str (tx [s.k]))), rfl, 0, st s.d s.a (y + s.x) [s.k] (some (.str (tx [s.k]))), ?_, rfl, s.d, s.a, s.c, y + s.x, [s.k], _, rfl, z2, z4, hpt', ?_⟩
      · have last : ∀ b : Bool, sSet 8 (mVar 9) 0 (st s.d s.a (y + s.x) lw (some (.str (tx [s.k])))) = some (.nx, 0, st s.d s.a (y + s.x) [s.k] (some (.str (tx [s.k])))) := fun _ => by simp [st]
        unfold b__law_walk_1
        refine seq_nx ?_ (last true)
        unfold Sh.steps Sh.sp Sh.sa Sh.sb at hs
        rw [List.mem_append, List.mem_append] at hs
        rcases hs with (hs | hs) | hs
        · split at hs
          · rename_i hc
            simp only [List.mem_singleton] at hs
            subst hs
            have c1 : a < F.length := by rw [← hff]; exact hc.1
            have c2 : b < G.length := by rw [← hgg]; exact hc.2
            have q1 : oIx (.str (tx F)) (.int (a : Int)) = some (.str (tx [gd F a])) := by
              rw [ov_ixS (l := F) hF16, GW.atI_nat, gd_get c1]; rfl
            have q2 : oIx (.str (tx G)) (.int (b : Int)) = some (.str (tx [gd G b])) := by
              rw [ov_ixS (l := G) hG16, GW.atI_nat, gd_get c2]; rfl
            have q3 := hP.pair (gd F a) (gd G b) (hF.mem _ (List.mem_of_getElem? (gd_get c1))) (hG.mem _ (List.mem_of_getElem? (gd_get c2)))
            have hxx : h.pc (gd h.F a) (gd h.G b) = pc (gd F a) (gd G b) := by rw [hf, hg, hpc]
            refine if_t (n1 := 0) ?_ (seq_nx (n1 := 0) (ds1 := st a b (y + pc (gd F a) (gd G b)) lw (some (.str (tx [112])))) (set_of (d := .int (y + pc (gd F a) (gd G b))) ?_) ?_)
            · simp only [st]
              simp [sp_k, lF, lG, c1, c2]
            · simp only [st]
              simp [q1, q2, q3, -ov_ixS]
            · simp only [st, hxx]
              simp
          · cases hs
        · split at hs
          · rename_i hc
            simp only [List.mem_singleton] at hs
            subst hs
            have c1 : a < F.length := by rw [← hff]; exact hc
            have hg1 : (decide (tx lw = tx [97]) : Bool) = decide (c = 1) := by
              rw [Bool.eq_iff_iff, decide_eq_true_eq, decide_eq_true_eq, tx_inj]
              exact hlw.1
            have q3 := gl (decide (c = 1))
            refine if_f (n1 := 0) ?_ (if_t (n1 := 0) ?_ (seq_nx (n1 := 0) (ds1 := st a b (y + h.gp (decide (c = 1))) lw (some (.str (tx [97])))) (set_of (d := .int (y + h.gp (decide (c = 1)))) ?_) ?_))
            · simp only [st]
              simp [sp_k, tx_inj]
            · simp only [st]
              simp [sa_k, lF, c1]
            · simp only [st]
              have q : oEq (.str (tx lw)) (.str (tx [97])) = some (.bl (decide (c = 1))) := by rw [ov_eqS, hg1]
              simp [sa_k, q, q3, -ov_eqS]
            · simp only [st]
              simp
          · cases hs
        · split at hs
          · rename_i hc
            simp only [List.mem_singleton] at hs
            subst hs
            have c2 : b < G.length := by rw [← hgg]; exact hc
            have hg2 : (decide (tx lw = tx [98]) : Bool) = decide (c = 2) := by
              rw [Bool.eq_iff_iff, decide_eq_true_eq, decide_eq_true_eq, tx_inj]
              exact hlw.2
            have q3 := gl (decide (c = 2))
            refine if_f (n1 := 0) ?_ (if_f (n1 := 0) ?_ (if_t (n1 := 0) ?_ (seq_nx (n1 := 0) (ds1 := st a b (y + h.gp (decide (c = 2))) lw (some (.str (tx [98])))) (set_of (d := .int (y + h.gp (decide (c = 2)))) ?_) ?_)))
            · simp only [st]
              simp [sp_k, tx_inj]
            · simp only [st]
              simp [sa_k, tx_inj]
            · simp only [st]
              simp [sb_k, lG, c2]
            · simp only [st]
              have q : oEq (.str (tx lw)) (.str (tx [98])) = some (.bl (decide (c = 2))) := by rw [ov_eqS, hg2]
              simp [sb_k, q, q3, -ov_eqS]
            · simp only [st]
              simp
          · cases hs
      · unfold Sh.steps Sh.sp Sh.sa Sh.sb at hs
        rw [List.mem_append, List.mem_append] at hs
        unfold lastOK
        rcases hs with (hs | hs) | hs
        · split at hs
          · simp only [List.mem_singleton] at hs
            subst hs; simp
          · cases hs
        · split at hs
          · simp only [List.mem_singleton] at hs
            subst hs; simp
          · cases hs
        · split at hs
          · simp only [List.mem_singleton] at hs
            subst hs; simp
          · cases hs) ⟨rfl, i, j, 0, 0, [], none, rfl, by rw [hff]; exact hi, by rw [hgg]; exact hj, by rw [List.drop_zero, Int.sub_zero]; exact hp, by unfold lastOK; simp⟩
  rw [List.drop_length] at hpt
  obtain ⟨rfl, rfl, hxy⟩ := hpt.inv0
  have hxy : y = x := by omega
  subst hxy
  unfold f__law_walk
  apply fn0_of
  have e : m__law_walk cs 0 (startD 10 [P, .str (tx F), .str (tx G), plD (i, j), .str (tx ms)]) = some (.rt (.tup [.int y, .tup [.int (a : Int), .int (b : Int)]]), 0, st a b y lw x9) := by
    unfold m__law_walk
    refine seq_nx (n1 := 0) (ds1 := [some P, some (.str (tx F)), some (.str (tx G)), some (plD (i, j)), some (.str (tx ms)), some (.int (i : Int)), some (.int (j : Int)), none, none, none]) (by simp [startD, plD]) (seq_nx (n1 := 0) (ds1 := [some P, some (.str (tx F)), some (.str (tx G)), some (plD (i, j)), some (.str (tx ms)), some (.int (i : Int)), some (.int (j : Int)), some (.int 0), none, none]) (by simp) (seq_nx (n1 := 0) (ds1 := st i j 0 [] none) (by simp [st, sE0]) (seq_nx (for_of (n1 := 0) (as := ms.map fun c => D.str (tx [c])) (by simp [st]) e1) (by simp [st]))))
  rw [e]; rfl
end
end K22

namespace K22
open PySem L2 PyProof.Rows GW
variable {cs : Nat → Addr}
def cnt (l : List Pr) (x : Int) : Int := ((l.filter fun p => decide (p.1 = x)).map (·.2)).sum
theorem cnt_nil (x : Int) : cnt [] x = 0 := rfl
theorem cnt_cons (p : Pr) (l : List Pr) (x : Int) : cnt (p :: l) x = (if p.1 = x then p.2 else 0) + cnt l x := by
  unfold cnt
  by_cases h : p.1 = x
  · simp [h]
  · simp [h]
theorem cnt_append (a b : List Pr) (x : Int) : cnt (a ++ b) x = cnt a x + cnt b x := by
  induction a with
  | nil => rw [List.nil_append, cnt_nil]; omega
  | cons p a ih => rw [List.cons_append, cnt_cons, cnt_cons, ih]; omega
def fAt : Option Pr → Int → Int
  | none, _ => 0
  | some q, x => if q.1 = x then q.2 else 0
theorem bfold_cnt : ∀ (l : List Pr) (o : Option Pr) (p : Pr), bfold o l = some p → p.2 = fAt o p.1 + cnt l p.1
  | [], o, p, h => by
    have h : o = some p := h
    subst h
    simp [cnt_nil, fAt]
  | q :: l, o, p, h => by
    have h0 := bfold_is (q :: l) o p h
    have h : bfold (bstp o q) l = some p := h
    have ih := bfold_cnt l _ p h
    obtain ⟨k1, k2, _⟩ := h0
    have hq := k1 q List.mem_cons_self
    rw [cnt_cons]
    cases o with
    | none =>
      have eb : bstp none q = some q := rfl
      rw [eb] at ih
      simp only [fAt] at ih ⊢
      omega
    | some r =>
      have hr := k2 r rfl
      by_cases c1 : q.1 < r.1
      · have eb : bstp (some r) q = some q := by simp [bstp, c1]
        rw [eb] at ih
        simp only [fAt] at ih ⊢
        rw [ih, if_neg (show ¬ r.1 = p.1 by omega)]
        omega
      · by_cases c2 : q.1 = r.1
        · have eb : bstp (some r) q = some (r.1, r.2 + q.2) := by simp [bstp, c2]
          rw [eb] at ih
          simp only [fAt] at ih ⊢
          rw [ih, c2]
          by_cases c3 : r.1 = p.1
          · simp only [if_pos c3]; omega
          · simp only [if_neg c3]; omega
        · have eb : bstp (some r) q = some r := by simp [bstp, c1, c2]
          rw [eb] at ih
          simp only [fAt] at ih ⊢
          rw [ih, if_neg (show ¬ q.1 = p.1 by omega)]
          omega
/-! ### all ways from a place -/
abbrev Wy := List Nat × Nat × Nat × Int
def pre (s : Stp) (q : Wy) : Wy := (s.k :: q.1, q.2.1, q.2.2.1, s.x + q.2.2.2)
def Sh.wy (h : Sh) : Nat → Nat → Nat → Nat → List Wy
  | 0, _, _, _ => []
  | k + 1, i, j, c => ([], i, j, 0) :: (h.steps i j c).flatMap fun s => (h.wy k s.d s.a s.c).map (pre s)
section
variable {h : Sh}
theorem wy_mem {k i j c : Nat} {q : Wy} (hq : q ∈ h.wy (k + 1) i j c) : q = ([], i, j, 0) ∨ ∃ s ∈ h.steps i j c, ∃ r ∈ h.wy k s.d s.a s.c, q = pre s r := by
  rcases List.mem_cons.mp (show q ∈ ([], i, j, (0 : Int)) :: _ from hq) with e | hq
  · exact .inl e
  · obtain ⟨s, hs, hq⟩ := List.mem_flatMap.mp hq
    obtain ⟨r, hr, e⟩ := List.mem_map.mp hq
    exact .inr ⟨s, hs, r, hr, e.symm⟩
theorem wy_pt : ∀ (k i j c : Nat) (q : Wy), q ∈ h.wy k i j c → Pt h i j c q.1 q.2.1 q.2.2.1 q.2.2.2
  | 0, i, j, c, q, hq => by cases hq
  | k + 1, i, j, c, q, hq => by
    rcases wy_mem hq with rfl | ⟨s, hs, r, hr, rfl⟩
    · exact .nil
    · exact .cons hs (wy_pt k _ _ _ r hr)
theorem wy_in : ∀ (k i j c : Nat) (q : Wy), q ∈ h.wy k i j c → i ≤ h.f → j ≤ h.g → q.2.1 ≤ h.f ∧ q.2.2.1 ≤ h.g ∧ q.1.length ≤ k
  | 0, i, j, c, q, hq, _, _ => by cases hq
  | k + 1, i, j, c, q, hq, hi, hj => by
    rcases wy_mem hq with rfl | ⟨s, hs, r, hr, rfl⟩
    · exact ⟨hi, hj, Nat.zero_le _⟩
    · obtain ⟨_, z2, _, z4, _⟩ := step_le hi hj hs
      obtain ⟨h1, h2, h3⟩ := wy_in k _ _ _ r hr z2 z4
      exact ⟨h1, h2, by show r.1.length + 1 ≤ k + 1; omega⟩
theorem wy_len : ∀ (k i j c : Nat), (h.wy k i j c).length ≤ 4 ^ k
  | 0, i, j, c => by simp [Sh.wy]
  | k + 1, i, j, c => by
    have key : ∀ l : List Stp, (l.flatMap fun s => (h.wy k s.d s.a s.c).map (pre s)).length ≤ l.length * 4 ^ k := fun l => by
      induction l with
      | nil => simp
      | cons s l ih =>
        rw [List.flatMap_cons, List.length_append, List.length_map, List.length_cons, Nat.succ_mul]
        have := wy_len k s.d s.a s.c
        omega
    have h1 := key (h.steps i j c)
    have h2 : (h.steps i j c).length * 4 ^ k ≤ 3 * 4 ^ k := Nat.mul_le_mul_right _ steps_len
    have h3 : 1 ≤ 4 ^ k := Nat.pow_pos (by decide)
    have h4 : 4 ^ (k + 1) = 4 * 4 ^ k := by rw [Nat.pow_succ, Nat.mul_comm]
    show ((h.steps i j c).flatMap _).length + 1 ≤ _
    omega
/-! ### the least of them, and how many -/
def mrg (p q : Pr) : Pr := if q.1 < p.1 then q else if q.1 = p.1 then (p.1, p.2 + q.2) else p
theorem bstp_mrg (p q : Pr) : bstp (some p) q = some (mrg p q) := by
  unfold bstp mrg
  by_cases h1 : q.1 < p.1
  · simp [h1]
  · by_cases h2 : q.1 = p.1
    · simp [h1, h2]
    · simp [h1, h2]
theorem mrg_eq (p q : Pr) : mrg p q = (if q.1 < p.1 then q.1 else p.1, (if q.1 < p.1 then 0 else p.2) + if p.1 < q.1 then 0 else q.2) := by
  obtain ⟨a, b⟩ := p
  obtain ⟨c, d⟩ := q
  unfold mrg
  dsimp only
  by_cases h1 : c < a
  · have : ¬ a < c := by omega
    simp [h1, this]
  · by_cases h2 : c = a
    · simp [h2]
    · have : a < c := by omega
      simp [h1, h2, this]
theorem mrg_assoc (p q r : Pr) : mrg (mrg p q) r = mrg p (mrg q r) := by
  simp only [mrg_eq]
  refine Prod.ext ?_ ?_ <;> dsimp only <;> (repeat' split) <;> omega
theorem bfold_start : ∀ (l : List Pr) (o : Option Pr) (a p : Pr), bfold (some a) l = some p → bfold (bstp o a) l = bstp o p
  | [], o, a, p, e => by
    have e : some a = some p := e
    cases e
    rfl
  | q :: l, o, a, p, e => by
    have e : bfold (bstp (some a) q) l = some p := e
    rw [bstp_mrg] at e
    show bfold (bstp (bstp o a) q) l = _
    have h1 : bstp (bstp o a) q = bstp o (mrg a q) := by
      cases o with
      | none => rw [show bstp none a = some a from rfl, bstp_mrg]; rfl
      | some r => rw [bstp_mrg, bstp_mrg, bstp_mrg, mrg_assoc]
    rw [h1]
    exact bfold_start l o (mrg a q) p e
theorem bfold_in {l : List Pr} {o : Option Pr} {p : Pr} (e : bfold none l = some p) : bfold o l = bstp o p := by
  cases l with
  | nil => cases e
  | cons a l => exact bfold_start l o a p e
def shp (x : Int) (q : Pr) : Pr := (x + q.1, q.2)
theorem bfold_shift (x : Int) : ∀ (l : List Pr) (o : Option Pr), bfold (o.map (shp x)) (l.map (shp x)) = (bfold o l).map (shp x)
  | [], o => rfl
  | q :: l, o => by
    show bfold (bstp (o.map (shp x)) (shp x q)) (l.map (shp x)) = (bfold (bstp o q) l).map (shp x)
    have : bstp (o.map (shp x)) (shp x q) = (bstp o q).map (shp x) := by
      cases o with
      | none => rfl
      | some p =>
        obtain ⟨a, b⟩ := p
        obtain ⟨c, d⟩ := q
        unfold bstp shp
        by_cases h1 : c < a
        · simp [h1]
        · by_cases h2 : c = a
          · simp [h2]
          · have h3 : ¬ x + c < x + a := by omega
            have h4 : ¬ x + c = x + a := by omega
            simp [h1, h2]
    rw [this]
    exact bfold_shift x l (bstp o q)
def co (q : Wy) : Pr := (q.2.2.2, 1)
def Sh.wl (h : Sh) (k i j c : Nat) : List Wy := (h.wy k i j c).filter fun q => h.en q.2.1 q.2.2.1
theorem wl_succ (k i j c : Nat) : h.wl (k + 1) i j c = (if h.en i j then [([], i, j, 0)] else []) ++ (h.steps i j c).flatMap fun s => (h.wl k s.d s.a s.c).map (pre s) := by
  have key : ∀ l : List Stp, (l.flatMap fun s => (h.wy k s.d s.a s.c).map (pre s)).filter (fun q => h.en q.2.1 q.2.2.1) = l.flatMap fun s => (h.wl k s.d s.a s.c).map (pre s) := fun l => by
    induction l with
    | nil => rfl
    | cons s l ih =>
      rw [List.flatMap_cons, List.flatMap_cons, List.filter_append, ih, List.filter_map]
      rfl
  unfold Sh.wl at key ⊢
  show List.filter _ (([], i, j, (0 : Int)) :: _) = _
  rw [List.filter_cons, key]
  cases h.en i j <;> rfl
theorem wl_T : ∀ (k i j c : Nat), i ≤ h.f → j ≤ h.g → h.f + h.g < i + j + k → bfold none ((h.wl k i j c).map co) = some (h.T i j c)
  | 0, i, j, c, hi, hj, hk => by omega
  | k + 1, i, j, c, hi, hj, hk => by
    have key : ∀ (l : List Stp) (o : Option Pr), (∀ s ∈ l, s ∈ h.steps i j c) → bfold o ((l.flatMap fun s => (h.wl k s.d s.a s.c).map (pre s)).map co) = bfold o (l.map fun s => (s.x + (h.T s.d s.a s.c).1, (h.T s.d s.a s.c).2)) := fun l => by
      induction l with
      | nil => intro o _; rfl
      | cons s l ih =>
        intro o hl
        obtain ⟨_, z2, _, z4, _, z6⟩ := step_le hi hj (hl s List.mem_cons_self)
        have e1 := wl_T k s.d s.a s.c z2 z4 (by omega)
        have e2 := bfold_shift s.x ((h.wl k s.d s.a s.c).map co) none
        rw [e1] at e2
        have e3 : ((h.wl k s.d s.a s.c).map (pre s)).map co = ((h.wl k s.d s.a s.c).map co).map (shp s.x) := by
          rw [List.map_map, List.map_map]; rfl
        rw [List.flatMap_cons, List.map_append]
        unfold bfold at *
        rw [List.foldl_append]
        have e4 := bfold_in (o := o) (show bfold none _ = _ from e2)
        unfold bfold at e4
        rw [e3, e4]
        exact ih _ fun z hz => hl z (List.mem_cons_of_mem _ hz)
    have eT := T_rec (h := h) (c := c) hi hj
    rw [wl_succ, List.map_append]
    have e5 : bfold none ((if h.en i j then [(([], i, j, 0) : Wy)] else []).map co ++ ((h.steps i j c).flatMap fun s => (h.wl k s.d s.a s.c).map (pre s)).map co) = bfold (h.en0 i j) (((h.steps i j c).flatMap fun s => (h.wl k s.d s.a s.c).map (pre s)).map co) := by
      unfold Sh.en0
      cases h.en i j <;> rfl
    rw [e5, key _ _ fun s hs => hs]
    exact eT
theorem cnt_len (l : List Wy) (x : Int) : cnt (l.map co) x = ((l.filter fun q => decide (q.2.2.2 = x)).length : Int) := by
  induction l with
  | nil => rfl
  | cons q l ih =>
    rw [List.map_cons, cnt_cons, ih, List.filter_cons]
    by_cases hq : q.2.2.2 = x
    · have : (co q).1 = x := hq
      rw [if_pos this, if_pos (by simpa using hq), List.length_cons]
      show (1 : Int) + _ = _
      omega
    · have : ¬ (co q).1 = x := hq
      rw [if_neg this, if_neg (by simpa using hq)]
      omega
theorem wl_cnt {k i j c : Nat} (hi : i ≤ h.f) (hj : j ≤ h.g) (hk : h.f + h.g < i + j + k) : (((h.wl k i j c).filter fun q => decide (q.2.2.2 = (h.T i j c).1)).length : Int) = (h.T i j c).2 := by
  have := bfold_cnt _ _ _ (wl_T (h := h) k i j c hi hj hk)
  rw [← cnt_len, this]
  show _ = (0 : Int) + _
  omega
theorem wl_le {k i j c : Nat} (hi : i ≤ h.f) (hj : j ≤ h.g) (hk : h.f + h.g < i + j + k) {q : Wy} (hq : q ∈ h.wl k i j c) : (h.T i j c).1 ≤ q.2.2.2 :=
  (bfold_is _ _ _ (wl_T (h := h) k i j c hi hj hk)).1 (co q) (List.mem_map.mpr ⟨q, hq, rfl⟩)
theorem wl_att {k i j c : Nat} (hi : i ≤ h.f) (hj : j ≤ h.g) (hk : h.f + h.g < i + j + k) : ∃ q ∈ h.wl k i j c, q.2.2.2 = (h.T i j c).1 := by
  rcases (bfold_is _ _ _ (wl_T (h := h) k i j c hi hj hk)).2.2 with ⟨p, hp, e⟩ | ⟨p, hp, _⟩
  · obtain ⟨q, hq, rfl⟩ := List.mem_map.mp hp
    exact ⟨q, hq, e⟩
  · cases hp
/-- the first of them -/
theorem wl_first {i j c : Nat} {ms : List Nat} (m : Mv h i j c ms) : ∀ k, i ≤ h.f → j ≤ h.g → h.f + h.g < i + j + k → ∃ q r, (h.wl k i j c).filter (fun q => decide (q.2.2.2 = (h.T i j c).1)) = q :: r ∧ q.1 = ms := by
  induction m with
  | @fin i j c he h0 =>
    intro k hi hj hk
    cases k with
    | zero => omega
    | succ k =>
      rw [wl_succ, he, h0]
      exact ⟨_, _, rfl, rfl⟩
  | @go i j c s ms l r hn hsp hl hs _ ih =>
    intro k hi hj hk
    cases k with
    | zero => omega
    | succ k =>
      have hm : s ∈ h.steps i j c := by rw [hsp]; simp
      obtain ⟨_, z2, _, z4, _, z6⟩ := step_le hi hj hm
      obtain ⟨q, r', e1, e2⟩ := ih k z2 z4 (by omega)
      have h0 : (if h.en i j then [(([], i, j, 0) : Wy)] else []).filter (fun q => decide (q.2.2.2 = (h.T i j c).1)) = [] := by
        cases he : h.en i j with
        | false => rfl
        | true =>
          have : ¬ (0 : Int) = (h.T i j c).1 := fun z => hn ⟨he, z.symm⟩
          simp [this]
      have hpre : ∀ l' : List Stp, (∀ z ∈ l', z ∈ l) → (l'.flatMap fun s => (h.wl k s.d s.a s.c).map (pre s)).filter (fun q => decide (q.2.2.2 = (h.T i j c).1)) = [] := fun l' hl' => by
        rw [List.filter_eq_nil_iff]
        intro q hq
        obtain ⟨z, hz, hq⟩ := List.mem_flatMap.mp hq
        obtain ⟨w, hw, rfl⟩ := List.mem_map.mp hq
        have hz' := hl' z hz
        have hzs : z ∈ h.steps i j c := by rw [hsp]; exact List.mem_append_left _ hz'
        obtain ⟨_, y2, _, y4, _, y6⟩ := step_le hi hj hzs
        have k1 := T_step (h := h) hi hj hzs
        have k2 := hl z hz'
        have k3 := wl_le (h := h) (k := k) y2 y4 (by omega) hw
        show ¬ decide (z.x + w.2.2.2 = _) = true
        rw [decide_eq_true_eq]
        omega
      have hs2 : ((h.wl k s.d s.a s.c).map (pre s)).filter (fun q => decide (q.2.2.2 = (h.T i j c).1)) = ((h.wl k s.d s.a s.c).filter fun q => decide (q.2.2.2 = (h.T s.d s.a s.c).1)).map (pre s) := by
        rw [List.filter_map]
        congr 1
        refine List.filter_congr fun w _ => ?_
        show decide (s.x + w.2.2.2 = _) = _
        rw [← hs]
        by_cases hw : w.2.2.2 = (h.T s.d s.a s.c).1
        · simp [hw]
        · have : ¬ s.x + w.2.2.2 = s.x + (h.T s.d s.a s.c).1 := by omega
          simp [hw, this]
      rw [wl_succ, List.filter_append, h0, List.nil_append, hsp, List.flatMap_append, List.filter_append, hpre l fun z hz => hz, List.nil_append, List.flatMap_cons, List.filter_append, hs2, e1]
      exact ⟨_, _, rfl, by show s.k :: q.1 = _; rw [e2]⟩
/-! ### their order -/
def mpc (c : Nat) : Nat := if c = 112 then 48 else if c = 97 then 49 else if c = 98 then 50 else c
def mp (w : List Nat) : List Nat := w.map mpc
theorem wy_order : ∀ (k i j c : Nat), (h.wy k i j c).Pairwise fun x y => mp x.1 < mp y.1
  | 0, i, j, c => List.Pairwise.nil
  | k + 1, i, j, c => by
    have cons_lt : ∀ (a : Nat) (x y : List Nat), mp x < mp y → mp (a :: x) < mp (a :: y) := fun a x y hxy => by
      show mpc a :: mp x < mpc a :: mp y
      exact List.cons_lt_cons_iff.mpr (.inr ⟨rfl, hxy⟩)
    have head_lt : ∀ (a b : Nat) (x y : List Nat), mpc a < mpc b → mp (a :: x) < mp (b :: y) := fun a b x y hxy => by
      show mpc a :: mp x < mpc b :: mp y
      exact List.cons_lt_cons_iff.mpr (.inl hxy)
    have in_ : ∀ s : Stp, ((h.wy k s.d s.a s.c).map (pre s)).Pairwise fun x y => mp x.1 < mp y.1 := fun s => by
      rw [List.pairwise_map]
      exact (wy_order k s.d s.a s.c).imp fun hxy => cons_lt s.k _ _ hxy
    have st : (h.steps i j c).Pairwise fun s t => mpc s.k < mpc t.k := by
      unfold Sh.steps Sh.sp Sh.sa Sh.sb
      split <;> split <;> split <;> simp [mpc]
    show List.Pairwise _ (([], i, j, (0 : Int)) :: _)
    refine List.pairwise_cons.mpr ⟨fun q hq => ?_, List.pairwise_flatMap.mpr ⟨fun s _ => in_ s, st.imp fun {s t} hst x hx y hy => ?_⟩⟩
    · obtain ⟨s, _, hq⟩ := List.mem_flatMap.mp hq
      obtain ⟨w, _, rfl⟩ := List.mem_map.mp hq
      show ([] : List Nat) < mpc s.k :: mp w.1
      exact List.nil_lt_cons _ _
    · obtain ⟨x', _, rfl⟩ := List.mem_map.mp hx
      obtain ⟨y', _, rfl⟩ := List.mem_map.mp hy
      exact head_lt _ _ _ _ hst
theorem wy_codes : ∀ (k i j c : Nat) (q : Wy), q ∈ h.wy k i j c → ∀ a ∈ q.1, a = 112 ∨ a = 97 ∨ a = 98
  | 0, i, j, c, q, hq => by cases hq
  | k + 1, i, j, c, q, hq => by
    rcases wy_mem hq with rfl | ⟨s, hs, r, hr, rfl⟩
    · intro a ha; cases ha
    · intro a ha
      rcases List.mem_cons.mp (show a ∈ s.k :: r.1 from ha) with rfl | ha
      · unfold Sh.steps Sh.sp Sh.sa Sh.sb at hs
        rw [List.mem_append, List.mem_append] at hs
        rcases hs with (hs | hs) | hs <;> split at hs <;> first | (simp only [List.mem_singleton] at hs; subst hs; simp) | cases hs
      · exact wy_codes k _ _ _ r hr a ha
end
end K22

namespace K22
open PySem L2 PyProof.Rows GW
variable {cs : Nat → Addr}
/-! ### all ways, told -/
def wyD (w : List Nat) (q : Wy) : D := .tup [.str (tx (w ++ q.1)), .int (q.2.1 : Int), .int (q.2.2.1 : Int)]
theorem wyD_pre (w : List Nat) (s : Stp) (q : Wy) : wyD w (pre s q) = wyD (w ++ [s.k]) q := by
  unfold wyD pre
  simp
section
variable {h : Sh}
def Sh.yp (h : Sh) (k i j : Nat) (w : List Nat) : List GW.D := if i < h.f ∧ j < h.g then (h.wy k (i + 1) (j + 1) 0).map (wyD (w ++ [112])) else []
def Sh.ya (h : Sh) (k i j : Nat) (w : List Nat) : List GW.D := if i < h.f then (h.wy k (i + 1) j 1).map (wyD (w ++ [97])) else []
def Sh.yb (h : Sh) (k i j : Nat) (w : List Nat) : List GW.D := if j < h.g then (h.wy k i (j + 1) 2).map (wyD (w ++ [98])) else []
theorem wyD_succ (k i j c : Nat) (w : List Nat) : (h.wy (k + 1) i j c).map (wyD w) = [.tup [.str (tx w), .int (i : Int), .int (j : Int)]] ++ h.yp k i j w ++ h.ya k i j w ++ h.yb k i j w := by
  have e : ∀ s : Stp, ((h.wy k s.d s.a s.c).map (pre s)).map (wyD w) = (h.wy k s.d s.a s.c).map (wyD (w ++ [s.k])) := fun s => by
    rw [List.map_map]
    exact List.map_congr_left fun q _ => wyD_pre w s q
  show wyD w ([], i, j, 0) :: ((h.steps i j c).flatMap fun s => (h.wy k s.d s.a s.c).map (pre s)).map (wyD w) = _
  rw [List.map_flatMap]
  simp only [e]
  unfold Sh.steps Sh.sp Sh.sa Sh.sb Sh.yp Sh.ya Sh.yb
  have e0 : wyD w ([], i, j, 0) = .tup [.str (tx w), .int (i : Int), .int (j : Int)] := by unfold wyD; simp
  rw [e0, List.flatMap_append, List.flatMap_append]
  by_cases h1 : i < h.f <;> by_cases h2 : j < h.g <;> simp [h1, h2]
theorem y_len {k : Nat} (hk : k ≤ 8) (i j : Nat) (w : List Nat) : (h.yp k i j w).length ≤ 65536 ∧ (h.ya k i j w).length ≤ 65536 ∧ (h.yb k i j w).length ≤ 65536 := by
  have p8 : 4 ^ k ≤ 65536 := by
    have : (4 : Nat) ^ k ≤ 4 ^ 8 := Nat.pow_le_pow_right (by decide) hk
    have e : (4 : Nat) ^ 8 = 65536 := by decide
    omega
  unfold Sh.yp Sh.ya Sh.yb
  have a := wy_len (h := h) k (i + 1) (j + 1) 0
  have b := wy_len (h := h) k (i + 1) j 1
  have c := wy_len (h := h) k i (j + 1) 2
  refine ⟨?_, ?_, ?_⟩
  · split <;> simp <;> omega
  · split <;> simp <;> omega
  · split <;> simp <;> omega
theorem ways_eval (hf : h.f ≤ 100) (hg : h.g ≤ 100) : ∀ (k i j c : Nat) (w : List Nat), k ≤ 8 → i ≤ h.f → j ≤ h.g → h.f + h.g < i + j + k → w.length + k ≤ 200 → f__law_ways cs k [.str (tx h.F), .str (tx h.G), .int (i : Int), .int (j : Int), .str (tx w)] = some (.ok (.lst ((h.wy k i j c).map (wyD w))))
  | 0, i, j, c, w, hk8, hi, hj, hk, hw => by omega
  | k + 1, i, j, c, w, hk8, hi, hj, hk, hw => by
    have ih := ways_eval hf hg k
    have hF16 : h.F.length ≤ 16777216 := by show h.f ≤ _; omega
    have hG16 : h.G.length ≤ 16777216 := by show h.g ≤ _; omega
    have lF := ov_lenS hF16
    have lG := ov_lenS hG16
    have aS : ∀ x : Nat, oAdd (.str (tx w)) (.str (tx [x])) = some (.str (tx (w ++ [x]))) := fun x => ov_addS (by simp; omega)
    obtain ⟨l1, l2, l3⟩ := y_len (h := h) (k := k) (by omega) i j w
    let st : List D → DS := fun l => [some (.str (tx h.F)), some (.str (tx h.G)), some (.int (i : Int)), some (.int (j : Int)), some (.str (tx w)), some (.lst l)]
    have c1 : ∀ a b : Nat, (decide ((a : Int) < (b : Int)) : Bool) = decide (a < b) := fun a b => by
      rw [Bool.eq_iff_iff]; simp only [decide_eq_true_eq]; omega
    have e2 : ∀ l : List D, l.length ≤ 1 → sIf (mAnd (mTest (m2 (mVar 2) (mCB (mCons (mVar 0) (ret (some []))) oLen) oLt)) (mTest (m2 (mVar 3) (mCB (mCons (mVar 1) (ret (some []))) oLen) oLt))) (sExt 5 (mPN 5) (mCall (pureF (f__law_ways cs k)) (mCons (mVar 0) (mCons (mVar 1) (mCons (m2 (mVar 2) (mC (.int 1)) oAdd) (mCons (m2 (mVar 3) (mC (.int 1)) oAdd) (mCons (m2 (mVar 4) (mC (.str "p")) oAdd) (ret (some []))))))))) sNx 0 (st l) = some (.nx, 0, st (l ++ h.yp k i j w)) := fun l hl => by
      unfold Sh.yp at l1 ⊢
      by_cases hc : i < h.f ∧ j < h.g
      · rw [if_pos hc] at l1 ⊢
        have d1 : i < h.F.length := hc.1
        have d2 : j < h.G.length := hc.2
        have q := ih (i + 1) (j + 1) 0 (w ++ [112]) (by omega) hc.1 hc.2 (by omega) (by simp; omega)
        have i1 : ((i + 1 : Nat) : Int) = (i : Int) + 1 := by omega
        have j1 : ((j + 1 : Nat) : Int) = (j : Int) + 1 := by omega
        rw [i1, j1] at q
        refine if_t (n1 := 0) (by simp only [st]; simp [lF, lG, c1, d1, d2]) ((ext_of (as := l) (bs := (h.wy k (i + 1) (j + 1) 0).map (wyD (w ++ [112]))) (n1 := 0) rfl ?_ (by omega)).trans rfl)
        simp only [st]
        simp [sp_k, aS, q]
      · rw [if_neg hc, List.append_nil]
        refine if_f (n1 := 0) ?_ rfl
        simp only [st]
        by_cases d1 : i < h.F.length
        · have d2 : ¬ j < h.G.length := fun z => hc ⟨d1, z⟩
          simp [lF, lG, c1, d1, d2]
        · simp [lF, c1, d1]
    have e3 : ∀ l : List D, l.length ≤ 70000 → sIf (mTest (m2 (mVar 2) (mCB (mCons (mVar 0) (ret (some []))) oLen) oLt)) (sExt 5 (mPN 5) (mCall (pureF (f__law_ways cs k)) (mCons (mVar 0) (mCons (mVar 1) (mCons (m2 (mVar 2) (mC (.int 1)) oAdd) (mCons (mVar 3) (mCons (m2 (mVar 4) (mC (.str "a")) oAdd) (ret (some []))))))))) sNx 0 (st l) = some (.nx, 0, st (l ++ h.ya k i j w)) := fun l hl => by
      unfold Sh.ya at l2 ⊢
      by_cases hc : i < h.f
      · rw [if_pos hc] at l2 ⊢
        have d1 : i < h.F.length := hc
        have q := ih (i + 1) j 1 (w ++ [97]) (by omega) hc hj (by omega) (by simp; omega)
        have i1 : ((i + 1 : Nat) : Int) = (i : Int) + 1 := by omega
        rw [i1] at q
        refine if_t (n1 := 0) (by simp only [st]; simp [lF, c1, d1]) ((ext_of (as := l) (bs := (h.wy k (i + 1) j 1).map (wyD (w ++ [97]))) (n1 := 0) rfl ?_ (by omega)).trans rfl)
        simp only [st]
        simp [sa_k, aS, q]
      · rw [if_neg hc, List.append_nil]
        refine if_f (n1 := 0) ?_ rfl
        simp only [st]
        have d1 : ¬ i < h.F.length := hc
        simp [lF, c1, d1]
    have e4 : ∀ l : List D, l.length ≤ 140000 → sIf (mTest (m2 (mVar 3) (mCB (mCons (mVar 1) (ret (some []))) oLen) oLt)) (sExt 5 (mPN 5) (mCall (pureF (f__law_ways cs k)) (mCons (mVar 0) (mCons (mVar 1) (mCons (mVar 2) (mCons (m2 (mVar 3) (mC (.int 1)) oAdd) (mCons (m2 (mVar 4) (mC (.str "b")) oAdd) (ret (some []))))))))) sNx 0 (st l) = some (.nx, 0, st (l ++ h.yb k i j w)) := fun l hl => by
      unfold Sh.yb at l3 ⊢
      by_cases hc : j < h.g
      · rw [if_pos hc] at l3 ⊢
        have d1 : j < h.G.length := hc
        have q := ih i (j + 1) 2 (w ++ [98]) (by omega) hi hc (by omega) (by simp; omega)
        have j1 : ((j + 1 : Nat) : Int) = (j : Int) + 1 := by omega
        rw [j1] at q
        refine if_t (n1 := 0) (by simp only [st]; simp [lG, c1, d1]) ((ext_of (as := l) (bs := (h.wy k i (j + 1) 2).map (wyD (w ++ [98]))) (n1 := 0) rfl ?_ (by omega)).trans rfl)
        simp only [st]
        simp [sb_k, aS, q]
      · rw [if_neg hc, List.append_nil]
        refine if_f (n1 := 0) ?_ rfl
        simp only [st]
        have d1 : ¬ j < h.G.length := hc
        simp [lG, c1, d1]
    rw [wyD_succ]
    show fn0 6 (m__law_ways cs (f__law_ways cs k)) _ = _
    apply fn0_of
    have e : m__law_ways cs (f__law_ways cs k) 0 (startD 6 [.str (tx h.F), .str (tx h.G), .int (i : Int), .int (j : Int), .str (tx w)]) = some (.rt (.lst ([.tup [.str (tx w), .int (i : Int), .int (j : Int)]] ++ h.yp k i j w ++ h.ya k i j w ++ h.yb k i j w)), 0, st ([.tup [.str (tx w), .int (i : Int), .int (j : Int)]] ++ h.yp k i j w ++ h.ya k i j w ++ h.yb k i j w)) := by
      unfold m__law_ways
      refine seq_nx (n1 := 0) (ds1 := st [.tup [.str (tx w), .int (i : Int), .int (j : Int)]]) (by simp [startD, st]) (seq_nx (e2 _ (by simp)) (seq_nx (e3 _ (by simp; omega)) (seq_nx (e4 _ (by simp; omega)) ?_)))
      simp [st]
    rw [e]; rfl
end
/-! ### the key -/
theorem repl_tx (a b : Nat) (l : List Nat) : Txt.replace (tx l) (tx [a]) (tx [b]) = tx (l.map fun c => if c = a then b else c) := by
  have h1 : ∀ l : List Nat, StrLaws.replL [a] [b] l = l.map fun c => if c = a then b else c := fun l => by
    induction l with
    | nil => exact StrLaws.replL_nil
    | cons c r ih =>
      by_cases hc : c = a
      · rw [StrLaws.replL_hit (by simp) (by simp [hc])]
        simp [hc, ih]
      · rw [StrLaws.replL_miss (by simp [hc]), ih]
        simp [hc]
  refine PySem.W.str_of_cps ?_
  rw [StrLaws.replace_list (show 1 ≤ (tx [a]).length from Nat.le_refl 1)]
  show StrLaws.replL [a] [b] l.toArray.toList = _
  rw [h1]
theorem k48 : Str.ofString "0" = tx [48] := by decide +kernel
theorem k49 : Str.ofString "1" = tx [49] := by decide +kernel
theorem k50 : Str.ofString "2" = tx [50] := by decide +kernel
def keyD (p : Nat × Nat) (w : List Nat) : D := .tup [plD p, .str (tx (mp w))]
theorem repl_of {l : List Nat} {a b : Nat} (hl : l.length ≤ 1000) : oRepl (tx [a]) (tx [b]) (.str (tx l)) = some (.str (tx (l.map fun c => if c = a then b else c))) := by
  unfold oRepl
  simp only
  rw [if_pos, repl_tx]
  have e1 : (tx l).length = l.length := by simp [Str.length]
  have e2 : (tx [b]).length = 1 := rfl
  rw [e1, e2]
  omega
theorem key_eval (p : Nat × Nat) (w : List Nat) (hw : w.length ≤ 1000) : f__law_key cs [plD p, .str (tx w)] = some (.ok (keyD p w)) := by
  have r1 : oRepl "p" "0" (.str (tx w)) = some (.str (tx (w.map fun c => if c = 112 then 48 else c))) := by
    rw [sp_k, k48]; exact repl_of hw
  have r2 : oRepl "a" "1" (.str (tx (w.map fun c => if c = 112 then 48 else c))) = some (.str (tx ((w.map fun c => if c = 112 then 48 else c).map fun c => if c = 97 then 49 else c))) := by
    rw [sa_k, k49]; exact repl_of (by simp; exact hw)
  have r3 : oRepl "b" "2" (.str (tx ((w.map fun c => if c = 112 then 48 else c).map fun c => if c = 97 then 49 else c))) = some (.str (tx (mp w))) := by
    rw [sb_k, k50, repl_of (by simp; exact hw)]
    congr 3
    unfold mp
    rw [List.map_map, List.map_map]
    refine List.map_congr_left fun c _ => ?_
    show (if (if (if c = 112 then 48 else c) = 97 then 49 else if c = 112 then 48 else c) = 98 then 50 else if (if c = 112 then 48 else c) = 97 then 49 else if c = 112 then 48 else c) = mpc c
    unfold mpc
    by_cases h1 : c = 112
    · simp [h1]
    · by_cases h2 : c = 97
      · simp [h2]
      · by_cases h3 : c = 98 <;> simp [h1, h2, h3]
  unfold f__law_key m__law_key keyD
  apply fn0_of
  generalize hl1 : (w.map fun c => if c = 112 then 48 else c) = l1 at *
  generalize hl2 : (l1.map fun c => if c = 97 then 49 else c) = l2 at *
  simp [startD, r1, r2, r3]
theorem pp_key (p : Nat × Nat) (w : List Nat) : toP (keyD p w) = some (.tuple [.tuple [.int p.1, .int p.2], .str (tx (mp w))]) := rfl
def kLt (x y : (Nat × Nat) × List Nat) : Prop := x.1.1 < y.1.1 ∨ (x.1.1 = y.1.1 ∧ (x.1.2 < y.1.2 ∨ (x.1.2 = y.1.2 ∧ mp x.2 < mp y.2)))
theorem kLt_asymm {x y : (Nat × Nat) × List Nat} (h : kLt x y) : ¬ kLt y x := by
  unfold kLt at *
  intro h2
  rcases h with h | ⟨e, h | ⟨e2, h⟩⟩ <;> rcases h2 with h2 | ⟨e3, h2 | ⟨e4, h2⟩⟩ <;> first | omega | exact List.lt_asymm h h2
theorem kLt_irrefl (x : (Nat × Nat) × List Nat) : ¬ kLt x x := fun h => kLt_asymm h h
theorem key_lt {p q : Nat × Nat} {v w : List Nat} (h : ¬ kLt (p, v) (q, w)) : oLtQ (keyD p v) (keyD q w) = some (.bl false) := by
  have key : PySem.W.dataLt (.tuple [.tuple [.int p.1, .int p.2], .str (tx (mp v))]) (.tuple [.tuple [.int q.1, .int q.2], .str (tx (mp w))]) = false := by
    rw [PySem.W.dataLt_pair (by simp [PySem.W.alike, PySem.W.alikeAll]) (by simp [PySem.W.alike]), PySem.W.dataLt_ii, PySem.W.dataLt_str]
    have e1 : PyData.eqv (.tuple [.int p.1, .int p.2]) (.tuple [.int q.1, .int q.2]) = (((p.1 : Int) == q.1) && (((p.2 : Int) == q.2) && true)) := rfl
    have e2 : PyData.eqv (.str (tx (mp v))) (.str (tx (mp w))) = (tx (mp v) == tx (mp w)) := rfl
    rw [e1, e2]
    unfold kLt at h
    simp only at h
    by_cases h1 : p.1 = q.1
    · by_cases h2 : p.2 = q.2
      · have h3 : ¬ mp v < mp w := fun z => h (.inr ⟨h1, .inr ⟨h2, z⟩⟩)
        simp [h1, h2, h3]
      · have h3 : ¬ p.2 < q.2 := fun z => h (.inr ⟨h1, .inl z⟩)
        have h4 : ¬ (p.2 : Int) = (q.2 : Int) := by omega
        have h5 : ¬ (p.2 : Int) < (q.2 : Int) := by omega
        simp [h1, h4, h5]
    · have h3 : ¬ p.1 < q.1 := fun z => h (.inl z)
      have h4 : ¬ (p.1 : Int) = (q.1 : Int) := by omega
      have h5 : ¬ (p.1 : Int) < (q.1 : Int) := by omega
      simp [h4, h5]
  unfold oLtQ
  rw [pp_key, pp_key]
  simp only [key]
  rfl
end K22

namespace K22
open PySem L2 PyProof.Rows GW
variable {cs : Nat → Addr}
/-! ### all layings of the manner -/
abbrev Fd := Int × (Nat × Nat) × List Nat
def toF (p : Nat × Nat) (q : Wy) : Fd := (q.2.2.2, p, q.1)
def fdD (x : Fd) : D := .tup [.int x.1, plD x.2.1, .str (tx x.2.2)]
def Sh.fR (h : Sh) (p : Nat × Nat) : List Fd := (h.wl 8 p.1 p.2 0).map (toF p)
def Sh.fJ (h : Sh) (i n : Nat) : List Fd := (List.range n).flatMap fun j => if h.bg i j then h.fR (i, j) else []
def Sh.fI (h : Sh) (n : Nat) : List Fd := (List.range n).flatMap fun i => h.fJ i (h.g + 1)
def Sh.fnd (h : Sh) : List Fd := h.bgs.flatMap h.fR
section
variable {h : Sh}
theorem fJ_succ (i n : Nat) : h.fJ i (n + 1) = h.fJ i n ++ if h.bg i n then h.fR (i, n) else [] := by
  unfold Sh.fJ
  rw [List.range_succ, List.flatMap_append]
  simp
theorem fI_succ (n : Nat) : h.fI (n + 1) = h.fI n ++ h.fJ n (h.g + 1) := by
  unfold Sh.fI
  rw [List.range_succ, List.flatMap_append]
  simp
theorem fI_fnd : h.fI (h.f + 1) = h.fnd := by
  unfold Sh.fI Sh.fnd Sh.bgs
  rw [List.flatMap_assoc]
  congr 1
  funext i
  unfold Sh.fJ Sh.bgR
  generalize List.range (h.g + 1) = l
  induction l with
  | nil => rfl
  | cons j l ih =>
    rw [List.flatMap_cons, ih, List.filter_cons]
    cases h.bg i j <;> simp
theorem fR_len (p : Nat × Nat) : (h.fR p).length ≤ 65536 := by
  unfold Sh.fR Sh.wl
  rw [List.length_map]
  refine Nat.le_trans (List.length_filter_le _ _) ?_
  have := wy_len (h := h) 8 p.1 p.2 0
  have e : (4 : Nat) ^ 8 = 65536 := by decide
  omega
theorem fJ_len (i : Nat) : ∀ n, (h.fJ i n).length ≤ 65536 * n
  | 0 => by simp [Sh.fJ]
  | n + 1 => by
    rw [fJ_succ, List.length_append]
    have := fJ_len i n
    have := fR_len (h := h) (i, n)
    split
    · omega
    · simp; omega
theorem fI_len : ∀ n, (h.fI n).length ≤ 65536 * (h.g + 1) * n
  | 0 => by simp [Sh.fI]
  | n + 1 => by
    rw [fI_succ, List.length_append]
    have := fI_len n
    have := fJ_len (h := h) n (h.g + 1)
    rw [Nat.mul_succ]
    omega
theorem fR_mem {p : Nat × Nat} {x : Fd} (hx : x ∈ h.fR p) : x.2.1 = p ∧ ∃ q ∈ h.wl 8 p.1 p.2 0, x = toF p q := by
  obtain ⟨q, hq, rfl⟩ := List.mem_map.mp hx
  exact ⟨rfl, q, hq, rfl⟩
theorem wl_sub {k i j c : Nat} {q : Wy} (hq : q ∈ h.wl k i j c) : q ∈ h.wy k i j c := (List.mem_filter.mp hq).1
theorem fnd_mem {x : Fd} (hx : x ∈ h.fnd) : x.2.2.length ≤ 8 ∧ ∃ p ∈ h.bgs, x.2.1 = p ∧ ∃ q ∈ h.wl 8 p.1 p.2 0, x = toF p q := by
  obtain ⟨p, hp, hx⟩ := List.mem_flatMap.mp hx
  obtain ⟨e, q, hq, e2⟩ := fR_mem hx
  obtain ⟨z1, z2, _⟩ := bgs_mem.mp hp
  refine ⟨?_, p, hp, e, q, hq, e2⟩
  rw [e2]
  exact (wy_in 8 _ _ _ q (wl_sub hq) z1 z2).2.2
/-- the least of them -/
theorem fnd_least (h6 : h.f + h.g < 8) {v : Int} (hv : minL h.ts = some v) : minL (h.fnd.map (·.1)) = some v := by
  obtain ⟨h1, h2⟩ := minL_le hv
  refine minL_is ?_ fun y hy => ?_
  · obtain ⟨p, hp, e⟩ := List.mem_map.mp h1
    obtain ⟨z1, z2, _⟩ := bgs_mem.mp hp
    obtain ⟨q, hq, e2⟩ := wl_att (h := h) (k := 8) (c := 0) z1 z2 (by omega)
    exact List.mem_map.mpr ⟨toF p q, List.mem_flatMap.mpr ⟨p, hp, List.mem_map.mpr ⟨q, hq, rfl⟩⟩, by show q.2.2.2 = v; rw [e2, e]⟩
  · obtain ⟨x, hx, rfl⟩ := List.mem_map.mp hy
    obtain ⟨_, p, hp, _, q, hq, rfl⟩ := fnd_mem hx
    obtain ⟨z1, z2, _⟩ := bgs_mem.mp hp
    have k1 := wl_le (h := h) (k := 8) (c := 0) z1 z2 (by omega) hq
    have k2 := h2 (h.T p.1 p.2 0).1 (List.mem_map.mpr ⟨p, hp, rfl⟩)
    show v ≤ q.2.2.2
    omega
def Sh.best (h : Sh) (v : Int) : List Fd := h.fnd.filter fun x => decide (x.1 = v)
theorem best_R (p : Nat × Nat) (v : Int) : (h.fR p).filter (fun x => decide (x.1 = v)) = ((h.wl 8 p.1 p.2 0).filter fun q => decide (q.2.2.2 = v)).map (toF p) := by
  unfold Sh.fR
  rw [List.filter_map]; rfl
theorem best_flat (v : Int) : ∀ l : List (Nat × Nat), (l.flatMap h.fR).filter (fun x => decide (x.1 = v)) = l.flatMap fun p => ((h.wl 8 p.1 p.2 0).filter fun q => decide (q.2.2.2 = v)).map (toF p)
  | [] => rfl
  | p :: l => by rw [List.flatMap_cons, List.flatMap_cons, List.filter_append, best_R, best_flat v l]
/-- none of a begin that bears more -/
theorem best_none (h6 : h.f + h.g < 8) {v : Int} (hv : minL h.ts = some v) {p : Nat × Nat} (hp : p ∈ h.bgs) (hne : (h.T p.1 p.2 0).1 ≠ v) : (h.wl 8 p.1 p.2 0).filter (fun q => decide (q.2.2.2 = v)) = [] := by
  obtain ⟨z1, z2, _⟩ := bgs_mem.mp hp
  have k2 := (minL_le hv).2 (h.T p.1 p.2 0).1 (List.mem_map.mpr ⟨p, hp, rfl⟩)
  rw [List.filter_eq_nil_iff]
  intro q hq
  have k1 := wl_le (h := h) (k := 8) (c := 0) z1 z2 (by omega) hq
  rw [decide_eq_true_eq]
  omega
theorem best_first (h6 : h.f + h.g < 8) {v : Int} {b : Nat × Nat} {ms : List Nat} (t : Told h v b ms) : ∃ r, h.best v = (v, b, ms) :: r := by
  have key : ∀ l : List (Nat × Nat), (∀ p ∈ l, p ∈ h.bgs) → (∃ r, l.filter (fun p => decide ((h.T p.1 p.2 0).1 = v)) = b :: r) → ∃ r, (l.flatMap fun p => ((h.wl 8 p.1 p.2 0).filter fun q => decide (q.2.2.2 = v)).map (toF p)) = (v, b, ms) :: r := fun l => by
    induction l with
    | nil => intro _ ⟨r, e⟩; cases e
    | cons p l ih =>
      intro hl ⟨r, e⟩
      rw [List.filter_cons] at e
      by_cases hp : (h.T p.1 p.2 0).1 = v
      · rw [if_pos (by simpa using hp)] at e
        injection e with e1 e2
        subst e1
        obtain ⟨z1, z2, z3, z4⟩ := t.bg
        obtain ⟨q, r', e3, e4⟩ := wl_first t.moves 8 z1 z2 (by omega)
        rw [z4] at e3
        rw [List.flatMap_cons, e3]
        have hq : q.2.2.2 = v := by
          have : q ∈ (h.wl 8 p.1 p.2 0).filter fun q => decide (q.2.2.2 = v) := by rw [e3]; simp
          simpa using (List.mem_filter.mp this).2
        have e5 : toF p q = (v, p, ms) := by
          show (q.2.2.2, p, q.1) = _
          rw [hq, e4]
        rw [List.map_cons, List.cons_append, e5]
        exact ⟨_, rfl⟩
      · rw [if_neg (by simpa using hp)] at e
        rw [List.flatMap_cons, best_none h6 t.least (hl p List.mem_cons_self) hp]
        exact ih (fun z hz => hl z (List.mem_cons_of_mem _ hz)) ⟨r, e⟩
  unfold Sh.best Sh.fnd
  rw [best_flat]
  exact key h.bgs (fun _ z => z) t.first
theorem best_cnt (h6 : h.f + h.g < 8) {v : Int} (hv : minL h.ts = some v) : ((h.best v).length : Int) = ((h.bgs.filter fun p => decide ((h.T p.1 p.2 0).1 = v)).map fun p => (h.T p.1 p.2 0).2).sum := by
  have key : ∀ l : List (Nat × Nat), (∀ p ∈ l, p ∈ h.bgs) → ((l.flatMap fun p => ((h.wl 8 p.1 p.2 0).filter fun q => decide (q.2.2.2 = v)).map (toF p)).length : Int) = ((l.filter fun p => decide ((h.T p.1 p.2 0).1 = v)).map fun p => (h.T p.1 p.2 0).2).sum := fun l => by
    induction l with
    | nil => intro _; rfl
    | cons p l ih =>
      intro hl
      have ih := ih fun z hz => hl z (List.mem_cons_of_mem _ hz)
      obtain ⟨z1, z2, _⟩ := bgs_mem.mp (hl p List.mem_cons_self)
      rw [List.flatMap_cons, List.length_append, List.length_map, List.filter_cons]
      by_cases hp : (h.T p.1 p.2 0).1 = v
      · have k := wl_cnt (h := h) (k := 8) (c := 0) z1 z2 (by omega)
        rw [hp] at k
        rw [if_pos (by simpa using hp), List.map_cons, List.sum_cons, ← ih, ← k]
        omega
      · rw [if_neg (by simpa using hp), best_none h6 hv (hl p List.mem_cons_self) hp, ← ih]
        simp
  unfold Sh.best Sh.fnd
  rw [best_flat]
  exact key h.bgs fun _ z => z
/-- they stand in order -/
theorem bgs_order : h.bgs.Pairwise fun p q => p.1 < q.1 ∨ (p.1 = q.1 ∧ p.2 < q.2) := by
  unfold Sh.bgs
  refine List.pairwise_flatMap.mpr ⟨fun i _ => ?_, List.pairwise_lt_range.imp fun {i j} hij x hx y hy => ?_⟩
  · unfold Sh.bgR
    rw [List.pairwise_map]
    exact (List.pairwise_lt_range.filter _).imp fun hab => .inr ⟨rfl, hab⟩
  · unfold Sh.bgR at hx hy
    obtain ⟨a, _, rfl⟩ := List.mem_map.mp hx
    obtain ⟨b, _, rfl⟩ := List.mem_map.mp hy
    exact .inl hij
theorem fnd_order : h.fnd.Pairwise fun x y => kLt x.2 y.2 := by
  unfold Sh.fnd
  refine List.pairwise_flatMap.mpr ⟨fun p _ => ?_, bgs_order.imp fun {p q} hpq x hx y hy => ?_⟩
  · unfold Sh.fR Sh.wl
    rw [List.pairwise_map]
    exact ((wy_order 8 p.1 p.2 0).filter _).imp fun hab => .inr ⟨rfl, .inr ⟨rfl, hab⟩⟩
  · obtain ⟨e1, _⟩ := fR_mem hx
    obtain ⟨e2, _⟩ := fR_mem hy
    unfold kLt
    rw [e1, e2]
    rcases hpq with hpq | ⟨e, hpq⟩
    · exact .inl hpq
    · exact .inr ⟨e, .inl hpq⟩
theorem best_order {v : Int} {x : Fd} {r : List Fd} (hb : h.best v = x :: r) : ∀ y ∈ h.best v, ¬ kLt y.2 x.2 := by
  have := (fnd_order (h := h)).filter fun x => decide (x.1 = v)
  have e : h.fnd.filter (fun x => decide (x.1 = v)) = x :: r := hb
  rw [e] at this
  intro y hy
  rw [hb] at hy
  rcases List.mem_cons.mp hy with rfl | hy
  · exact kLt_irrefl _
  · exact kLt_asymm ((List.pairwise_cons.mp this).1 y hy)
end
/-! ### told by the law -/
section
variable {P : D} {S F G m : List Nat} {w : Nat} {pc : Nat → Nat → Int} {O M : Int} {h : Sh}
theorem all_eval (hP : PriceOK cs P S w pc O M) (hF : Row S F) (hG : Row S G) (hm : m ∈ mans) (hh : h = ⟨F, G, m, O, M, pc⟩) (hF3 : F.length ≤ 3) (hG3 : G.length ≤ 3) : f__law_all cs [P, .str (tx F), .str (tx G), .str (tx m)] = some (.ok (.lst (h.fnd.map fdD))) := by
  have hF16 : F.length ≤ 16777216 := by omega
  have hG16 : G.length ≤ 16777216 := by omega
  have lF := ov_lenS hF16
  have lG := ov_lenS hG16
  have sE0 : Str.ofString "" = tx [] := al4
  have eW := fun (i j i' j' : Nat) (ms : List Nat) (x : Int) (hp : Pt h i j 0 ms i' j' x) (hi : i ≤ F.length) (hj : j ≤ G.length) => walk_eval (cs := cs) (m := m) hP hF hG (by rw [← hh]; exact hp) hi hj
  have eB : ∀ i j : Nat, f__law_may_begin cs [.str (tx m), .int (i : Int), .int (j : Int)] = some (.ok (.bl (h.bg i j))) := fun i j => by
    rw [bg_law (cs := cs) hm (i : Int) (j : Int), hh]; rfl
  have eE : ∀ i j : Nat, f__law_may_end cs [.str (tx m), .str (tx F), .str (tx G), .int (i : Int), .int (j : Int)] = some (.ok (.bl (h.en i j))) := fun i j => by
    rw [en_law (cs := cs) hm hF16 hG16 (i : Int) (j : Int), hh]; rfl
  have hf : h.F = F := by rw [hh]
  have hg : h.G = G := by rw [hh]
  have hff : h.f = F.length := by show h.F.length = _; rw [hf]
  have hgg : h.g = G.length := by show h.G.length = _; rw [hg]
  have eY := fun (i j : Nat) (hi : i ≤ h.f) (hj : j ≤ h.g) => ways_eval (cs := cs) (h := h) (by omega) (by omega) 8 i j 0 [] (by omega) hi hj (by omega) (by simp)
  rw [hf, hg] at eY
  clear hh
  have rf : r62 ((F.length : Int) + 1) = true := r62_of ⟨by omega, by omega⟩
  have rg : r62 ((G.length : Int) + 1) = true := r62_of ⟨by omega, by omega⟩
  have tf : ((F.length : Int) + 1).toNat = F.length + 1 := by omega
  have tg : ((G.length : Int) + 1).toNat = G.length + 1 := by omega
  let st : List Fd → Option D → Option D → Option D → Option D → Option D → Option D → DS := fun l x5 x6 x7 x8 x9 x10 => [some P, some (.str (tx F)), some (.str (tx G)), some (.str (tx m)), some (.lst (l.map fdD)), x5, x6, x7, x8, x9, x10]
  have bound : ∀ i j : Nat, i ≤ F.length → j ≤ G.length → (h.fI i ++ h.fJ i j).length ≤ 1048576 := fun i j hi hj => by
    rw [List.length_append]
    have k1 := fI_len (h := h) i
    have k2 := fJ_len (h := h) i j
    have k3 : 65536 * (h.g + 1) * i ≤ 65536 * 4 * 3 := Nat.mul_le_mul (Nat.mul_le_mul_left _ (by omega)) (by omega)
    omega
  -- one place
  have place : ∀ (i j : Nat) (x7 x8 x9 x10 : Option D), i ≤ F.length → j ≤ G.length → ∃ y7 y8 y9 y10, b__law_all_2 cs 0 (st (h.fI i ++ h.fJ i j) (some (.int (i : Int))) (some (.int (j : Int))) x7 x8 x9 x10) = some (.nx, 0, st (h.fI i ++ h.fJ i (j + 1)) (some (.int (i : Int))) (some (.int (j : Int))) y7 y8 y9 y10) := fun i j x7 x8 x9 x10 hi hj => by
    have eb := eB i j
    rw [fJ_succ, ← List.append_assoc]
    unfold b__law_all_2
    cases hb : h.bg i j with
    | false =>
      rw [hb] at eb
      refine ⟨x7, x8, x9, x10, if_f (n1 := 0) (by simp only [st]; simp [eb]) ?_⟩
      simp
    | true =>
      rw [hb] at eb
      have ey := eY i j (by omega) (by omega)
      have bd := bound i j hi hj
      generalize hl0 : h.fI i ++ h.fJ i j = l0 at *
      obtain ⟨n1, ds1, e1, rfl, y7, y8, y9, y10, rfl⟩ := forM_inv (tg := .tup [7, 8, 9]) (body := b__law_all_1 cs) (f := wyD []) (l := h.wy 8 i j 0) (n := 0) (ds := st l0 (some (.int (i : Int))) (some (.int (j : Int))) x7 x8 x9 x10)
        (fun t n ds => n = 0 ∧ ∃ x7 x8 x9 x10, ds = st (l0 ++ (((h.wy 8 i j 0).take t).filter fun q => h.en q.2.1 q.2.2.1).map (toF (i, j))) (some (.int (i : Int))) (some (.int (j : Int))) x7 x8 x9 x10)
        (fun t q n ds ht ⟨hn, x7, x8, x9, x10, hd⟩ => by
          subst hn hd
          have hq := List.mem_of_getElem? ht
          have ee := eE q.2.1 q.2.2.1
          have hw := eW i j q.2.1 q.2.2.1 q.1 q.2.2.2 (wy_pt 8 i j 0 q hq) hi hj
          have hlen : (((h.wy 8 i j 0).take t).filter fun q => h.en q.2.1 q.2.2.1).length ≤ 65536 := by
            refine Nat.le_trans (List.length_filter_le _ _) ?_
            rw [List.length_take]
            have := wy_len (h := h) 8 i j 0
            have e : (4 : Nat) ^ 8 = 65536 := by decide
            omega
          rw [take_snoc ht, List.filter_append]
          generalize ((h.wy 8 i j 0).take t).filter (fun q => h.en q.2.1 q.2.2.1) = l at *
          refine ⟨st (l0 ++ l.map (toF (i, j))) (some (.int (i : Int))) (some (.int (j : Int))) (some (.str (tx q.1))) (some (.int (q.2.1 : Int))) (some (.int (q.2.2.1 : Int))) x10, rfl, 0, ?_⟩
          cases he : h.en q.2.1 q.2.2.1 with
          | false =>
            rw [he] at ee
            refine ⟨_, ?_, rfl, some (.str (tx q.1)), some (.int (q.2.1 : Int)), some (.int (q.2.2.1 : Int)), x10, rfl⟩
            unfold b__law_all_1
            refine if_f (n1 := 0) (by simp only [st]; simp [ee]) ?_
            simp [he]
          | true =>
            rw [he] at ee
            refine ⟨_, ?_, rfl, some (.str (tx q.1)), some (.int (q.2.1 : Int)), some (.int (q.2.2.1 : Int)), some (.int q.2.2.2), rfl⟩
            unfold b__law_all_1
            refine if_t (n1 := 0) (by simp only [st]; simp [ee]) (seq_nx (n1 := 0) (ds1 := st (l0 ++ l.map (toF (i, j))) (some (.int (i : Int))) (some (.int (j : Int))) (some (.str (tx q.1))) (some (.int (q.2.1 : Int))) (some (.int (q.2.2.1 : Int))) (some (.int q.2.2.2))) ?_ ?_)
            · refine (set_of (n1 := 0) (d := .int q.2.2.2) ?_).trans rfl
              simp only [st]
              have hw' : f__law_walk cs [P, .str (tx F), .str (tx G), .tup [.int (i : Int), .int (j : Int)], .str (tx q.1)] = some (.ok (.tup [.int q.2.2.2, .tup [.int (q.2.1 : Int), .int (q.2.2.1 : Int)]])) := hw
              simp [hw']
            · refine (app_of (as := (l0 ++ l.map (toF (i, j))).map fdD) (d := fdD (toF (i, j) q)) (n1 := 0) rfl ?_ (by simp; omega)).trans ?_
              · simp only [st]
                simp [fdD, toF, plD]
              · simp [st, he]) ⟨rfl, x7, x8, x9, x10, by simp⟩
      rw [List.take_length] at e1
      refine ⟨y7, y8, y9, y10, if_t (n1 := 0) (by simp only [st]; simp [eb]) (for_of (n1 := 0) (as := (h.wy 8 i j 0).map (wyD [])) (by simp only [st]; simp [sE0, ey]) ?_)⟩
      rw [if_pos rfl]
      exact e1
  obtain ⟨n1, ds1, e1, rfl, x5, x6, x7, x8, x9, x10, rfl⟩ := forR_inv (tg := .one 5) (body := b__law_all_3 cs) (N := F.length + 1) (n := 0) (ds := st [] none none none none none none)
    (fun i n ds => n = 0 ∧ ∃ x5 x6 x7 x8 x9 x10, ds = st (h.fI i) x5 x6 x7 x8 x9 x10)
    (fun i n ds hi ⟨hn, x5, x6, x7, x8, x9, x10, hd⟩ => by
      subst hn hd
      obtain ⟨n5, ds5, f2, rfl, y6, y7, y8, y9, y10, rfl⟩ := forR_inv (tg := .one 6) (body := b__law_all_2 cs) (N := G.length + 1) (n := 0) (ds := st (h.fI i ++ h.fJ i 0) (some (.int (i : Int))) x6 x7 x8 x9 x10)
        (fun j n ds => n = 0 ∧ ∃ x6 x7 x8 x9 x10, ds = st (h.fI i ++ h.fJ i j) (some (.int (i : Int))) x6 x7 x8 x9 x10)
        (fun j n ds hj ⟨hn, x6, x7, x8, x9, x10, hd⟩ => by
          subst hn hd
          obtain ⟨y7, y8, y9, y10, e⟩ := place i j x7 x8 x9 x10 (by omega) (by omega)
          exact ⟨st (h.fI i ++ h.fJ i j) (some (.int (i : Int))) (some (.int (j : Int))) x7 x8 x9 x10, rfl, 0, _, e, rfl, _, _, _, _, _, rfl⟩) ⟨rfl, x6, x7, x8, x9, x10, rfl⟩
      have e0 : h.fI i ++ h.fJ i 0 = h.fI i := List.append_nil _
      rw [e0] at f2
      refine ⟨st (h.fI i) (some (.int (i : Int))) x6 x7 x8 x9 x10, rfl, 0, st (h.fI (i + 1)) (some (.int (i : Int))) y6 y7 y8 y9 y10, ?_, rfl, _, _, _, _, _, _, rfl⟩
      rw [fI_succ, hgg]
      unfold b__law_all_3
      exact for_of (n1 := 0) (as := rngD 0 (G.length + 1)) (by simp [st, lG, rg, tg]) f2) ⟨rfl, none, none, none, none, none, none, rfl⟩
  have efin : h.fI (F.length + 1) = h.fnd := by rw [← hff]; exact fI_fnd
  rw [efin] at e1
  unfold f__law_all
  apply fn0_of
  have e : m__law_all cs 0 (startD 11 [P, .str (tx F), .str (tx G), .str (tx m)]) = some (.rt (.lst (h.fnd.map fdD)), 0, st h.fnd x5 x6 x7 x8 x9 x10) := by
    unfold m__law_all
    refine seq_nx (n1 := 0) (ds1 := st [] none none none none none none) (by simp [startD, st]) (seq_nx (for_of (n1 := 0) (as := rngD 0 (F.length + 1)) (by simp [st, lF, rf, tf]) e1) ?_)
    simp [st]
  rw [e]; rfl
end
end K22

namespace K22
open PySem L2 PyProof.Rows GW
variable {cs : Nat → Addr}
theorem sum_eval (l : List Int) : oSum [.lst (l.map D.int)] = some (.int l.sum) := by
  show (intsD _).map _ = _
  rw [intsD_map]; rfl
theorem min_eval {l : List Int} {m : Int} (h : minL l = some m) : oMin [.lst (l.map D.int)] = some (.int m) := by
  show ((intsD _).bind minL).map D.int = _
  rw [intsD_map, Option.bind_some, h]; rfl
section
variable {P : D} {S F G m : List Nat} {w : Nat} {pc : Nat → Nat → Int} {O M : Int} {h : Sh}
theorem count_eval (hP : PriceOK cs P S w pc O M) (hF : Row S F) (hG : Row S G) (hm : m ∈ mans) (hh : h = ⟨F, G, m, O, M, pc⟩) {v : Int} (hv : minL h.ts = some v) : f_count_of cs [P, .str (tx F), .str (tx G), .str (tx m)] = some (.ok (.int (((h.bgs.filter fun p => decide ((h.T p.1 p.2 0).1 = v)).map fun p => (h.T p.1 p.2 0).2).sum))) := by
  have e1 := sheet_of_eval (m := m) hP hF hG hm
  rw [← hh] at e1
  have hk : h.OK := by rw [hh]; exact ⟨by have := hF.len; show F.length ≤ 100; omega, by have := hG.len; show G.length ≤ 100; omega⟩
  have e2 := table_all (cs := cs) hk
  have e3 := least_eval (cs := cs) hk hv
  have e4 := begins_of_eval (cs := cs) hk
  have hbl := bgs_len hk
  have lc := lc_of_comp (mi := mItA (mCall (pureF (f_begins_of cs)) (mCons (mVar 4) (ret (some []))))) (tg := .tup [7, 8]) (tt := mTest (m2 (m2 (m2 (m2 (m2 (mVar 5) (mVar 7) oIx) (mVar 8) oIx) (mC (.int 0)) oIx) (mC (.int 0)) oIx) (mVar 6) oEq)) (me := m2 (m2 (m2 (m2 (mVar 5) (mVar 7) oIx) (mVar 8) oIx) (mC (.int 0)) oIx) (mC (.int 1)) oIx) (vs := [7, 8]) (n := 0) (n1 := 0) (ds := [some P, some (.str (tx F)), some (.str (tx G)), some (.str (tx m)), some (h.D cs), some (h.tab yes), some (.int v), none, none]) (as := h.bgs.map plD) (by simp [e4])
    (compL_filter plD (fun p => .int (h.T p.1 p.2 0).2) (fun p => decide ((h.T p.1 p.2 0).1 = v)) h.bgs fun p hp => ⟨[some P, some (.str (tx F)), some (.str (tx G)), some (.str (tx m)), some (h.D cs), some (h.tab yes), some (.int v), some (.int (p.1 : Int)), some (.int (p.2 : Int))], rfl, by
      obtain ⟨y1, y2, _⟩ := bgs_mem.mp hp
      obtain ⟨q1, q2, q3, q4⟩ := T00 (h := h) y1 y2 0 (by decide)
      have q3' : oIx (h.cell yes p.1 p.2) (.int 0) = some (prD (h.T p.1 p.2 0)) := q3
      simp [q1, q2, q3', q4], by
      obtain ⟨y1, y2, _⟩ := bgs_mem.mp hp
      obtain ⟨q1, q2, q3, q4⟩ := T00 (h := h) y1 y2 0 (by decide)
      have q3' : oIx (h.cell yes p.1 p.2) (.int 0) = some (prD (h.T p.1 p.2 0)) := q3
      have q5 : oIx (prD (h.T p.1 p.2 0)) (.int 1) = some (.int (h.T p.1 p.2 0).2) := by simp [prD]
      simp [q1, q2, q3', q5]⟩) (by rw [List.length_map]; omega)
  have eqm : ((h.bgs.filter fun p => decide ((h.T p.1 p.2 0).1 = v)).map fun p => D.int (h.T p.1 p.2 0).2) = ((h.bgs.filter fun p => decide ((h.T p.1 p.2 0).1 = v)).map fun p => (h.T p.1 p.2 0).2).map D.int := by
    rw [List.map_map]; rfl
  rw [eqm] at lc
  have hs := sum_eval ((h.bgs.filter fun p => decide ((h.T p.1 p.2 0).1 = v)).map fun p => (h.T p.1 p.2 0).2)
  unfold f_count_of
  apply fn0_of
  have e : m_count_of cs 0 (startD 9 [P, .str (tx F), .str (tx G), .str (tx m)]) = some (.rt (.int (((h.bgs.filter fun p => decide ((h.T p.1 p.2 0).1 = v)).map fun p => (h.T p.1 p.2 0).2).sum)), 0, [some P, some (.str (tx F)), some (.str (tx G)), some (.str (tx m)), some (h.D cs), some (h.tab yes), some (.int v), none, none]) := by
    unfold m_count_of
    refine seq_nx (n1 := 0) (ds1 := [some P, some (.str (tx F)), some (.str (tx G)), some (.str (tx m)), some (h.D cs), none, none, none, none]) (by simp [startD, e1]) ?_
    refine seq_nx (n1 := 0) (ds1 := [some P, some (.str (tx F)), some (.str (tx G)), some (.str (tx m)), some (h.D cs), some (h.tab yes), none, none, none]) (by simp [e2]) ?_
    refine seq_nx (n1 := 0) (ds1 := [some P, some (.str (tx F)), some (.str (tx G)), some (.str (tx m)), some (h.D cs), some (h.tab yes), some (.int v), none, none]) (by simp [e3]) ?_
    refine ret_of ?_
    simp only [ev_cb, ev_mb, ev_cons, lc, ev_ret, hs]
  rw [e]; rfl
end
end K22

namespace K22
open PySem L2 PyProof.Rows GW
theorem law_eval (cs : Nat → Addr) (ns : List Int) : f_law cs [scD ns] = some (.ok (.bl true)) := by
  obtain ⟨P, S, w, pc, O, M, n1, hP, a1, a2, eP⟩ := prices_eval (cs := cs) (ns := ns) (n := 0) (by decide) (by decide)
  have hSp := hP.good.pos
  have hSl := hP.good.len
  obtain ⟨F, n2, hFl, hFm, b1, b2, eF⟩ := row_eval (cs := cs) (ns := ns) (n := n1) (S := S) (most := 3) hSp hSl (by decide) (by omega) (by omega)
  obtain ⟨G, n3, hGl, hGm, c1, c2, eG⟩ := row_eval (cs := cs) (ns := ns) (n := n2) (S := S) (most := 3) hSp hSl (by decide) (by omega) (by omega)
  obtain ⟨v, ev, v0, v1⟩ := next_eval (cs := cs) (ns := ns) (n := n3) (by omega) (by omega)
  obtain ⟨m, hm, em⟩ := manner_law (cs := cs) v
  have hF : Row S F := ⟨hFm, by omega⟩
  have hG : Row S G := ⟨hGm, by omega⟩
  obtain ⟨lv, b, ms, t, eC⟩ := cheapest_eval (m := m) hP hF hG hm
  have hU := hP.iu lv
  have eF' : f__law_row cs n1 [scD ns, .non, .str (tx S), .int 3] = some (.ok (.str (tx F)), n2) := eF
  have eG' : f__law_row cs n2 [scD ns, .non, .str (tx S), .int 3] = some (.ok (.str (tx G)), n3) := eG
  have hsg := hP.signs
  obtain ⟨h, hh⟩ : ∃ h : Sh, h = ⟨F, G, m, O, M, pc⟩ := ⟨_, rfl⟩
  have eA := all_eval (cs := cs) hP hF hG hm hh (by omega) (by omega)
  rw [← hh] at t
  have eCt := count_eval (cs := cs) hP hF hG hm hh t.least
  have hff : h.f = F.length := by rw [hh]
  have hgg : h.g = G.length := by rw [hh]
  clear hh
  have h6 : h.f + h.g < 8 := by omega
  have hmin := min_eval (fnd_least h6 t.least)
  have hcn := best_cnt h6 t.least
  obtain ⟨r, hbest⟩ := best_first h6 t
  have hord := best_order hbest
  have hlen : ∀ x ∈ h.fnd, x.2.2.length ≤ 8 := fun x hx => (fnd_mem hx).1
  have hfl : h.fnd.length ≤ 1048576 := by
    rw [← fI_fnd]
    have := fI_len (h := h) (h.f + 1)
    have k2 : 65536 * (h.g + 1) ≤ 262144 := by omega
    have k3 := Nat.mul_le_mul k2 (show h.f + 1 ≤ 4 by omega)
    exact Nat.le_trans this (Nat.le_trans k3 (by decide))
  rw [← hcn] at eCt
  have i0 : ∀ x : Fd, oIx (fdD x) (.int 0) = some (.int x.1) := fun x => rfl
  have i1 : ∀ x : Fd, oIx (fdD x) (.int 1) = some (plD x.2.1) := fun x => rfl
  have i2 : ∀ x : Fd, oIx (fdD x) (.int 2) = some (.str (tx x.2.2)) := fun x => rfl
  let st : Option D → Option D → Option D → Option D → DS := fun x7 x8 x9 x10 => [some (scD ns), none, some P, some (.str (tx F)), some (.str (tx G)), some (.str (tx m)), some (.lst (h.fnd.map fdD)), x7, x8, x9, x10]
  have lc1 := lc_of_comp (mi := mItA (mVar 6)) (tg := .one 10) (tt := mYes) (me := m2 (mVar 10) (mC (.int 0)) oIx) (vs := [10]) (n := n3 + 1) (n1 := n3 + 1) (ds := st none none none none) (as := h.fnd.map fdD) (by simp [st])
    (compL_map fdD (fun x => .int x.1) h.fnd fun x hx => ⟨st none none none (some (fdD x)), rfl, by simp [st, i0]⟩) (by rw [List.length_map]; omega)
  have em1 : h.fnd.map (fun x => D.int x.1) = (h.fnd.map (·.1)).map D.int := by rw [List.map_map]; rfl
  rw [em1] at lc1
  have lc2 := lc_of_comp (mi := mItA (mVar 6)) (tg := .one 10) (tt := mTest (m2 (m2 (mVar 10) (mC (.int 0)) oIx) (mVar 7) oEq)) (me := mVar 10) (vs := [10]) (n := n3 + 1) (n1 := n3 + 1) (ds := st (some (.int lv)) none none none) (as := h.fnd.map fdD) (by simp [st])
    (compL_filter fdD fdD (fun x => decide (x.1 = lv)) h.fnd fun x hx => ⟨st (some (.int lv)) none none (some (fdD x)), rfl, by simp [st, i0], by simp [st]⟩) (by rw [List.length_map]; omega)
  have hb0 : h.fnd.filter (fun x => decide (x.1 = lv)) = h.best lv := rfl
  rw [hb0] at lc2
  have hms : ms.length ≤ 300 := t.len
  obtain ⟨n4, ds4, f1, rfl, x10, rfl⟩ := forM_inv (tg := .one 10) (body := b_law_1 cs) (f := fdD) (l := h.best lv) (n := n3 + 1) (ds := st (some (.int lv)) (some (.lst ((h.best lv).map fdD))) (some (fdD (lv, b, ms))) none)
    (fun i n ds => n3 + 1 = n ∧ ∃ x10, ds = st (some (.int lv)) (some (.lst ((h.best lv).map fdD))) (some (fdD (lv, b, ms))) x10)
    (fun i x n ds hi ⟨hn, x10, hd⟩ => by
      subst hn hd
      have hx := List.mem_of_getElem? hi
      have hxf : x ∈ h.fnd := (List.mem_filter.mp (show x ∈ h.fnd.filter (fun x => decide (x.1 = lv)) from hx)).1
      have k1 := key_eval (cs := cs) x.2.1 x.2.2 (by have := hlen x hxf; omega)
      have k2 := key_eval (cs := cs) b ms (by omega)
      have k3 : oLtQ (keyD x.2.1 x.2.2) (keyD b ms) = some (.bl false) := key_lt (hord x hx)
      have j1 := i1 (lv, b, ms)
      have j2 := i2 (lv, b, ms)
      refine ⟨st (some (.int lv)) (some (.lst ((h.best lv).map fdD))) (some (fdD (lv, b, ms))) (some (fdD x)), rfl, n3 + 1, _, ?_, rfl, some (fdD x), rfl⟩
      unfold b_law_1
      refine if_f (n1 := n3 + 1) ?_ rfl
      simp only [st]
      simp [i1, i2, j1, j2, k1, k2, k3]) ⟨rfl, none, rfl⟩
  obtain ⟨z1, z2, hz⟩ := lowD_two lv (w : Int)
  have sT := same_told (cs := cs) (lowD lv (w : Int)) b (tx ms) ⟨z1, z2, hz⟩
  have sN := same_int (cs := cs) 2 ((h.best lv).length : Int)
  have j1 := i1 (lv, b, ms)
  have j2 := i2 (lv, b, ms)
  have hlen2 : oLen [.lst ((h.best lv).map fdD)] = some (.int ((h.best lv).length : Int)) := by simp
  have hix : oIx (.lst ((h.best lv).map fdD)) (.int 0) = some (fdD (lv, b, ms)) := by
    rw [hbest, List.map_cons]
    show atI _ ((0 : Nat) : Int) = _
    rw [GW.atI_nat]; rfl
  generalize hB : (h.best lv).map fdD = B at *
  generalize hN : ((h.best lv).length : Int) = N at *
  let sf : DS := st (some (.int lv)) (some (.lst B)) (some (fdD (lv, b, ms))) x10
  unfold f_law m_law
  apply fn0_of
  refine newCell_rt (by show 1 < 11; decide) (n' := n3 + 1) (ds' := sf) ?_
  show sSeq _ _ 0 [some (scD ns), none, none, none, none, none, none, none, none, none, none] = _
  let s0 : Option D → Option D → Option D → Option D → Option D → DS := fun x2 x3 x4 x5 x6 => [some (scD ns), none, x2, x3, x4, x5, x6, none, none, none, none]
  refine seq_nx (n1 := n1) (ds1 := s0 (some P) none none none none) (by simp [s0, eP]) ?_
  refine seq_nx (n1 := n2) (ds1 := s0 (some P) (some (.str (tx F))) none none none) (by simp [s0, hsg, eF']) ?_
  refine seq_nx (n1 := n3) (ds1 := s0 (some P) (some (.str (tx F))) (some (.str (tx G))) none none) (by simp [s0, hsg, eG']) ?_
  refine seq_nx (n1 := n3 + 1) (ds1 := s0 (some P) (some (.str (tx F))) (some (.str (tx G))) (some (.str (tx m))) none) (by simp [s0, ev, em]) ?_
  refine seq_nx (n1 := n3 + 1) (ds1 := st none none none none) (by simp [s0, st, eA]) ?_
  refine seq_nx (n1 := n3 + 1) (ds1 := st (some (.int lv)) none none none) ((set_of (d := .int lv) (n1 := n3 + 1) (by simp only [ev_cb, ev_mb, ev_cons, lc1, ev_ret, hmin])).trans rfl) ?_
  refine seq_nx (n1 := n3 + 1) (ds1 := st (some (.int lv)) (some (.lst B)) none none) ((set_of lc2).trans rfl) ?_
  refine seq_nx (n1 := n3 + 1) (ds1 := st (some (.int lv)) (some (.lst B)) (some (fdD (lv, b, ms))) none) (by simp [st, hix]) ?_
  refine seq_nx (for_of (n1 := n3 + 1) (as := B) (by simp [st]) f1) ?_
  refine seq_nx (n1 := n3 + 1) (ds1 := sf) (if_f (n1 := n3 + 1) ?_ rfl) ?_
  · simp only [st]
    simp [eC, hU, j1, j2, sT]
  refine ret_of ?_
  simp only [sf, st]
  simp [eCt, hlen2, sN]
end K22

namespace K22
open PySem L2 PyProof.Rows GW
theorem facts {P : Program} {w : World} {K : PySem.W.Frag} {h : Heap} {mg : Str → Option Value} {f : Addr} (X : K.In h) (G : h.Ns mainGlobals mg) (hfa : mg ("law" : Str) = some (.ref f)) (cx : SaysX fa fn fb K) :
    ∃ fd : FuncData, (∀ (s : Shared) (v : Value), BindsTo s fd ⟨[v], []⟩ [("_law_script", v)]) ∧ ∀ base : Heap, K.In base → base.Ns mainGlobals mg → FnOk P w K mg base CX0 11 f fd ["_law_script"] (fun vs H Q _ => spM K none 1 0 (pureF (f_law (csK K))) vs H Q (fun _ _ _ => False)) := by
  have c := cx.d
  obtain ⟨fd_NoSign_init, F_NoSign_init⟩ := c.def_ 46 (d := d_NoSign_init) rfl
  obtain ⟨fd_greatest_part, F_greatest_part⟩ := c.def_ 0 (d := d_greatest_part) rfl
  obtain ⟨fd_lowest, F_lowest⟩ := c.def_ 1 (d := d_lowest) rfl
  obtain ⟨fd_least_whole, F_least_whole⟩ := c.def_ 2 (d := d_least_whole) rfl
  obtain ⟨fd_is_sign, F_is_sign⟩ := c.def_ 3 (d := d_is_sign) rfl
  obtain ⟨fd_signs_fit, F_signs_fit⟩ := c.def_ 4 (d := d_signs_fit) rfl
  obtain ⟨fd_price_kept, F_price_kept⟩ := c.def_ 5 (d := d_price_kept) rfl
  obtain ⟨fd_units_of, F_units_of⟩ := c.def_ 6 (d := d_units_of) rfl
  obtain ⟨fd_Prices_init, F_Prices_init⟩ := c.def_ 7 (d := d_Prices_init) rfl
  obtain ⟨fd_pair_cost, F_pair_cost⟩ := c.def_ 8 (d := d_pair_cost) rfl
  obtain ⟨fd_opening_cost, F_opening_cost⟩ := c.def_ 9 (d := d_opening_cost) rfl
  obtain ⟨fd_more_cost, F_more_cost⟩ := c.def_ 10 (d := d_more_cost) rfl
  obtain ⟨fd_in_units, F_in_units⟩ := c.def_ 11 (d := d_in_units) rfl
  obtain ⟨fd_ask_signs, F_ask_signs⟩ := c.def_ 12 (d := d_ask_signs) rfl
  obtain ⟨fd_ask_manner, F_ask_manner⟩ := c.def_ 13 (d := d_ask_manner) rfl
  obtain ⟨fd_may_begin, F_may_begin⟩ := c.def_ 14 (d := d_may_begin) rfl
  obtain ⟨fd_may_end, F_may_end⟩ := c.def_ 15 (d := d_may_end) rfl
  obtain ⟨fd_Sheet_init, F_Sheet_init⟩ := c.def_ 16 (d := d_Sheet_init) rfl
  obtain ⟨fd_Sheet_begins, F_Sheet_begins⟩ := c.def_ 17 (d := d_Sheet_begins) rfl
  obtain ⟨fd_Sheet_ends, F_Sheet_ends⟩ := c.def_ 18 (d := d_Sheet_ends) rfl
  obtain ⟨fd_Sheet_gap, F_Sheet_gap⟩ := c.def_ 19 (d := d_Sheet_gap) rfl
  obtain ⟨fd_sheet_of, F_sheet_of⟩ := c.def_ 20 (d := d_sheet_of) rfl
  obtain ⟨fd_steps_from, F_steps_from⟩ := c.def_ 21 (d := d_steps_from) rfl
  obtain ⟨fd_rest_from, F_rest_from⟩ := c.def_ 22 (d := d_rest_from) rfl
  obtain ⟨fd_rest_table, F_rest_table⟩ := c.def_ 23 (d := d_rest_table) rfl
  obtain ⟨fd_begins_of, F_begins_of⟩ := c.def_ 24 (d := d_begins_of) rfl
  obtain ⟨fd_least_of, F_least_of⟩ := c.def_ 25 (d := d_least_of) rfl
  obtain ⟨fd_first_moves, F_first_moves⟩ := c.def_ 26 (d := d_first_moves) rfl
  obtain ⟨fd_cheapest, F_cheapest⟩ := c.def_ 27 (d := d_cheapest) rfl
  obtain ⟨fd_count_of, F_count_of⟩ := c.def_ 28 (d := d_count_of) rfl
  obtain ⟨fd__law_next, F__law_next⟩ := c.def_ 29 (d := d__law_next) rfl
  obtain ⟨fd__law_great, F__law_great⟩ := c.def_ 30 (d := d__law_great) rfl
  obtain ⟨fd__law_signs, F__law_signs⟩ := c.def_ 31 (d := d__law_signs) rfl
  obtain ⟨fd__law_price, F__law_price⟩ := c.def_ 32 (d := d__law_price) rfl
  obtain ⟨fd__law_table, F__law_table⟩ := c.def_ 33 (d := d__law_table) rfl
  obtain ⟨fd__law_prices, F__law_prices⟩ := c.def_ 34 (d := d__law_prices) rfl
  obtain ⟨fd__law_row, F__law_row⟩ := c.def_ 35 (d := d__law_row) rfl
  obtain ⟨fd__law_manner, F__law_manner⟩ := c.def_ 36 (d := d__law_manner) rfl
  obtain ⟨fd__law_same, F__law_same⟩ := c.def_ 37 (d := d__law_same) rfl
  obtain ⟨fd__law_gap, F__law_gap⟩ := c.def_ 38 (d := d__law_gap) rfl
  obtain ⟨fd__law_walk, F__law_walk⟩ := c.def_ 39 (d := d__law_walk) rfl
  obtain ⟨fd__law_may_begin, F__law_may_begin⟩ := c.def_ 40 (d := d__law_may_begin) rfl
  obtain ⟨fd__law_may_end, F__law_may_end⟩ := c.def_ 41 (d := d__law_may_end) rfl
  obtain ⟨fd__law_key, F__law_key⟩ := c.def_ 42 (d := d__law_key) rfl
  obtain ⟨fd__law_ways, F__law_ways⟩ := c.def_ 43 (d := d__law_ways) rfl
  obtain ⟨fd__law_all, F__law_all⟩ := c.def_ 44 (d := d__law_all) rfl
  obtain ⟨fd_law, F_law⟩ := c.def_ 45 (d := d_law) rfl
  have e := hfa.symm.trans (He.glo_ok X G (c.fact 40 (f := .glo "law") rfl))
  cases e
  have b := FunD.bindsA (ps := ["_law_script"]) F_law fun _ _ _ _ _ _ us hl => match us, hl with | [_], _ => rfl
  have bl : BF mg := ⟨He.free_ok X G (c.fact 41 (f := .free "abs") rfl), He.free_ok X G (c.fact 42 (f := .free "all") rfl), He.free_ok X G (c.fact 43 (f := .free "bool") rfl), He.free_ok X G (c.fact 44 (f := .free "divmod") rfl), He.free_ok X G (c.fact 45 (f := .free "enumerate") rfl), He.free_ok X G (c.fact 46 (f := .free "int") rfl), He.free_ok X G (c.fact 47 (f := .free "isinstance") rfl), He.free_ok X G (c.fact 48 (f := .free "len") rfl), He.free_ok X G (c.fact 49 (f := .free "list") rfl), He.free_ok X G (c.fact 50 (f := .free "min") rfl), He.free_ok X G (c.fact 51 (f := .free "ord") rfl), He.free_ok X G (c.fact 52 (f := .free "range") rfl), He.free_ok X G (c.fact 53 (f := .free "reversed") rfl), He.free_ok X G (c.fact 54 (f := .free "str") rfl), He.free_ok X G (c.fact 55 (f := .free "sum") rfl), He.free_ok X G (c.fact 56 (f := .free "tuple") rfl), He.free_ok X G (c.fact 57 (f := .free "zip") rfl)⟩
  refine ⟨fd_law, fun s v => b s [v] rfl, fun base _ _ => ?_⟩
  have c_Prices : CF_Prices K (csK K 0) := ⟨He.cls_ok (c.fact 59 (f := .cls "Prices") rfl), He.noat_ok (c.fact 61 (f := .noat "Prices" "signs") rfl), He.noat_ok (c.fact 62 (f := .noat "Prices" "pairs") rfl), He.noat_ok (c.fact 63 (f := .noat "Prices" "opening") rfl), He.noat_ok (c.fact 64 (f := .noat "Prices" "more") rfl), He.noat_ok (c.fact 65 (f := .noat "Prices" "whole") rfl), He.noat_ok (c.fact 66 (f := .noat "Prices" "costs") rfl), He.noat_ok (c.fact 67 (f := .noat "Prices" "open_units") rfl), He.noat_ok (c.fact 68 (f := .noat "Prices" "more_units") rfl)⟩
  have c_Sheet : CF_Sheet K (csK K 1) := ⟨He.cls_ok (c.fact 70 (f := .cls "Sheet") rfl), He.noat_ok (c.fact 72 (f := .noat "Sheet" "first") rfl), He.noat_ok (c.fact 73 (f := .noat "Sheet" "second") rfl), He.noat_ok (c.fact 74 (f := .noat "Sheet" "high") rfl), He.noat_ok (c.fact 75 (f := .noat "Sheet" "wide") rfl), He.noat_ok (c.fact 76 (f := .noat "Sheet" "manner") rfl), He.noat_ok (c.fact 77 (f := .noat "Sheet" "opening") rfl), He.noat_ok (c.fact 78 (f := .noat "Sheet" "more") rfl), He.noat_ok (c.fact 79 (f := .noat "Sheet" "costs") rfl)⟩
  have ef : EFs K exs := efB_ok (cx.own 0 rfl)
  have xf : XF P w K mg base := ⟨ef, He.glo_ok X G (c.fact 83 (f := .glo "WeaveError") rfl), He.glo_ok X G (c.fact 84 (f := .glo "NoPrices") rfl), He.glo_ok X G (c.fact 85 (f := .glo "NoManner") rfl), He.glo_ok X G (c.fact 86 (f := .glo "NoSign") rfl), eown_ok X G (ef.ex 3 (by decide)) (c.fact 85 (f := .glo "NoManner") rfl) (c.fact 87 (f := .exc "NoManner") rfl), eown_ok X G (ef.ex 1 (by decide)) (c.fact 84 (f := .glo "NoPrices") rfl) (c.fact 88 (f := .exc "NoPrices") rfl), emk_ok X G (ef.ex 9 (by decide)) (c.fact 86 (f := .glo "NoSign") rfl) (cx.own 1 rfl) (fun T => ok_NoSign_init F_NoSign_init T (ef.no 9 (by decide) "row" (by decide)) (ef.no 9 (by decide) "place" (by decide))), gtup_ok (He.glo_ok X G (c.fact 89 (f := .glo "MANNERS") rfl)) (cx.own 2 rfl)⟩
  have A_greatest_part := ok_greatest_part (P := P) (w := w) (base := base) (cs := csK K) F_greatest_part (He.glo_ok X G (c.fact 0 (f := .glo "greatest_part") rfl)) bl xf  
  have A_lowest := ok_lowest (P := P) (w := w) (base := base) (cs := csK K) F_lowest (He.glo_ok X G (c.fact 1 (f := .glo "lowest") rfl)) bl xf A_greatest_part 
  have A_least_whole := ok_least_whole (P := P) (w := w) (base := base) (cs := csK K) F_least_whole (He.glo_ok X G (c.fact 2 (f := .glo "least_whole") rfl)) bl xf A_greatest_part 
  have A_is_sign := ok_is_sign (P := P) (w := w) (base := base) (cs := csK K) F_is_sign (He.glo_ok X G (c.fact 3 (f := .glo "is_sign") rfl)) bl xf  
  have A_signs_fit := ok_signs_fit (P := P) (w := w) (base := base) (cs := csK K) F_signs_fit (He.glo_ok X G (c.fact 4 (f := .glo "signs_fit") rfl)) bl xf A_is_sign 
  have A_price_kept := ok_price_kept (P := P) (w := w) (base := base) (cs := csK K) F_price_kept (He.glo_ok X G (c.fact 5 (f := .glo "price_kept") rfl)) bl xf A_lowest 
  have A_units_of := ok_units_of (P := P) (w := w) (base := base) (cs := csK K) F_units_of (He.glo_ok X G (c.fact 6 (f := .glo "units_of") rfl)) bl xf  
  have A_Prices_init := ok_Prices_init (P := P) (w := w) (base := base) (cs := csK K) F_Prices_init (He.glo_ok X G (c.fact 58 (f := .glo "Prices") rfl)) (He.mkr_ok (c.fact 60 (f := .mkr "Prices") rfl)) bl xf A_least_whole A_price_kept A_signs_fit A_units_of c_Prices
  have A_pair_cost := ok_pair_cost (P := P) (w := w) (base := base) (cs := csK K) F_pair_cost (He.glo_ok X G (c.fact 7 (f := .glo "pair_cost") rfl)) bl xf  c_Prices
  have A_opening_cost := ok_opening_cost (P := P) (w := w) (base := base) (cs := csK K) F_opening_cost (He.glo_ok X G (c.fact 8 (f := .glo "opening_cost") rfl)) bl xf  c_Prices
  have A_more_cost := ok_more_cost (P := P) (w := w) (base := base) (cs := csK K) F_more_cost (He.glo_ok X G (c.fact 9 (f := .glo "more_cost") rfl)) bl xf  c_Prices
  have A_in_units := ok_in_units (P := P) (w := w) (base := base) (cs := csK K) F_in_units (He.glo_ok X G (c.fact 10 (f := .glo "in_units") rfl)) bl xf A_lowest c_Prices
  have A_ask_signs := ok_ask_signs (P := P) (w := w) (base := base) (cs := csK K) F_ask_signs (He.glo_ok X G (c.fact 11 (f := .glo "ask_signs") rfl)) bl xf  c_Prices
  have A_ask_manner := ok_ask_manner (P := P) (w := w) (base := base) (cs := csK K) F_ask_manner (He.glo_ok X G (c.fact 12 (f := .glo "ask_manner") rfl)) bl xf  
  have A_may_begin := ok_may_begin (P := P) (w := w) (base := base) (cs := csK K) F_may_begin (He.glo_ok X G (c.fact 13 (f := .glo "may_begin") rfl)) bl xf  
  have A_may_end := ok_may_end (P := P) (w := w) (base := base) (cs := csK K) F_may_end (He.glo_ok X G (c.fact 14 (f := .glo "may_end") rfl)) bl xf  
  have A_Sheet_init := ok_Sheet_init (P := P) (w := w) (base := base) (cs := csK K) F_Sheet_init (He.glo_ok X G (c.fact 69 (f := .glo "Sheet") rfl)) (He.mkr_ok (c.fact 71 (f := .mkr "Sheet") rfl)) bl xf A_more_cost A_opening_cost A_pair_cost c_Sheet
  have A_Sheet_begins := ok_Sheet_begins (P := P) (w := w) (base := base) (cs := csK K) F_Sheet_begins (He.meth_ok (c.fact 80 (f := .meth "Sheet" "begins") rfl)) bl xf A_may_begin c_Sheet
  have A_Sheet_ends := ok_Sheet_ends (P := P) (w := w) (base := base) (cs := csK K) F_Sheet_ends (He.meth_ok (c.fact 81 (f := .meth "Sheet" "ends") rfl)) bl xf A_may_end c_Sheet
  have A_Sheet_gap := ok_Sheet_gap (P := P) (w := w) (base := base) (cs := csK K) F_Sheet_gap (He.meth_ok (c.fact 82 (f := .meth "Sheet" "gap") rfl)) bl xf  c_Sheet
  have A_sheet_of := ok_sheet_of (P := P) (w := w) (base := base) (cs := csK K) F_sheet_of (He.glo_ok X G (c.fact 15 (f := .glo "sheet_of") rfl)) bl xf A_Sheet_init A_ask_manner A_ask_signs 
  have A_steps_from := ok_steps_from (P := P) (w := w) (base := base) (cs := csK K) F_steps_from (He.glo_ok X G (c.fact 16 (f := .glo "steps_from") rfl)) bl xf A_Sheet_gap c_Sheet
  have A_rest_from := ok_rest_from (P := P) (w := w) (base := base) (cs := csK K) F_rest_from (He.glo_ok X G (c.fact 17 (f := .glo "rest_from") rfl)) bl xf A_Sheet_ends A_steps_from c_Sheet
  have A_rest_table := ok_rest_table (P := P) (w := w) (base := base) (cs := csK K) F_rest_table (He.glo_ok X G (c.fact 18 (f := .glo "rest_table") rfl)) bl xf A_rest_from c_Sheet
  have A_begins_of := ok_begins_of (P := P) (w := w) (base := base) (cs := csK K) F_begins_of (He.glo_ok X G (c.fact 19 (f := .glo "begins_of") rfl)) bl xf A_Sheet_begins c_Sheet
  have A_least_of := ok_least_of (P := P) (w := w) (base := base) (cs := csK K) F_least_of (He.glo_ok X G (c.fact 20 (f := .glo "least_of") rfl)) bl xf A_begins_of 
  have A_first_moves := ok_first_moves (P := P) (w := w) (base := base) (cs := csK K) F_first_moves (He.glo_ok X G (c.fact 21 (f := .glo "first_moves") rfl)) bl xf A_Sheet_ends A_steps_from c_Sheet
  have A_cheapest := ok_cheapest (P := P) (w := w) (base := base) (cs := csK K) F_cheapest (He.glo_ok X G (c.fact 22 (f := .glo "cheapest") rfl)) bl xf A_begins_of A_first_moves A_in_units A_least_of A_rest_table A_sheet_of 
  have A_count_of := ok_count_of (P := P) (w := w) (base := base) (cs := csK K) F_count_of (He.glo_ok X G (c.fact 23 (f := .glo "count_of") rfl)) bl xf A_begins_of A_least_of A_rest_table A_sheet_of 
  have A__law_next := ok__law_next (P := P) (w := w) (base := base) (cs := csK K) F__law_next (He.glo_ok X G (c.fact 24 (f := .glo "_law_next") rfl)) bl xf  
  have A__law_great := ok__law_great (P := P) (w := w) (base := base) (cs := csK K) F__law_great (He.glo_ok X G (c.fact 25 (f := .glo "_law_great") rfl)) bl xf A__law_next 
  have A__law_signs := ok__law_signs (P := P) (w := w) (base := base) (cs := csK K) F__law_signs (He.glo_ok X G (c.fact 26 (f := .glo "_law_signs") rfl)) bl xf A__law_next 
  have A__law_price := ok__law_price (P := P) (w := w) (base := base) (cs := csK K) F__law_price (He.glo_ok X G (c.fact 27 (f := .glo "_law_price") rfl)) bl xf A__law_great A__law_next 
  have A__law_table := ok__law_table (P := P) (w := w) (base := base) (cs := csK K) F__law_table (He.glo_ok X G (c.fact 28 (f := .glo "_law_table") rfl)) bl xf A__law_next A__law_price A__law_signs 
  have A__law_prices := ok__law_prices (P := P) (w := w) (base := base) (cs := csK K) F__law_prices (He.glo_ok X G (c.fact 29 (f := .glo "_law_prices") rfl)) bl xf A_Prices_init A__law_next A__law_table 
  have A__law_row := ok__law_row (P := P) (w := w) (base := base) (cs := csK K) F__law_row (He.glo_ok X G (c.fact 30 (f := .glo "_law_row") rfl)) bl xf A__law_next 
  have A__law_manner := ok__law_manner (P := P) (w := w) (base := base) (cs := csK K) F__law_manner (He.glo_ok X G (c.fact 31 (f := .glo "_law_manner") rfl)) bl xf  
  have A__law_same := ok__law_same (P := P) (w := w) (base := base) (cs := csK K) F__law_same (He.glo_ok X G (c.fact 32 (f := .glo "_law_same") rfl)) bl xf   3
  have A__law_gap := ok__law_gap (P := P) (w := w) (base := base) (cs := csK K) F__law_gap (He.glo_ok X G (c.fact 33 (f := .glo "_law_gap") rfl)) bl xf A_more_cost A_opening_cost 
  have A__law_walk := ok__law_walk (P := P) (w := w) (base := base) (cs := csK K) F__law_walk (He.glo_ok X G (c.fact 34 (f := .glo "_law_walk") rfl)) bl xf A__law_gap A_pair_cost 
  have A__law_may_begin := ok__law_may_begin (P := P) (w := w) (base := base) (cs := csK K) F__law_may_begin (He.glo_ok X G (c.fact 35 (f := .glo "_law_may_begin") rfl)) bl xf  
  have A__law_may_end := ok__law_may_end (P := P) (w := w) (base := base) (cs := csK K) F__law_may_end (He.glo_ok X G (c.fact 36 (f := .glo "_law_may_end") rfl)) bl xf  
  have A__law_key := ok__law_key (P := P) (w := w) (base := base) (cs := csK K) F__law_key (He.glo_ok X G (c.fact 37 (f := .glo "_law_key") rfl)) bl xf  
  have A__law_ways := ok__law_ways (P := P) (w := w) (base := base) (cs := csK K) F__law_ways (He.glo_ok X G (c.fact 38 (f := .glo "_law_ways") rfl)) bl xf   8
  have A__law_all := ok__law_all (P := P) (w := w) (base := base) (cs := csK K) F__law_all (He.glo_ok X G (c.fact 39 (f := .glo "_law_all") rfl)) bl xf A__law_may_begin A__law_may_end A__law_walk A__law_ways 
  exact fn_law (fk_law (P := P) (w := w) (base := base) (cs := csK K) F_law (He.glo_ok X G (c.fact 40 (f := .glo "law") rfl)) bl xf A__law_all A__law_key A__law_manner A__law_next A__law_prices A__law_row A__law_same A_cheapest A_count_of A_in_units c_Prices)
end K22
open PySem PySem.W PySem.Calls PyProof.Rows
theorem PySem.Challenge.cw_gapweave_k22_small_rows_listed_holds : PySem.Challenge.rw_gapweave_k22_small_rows_listed.Holds := by
  w_on; o_law
  refine HandSHeadRun.head_any (r := OpenLaw.row PySem.Challenge.rw_gapweave_k22_small_rows_listed) (q := view (OpenLaw.row PySem.Challenge.rw_gapweave_k22_small_rows_listed).prog [53]) (H := K22.hk) (ob := K22.ob) (M := 9000) (loose := ("__name__" :: "WeaveError" :: "NoPrices" :: "NoManner" :: "NoSign" :: "greatest_part" :: "lowest" :: "least_whole" :: "is_sign" :: "signs_fit" :: "price_kept" :: "Prices" :: "units_of" :: "pair_cost" :: "opening_cost" :: "more_cost" :: "in_units" :: "ask_signs" :: "MANNERS" :: "ask_manner" :: "may_begin" :: "may_end" :: "Sheet" :: "sheet_of" :: "steps_from" :: "rest_from" :: "rest_table" :: "begins_of" :: "least_of" :: "first_moves" :: "cheapest" :: "count_of" :: "_law_next" :: "_law_great" :: "_law_signs" :: "_law_price" :: "_law_table" :: "_law_prices" :: "_law_row" :: "_law_manner" :: "_law_same" :: "_law_gap" :: "_law_walk" :: "_law_may_begin" :: "_law_may_end" :: "_law_key" :: "_law_ways" :: "_law_all" :: [])) (d := HandSHeadRun.topDef (OpenLaw.row PySem.Challenge.rw_gapweave_k22_small_rows_listed).prog 53) (kwd := []) K22.ob_eq
    (by kernel_rfl) (fun s => by kernel_rfl) K22.run (by kernel_rfl) (by kernel_rfl) (by kernel_rfl) (by rfl) (by first | assumption | decide +kernel) (by decide +kernel) ⟨rfl, rfl, rfl, rfl, rfl, by decide +kernel⟩ ?hw ?hc
  case hw => w_witness2
  case hc =>
    refine L2.walk_ofE (l := PySem.Challenge.rw_gapweave_k22_small_rows_listed) (n := 63) (k := 11) (x := "_law_script") (CX := L2.CX0) rfl (by decide) (by kernel_rfl) ⟨rfl, by decide, by decide⟩ ?F (fun _ _ _ _ z => z)
    intro w mg fa h Y G hmg0
    obtain ⟨K, KX, c⟩ := Y
    have hmg : mg ("law" : PySem.Str) = some (.ref fa) := by
      have e : (HandSHeadRun.topDef (OpenLaw.row PySem.Challenge.rw_gapweave_k22_small_rows_listed).prog 53).name = ("law" : PySem.Str) := by kernel_rfl
      rw [← e]
      exact hmg0
    obtain ⟨fd, hb, hF⟩ := K22.facts (P := (PySem.Challenge.rw_gapweave_k22_small_rows_listed).prog) (w := w) KX G hmg c
    exact ⟨K, fd, fun vs H Q _ => GW.spM K none 1 0 (GW.pureF (K22.f_law (K22.csK K))) vs H Q (fun _ _ _ => False), KX, hb, fun H a ns hl _ hS => GW.law_call (K22.law_eval _ ns) hS, hF⟩
